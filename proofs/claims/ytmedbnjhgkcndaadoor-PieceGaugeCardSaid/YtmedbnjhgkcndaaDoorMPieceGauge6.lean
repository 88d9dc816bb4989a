/- Several texts in one: G9 KvAlive PlA PlB G77 G76 G78 G70 G58 G59 G47 G28 G31 -/
import Derived.WalkKit
import Derived.Maps.AppendAt
import Derived.Deep.AppendLies
import Derived.KernelRfl
import Derived.Laws.OwnMore
import Derived.Great.BuildSlice
import Derived.Orders
import Derived.Laws.StructEq
import Derived.ChangeKeysEq
import Derived.Defers
import Derived.Laws.BytesString
import Derived.RangeFuncNested
import Derived.RangeFuncBound
import Derived.RangeFuncCalls
import Derived.RangeFuncLeaves
import Derived.OrdersIn
import Derived.LoopNIn
import Derived.Test.YtmedbnjhgkcndaaDoorProg
import Derived.ProofKit
import Derived.OpenShut
import Derived.ChangeOld
import Derived.Deep.Slices
import Derived.Lib.SmallJoins
import Derived.JoinedOf
import Derived.JoinedAt
import Derived.Below
import Derived.Shelf.Strings.Builder1
import Derived.Shelf.Strings.Builder2
import Derived.Shelf.Strings.OnBuilder
import Derived.Test.YtmedbnjhgkcndaaDoorRows
import Derived.LaidMore
import Derived.SevenTiedAt
import Derived.Test.YtmedbnjhgkcndaaDoorCards
import Derived.Test.YtmedbnjhgkcndaaDoorTie
import Derived.Test.YtmedbnjhgkcndaaDoorMPieceGauge5
namespace Go.Proofs.YtmedbnjhgkcndaaDoor
open Go.RowKit
set_option linter.unusedVariables false

def anc_raddlelaw37_alive_0 : List (List Nat) := [[], [0], [0, 1], [0, 1, 2], [0, 1, 2], [0, 1, 2, 3, 4], [0, 1, 2, 3, 4, 5], [0, 1, 2, 3, 4, 5, 6], [0, 1, 2, 3, 4, 5, 6, 7], [0, 1, 2, 3, 4, 5, 6, 7, 8], [0, 1, 2, 3, 4, 5, 6, 7, 8, 9], [0, 1, 2, 3, 4, 5, 6, 7, 8, 9, 10], [0, 1, 2, 3, 4, 5, 6, 7, 8, 9, 10, 11], [0, 1, 2, 3, 4, 5, 6, 7, 8, 9, 10, 11, 12], [0, 1, 2, 3, 4, 5, 6, 7, 8, 9, 10, 11, 12, 13], [0, 1, 2, 3, 4, 5, 6, 7, 8, 9, 10, 11, 12, 13, 14], [0, 1, 2, 3, 4, 5, 6, 7, 8, 9, 10, 11, 12, 13, 14, 15], [0, 1, 2, 3, 4, 5, 6, 7, 8, 9, 10, 11, 12, 13, 14, 15, 16], [0, 1, 2, 3, 4, 5, 6, 7, 8, 9, 10, 11, 12, 13, 14, 15, 16, 17], [0, 1, 2, 3, 4, 5, 6, 7, 8, 9, 10, 11, 12, 13, 14, 15, 16, 17, 18], [0, 1, 2, 3, 4, 5, 6, 7, 8, 9, 10, 11, 12, 13, 14, 15, 16, 17, 18, 19], [0, 1, 2, 3, 4, 5, 6, 7, 8, 9, 10, 11, 12, 13, 14, 15, 16, 17, 18, 19, 20], [0, 1, 2, 3, 4, 5, 6, 7, 8, 9, 10, 11, 12, 13, 14, 15, 16, 17, 18, 19, 20, 21], [0, 1, 2, 3, 4, 5, 6, 7, 8, 9, 10, 11, 12, 13, 14, 15, 16, 17, 18, 19, 20, 21, 22], [0, 1, 2, 3, 4, 5, 6, 7, 8, 9, 10, 11, 12, 13, 14, 15, 16, 17, 18, 19, 20, 21, 22, 23], [0, 1, 2, 3, 4, 5, 6, 7, 8, 9, 10, 11, 12, 13, 14, 15, 16, 17, 18, 19, 20, 21, 22, 23, 24], [0, 1, 2, 3, 4, 5, 6, 7, 8, 9, 10, 11, 12, 13, 14, 15, 16, 17, 18, 19, 20, 21, 22, 23, 24, 25], [0, 1, 2, 3, 4, 5, 6, 7, 8, 9, 10, 11, 12, 13, 14, 15, 16, 17, 18, 19, 20, 21, 22, 23, 24, 25, 26], [0, 1, 2, 3, 4, 5, 6, 7, 8, 9, 10, 11, 12, 13, 14, 15, 16, 17, 18, 19, 20, 21, 22, 23, 24, 25, 26, 27], [0, 1, 2, 3, 4, 5, 6, 7, 8, 9, 10, 11, 12, 13, 14, 15, 16, 17, 18, 19, 20, 21, 22, 23, 24, 25, 26, 27], [0, 1, 2, 3, 4, 5, 6, 7, 8, 9, 10, 11, 12, 13, 14, 15, 16, 17, 18, 19, 20, 21, 22, 23, 24, 25, 26, 27, 28, 29], [0, 1, 2, 3, 4, 5, 6, 7, 8, 9, 10, 11, 12, 13, 14, 15, 16, 17, 18, 19, 20, 21, 22, 23, 24, 25, 26, 27, 28, 29, 30], [0, 1, 2, 3, 4, 5, 6, 7, 8, 9, 10, 11, 12, 13, 14, 15, 16, 17, 18, 19, 20, 21, 22, 23, 24, 25, 26, 27, 28, 29, 30, 31]]
noncomputable def raddlelaw37_alive_l1 (r38 : (api_Chart × Int)) : Int → Option (Int ⊕ (Bool ⊕ Unit)) := fun s0 => match s0 with
  | s95 =>
    if decide (s95 < 4) then
      Option.bind (idxO r38.1.Rows s95) fun x104 =>
      Option.bind (F_stitch_Text x104.Cells) fun r113 =>
      Option.bind (α := Bool) (
        if r113.2 != 0 then
          some true
        else
          Option.bind (idxO ([(⟨#[112, 108, 50, 32, 112, 56]⟩ : ByteArray), (⟨#[107, 102, 50, 32, 107, 55]⟩ : ByteArray), (⟨#[112, 108, 50, 32, 112, 54]⟩ : ByteArray), (⟨#[107, 102, 50, 32, 107, 53]⟩ : ByteArray)] : List ByteArray) s95) fun x119 =>
          if r113.1 != x119 then
            some true
          else
            Option.bind (remI s95 2) fun z127 =>
            some (x104.Back != (z127 == 0))) fun o115 =>
      if o115 then
        some (.inr (.inl false))
      else
        some (.inl (w64 (s95 + 1)))
    else
      some (.inr (.inr ()))
noncomputable def F_raddlelaw37_alive  : Option Bool :=
  Option.bind (F_raddlelaw37_given) fun r3 =>
  Option.bind (F_piece_Make r3) fun r14 =>
  Option.bind (F_raddlelaw37_made) fun r27 =>
  Option.bind (F_piece_Chart r27) fun r38 =>
  Option.bind (F_piece_Read r38.1 0) fun r47 =>
  if r14.2 != 0 then
    none
  else
    Option.bind (F_raddleref37_Same r14.1 r27) fun r73 =>
    if !r73 then
      none
    else
      if r38.2 != 0 then
        none
      else
        if r38.1.Start != 10 then
          none
        else
          if (r38.1.Rows.length : Int) != 4 then
            none
          else
            if r47.2 != 0 then
              none
            else
              Option.bind (F_raddleref37_Same r47.1 r14.1) fun r80 =>
              if !r80 then
                none
              else
                Option.bind (α := Unit ⊕ Bool) (
                  Option.bind (whileO (raddlelaw37_alive_l1 r38) 0) fun z0 => match z0 with
                    | .inl z =>
                      some (.inr z)
                    | .inr _ =>
                      some (.inl ())) fun z0 => match z0 with
                  | .inl _ =>
                    some true
                  | .inr z =>
                    some z
set_option maxHeartbeats 4000000 in
set_option maxRecDepth 100000 in
theorem c_raddlelaw37_alive (E : Nat → Prop) (w0 : World)  (r : Bool) (h : F_raddlelaw37_alive  = some r) (S : St0 E [] w0 w0 [] []) :
    Calls Tryd.prog 9 #[] w0 (Ret (X := Unit) E [] w0 (fun _ => .bool r) (fun _ => []) (fun _ => [])) := by
  unfold F_raddlelaw37_alive at h
  refine sEnter (args := []) 95 Tryd.func9 rfl rfl (by simp) S (fun a S => ?_)
  refine sSeq (fun K1 hK1 => ?_)
  refine sRegion ?_
  refine sMove (.bool false) S (wN rfl) (.inr rfl) rfl rfl (lb rfl) fun a S => ?_
  refine leafL (leafT (hK1 _ _ ?_))
  refine sSeq (fun K2 hK2 => ?_)
  refine sRegion ?_
  obtain ⟨r3, hx4, h⟩ := bindSome h
  have hv_r3 : r3 = (api_Shape.mk [(api_Point.mk 0 0), (api_Point.mk 2 4)] [(api_Point.mk 10 0), (api_Point.mk 8 4)]) := Option.some.inj (hx4.symm.trans (by exact kc_raddlelaw37_alive_0))
  refine sCall (X := Value) (f := 32) (vs := []) (val := c_raddlelaw37_given_val r3) (B' := fun _ => []) (D' := c_raddlelaw37_given_D r3) [] [] [] [] [] S (wN rfl) rfl callee32 rfl (by decide) rfl rfl (fun E1 w1 S1 => c_raddlelaw37_given E1 w1  r3 hx4 S1) rfl (lb rfl) fun u5 a w S => ?_
  obtain ⟨u6, u7, rfl, hu8, hu9⟩ := S.mem.know (i := 0) (e := fRep r_api_Shape (u5) r3) rfl
  have S := S.learn (fRep (rL r_api_Point) u6 r3.Left) hu8
  obtain ⟨ad10, cp11, _, rfl, _⟩ := hu8
  have S := S.learn (fRep (rL r_api_Point) u7 r3.Right) hu9
  obtain ⟨ad12, cp13, _, rfl, _⟩ := hu9
  obtain ⟨r14, hx15, h⟩ := bindSome h
  have hv_r14 : r14 = ((api_Piece.mk [0, 1, 1, 2, 2] [10, 10, 9, 9, 8]), 0) := Option.some.inj (hx15.symm.trans (by rw [hv_r3]; exact kc_raddlelaw37_alive_1))
  refine sCall (X := Value) (f := 12) (vs := [.agg #[.slice ad10 r3.Left.length cp11, .slice ad12 r3.Right.length cp13]]) (val := c_piece_Make_val r14) (B' := fun _ => []) (D' := c_piece_Make_D r14) [] [] [fRep r_api_Shape (.agg #[.slice ad10 r3.Left.length cp11, .slice ad12 r3.Right.length cp13]) r3] [] [2] S (wN rfl) rfl callee12 rfl (by decide) rfl rfl (fun E1 w1 S1 => c_piece_Make E1 w1 r3 (.agg #[.slice ad10 r3.Left.length cp11, .slice ad12 r3.Right.length cp13]) r14 hx15 S1) rfl (lb rfl) fun u16 a w S => ?_
  obtain ⟨u17, u18, rfl, hu19, hu20⟩ := S.mem.know (i := 0) (e := fRep r_api_Piece (u16) r14.1) rfl
  have S := S.learn (fRep (rL (rI .i64)) u17 r14.1.Left) hu19
  obtain ⟨ad21, cp22, _, rfl, _⟩ := hu19
  have S := S.learn (fRep (rL (rI .i64)) u18 r14.1.Right) hu20
  obtain ⟨ad23, cp24, _, rfl, _⟩ := hu20
  refine sMove (.tuple #[.agg #[.slice ad21 r14.1.Left.length cp22, .slice ad23 r14.1.Right.length cp24], iv r14.2]) S (wN rfl) (.inl rfl) rfl rfl (lb rfl) fun a S => ?_
  refine sExtract (vs := [.agg #[.slice ad21 r14.1.Left.length cp22, .slice ad23 r14.1.Right.length cp24], iv r14.2]) (.agg #[.slice ad21 r14.1.Left.length cp22, .slice ad23 r14.1.Right.length cp24]) S (wN rfl) rfl rfl rfl rfl (lb rfl) fun a S => ?_
  refine sExtract (vs := [.agg #[.slice ad21 r14.1.Left.length cp22, .slice ad23 r14.1.Right.length cp24], iv r14.2]) (iv r14.2) S (wN rfl) rfl rfl rfl rfl (lb rfl) fun a S => ?_
  refine sAlloc (.agg #[.slice none 0 0, .slice none 0 0]) S (wN rfl) rfl rfl [.slice none 0 0, .slice none 0 0] rfl rfl (lb rfl) fun a b25 w S => ?_
  refine sStore (p := b25) (off := 0) (T := 30) (vs := [.slice none 0 0, .slice none 0 0]) (v := .agg #[.slice ad21 r14.1.Left.length cp22, .slice ad23 r14.1.Right.length cp24]) 0 [.slice ad21 r14.1.Left.length cp22, .slice ad23 r14.1.Right.length cp24] S (wN rfl) rfl rfl rfl rfl rfl rfl rfl (by simp) rfl fun a w S => ?_
  refine sMove (iv r14.2) S (wN rfl) (.inr rfl) rfl rfl (lb rfl) fun a S => ?_
  refine leafL (leafT (hK2 _ _ ?_))
  refine sSeq (fun K26 hK26 => ?_)
  refine sRegion ?_
  obtain ⟨r27, hx28, h⟩ := bindSome h
  have hv_r27 : r27 = (api_Piece.mk [0, 1, 1, 2, 2] [10, 10, 9, 9, 8]) := Option.some.inj (hx28.symm.trans (by exact kc_raddlelaw37_alive_2))
  refine sCall (X := Value) (f := 29) (vs := []) (val := c_raddlelaw37_made_val r27) (B' := fun _ => []) (D' := c_raddlelaw37_made_D r27) [] [eBox b25 30 [.slice ad21 r14.1.Left.length cp22, .slice ad23 r14.1.Right.length cp24]] [] [0] [] S (wN rfl) rfl callee29 rfl (by decide) rfl rfl (fun E1 w1 S1 => c_raddlelaw37_made E1 w1  r27 hx28 S1) rfl (lb rfl) fun u29 a w S => ?_
  obtain ⟨u30, u31, rfl, hu32, hu33⟩ := S.mem.know (i := 0) (e := fRep r_api_Piece (u29) r27) rfl
  have S := S.learn (fRep (rL (rI .i64)) u30 r27.Left) hu32
  obtain ⟨ad34, cp35, _, rfl, _⟩ := hu32
  have S := S.learn (fRep (rL (rI .i64)) u31 r27.Right) hu33
  obtain ⟨ad36, cp37, _, rfl, _⟩ := hu33
  obtain ⟨r38, hx39, h⟩ := bindSome h
  have hv_r38 : r38 = ((api_Chart.mk 10 [(api_Row.mk true [(api_Stitch.mk 4 true 2 0), (api_Stitch.mk 1 true 0 0), (api_Stitch.mk 1 true 0 0), (api_Stitch.mk 1 true 0 0), (api_Stitch.mk 1 true 0 0), (api_Stitch.mk 1 true 0 0), (api_Stitch.mk 1 true 0 0), (api_Stitch.mk 1 true 0 0), (api_Stitch.mk 1 true 0 0)]), (api_Row.mk false [(api_Stitch.mk 3 false 2 0), (api_Stitch.mk 1 false 0 0), (api_Stitch.mk 1 false 0 0), (api_Stitch.mk 1 false 0 0), (api_Stitch.mk 1 false 0 0), (api_Stitch.mk 1 false 0 0), (api_Stitch.mk 1 false 0 0), (api_Stitch.mk 1 false 0 0)]), (api_Row.mk true [(api_Stitch.mk 4 true 2 0), (api_Stitch.mk 1 true 0 0), (api_Stitch.mk 1 true 0 0), (api_Stitch.mk 1 true 0 0), (api_Stitch.mk 1 true 0 0), (api_Stitch.mk 1 true 0 0), (api_Stitch.mk 1 true 0 0)]), (api_Row.mk false [(api_Stitch.mk 3 false 2 0), (api_Stitch.mk 1 false 0 0), (api_Stitch.mk 1 false 0 0), (api_Stitch.mk 1 false 0 0), (api_Stitch.mk 1 false 0 0), (api_Stitch.mk 1 false 0 0)])]), 0) := Option.some.inj (hx39.symm.trans (by rw [hv_r27]; exact kc_raddlelaw37_alive_3))
  refine sCall (X := Value) (f := 17) (vs := [.agg #[.slice ad34 r27.Left.length cp35, .slice ad36 r27.Right.length cp37]]) (val := c_piece_Chart_val r38) (B' := fun _ => []) (D' := c_piece_Chart_D r38) [] [eBox b25 30 [.slice ad21 r14.1.Left.length cp22, .slice ad23 r14.1.Right.length cp24]] [fRep r_api_Piece (.agg #[.slice ad34 r27.Left.length cp35, .slice ad36 r27.Right.length cp37]) r27] [0] [2] S (wN rfl) rfl callee17 rfl (by decide) rfl rfl (fun E1 w1 S1 => c_piece_Chart E1 w1 r27 (.agg #[.slice ad34 r27.Left.length cp35, .slice ad36 r27.Right.length cp37]) r38 hx39 S1) rfl (lb rfl) fun u40 a w S => ?_
  obtain ⟨u41, rfl, hu42⟩ := S.mem.know (i := 0) (e := fRep r_api_Chart (u40) r38.1) rfl
  have S := S.learn (fRep (rL r_api_Row) u41 r38.1.Rows) hu42
  obtain ⟨ad43, cp44, _, rfl, _⟩ := hu42
  refine sMove (.tuple #[.agg #[iv r38.1.Start, .slice ad43 r38.1.Rows.length cp44], iv r38.2]) S (wN rfl) (.inl rfl) rfl rfl (lb rfl) fun a S => ?_
  refine sExtract (vs := [.agg #[iv r38.1.Start, .slice ad43 r38.1.Rows.length cp44], iv r38.2]) (.agg #[iv r38.1.Start, .slice ad43 r38.1.Rows.length cp44]) S (wN rfl) rfl rfl rfl rfl (lb rfl) fun a S => ?_
  refine sExtract (vs := [.agg #[iv r38.1.Start, .slice ad43 r38.1.Rows.length cp44], iv r38.2]) (iv r38.2) S (wN rfl) rfl rfl rfl rfl (lb rfl) fun a S => ?_
  refine sAlloc (.agg #[iv 0, .slice none 0 0]) S (wN rfl) rfl rfl [iv 0, .slice none 0 0] rfl rfl (lb rfl) fun a b45 w S => ?_
  refine sStore (p := b45) (off := 0) (T := 40) (vs := [iv 0, .slice none 0 0]) (v := .agg #[iv r38.1.Start, .slice ad43 r38.1.Rows.length cp44]) 0 [iv r38.1.Start, .slice ad43 r38.1.Rows.length cp44] S (wN rfl) rfl rfl rfl rfl rfl rfl rfl (by simp) rfl fun a w S => ?_
  refine sMove (iv r38.2) S (wN rfl) (.inr rfl) rfl rfl (lb rfl) fun a S => ?_
  refine leafL (leafT (hK26 _ _ ?_))
  refine sSeq (fun K46 hK46 => ?_)
  refine sRegion ?_
  refine sLoadN (p := b45) (off := 0) (T := 40) (vs := [iv r38.1.Start, .slice ad43 r38.1.Rows.length cp44]) 0 [iv r38.1.Start, .slice ad43 r38.1.Rows.length cp44] S (wN rfl) rfl rfl rfl rfl rfl rfl rfl (lb rfl) fun a S => ?_
  obtain ⟨r47, hx48, h⟩ := bindSome h
  have hv_r47 : r47 = ((api_Piece.mk [0, 1, 1, 2, 2] [10, 10, 9, 9, 8]), 0) := Option.some.inj (hx48.symm.trans (by rw [hv_r38]; exact kc_raddlelaw37_alive_4))
  refine sCall (X := Value) (f := 18) (vs := [.agg #[iv r38.1.Start, .slice ad43 r38.1.Rows.length cp44], iv 0]) (val := c_piece_Read_val r47) (B' := fun _ => []) (D' := c_piece_Read_D r47) [] [eBox b45 40 [iv r38.1.Start, .slice ad43 r38.1.Rows.length cp44], eBox b25 30 [.slice ad21 r14.1.Left.length cp22, .slice ad23 r14.1.Right.length cp24]] [fRep r_api_Chart (.agg #[iv r38.1.Start, .slice ad43 r38.1.Rows.length cp44]) r38.1] [0, 1] [1] S (wN rfl) rfl callee18 rfl (by decide) rfl rfl (fun E1 w1 S1 => c_piece_Read E1 w1 r38.1 (.agg #[iv r38.1.Start, .slice ad43 r38.1.Rows.length cp44]) 0 r47 hx48 S1) rfl (lb rfl) fun u49 a w S => ?_
  obtain ⟨u50, u51, rfl, hu52, hu53⟩ := S.mem.know (i := 0) (e := fRep r_api_Piece (u49) r47.1) rfl
  have S := S.learn (fRep (rL (rI .i64)) u50 r47.1.Left) hu52
  obtain ⟨ad54, cp55, _, rfl, _⟩ := hu52
  have S := S.learn (fRep (rL (rI .i64)) u51 r47.1.Right) hu53
  obtain ⟨ad56, cp57, _, rfl, _⟩ := hu53
  refine sMove (.tuple #[.agg #[.slice ad54 r47.1.Left.length cp55, .slice ad56 r47.1.Right.length cp57], iv r47.2]) S (wN rfl) (.inl rfl) rfl rfl (lb rfl) fun a S => ?_
  refine sExtract (vs := [.agg #[.slice ad54 r47.1.Left.length cp55, .slice ad56 r47.1.Right.length cp57], iv r47.2]) (.agg #[.slice ad54 r47.1.Left.length cp55, .slice ad56 r47.1.Right.length cp57]) S (wN rfl) rfl rfl rfl rfl (lb rfl) fun a S => ?_
  refine sExtract (vs := [.agg #[.slice ad54 r47.1.Left.length cp55, .slice ad56 r47.1.Right.length cp57], iv r47.2]) (iv r47.2) S (wN rfl) rfl rfl rfl rfl (lb rfl) fun a S => ?_
  refine sAlloc (.agg #[.slice none 0 0, .slice none 0 0]) S (wN rfl) rfl rfl [.slice none 0 0, .slice none 0 0] rfl rfl (lb rfl) fun a b58 w S => ?_
  refine sStore (p := b58) (off := 0) (T := 30) (vs := [.slice none 0 0, .slice none 0 0]) (v := .agg #[.slice ad54 r47.1.Left.length cp55, .slice ad56 r47.1.Right.length cp57]) 0 [.slice ad54 r47.1.Left.length cp55, .slice ad56 r47.1.Right.length cp57] S (wN rfl) rfl rfl rfl rfl rfl rfl rfl (by simp) rfl fun a w S => ?_
  refine sMove (iv r47.2) S (wN rfl) (.inr rfl) rfl rfl (lb rfl) fun a S => ?_
  refine leafL (leafT (hK46 _ _ ?_))
  refine sSeq (fun K59 hK59 => ?_)
  refine sRegion ?_
  refine sBuild [(0, .string (⟨#[112, 108, 50, 32, 112, 56]⟩ : ByteArray)), (1, .string (⟨#[107, 102, 50, 32, 107, 55]⟩ : ByteArray)), (2, .string (⟨#[112, 108, 50, 32, 112, 54]⟩ : ByteArray)), (3, .string (⟨#[107, 102, 50, 32, 107, 53]⟩ : ByteArray))] [.string (⟨#[112, 108, 50, 32, 112, 56]⟩ : ByteArray), .string (⟨#[107, 102, 50, 32, 107, 55]⟩ : ByteArray), .string (⟨#[112, 108, 50, 32, 112, 54]⟩ : ByteArray), .string (⟨#[107, 102, 50, 32, 107, 53]⟩ : ByteArray)] S (wN rfl) rfl rfl rfl rfl (lb rfl) fun a S => ?_
  refine sAlloc (.agg #[.string (⟨#[]⟩ : ByteArray), .string (⟨#[]⟩ : ByteArray), .string (⟨#[]⟩ : ByteArray), .string (⟨#[]⟩ : ByteArray)]) S (wN rfl) rfl rfl [.string (⟨#[]⟩ : ByteArray), .string (⟨#[]⟩ : ByteArray), .string (⟨#[]⟩ : ByteArray), .string (⟨#[]⟩ : ByteArray)] rfl rfl (lb rfl) fun a b60 w S => ?_
  refine sStore (p := b60) (off := 0) (T := 73) (vs := [.string (⟨#[]⟩ : ByteArray), .string (⟨#[]⟩ : ByteArray), .string (⟨#[]⟩ : ByteArray), .string (⟨#[]⟩ : ByteArray)]) (v := .agg #[.string (⟨#[112, 108, 50, 32, 112, 56]⟩ : ByteArray), .string (⟨#[107, 102, 50, 32, 107, 55]⟩ : ByteArray), .string (⟨#[112, 108, 50, 32, 112, 54]⟩ : ByteArray), .string (⟨#[107, 102, 50, 32, 107, 53]⟩ : ByteArray)]) 0 [.string (⟨#[112, 108, 50, 32, 112, 56]⟩ : ByteArray), .string (⟨#[107, 102, 50, 32, 107, 55]⟩ : ByteArray), .string (⟨#[112, 108, 50, 32, 112, 54]⟩ : ByteArray), .string (⟨#[107, 102, 50, 32, 107, 53]⟩ : ByteArray)] S (wN rfl) rfl rfl rfl rfl rfl rfl rfl (by simp) rfl fun a w S => ?_
  refine leafL (leafT (hK59 _ _ ?_))
  refine sSeq (fun K61 hK61 => ?_)
  refine sSeq (fun K62 hK62 => ?_)
  rcases iteSome h with ⟨hc63, h⟩ | ⟨hc63, h⟩
  · exact absurd hc63 (by rw [hv_r14]; decide)
  obtain ⟨r73, hx74, h⟩ := bindSome h
  have hv_r73 : r73 = true := Option.some.inj (hx74.symm.trans (by rw [hv_r14, hv_r27]; exact kc_raddlelaw37_alive_5))
  rcases iteSome h with ⟨hc75, h⟩ | ⟨hc75, h⟩
  · exact absurd hc75 (by rw [hv_r73]; decide)
  rcases iteSome h with ⟨hc76, h⟩ | ⟨hc76, h⟩
  · exact absurd hc76 (by rw [hv_r38]; decide)
  rcases iteSome h with ⟨hc77, h⟩ | ⟨hc77, h⟩
  · exact absurd hc77 (by rw [hv_r38]; decide)
  rcases iteSome h with ⟨hc78, h⟩ | ⟨hc78, h⟩
  · exact absurd hc78 (by rw [hv_r38]; decide)
  rcases iteSome h with ⟨hc79, h⟩ | ⟨hc79, h⟩
  · exact absurd hc79 (by rw [hv_r47]; decide)
  obtain ⟨r80, hx81, h⟩ := bindSome h
  have hv_r80 : r80 = true := Option.some.inj (hx81.symm.trans (by rw [hv_r47, hv_r14]; exact kc_raddlelaw37_alive_6))
  refine sDraw (nf := [4]) (W := [(0, 27, iv r14.2), (1, 28, .bool (r14.2 != 0)), (2, 29, .bool (r14.2 != 0)), (3, 30, .agg #[.slice ad21 r14.1.Left.length cp22, .slice ad23 r14.1.Right.length cp24])]) rfl S ?_
  refine node_by (A := anc_raddlelaw37_alive_0) (nf := [4]) (Y := []) (W := [(0, 27, iv r14.2), (1, 28, .bool (r14.2 != 0)), (2, 29, .bool (r14.2 != 0)), (3, 30, .agg #[.slice ad21 r14.1.Left.length cp22, .slice ad23 r14.1.Right.length cp24])]) 33 (by kernel_rfl) (by kernel_rfl) (by kernel_rfl) (by kernel_rfl) (by kernel_rfl) [0, 1, 2, 3] (by kernel_rfl) (by decide) (by decide) (aF 0 32 (by decide) ?_ (aF 1 31 (by decide) ?_ (aF 2 30 (by decide) ?_ (aF 3 29 (by decide) ?_ (aN 4 28 (by decide) ?_ (aE 5 27 4 (by decide) (aE 6 26 4 (by decide) (aE 7 25 4 (by decide) (aE 8 24 4 (by decide) (aE 9 23 4 (by decide) (aE 10 22 4 (by decide) (aE 11 21 4 (by decide) (aE 12 20 4 (by decide) (aE 13 19 4 (by decide) (aE 14 18 4 (by decide) (aE 15 17 4 (by decide) (aE 16 16 4 (by decide) (aE 17 15 4 (by decide) (aE 18 14 4 (by decide) (aE 19 13 4 (by decide) (aE 20 12 4 (by decide) (aE 21 11 4 (by decide) (aE 22 10 4 (by decide) (aE 23 9 4 (by decide) (aE 24 8 4 (by decide) (aE 25 7 4 (by decide) (aE 26 6 4 (by decide) (aE 27 5 4 (by decide) (aE 28 4 4 (by decide) (aE 29 3 4 (by decide) (aE 30 2 4 (by decide) (aE 31 1 4 (by decide) (aE 32 0 4 (by decide) (trivial)))))))))))))))))))))))))))))))))) [] (fun q hq => by cases hq) (fun hY => absurd (hY 4 (by decide)) (by decide))
  · refine fI 27 (iv r14.2) [(2, iv r14.2)] 0 [none] rfl rfl rfl rfl rfl rfl fun G a w S => ?_
    refine sMove (iv r14.2) S (wN rfl) (.inl rfl) rfl rfl (lb rfl) fun a S => ?_
    exact leafL ⟨rfl, S⟩
  · refine fI 28 (.bool (r14.2 != 0)) [(27, iv r14.2)] 1 [some 0] rfl rfl rfl rfl rfl rfl fun G a w S => ?_
    refine sBin (.bool (r14.2 != 0)) S (wN rfl) rfl rfl rfl (bNe _ _ _ _ .i64 r14.2 0) rfl (lb rfl) fun a S => ?_
    exact leafL ⟨rfl, S⟩
  · refine fI 29 (.bool (r14.2 != 0)) [(28, .bool (r14.2 != 0))] 2 [some 1] rfl rfl rfl rfl rfl rfl fun G a w S => ?_
    refine sMove (.bool (r14.2 != 0)) S (wN rfl) (.inl rfl) rfl rfl (lb rfl) fun a S => ?_
    exact leafL ⟨rfl, S⟩
  · refine fI 30 (.agg #[.slice ad21 r14.1.Left.length cp22, .slice ad23 r14.1.Right.length cp24]) [(1, .pointer (some ⟨b25, 0, none⟩)), (29, .bool (r14.2 != 0))] 3 [none, some 2] rfl rfl rfl rfl rfl rfl fun G a w S => ?_
    refine sLoadN (p := b25) (off := 0) (T := 30) (vs := [.slice ad21 r14.1.Left.length cp22, .slice ad23 r14.1.Right.length cp24]) 3 [.slice ad21 r14.1.Left.length cp22, .slice ad23 r14.1.Right.length cp24] S (wG 2 false 29 rfl rfl rfl hc63) rfl rfl rfl rfl rfl rfl rfl (lb rfl) fun a S => ?_
    exact leafL ⟨rfl, S⟩
  refine ⟨_, [(29, .bool (r14.2 != 0))], rfl, (srcs_of [some 2] rfl rfl rfl), fun G a w S => ?_⟩
  refine sCall (X := Value) (f := 29) (vs := []) (val := c_raddlelaw37_made_val r27) (B' := fun _ => []) (D' := c_raddlelaw37_made_D r27) [] [eBox b60 73 [.string (⟨#[112, 108, 50, 32, 112, 56]⟩ : ByteArray), .string (⟨#[107, 102, 50, 32, 107, 55]⟩ : ByteArray), .string (⟨#[112, 108, 50, 32, 112, 54]⟩ : ByteArray), .string (⟨#[107, 102, 50, 32, 107, 53]⟩ : ByteArray)], eBox b58 30 [.slice ad54 r47.1.Left.length cp55, .slice ad56 r47.1.Right.length cp57], eBox b45 40 [iv r38.1.Start, .slice ad43 r38.1.Rows.length cp44], eBox b25 30 [.slice ad21 r14.1.Left.length cp22, .slice ad23 r14.1.Right.length cp24]] [] [0, 1, 2, 3] [] S (wG 2 false 29 rfl rfl rfl hc63) rfl callee29 rfl (by decide) rfl rfl (fun E1 w1 S1 => c_raddlelaw37_made E1 w1  r27 hx28 S1) rfl (lb rfl) fun u82 a w S => ?_
  obtain ⟨u83, u84, rfl, hu85, hu86⟩ := S.mem.know (i := 0) (e := fRep r_api_Piece (u82) r27) rfl
  have S := S.learn (fRep (rL (rI .i64)) u83 r27.Left) hu85
  obtain ⟨ad87, cp88, _, rfl, _⟩ := hu85
  have S := S.learn (fRep (rL (rI .i64)) u84 r27.Right) hu86
  obtain ⟨ad89, cp90, _, rfl, _⟩ := hu86
  refine leafL ⟨rfl, _, _, .inl ⟨31, (.agg #[.slice ad87 r27.Left.length cp88, .slice ad89 r27.Right.length cp90]), [(5, 32, .bool r73), (6, 33, .bool (!r73)), (7, 34, .bool (!r73)), (8, 35, .bool (!r73)), (9, 36, iv r38.2), (10, 37, .bool (r38.2 != 0)), (11, 38, .bool (r38.2 != 0)), (12, 39, .bool (r38.2 != 0)), (13, 40, .pointer (some ⟨b45, 0, none⟩)), (14, 41, iv r38.1.Start), (15, 42, .bool (r38.1.Start != 10)), (16, 43, .bool (r38.1.Start != 10)), (17, 44, .bool (r38.1.Start != 10)), (18, 45, .pointer (some ⟨b45, 1, none⟩)), (19, 46, .slice ad43 r38.1.Rows.length cp44), (20, 47, iv (r38.1.Rows.length : Int)), (21, 48, .bool ((r38.1.Rows.length : Int) != 4)), (22, 49, .bool ((r38.1.Rows.length : Int) != 4)), (23, 50, .bool ((r38.1.Rows.length : Int) != 4)), (24, 51, iv r47.2), (25, 52, .bool (r47.2 != 0)), (26, 53, .bool (r47.2 != 0)), (27, 54, .bool (r47.2 != 0)), (28, 55, .agg #[.slice ad54 r47.1.Left.length cp55, .slice ad56 r47.1.Right.length cp57]), (29, 56, .agg #[.slice ad21 r14.1.Left.length cp22, .slice ad23 r14.1.Right.length cp24]), (30, 57, .bool r80), (31, 58, .bool (!r80)), (32, 59, .bool (!r80))], rfl, S, hz_of rfl, ?_⟩⟩
  refine node_by (A := anc_raddlelaw37_alive_0) (nf := [4]) (Y := [4]) 33 (by kernel_rfl) (by kernel_rfl) (by kernel_rfl) (by kernel_rfl) (by kernel_rfl) [5, 6, 7, 8, 9, 10, 11, 12, 13, 14, 15, 16, 17, 18, 19, 20, 21, 22, 23, 24, 25, 26, 27, 28, 29, 30, 31, 32, 4, 0, 1, 2, 3] (by kernel_rfl) (by decide) (by decide) (aD 0 32 4 (by decide) (aD 1 31 4 (by decide) (aD 2 30 4 (by decide) (aF 3 29 (by decide) ?_ (aY 4 28 (by decide) (aF 5 27 (by decide) ?_ (aF 6 26 (by decide) ?_ (aF 7 25 (by decide) ?_ (aF 8 24 (by decide) ?_ (aF 9 23 (by decide) ?_ (aF 10 22 (by decide) ?_ (aF 11 21 (by decide) ?_ (aF 12 20 (by decide) ?_ (aF 13 19 (by decide) ?_ (aF 14 18 (by decide) ?_ (aF 15 17 (by decide) ?_ (aF 16 16 (by decide) ?_ (aF 17 15 (by decide) ?_ (aF 18 14 (by decide) ?_ (aF 19 13 (by decide) ?_ (aF 20 12 (by decide) ?_ (aF 21 11 (by decide) ?_ (aF 22 10 (by decide) ?_ (aF 23 9 (by decide) ?_ (aF 24 8 (by decide) ?_ (aF 25 7 (by decide) ?_ (aF 26 6 (by decide) ?_ (aF 27 5 (by decide) ?_ (aF 28 4 (by decide) ?_ (aF 29 3 (by decide) ?_ (aF 30 2 (by decide) ?_ (aF 31 1 (by decide) ?_ (aF 32 0 (by decide) ?_ (trivial)))))))))))))))))))))))))))))))))) [(3, .pointer (some ⟨b45, 0, none⟩)), (7, .pointer (some ⟨b60, 0, none⟩)), (59, .bool (!r80))] (fin_of [none, none, some 27] rfl (by kernel_rfl) (by kernel_rfl)) (fun _ a w S => ?_)
  · refine fI 30 (.agg #[.slice ad21 r14.1.Left.length cp22, .slice ad23 r14.1.Right.length cp24]) [(1, .pointer (some ⟨b25, 0, none⟩)), (29, .bool (r14.2 != 0))] 32 [none, some 31] rfl rfl rfl rfl rfl rfl fun G a w S => ?_
    refine sLoadN (p := b25) (off := 0) (T := 30) (vs := [.slice ad21 r14.1.Left.length cp22, .slice ad23 r14.1.Right.length cp24]) 3 [.slice ad21 r14.1.Left.length cp22, .slice ad23 r14.1.Right.length cp24] S (wG 2 false 29 rfl rfl rfl hc63) rfl rfl rfl rfl rfl rfl rfl (lb rfl) fun a S => ?_
    exact leafL ⟨rfl, S⟩
  · refine fI 32 (.bool r73) [(30, .agg #[.slice ad21 r14.1.Left.length cp22, .slice ad23 r14.1.Right.length cp24]), (31, .agg #[.slice ad87 r27.Left.length cp88, .slice ad89 r27.Right.length cp90]), (29, .bool (r14.2 != 0))] 0 [some 32, some 28, some 31] rfl rfl rfl rfl rfl rfl fun G a w S => ?_
    have S1 := S.mem
    refine sCallQ (X := Unit) (f := 19) (vs := [.agg #[.slice ad21 r14.1.Left.length cp22, .slice ad23 r14.1.Right.length cp24], .agg #[.slice ad87 r27.Left.length cp88, .slice ad89 r27.Right.length cp90]]) (val := fun _ => .bool r73) S (wG 2 false 29 rfl rfl rfl hc63) rfl callee19 rfl (S1.quiet [13, 2] rfl) (fun E1 w1 S1 => c_raddleref37_Same E1 w1 r14.1 (.agg #[.slice ad21 r14.1.Left.length cp22, .slice ad23 r14.1.Right.length cp24]) r27 (.agg #[.slice ad87 r27.Left.length cp88, .slice ad89 r27.Right.length cp90]) r73 hx74 S1) rfl (lb rfl) fun _ a w S => ?_
    exact leafL ⟨rfl, S⟩
  · refine fI 33 (.bool (!r73)) [(32, .bool r73), (29, .bool (r14.2 != 0))] 1 [some 0, some 31] rfl rfl rfl rfl rfl rfl fun G a w S => ?_
    refine sNot (b := r73) S (wG 2 false 29 rfl rfl rfl hc63) rfl rfl rfl (lb rfl) fun a S => ?_
    exact leafL ⟨rfl, S⟩
  · refine fI 34 (.bool (!r73)) [(29, .bool (r14.2 != 0)), (33, .bool (!r73))] 2 [some 31, some 1] rfl rfl rfl rfl rfl rfl fun G a w S => ?_
    refine sPickF (.bool (!r73)) S (wN rfl) rfl rfl hc63 rfl rfl (lb rfl) fun a S => ?_
    exact leafL ⟨rfl, S⟩
  · refine fI 35 (.bool (!r73)) [(34, .bool (!r73))] 3 [some 2] rfl rfl rfl rfl rfl rfl fun G a w S => ?_
    refine sMove (.bool (!r73)) S (wN rfl) (.inl rfl) rfl rfl (lb rfl) fun a S => ?_
    exact leafL ⟨rfl, S⟩
  · refine fI 36 (iv r38.2) [(4, iv r38.2), (35, .bool (!r73))] 4 [none, some 3] rfl rfl rfl rfl rfl rfl fun G a w S => ?_
    refine sMove (iv r38.2) S (wG 8 false 35 rfl rfl rfl hc75) (.inl rfl) rfl rfl (lb rfl) fun a S => ?_
    exact leafL ⟨rfl, S⟩
  · refine fI 37 (.bool (r38.2 != 0)) [(36, iv r38.2), (35, .bool (!r73))] 5 [some 4, some 3] rfl rfl rfl rfl rfl rfl fun G a w S => ?_
    refine sBin (.bool (r38.2 != 0)) S (wG 8 false 35 rfl rfl rfl hc75) rfl rfl rfl (bNe _ _ _ _ .i64 r38.2 0) rfl (lb rfl) fun a S => ?_
    exact leafL ⟨rfl, S⟩
  · refine fI 38 (.bool (r38.2 != 0)) [(35, .bool (!r73)), (37, .bool (r38.2 != 0))] 6 [some 3, some 5] rfl rfl rfl rfl rfl rfl fun G a w S => ?_
    refine sPickF (.bool (r38.2 != 0)) S (wN rfl) rfl rfl hc75 rfl rfl (lb rfl) fun a S => ?_
    exact leafL ⟨rfl, S⟩
  · refine fI 39 (.bool (r38.2 != 0)) [(38, .bool (r38.2 != 0))] 7 [some 6] rfl rfl rfl rfl rfl rfl fun G a w S => ?_
    refine sMove (.bool (r38.2 != 0)) S (wN rfl) (.inl rfl) rfl rfl (lb rfl) fun a S => ?_
    exact leafL ⟨rfl, S⟩
  · refine fI 40 (.pointer (some ⟨b45, 0, none⟩)) [(3, .pointer (some ⟨b45, 0, none⟩)), (39, .bool (r38.2 != 0))] 8 [none, some 7] rfl rfl rfl rfl rfl rfl fun G a w S => ?_
    refine sField (b := b45) (off := 0) 0 0 S (wG 12 false 39 rfl rfl rfl hc76) rfl rfl rfl rfl rfl (lb rfl) fun a S => ?_
    exact leafL ⟨rfl, S⟩
  · refine fI 41 (iv r38.1.Start) [(40, .pointer (some ⟨b45, 0, none⟩)), (39, .bool (r38.2 != 0))] 9 [some 8, some 7] rfl rfl rfl rfl rfl rfl fun G a w S => ?_
    refine sLoad1 (p := b45) (off := 0) (T := 40) (vs := [iv r38.1.Start, .slice ad43 r38.1.Rows.length cp44]) 2 (iv r38.1.Start) S (wG 12 false 39 rfl rfl rfl hc76) rfl rfl rfl rfl rfl rfl (lb rfl) fun a S => ?_
    exact leafL ⟨rfl, S⟩
  · refine fI 42 (.bool (r38.1.Start != 10)) [(41, iv r38.1.Start), (39, .bool (r38.2 != 0))] 10 [some 9, some 7] rfl rfl rfl rfl rfl rfl fun G a w S => ?_
    refine sBin (.bool (r38.1.Start != 10)) S (wG 12 false 39 rfl rfl rfl hc76) rfl rfl rfl (bNe _ _ _ _ .i64 r38.1.Start 10) rfl (lb rfl) fun a S => ?_
    exact leafL ⟨rfl, S⟩
  · refine fI 43 (.bool (r38.1.Start != 10)) [(39, .bool (r38.2 != 0)), (42, .bool (r38.1.Start != 10))] 11 [some 7, some 10] rfl rfl rfl rfl rfl rfl fun G a w S => ?_
    refine sPickF (.bool (r38.1.Start != 10)) S (wN rfl) rfl rfl hc76 rfl rfl (lb rfl) fun a S => ?_
    exact leafL ⟨rfl, S⟩
  · refine fI 44 (.bool (r38.1.Start != 10)) [(43, .bool (r38.1.Start != 10))] 12 [some 11] rfl rfl rfl rfl rfl rfl fun G a w S => ?_
    refine sMove (.bool (r38.1.Start != 10)) S (wN rfl) (.inl rfl) rfl rfl (lb rfl) fun a S => ?_
    exact leafL ⟨rfl, S⟩
  · refine fI 45 (.pointer (some ⟨b45, 1, none⟩)) [(3, .pointer (some ⟨b45, 0, none⟩)), (44, .bool (r38.1.Start != 10))] 13 [none, some 12] rfl rfl rfl rfl rfl rfl fun G a w S => ?_
    refine sField (b := b45) (off := 0) 1 1 S (wG 17 false 44 rfl rfl rfl hc77) rfl rfl rfl rfl rfl (lb rfl) fun a S => ?_
    exact leafL ⟨rfl, S⟩
  · refine fI 46 (.slice ad43 r38.1.Rows.length cp44) [(45, .pointer (some ⟨b45, 1, none⟩)), (44, .bool (r38.1.Start != 10))] 14 [some 13, some 12] rfl rfl rfl rfl rfl rfl fun G a w S => ?_
    refine sLoad1 (p := b45) (off := 1) (T := 40) (vs := [iv r38.1.Start, .slice ad43 r38.1.Rows.length cp44]) 2 (.slice ad43 r38.1.Rows.length cp44) S (wG 17 false 44 rfl rfl rfl hc77) rfl rfl rfl rfl rfl rfl (lb rfl) fun a S => ?_
    exact leafL ⟨rfl, S⟩
  · refine fI 47 (iv (r38.1.Rows.length : Int)) [(46, .slice ad43 r38.1.Rows.length cp44), (44, .bool (r38.1.Start != 10))] 15 [some 14, some 12] rfl rfl rfl rfl rfl rfl fun G a w S => ?_
    refine sLen (ad := ad43) (m := r38.1.Rows.length) (c := cp44) S (wG 17 false 44 rfl rfl rfl hc77) rfl Tryd.underlying38 rfl rfl (lb rfl) fun a S => ?_
    exact leafL ⟨rfl, S⟩
  · refine fI 48 (.bool ((r38.1.Rows.length : Int) != 4)) [(47, iv (r38.1.Rows.length : Int)), (44, .bool (r38.1.Start != 10))] 16 [some 15, some 12] rfl rfl rfl rfl rfl rfl fun G a w S => ?_
    refine sBin (.bool ((r38.1.Rows.length : Int) != 4)) S (wG 17 false 44 rfl rfl rfl hc77) rfl rfl rfl (bNe _ _ _ _ .i64 (r38.1.Rows.length : Int) 4) rfl (lb rfl) fun a S => ?_
    exact leafL ⟨rfl, S⟩
  · refine fI 49 (.bool ((r38.1.Rows.length : Int) != 4)) [(44, .bool (r38.1.Start != 10)), (48, .bool ((r38.1.Rows.length : Int) != 4))] 17 [some 12, some 16] rfl rfl rfl rfl rfl rfl fun G a w S => ?_
    refine sPickF (.bool ((r38.1.Rows.length : Int) != 4)) S (wN rfl) rfl rfl hc77 rfl rfl (lb rfl) fun a S => ?_
    exact leafL ⟨rfl, S⟩
  · refine fI 50 (.bool ((r38.1.Rows.length : Int) != 4)) [(49, .bool ((r38.1.Rows.length : Int) != 4))] 18 [some 17] rfl rfl rfl rfl rfl rfl fun G a w S => ?_
    refine sMove (.bool ((r38.1.Rows.length : Int) != 4)) S (wN rfl) (.inl rfl) rfl rfl (lb rfl) fun a S => ?_
    exact leafL ⟨rfl, S⟩
  · refine fI 51 (iv r47.2) [(6, iv r47.2), (50, .bool ((r38.1.Rows.length : Int) != 4))] 19 [none, some 18] rfl rfl rfl rfl rfl rfl fun G a w S => ?_
    refine sMove (iv r47.2) S (wG 23 false 50 rfl rfl rfl hc78) (.inl rfl) rfl rfl (lb rfl) fun a S => ?_
    exact leafL ⟨rfl, S⟩
  · refine fI 52 (.bool (r47.2 != 0)) [(51, iv r47.2), (50, .bool ((r38.1.Rows.length : Int) != 4))] 20 [some 19, some 18] rfl rfl rfl rfl rfl rfl fun G a w S => ?_
    refine sBin (.bool (r47.2 != 0)) S (wG 23 false 50 rfl rfl rfl hc78) rfl rfl rfl (bNe _ _ _ _ .i64 r47.2 0) rfl (lb rfl) fun a S => ?_
    exact leafL ⟨rfl, S⟩
  · refine fI 53 (.bool (r47.2 != 0)) [(50, .bool ((r38.1.Rows.length : Int) != 4)), (52, .bool (r47.2 != 0))] 21 [some 18, some 20] rfl rfl rfl rfl rfl rfl fun G a w S => ?_
    refine sPickF (.bool (r47.2 != 0)) S (wN rfl) rfl rfl hc78 rfl rfl (lb rfl) fun a S => ?_
    exact leafL ⟨rfl, S⟩
  · refine fI 54 (.bool (r47.2 != 0)) [(53, .bool (r47.2 != 0))] 22 [some 21] rfl rfl rfl rfl rfl rfl fun G a w S => ?_
    refine sMove (.bool (r47.2 != 0)) S (wN rfl) (.inl rfl) rfl rfl (lb rfl) fun a S => ?_
    exact leafL ⟨rfl, S⟩
  · refine fI 55 (.agg #[.slice ad54 r47.1.Left.length cp55, .slice ad56 r47.1.Right.length cp57]) [(5, .pointer (some ⟨b58, 0, none⟩)), (54, .bool (r47.2 != 0))] 23 [none, some 22] rfl rfl rfl rfl rfl rfl fun G a w S => ?_
    refine sLoadN (p := b58) (off := 0) (T := 30) (vs := [.slice ad54 r47.1.Left.length cp55, .slice ad56 r47.1.Right.length cp57]) 1 [.slice ad54 r47.1.Left.length cp55, .slice ad56 r47.1.Right.length cp57] S (wG 27 false 54 rfl rfl rfl hc79) rfl rfl rfl rfl rfl rfl rfl (lb rfl) fun a S => ?_
    exact leafL ⟨rfl, S⟩
  · refine fI 56 (.agg #[.slice ad21 r14.1.Left.length cp22, .slice ad23 r14.1.Right.length cp24]) [(1, .pointer (some ⟨b25, 0, none⟩)), (54, .bool (r47.2 != 0))] 24 [none, some 22] rfl rfl rfl rfl rfl rfl fun G a w S => ?_
    refine sLoadN (p := b25) (off := 0) (T := 30) (vs := [.slice ad21 r14.1.Left.length cp22, .slice ad23 r14.1.Right.length cp24]) 3 [.slice ad21 r14.1.Left.length cp22, .slice ad23 r14.1.Right.length cp24] S (wG 27 false 54 rfl rfl rfl hc79) rfl rfl rfl rfl rfl rfl rfl (lb rfl) fun a S => ?_
    exact leafL ⟨rfl, S⟩
  · refine fI 57 (.bool r80) [(55, .agg #[.slice ad54 r47.1.Left.length cp55, .slice ad56 r47.1.Right.length cp57]), (56, .agg #[.slice ad21 r14.1.Left.length cp22, .slice ad23 r14.1.Right.length cp24]), (54, .bool (r47.2 != 0))] 25 [some 23, some 24, some 22] rfl rfl rfl rfl rfl rfl fun G a w S => ?_
    have S1 := S.mem
    refine sCallQ (X := Unit) (f := 19) (vs := [.agg #[.slice ad54 r47.1.Left.length cp55, .slice ad56 r47.1.Right.length cp57], .agg #[.slice ad21 r14.1.Left.length cp22, .slice ad23 r14.1.Right.length cp24]]) (val := fun _ => .bool r80) S (wG 27 false 54 rfl rfl rfl hc79) rfl callee19 rfl (S1.quiet [5, 13] rfl) (fun E1 w1 S1 => c_raddleref37_Same E1 w1 r47.1 (.agg #[.slice ad54 r47.1.Left.length cp55, .slice ad56 r47.1.Right.length cp57]) r14.1 (.agg #[.slice ad21 r14.1.Left.length cp22, .slice ad23 r14.1.Right.length cp24]) r80 hx81 S1) rfl (lb rfl) fun _ a w S => ?_
    exact leafL ⟨rfl, S⟩
  · refine fI 58 (.bool (!r80)) [(57, .bool r80), (54, .bool (r47.2 != 0))] 26 [some 25, some 22] rfl rfl rfl rfl rfl rfl fun G a w S => ?_
    refine sNot (b := r80) S (wG 27 false 54 rfl rfl rfl hc79) rfl rfl rfl (lb rfl) fun a S => ?_
    exact leafL ⟨rfl, S⟩
  · refine fI 59 (.bool (!r80)) [(54, .bool (r47.2 != 0)), (58, .bool (!r80))] 27 [some 22, some 26] rfl rfl rfl rfl rfl rfl fun G a w S => ?_
    refine sPickF (.bool (!r80)) S (wN rfl) rfl rfl hc79 rfl rfl (lb rfl) fun a S => ?_
    exact leafL ⟨rfl, S⟩
  refine leafT (hK62 _ _ ?_)
  rcases iteSome h with ⟨hc91, h⟩ | ⟨hc91, h⟩
  · exact absurd hc91 (by rw [hv_r80]; decide)
  refine sCondF S rfl hc91 ?_
  refine wp_skip (leafT (hK61 _ _ ?_))
  obtain ⟨t92, h, g93⟩ := bindSome h
  refine sCut (fun a w => .inl () = t92 ∧ St [] E [] w0 95 a w [] [] []) ?_ (fun a w hI => ?_)
  rotate_left
  · obtain ⟨rfl, S⟩ := hI
    have h := g93
    clear g93
    try dsimp only at h
    refine sSeq (fun K131 hK131 => ?_)
    refine sRegion ?_
    refine sMove (.bool true) S (wN rfl) (.inr rfl) rfl rfl (lb rfl) fun a S => ?_
    refine leafL (leafT (hK131 _ _ ?_))
    obtain rfl := Option.some.inj h
    exact wp_ret (sRet (.bool true) S (rsl1 rfl (rvT (t := 0) (v := .bool true) S rfl)) ⟨(), rfl, S.mem.sel [] [] (by decide) rfl rfl⟩)
  refine sSeq (fun K94 hK94 => ?_)
  refine sRegion ?_
  refine sMove (iv 0) S (wN rfl) (.inr rfl) rfl rfl (lb rfl) fun a S => ?_
  refine leafL (leafT (hK94 _ _ ?_))
  refine wp_block ?_
  obtain ⟨t98, hl, g97⟩ := bindSome h
  refine sLoop hl (fun s0 a w => match s0 with | s95 => St [] E [] w0 95 a w [(3, .pointer (some ⟨b45, 0, none⟩)), (7, .pointer (some ⟨b60, 0, none⟩)), (8, iv s95)] [eBox b45 40 [iv r38.1.Start, .slice ad43 r38.1.Rows.length cp44], eBox b60 73 [.string (⟨#[112, 108, 50, 32, 112, 56]⟩ : ByteArray), .string (⟨#[107, 102, 50, 32, 107, 55]⟩ : ByteArray), .string (⟨#[112, 108, 50, 32, 112, 54]⟩ : ByteArray), .string (⟨#[107, 102, 50, 32, 107, 53]⟩ : ByteArray)]] [fRep (rL r_api_Row) (.slice ad43 r38.1.Rows.length cp44) r38.1.Rows]) (S.fix [2, 0] [6] (by decide) rfl rfl rfl) ?_
  clear hl h
  intro s95 a w c0 hI h hu96
  unfold raddlelaw37_alive_l1 at h
  dsimp only at h hI
  have S := hI
  refine sSeq (fun K99 hK99 => ?_)
  refine sSeq (fun K100 hK100 => ?_)
  refine sRegion ?_
  refine sMove (iv s95) S (wN rfl) (.inl rfl) rfl rfl (lb rfl) fun a S => ?_
  refine sBin (.bool (decide (s95 < 4))) S (wN rfl) rfl rfl rfl (bLt _ _ _ _ .i64 s95 4) rfl (lb rfl) fun a S => ?_
  refine leafL (leafT (hK100 _ _ ?_))
  rcases iteSome h with ⟨hc101, h⟩ | ⟨hc101, h⟩
  rotate_left
  · refine sCondF S rfl hc101 ?_
    obtain rfl := Option.some.inj h
    obtain rfl := hu96 _ rfl
    have h := g97
    clear g97
    try dsimp only at h
    exact wp_exit (xThen (xThen (xHit (leafT (⟨Option.some.inj h, S.fix [] [] (by decide) rfl rfl rfl⟩)))))
  refine sCondT S rfl hc101 ?_
  refine wp_skip (leafT (hK99 _ _ ?_))
  refine sSeq (fun K102 hK102 => ?_)
  refine wp_block ?_
  refine sSeq (fun K103 hK103 => ?_)
  refine sRegion ?_
  refine sField (b := b45) (off := 0) 1 1 S (wN rfl) rfl rfl rfl rfl rfl (lb rfl) fun a S => ?_
  refine sLoad1 (p := b45) (off := 1) (T := 40) (vs := [iv r38.1.Start, .slice ad43 r38.1.Rows.length cp44]) 0 (.slice ad43 r38.1.Rows.length cp44) S (wN rfl) rfl rfl rfl rfl rfl rfl (lb rfl) fun a S => ?_
  refine sMove (iv s95) S (wN rfl) (.inl rfl) rfl rfl (lb rfl) fun a S => ?_
  obtain ⟨x104, hx105, h⟩ := bindSome h
  obtain ⟨q106, hq107, S⟩ := pIdx (P := Tryd.prog) (r := r_api_Row) (v := .slice ad43 r38.1.Rows.length cp44) (xs := r38.1.Rows) (j := s95) 38 54 0 S Tryd.underlying38 rfl rfl hx105
  refine sIdxV (v := .slice ad43 r38.1.Rows.length cp44) (k := .i64) (j := s95) S (wN rfl) rfl rfl rfl hq107 rfl (lb rfl) fun a S => ?_
  obtain ⟨q108, hq109, S⟩ := pFld (P := Tryd.prog) (r := r_api_Row) (s2 := (rL r_api_Stitch)) (g := (·.Cells)) (q := q106) (z := x104) 54 1 0 1 S rfl rfl comp_api_Row_Cells
  refine sFldV (q := q106) S (wN rfl) rfl rfl hq109 rfl (lb rfl) fun a S => ?_
  obtain ⟨u110, S⟩ := pLoad (r := (rL r_api_Stitch)) (q := q108) (x := x104.Cells) 0 S rfl
  obtain ⟨ad111, cp112, _, rfl, _⟩ := S.mem.know (i := 1) (e := fRep (rL r_api_Stitch) (u110) x104.Cells) rfl
  refine sLoadV1 (vq := q108) 0 (.slice ad111 x104.Cells.length cp112) S (wN rfl) rfl rfl rfl rfl rfl (lb rfl) fun a S => ?_
  obtain ⟨r113, hx114, h⟩ := bindSome h
  have S1 := S.mem
  refine sCallQ (X := Unit) (f := 33) (vs := [.slice ad111 x104.Cells.length cp112]) (val := fun _ => .tuple #[.string r113.1, iv r113.2]) S (wN rfl) rfl callee33 rfl (S1.quiet [1] rfl) (fun E1 w1 S1 => c_stitch_Text E1 w1 x104.Cells (.slice ad111 x104.Cells.length cp112) r113 hx114 S1) rfl (lb rfl) fun _ a w S => ?_
  refine sMove (.tuple #[.string r113.1, iv r113.2]) S (wN rfl) (.inl rfl) rfl rfl (lb rfl) fun a S => ?_
  refine sExtract (vs := [.string r113.1, iv r113.2]) (.string r113.1) S (wN rfl) rfl rfl rfl rfl (lb rfl) fun a S => ?_
  refine sExtract (vs := [.string r113.1, iv r113.2]) (iv r113.2) S (wN rfl) rfl rfl rfl rfl (lb rfl) fun a S => ?_
  refine sMove (.string r113.1) S (wN rfl) (.inr rfl) rfl rfl (lb rfl) fun a S => ?_
  refine sMove (iv r113.2) S (wN rfl) (.inr rfl) rfl rfl (lb rfl) fun a S => ?_
  refine leafL (leafT (hK103 _ _ ?_))
  obtain ⟨t116, h, g117⟩ := bindSome h
  refine sCut (fun a w => ∃ o115, o115 = t116 ∧ St [] E [] w0 95 a w [(3, .pointer (some ⟨b45, 0, none⟩)), (7, .pointer (some ⟨b60, 0, none⟩)), (8, iv s95), (94, .bool o115)] [eBox b45 40 [iv r38.1.Start, .slice ad43 r38.1.Rows.length cp44], eBox b60 73 [.string (⟨#[112, 108, 50, 32, 112, 56]⟩ : ByteArray), .string (⟨#[107, 102, 50, 32, 107, 55]⟩ : ByteArray), .string (⟨#[112, 108, 50, 32, 112, 54]⟩ : ByteArray), .string (⟨#[107, 102, 50, 32, 107, 53]⟩ : ByteArray)]] [fRep (rL r_api_Row) (.slice ad43 r38.1.Rows.length cp44) r38.1.Rows]) ?_ (fun a w hI => ?_)
  rotate_left
  · obtain ⟨o115, rfl, S⟩ := hI
    have h := g117
    clear g117
    try dsimp only at h
    rcases iteSome h with ⟨hc129, h⟩ | ⟨hc129, h⟩
    rotate_left
    · refine sCondF S rfl hc129 ?_
      refine wp_skip (leafB (leafT (hK102 _ _ ?_)))
      refine sRegion ?_
      refine sMove (iv s95) S (wN rfl) (.inl rfl) rfl rfl (lb rfl) fun a S => ?_
      refine sBin (iv (w64 (s95 + 1))) S (wN rfl) rfl rfl rfl (bAdd _ _ _ _ s95 1) rfl (lb rfl) fun a S => ?_
      refine sMove (iv (w64 (s95 + 1))) S (wN rfl) (.inr rfl) rfl rfl (lb rfl) fun a S => ?_
      exact leafL (leafT (⟨w64 (s95 + 1), (Option.some.inj h).symm, (S.fix [0, 1] [0] (by decide) rfl rfl rfl)⟩))
    refine sCondT S rfl hc129 ?_
    refine sSeq (fun K130 hK130 => ?_)
    refine sRegion ?_
    refine sMove (.bool false) S (wN rfl) (.inr rfl) rfl rfl (lb rfl) fun a S => ?_
    refine leafL (leafT (hK130 _ _ ?_))
    obtain rfl := Option.some.inj h
    obtain rfl := hu96 _ rfl
    have h := g97
    clear g97
    try dsimp only at h
    obtain rfl := Option.some.inj h
    have h := g93
    clear g93
    try dsimp only at h
    obtain rfl := Option.some.inj h
    exact wp_ret (rBlock (rThen (rThen (rBlock (rThen (sRet (.bool false) S (rsl1 rfl (rvT (t := 0) (v := .bool false) S rfl)) ⟨(), rfl, S.mem.sel [] [] (by decide) rfl rfl⟩))))))
  refine sRegion ?_
  refine sMove (iv r113.2) S (wN rfl) (.inl rfl) rfl rfl (lb rfl) fun a S => ?_
  refine sBin (.bool (r113.2 != 0)) S (wN rfl) rfl rfl rfl (bNe _ _ _ _ .i64 r113.2 0) rfl (lb rfl) fun a S => ?_
  refine sMove (.bool (r113.2 != 0)) S (wN rfl) (.inl rfl) rfl rfl (lb rfl) fun a S => ?_
  rcases iteSome h with ⟨hc118, h⟩ | ⟨hc118, h⟩
  · refine sSkip 2 false 76 77 S rfl rfl rfl hc118 rfl (lb rfl) fun a S => ?_
    refine sSkip 2 false 76 78 S rfl rfl rfl hc118 rfl (lb rfl) fun a S => ?_
    refine sSkip 2 false 76 79 S rfl rfl rfl hc118 rfl (lb rfl) fun a S => ?_
    refine sSkip 2 false 76 80 S rfl rfl rfl hc118 rfl (lb rfl) fun a S => ?_
    refine sSkip 2 false 76 81 S rfl rfl rfl hc118 rfl (lb rfl) fun a S => ?_
    refine sPickT (.bool true) S (wN rfl) rfl rfl hc118 rfl rfl (lb rfl) fun a S => ?_
    refine sMove (.bool true) S (wN rfl) (.inl rfl) rfl rfl (lb rfl) fun a S => ?_
    refine sSkip 9 false 83 84 S rfl rfl rfl rfl rfl (lb rfl) fun a S => ?_
    refine sSkip 9 false 83 85 S rfl rfl rfl rfl rfl (lb rfl) fun a S => ?_
    refine sSkip 9 false 83 86 S rfl rfl rfl rfl rfl (lb rfl) fun a S => ?_
    refine sSkip 9 false 83 87 S rfl rfl rfl rfl rfl (lb rfl) fun a S => ?_
    refine sSkip 9 false 83 88 S rfl rfl rfl rfl rfl (lb rfl) fun a S => ?_
    refine sSkip 9 false 83 89 S rfl rfl rfl rfl rfl (lb rfl) fun a S => ?_
    refine sSkip 9 false 83 90 S rfl rfl rfl rfl rfl (lb rfl) fun a S => ?_
    refine sSkip 9 false 83 91 S rfl rfl rfl rfl rfl (lb rfl) fun a S => ?_
    refine sSkip 9 false 83 92 S rfl rfl rfl rfl rfl (lb rfl) fun a S => ?_
    refine sSkip 9 false 83 93 S rfl rfl rfl rfl rfl (lb rfl) fun a S => ?_
    refine sPickT (.bool true) S (wN rfl) rfl rfl rfl rfl rfl (lb rfl) fun a S => ?_
    exact leafL (leafT (⟨true, Option.some.inj h, S.fix [0, 1] [4] (by decide) rfl rfl rfl⟩))
  refine sMove (.string r113.1) S (wG 2 false 76 rfl rfl rfl hc118) (.inl rfl) rfl rfl (lb rfl) fun a S => ?_
  refine sMove (iv s95) S (wG 2 false 76 rfl rfl rfl hc118) (.inl rfl) rfl rfl (lb rfl) fun a S => ?_
  obtain ⟨x119, hx120, h⟩ := bindSome h
  refine sIdxV (v := .pointer (some ⟨b60, 0, none⟩)) (k := .i64) (j := s95) (q := .pointer (some ⟨b60, 0 + (s95).toNat * 1, none⟩)) S (wG 2 false 76 rfl rfl rfl hc118) rfl rfl rfl (idxV_arr (m := 4) (sz := 1) Tryd.underlying73 rfl (idxO_rng (m := 4) hx120 rfl).1 (idxO_rng (m := 4) hx120 rfl).2 0) rfl (lb rfl) fun a S => ?_
  refine sLoad1 (p := b60) (off := 0 + (s95).toNat * 1) (T := 73) (vs := [.string (⟨#[112, 108, 50, 32, 112, 56]⟩ : ByteArray), .string (⟨#[107, 102, 50, 32, 107, 55]⟩ : ByteArray), .string (⟨#[112, 108, 50, 32, 112, 54]⟩ : ByteArray), .string (⟨#[107, 102, 50, 32, 107, 53]⟩ : ByteArray)]) 1 (.string x119) S (wG 2 false 76 rfl rfl rfl hc118) rfl rfl rfl rfl (box_at (g := (fun z => .string z)) [] [] 0 hx120 rfl rfl) rfl (lb rfl) fun a S => ?_
  refine sBin (.bool (r113.1 != x119)) S (wG 2 false 76 rfl rfl rfl hc118) rfl rfl rfl (bNeS _ _ _ _ r113.1 x119) rfl (lb rfl) fun a S => ?_
  refine sPickF (.bool (r113.1 != x119)) S (wN rfl) rfl rfl hc118 rfl rfl (lb rfl) fun a S => ?_
  refine sMove (.bool (r113.1 != x119)) S (wN rfl) (.inl rfl) rfl rfl (lb rfl) fun a S => ?_
  rcases iteSome h with ⟨hc121, h⟩ | ⟨hc121, h⟩
  · refine sSkip 9 false 83 84 S rfl rfl rfl hc121 rfl (lb rfl) fun a S => ?_
    refine sSkip 9 false 83 85 S rfl rfl rfl hc121 rfl (lb rfl) fun a S => ?_
    refine sSkip 9 false 83 86 S rfl rfl rfl hc121 rfl (lb rfl) fun a S => ?_
    refine sSkip 9 false 83 87 S rfl rfl rfl hc121 rfl (lb rfl) fun a S => ?_
    refine sSkip 9 false 83 88 S rfl rfl rfl hc121 rfl (lb rfl) fun a S => ?_
    refine sSkip 9 false 83 89 S rfl rfl rfl hc121 rfl (lb rfl) fun a S => ?_
    refine sSkip 9 false 83 90 S rfl rfl rfl hc121 rfl (lb rfl) fun a S => ?_
    refine sSkip 9 false 83 91 S rfl rfl rfl hc121 rfl (lb rfl) fun a S => ?_
    refine sSkip 9 false 83 92 S rfl rfl rfl hc121 rfl (lb rfl) fun a S => ?_
    refine sSkip 9 false 83 93 S rfl rfl rfl hc121 rfl (lb rfl) fun a S => ?_
    refine sPickT (.bool true) S (wN rfl) rfl rfl hc121 rfl rfl (lb rfl) fun a S => ?_
    exact leafL (leafT (⟨true, Option.some.inj h, S.fix [0, 1] [4] (by decide) rfl rfl rfl⟩))
  refine sField (b := b45) (off := 0) 1 1 S (wG 9 false 83 rfl rfl rfl hc121) rfl rfl rfl rfl rfl (lb rfl) fun a S => ?_
  refine sLoad1 (p := b45) (off := 1) (T := 40) (vs := [iv r38.1.Start, .slice ad43 r38.1.Rows.length cp44]) 0 (.slice ad43 r38.1.Rows.length cp44) S (wG 9 false 83 rfl rfl rfl hc121) rfl rfl rfl rfl rfl rfl (lb rfl) fun a S => ?_
  refine sMove (iv s95) S (wG 9 false 83 rfl rfl rfl hc121) (.inl rfl) rfl rfl (lb rfl) fun a S => ?_
  obtain ⟨q122, hq123, S⟩ := pIdx (P := Tryd.prog) (r := r_api_Row) (v := .slice ad43 r38.1.Rows.length cp44) (xs := r38.1.Rows) (j := s95) 38 54 4 S Tryd.underlying38 rfl rfl hx105
  refine sIdxV (v := .slice ad43 r38.1.Rows.length cp44) (k := .i64) (j := s95) S (wG 9 false 83 rfl rfl rfl hc121) rfl rfl rfl hq123 rfl (lb rfl) fun a S => ?_
  obtain ⟨q124, hq125, S⟩ := pFld (P := Tryd.prog) (r := r_api_Row) (s2 := rB) (g := (·.Back)) (q := q122) (z := x104) 54 0 0 0 S rfl rfl comp_api_Row_Back
  refine sFldV (q := q122) S (wG 9 false 83 rfl rfl rfl hc121) rfl rfl hq125 rfl (lb rfl) fun a S => ?_
  obtain ⟨u126, S⟩ := pLoad (r := rB) (q := q124) (x := x104.Back) 0 S rfl
  obtain rfl : u126 = .bool x104.Back := S.mem.know (i := 1) (e := fRep rB (u126) x104.Back) rfl
  refine sLoadV1 (vq := q124) 0 (.bool x104.Back) S (wG 9 false 83 rfl rfl rfl hc121) rfl rfl rfl rfl rfl (lb rfl) fun a S => ?_
  refine sMove (iv s95) S (wG 9 false 83 rfl rfl rfl hc121) (.inl rfl) rfl rfl (lb rfl) fun a S => ?_
  obtain ⟨z127, hx128, h⟩ := bindSome h
  refine sBin (iv z127) S (wG 9 false 83 rfl rfl rfl hc121) rfl rfl rfl (bRem _ _ _ _ (x := s95) (y := 2) hx128) rfl (lb rfl) fun a S => ?_
  refine sBin (.bool (z127 == 0)) S (wG 9 false 83 rfl rfl rfl hc121) rfl rfl rfl (bEq _ _ _ _ .i64 z127 0) rfl (lb rfl) fun a S => ?_
  refine sBin (.bool (x104.Back != (z127 == 0))) S (wG 9 false 83 rfl rfl rfl hc121) rfl rfl rfl (bNeB _ _ _ _ Tryd.underlying4 x104.Back (z127 == 0)) rfl (lb rfl) fun a S => ?_
  refine sPickF (.bool (x104.Back != (z127 == 0))) S (wN rfl) rfl rfl hc121 rfl rfl (lb rfl) fun a S => ?_
  exact leafL (leafT (⟨x104.Back != (z127 == 0), Option.some.inj h, S.fix [0, 1] [8] (by decide) rfl rfl rfl⟩))

end Go.Proofs.YtmedbnjhgkcndaaDoor
namespace Go.Proofs.YtmedbnjhgkcndaaDoor
open Go.RowKit
set_option linter.unusedVariables false

def K_raddlelaw37_alive_l1 (r38 : (api_Chart × Int)) : Int → Option (Int ⊕ (Bool ⊕ Unit)) := fun s0 => match s0 with
  | s95 =>
    if decide (s95 < 4) then
      Option.bind (idxO r38.1.Rows s95) fun x104 =>
      Option.bind (K_stitch_Text x104.Cells) fun r113 =>
      Option.bind (α := Bool) (
        if r113.2 != 0 then
          some true
        else
          Option.bind (idxO ([(⟨#[112, 108, 50, 32, 112, 56]⟩ : ByteArray), (⟨#[107, 102, 50, 32, 107, 55]⟩ : ByteArray), (⟨#[112, 108, 50, 32, 112, 54]⟩ : ByteArray), (⟨#[107, 102, 50, 32, 107, 53]⟩ : ByteArray)] : List ByteArray) s95) fun x119 =>
          if r113.1 != x119 then
            some true
          else
            Option.bind (remI s95 2) fun z127 =>
            some (x104.Back != (z127 == 0))) fun o115 =>
      if o115 then
        some (.inr (.inl false))
      else
        some (.inl (w64 (s95 + 1)))
    else
      some (.inr (.inr ()))
def K_raddlelaw37_alive  : Option Bool :=
  Option.bind (K_raddlelaw37_given) fun r3 =>
  Option.bind (K_piece_Make r3) fun r14 =>
  Option.bind (K_raddlelaw37_made) fun r27 =>
  Option.bind (K_piece_Chart r27) fun r38 =>
  Option.bind (K_piece_Read r38.1 0) fun r47 =>
  if r14.2 != 0 then
    none
  else
    Option.bind (K_raddleref37_Same r14.1 r27) fun r73 =>
    if !r73 then
      none
    else
      if r38.2 != 0 then
        none
      else
        if r38.1.Start != 10 then
          none
        else
          if (r38.1.Rows.length : Int) != 4 then
            none
          else
            if r47.2 != 0 then
              none
            else
              Option.bind (K_raddleref37_Same r47.1 r14.1) fun r80 =>
              if !r80 then
                none
              else
                Option.bind (α := Unit ⊕ Bool) (
                  Option.bind (whileK (K_raddlelaw37_alive_l1 r38) 0) fun z0 => match z0 with
                    | .inl z =>
                      some (.inr z)
                    | .inr _ =>
                      some (.inl ())) fun z0 => match z0 with
                  | .inl _ =>
                    some true
                  | .inr z =>
                    some z
theorem m_raddlelaw37_alive_l1 (r38 : (api_Chart × Int)) : ∀ s, Le (K_raddlelaw37_alive_l1 r38 s) (raddlelaw37_alive_l1 r38 s) := by
  unfold K_raddlelaw37_alive_l1 raddlelaw37_alive_l1
  with_reducible repeat' (first | exact m_F_stitch_Text _ | exact Le.rfl _ | refine Le.loop _ ?_ | refine Le.bind ?_ ?_ | refine Le.ite ?_ ?_ | refine Le.sum ?_ ?_ | refine Le.prod ?_ | intro _ | exact Empty.elim (by assumption) | dsimp only)
theorem m_F_raddlelaw37_alive  : Le (K_raddlelaw37_alive) (F_raddlelaw37_alive) := by
  unfold K_raddlelaw37_alive F_raddlelaw37_alive
  with_reducible repeat' (first | exact m_F_raddlelaw37_given | exact m_F_piece_Make _ | exact m_F_raddlelaw37_made | exact m_F_piece_Chart _ | exact m_F_piece_Read _ _ | exact m_F_raddleref37_Same _ _ | exact m_raddlelaw37_alive_l1 _ | exact Le.rfl _ | refine Le.loop _ ?_ | refine Le.bind ?_ ?_ | refine Le.ite ?_ ?_ | refine Le.sum ?_ ?_ | refine Le.prod ?_ | intro _ | exact Empty.elim (by assumption) | dsimp only)
set_option maxRecDepth 1000000 in
theorem k_raddlelaw37_alive : F_raddlelaw37_alive = some true := m_F_raddlelaw37_alive _ (by kernel_rfl)
end Go.Proofs.YtmedbnjhgkcndaaDoor
namespace Go.Proofs.YtmedbnjhgkcndaaDoor
open Go.RowKit
set_option linter.unusedVariables false

theorem w64_of {x : Int} (h0 : -9223372036854775808 ≤ x) (h1 : x ≤ 9223372036854775807) : w64 x = x := w64_id ⟨h0, h1⟩
theorem w64_succ {k : Nat} (h : k < 9223372036854775807) : w64 ((k : Int) + 1) = ((k + 1 : Nat) : Int) := by
  rw [w64_of (by omega) (by omega)]; omega
theorem idxO_nat {α : Type} {xs : List α} {k : Nat} (h : k < xs.length) : idxO xs (k : Int) = some xs[k] := by
  simp [idxO, h]
theorem idxO_of {α : Type} {xs : List α} {i : Int} {k : Nat} (hi : i = (k : Int)) (h : k < xs.length) : idxO xs i = some xs[k] := by subst hi; exact idxO_nat h
theorem setO_nat {α : Type} {xs : List α} {k : Nat} {y : α} (h : k < xs.length) : setO xs (k : Int) y = some (xs.set k y) := by
  simp [setO, h]
theorem appO_of {α : Type} {xs ys : List α} (h : xs.length + ys.length ≤ 68719476736) : appO xs ys = some (xs ++ ys) := by
  simp [appO, lim, h]
theorem capO_of {n : Int} {k : Nat} (h : n = (k : Int)) (hk : k ≤ 68719476736) : capO n = some () := by
  subst h; simp [capO, lim, hk]
theorem makeO_of {α : Type} {n : Int} {z : α} {k : Nat} (h : n = (k : Int)) (hk : k ≤ 68719476736) : makeO n z = some (List.replicate k z) := by
  subst h; simp [makeO, lim, hk]
theorem sliceO_of {α : Type} {xs : List α} {lo hi : Int} {l k : Nat} (h1 : lo = l) (h2 : hi = k) (h3 : l ≤ k) (h4 : k ≤ xs.length) : sliceO xs lo hi = some ((xs.take k).drop l) := by
  subst h1 h2; simp [sliceO, h3, h4]
/-- a loop over an index, with a state beside it -/
theorem loop_st {σ τ : Type} {B : σ × Int → Option ((σ × Int) ⊕ τ)} (n : Nat) (I : Nat → σ → Prop) (Pt : τ → Prop) {s0 : σ} (h0 : I 0 s0)
    (step : ∀ k s, k < n → I k s → (∃ s', B (s, (k : Int)) = some (.inl (s', ((k + 1 : Nat) : Int))) ∧ I (k + 1) s') ∨ (∃ t, B (s, (k : Int)) = some (.inr t) ∧ Pt t))
    (last : ∀ s, I n s → ∃ t, B (s, (n : Int)) = some (.inr t) ∧ Pt t) : ∃ t, whileO B (s0, 0) = some t ∧ Pt t := by
  refine whileO_inv (fun s => ∃ k : Nat, k ≤ n ∧ s.2 = (k : Int) ∧ I k s.1) (fun s => ((n : Int) - s.2).toNat) Pt ⟨0, Nat.zero_le _, rfl, h0⟩ ?_
  rintro ⟨s, i⟩ ⟨k, hk, rfl, hI⟩
  by_cases hlt : k < n
  · rcases step k s hlt hI with ⟨s', h1, h2⟩ | h
    · exact .inl ⟨_, h1, ⟨k + 1, hlt, rfl, h2⟩, by simp; omega⟩
    · exact .inr h
  · obtain rfl : k = n := by omega
    exact .inr (last s hI)
/-- a loop over an index alone -/
theorem loop_ix {τ : Type} {B : Int → Option (Int ⊕ τ)} (n : Nat) (I : Nat → Prop) (Pt : τ → Prop) (h0 : I 0)
    (step : ∀ k, k < n → I k → (B (k : Int) = some (.inl ((k + 1 : Nat) : Int)) ∧ I (k + 1)) ∨ (∃ t, B (k : Int) = some (.inr t) ∧ Pt t))
    (last : I n → ∃ t, B (n : Int) = some (.inr t) ∧ Pt t) : ∃ t, whileO B 0 = some t ∧ Pt t := by
  refine whileO_inv (fun s => ∃ k : Nat, k ≤ n ∧ s = (k : Int) ∧ I k) (fun s => ((n : Int) - s).toNat) Pt ⟨0, Nat.zero_le _, rfl, h0⟩ ?_
  rintro i ⟨k, hk, rfl, hI⟩
  by_cases hlt : k < n
  · rcases step k hlt hI with ⟨h1, h2⟩ | h
    · exact .inl ⟨_, h1, ⟨k + 1, hlt, rfl, h2⟩, by simp; omega⟩
    · exact .inr h
  · obtain rfl : k = n := by omega
    exact .inr (last hI)

end Go.Proofs.YtmedbnjhgkcndaaDoor
namespace Go.Proofs.YtmedbnjhgkcndaaDoor
open Go.RowKit
set_option linter.unusedVariables false

theorem loop_fr {σ τ : Type} {B : σ × Int → Option ((σ × Int) ⊕ τ)} (a n : Nat) (ha : a ≤ n) (I : Nat → σ → Prop) (Pt : τ → Prop) {s0 : σ} (h0 : I a s0)
    (step : ∀ k s, a ≤ k → k < n → I k s → (∃ s', B (s, (k : Int)) = some (.inl (s', ((k + 1 : Nat) : Int))) ∧ I (k + 1) s') ∨ (∃ t, B (s, (k : Int)) = some (.inr t) ∧ Pt t))
    (last : ∀ s, I n s → ∃ t, B (s, (n : Int)) = some (.inr t) ∧ Pt t) : ∃ t, whileO B (s0, (a : Int)) = some t ∧ Pt t := by
  refine whileO_inv (fun s => ∃ k : Nat, a ≤ k ∧ k ≤ n ∧ s.2 = (k : Int) ∧ I k s.1) (fun s => ((n : Int) - s.2).toNat) Pt ⟨a, Nat.le_refl _, ha, rfl, h0⟩ ?_
  rintro ⟨s, i⟩ ⟨k, hak, hk, rfl, hI⟩
  by_cases hlt : k < n
  · rcases step k s hak hlt hI with ⟨s', h1, h2⟩ | h
    · exact .inl ⟨_, h1, ⟨k + 1, by omega, hlt, rfl, h2⟩, by simp; omega⟩
    · exact .inr h
  · obtain rfl : k = n := by omega
    exact .inr (last s hI)
/-- a loop that leaves at the first index where f answers -/
theorem loop_find {τ : Type} {B : Int → Option (Int ⊕ τ)} (n : Nat) (f : Nat → Option τ) (good : τ)
    (h : ∀ k, k < n → B (k : Int) = some (match f k with | none => .inl ((k + 1 : Nat) : Int) | some t => .inr t)) (hn : B (n : Int) = some (.inr good)) :
    whileO B 0 = some (((List.range n).findSome? f).getD good) := by
  have key : ∃ t, whileO B 0 = some t ∧ t = ((List.range n).findSome? f).getD good := by
    refine loop_ix n (fun k => (List.range k).findSome? f = none) _ rfl ?_ ?_
    · intro k hk hI
      cases hf : f k with
      | none =>
        refine .inl ⟨by rw [h k hk, hf], ?_⟩
        rw [List.range_succ, List.findSome?_append, hI]
        simp [hf]
      | some t =>
        refine .inr ⟨t, by rw [h k hk, hf], ?_⟩
        have e : List.range n = List.range (k + 1) ++ (List.range (n - (k + 1))).map (k + 1 + ·) := by
          rw [← List.range_add]; congr 1; omega
        rw [e, List.findSome?_append, List.range_succ, List.findSome?_append, hI]
        simp [hf]
    · intro hI
      exact ⟨good, hn, by rw [hI]; rfl⟩
  obtain ⟨t, h1, rfl⟩ := key
  exact h1
/-- a loop that tests all, and says bad at the first that fails -/
theorem loop_all {τ : Type} {B : Int → Option (Int ⊕ τ)} (n : Nat) (p : Nat → Bool) (good bad : τ)
    (h : ∀ k, k < n → B (k : Int) = some (if p k = true then .inl ((k + 1 : Nat) : Int) else .inr bad)) (hn : B (n : Int) = some (.inr good)) :
    whileO B 0 = some (if (List.range n).all p = true then good else bad) := by
  have key : ∃ t, whileO B 0 = some t ∧ t = if (List.range n).all p = true then good else bad := by
    refine loop_ix n (fun k => ∀ j, j < k → p j = true) _ (fun j h => absurd h (Nat.not_lt_zero j)) ?_ ?_
    · intro k hk hI
      cases hf : p k with
      | true =>
        refine .inl ⟨by rw [h k hk, if_pos hf], fun j hj => ?_⟩
        by_cases e : j = k
        · rw [e]; exact hf
        · exact hI j (by omega)
      | false =>
        refine .inr ⟨bad, by rw [h k hk, hf]; simp, ?_⟩
        rw [if_neg]
        intro hc
        rw [List.all_eq_true] at hc
        have := hc k (List.mem_range.2 hk)
        rw [hf] at this; cases this
    · intro hI
      refine ⟨good, hn, ?_⟩
      rw [if_pos]
      rw [List.all_eq_true]
      exact fun j hj => hI j (List.mem_range.1 hj)
  obtain ⟨t, h1, rfl⟩ := key
  exact h1
/-- a loop that folds -/
theorem loop_fold {σ τ : Type} {B : σ × Int → Option ((σ × Int) ⊕ τ)} (n : Nat) (f : σ → Nat → σ) (s0 : σ) {t : τ}
    (h : ∀ k s, k < n → s = (List.range k).foldl f s0 → B (s, (k : Int)) = some (.inl (f s k, ((k + 1 : Nat) : Int))))
    (hn : B ((List.range n).foldl f s0, (n : Int)) = some (.inr t)) : whileO B (s0, 0) = some t := by
  have key : ∃ u, whileO B (s0, 0) = some u ∧ u = t := by
    refine loop_st n (fun k s => s = (List.range k).foldl f s0) _ rfl ?_ ?_
    · rintro k s hk hI
      refine .inl ⟨_, h k s hk hI, ?_⟩
      rw [List.range_succ, List.foldl_append, ← hI]; rfl
    · rintro s rfl
      exact ⟨t, hn, rfl⟩
  obtain ⟨u, h1, rfl⟩ := key
  exact h1
/-- a loop that gathers -/
theorem loop_map {α τ : Type} {B : List α × Int → Option ((List α × Int) ⊕ τ)} (n : Nat) (f : Nat → α) {t : τ}
    (h : ∀ k s, k < n → s = (List.range k).map f → B (s, (k : Int)) = some (.inl (s ++ [f k], ((k + 1 : Nat) : Int))))
    (hn : B ((List.range n).map f, (n : Int)) = some (.inr t)) : whileO B ([], 0) = some t := by
  have key : ∃ u, whileO B ([], 0) = some u ∧ u = t := by
    refine loop_st n (fun k s => s = (List.range k).map f) _ rfl ?_ ?_
    · rintro k s hk hI
      refine .inl ⟨_, h k s hk hI, ?_⟩
      rw [List.range_succ, List.map_append, ← hI]; rfl
    · rintro s rfl
      exact ⟨t, hn, rfl⟩
  obtain ⟨u, h1, rfl⟩ := key
  exact h1
theorem all_cong {n : Nat} {p q : Nat → Bool} (h : ∀ k, k < n → p k = q k) : (List.range n).all p = (List.range n).all q := by
  have : ∀ m, m ≤ n → (List.range m).all p = (List.range m).all q := by
    intro m
    induction m with
    | zero => intro _; rfl
    | succ m ih => intro hm; rw [List.range_succ, List.all_append, List.all_append, ih (by omega)]; simp [h m (by omega)]
  exact this n (Nat.le_refl _)
theorem map_cong {α : Type} {n : Nat} {f g : Nat → α} (h : ∀ k, k < n → f k = g k) : (List.range n).map f = (List.range n).map g :=
  List.map_congr_left fun k hk => h k (List.mem_range.1 hk)
/-- an element, wherever the index lies -/
theorem idxO_get {α : Type} {xs : List α} {i : Int} (h0 : 0 ≤ i) (h1 : i < (xs.length : Int)) : idxO xs i = some (xs[i.toNat]'(by omega)) := by
  have : i.toNat < xs.length := by omega
  simp [idxO, h0, this]
theorem dT {p : Prop} [Decidable p] (h : p) : decide p = true := decide_eq_true h
theorem dF {p : Prop} [Decidable p] (h : ¬ p) : decide p = false := decide_eq_false h
theorem bT {a b : Int} (h : a = b) : (a == b) = true := by simp [h]
theorem bF {a b : Int} (h : ¬ a = b) : (a == b) = false := by simp [h]
theorem nT {a b : Int} (h : ¬ a = b) : (a != b) = true := by simp [h]
theorem nF {a b : Int} (h : a = b) : (a != b) = false := by simp [h]
/-- a loop whose index comes first in its state -/
theorem loop_ts {σ τ : Type} {B : Int × σ → Option ((Int × σ) ⊕ τ)} (n : Nat) (I : Nat → σ → Prop) (Pt : τ → Prop) {s0 : σ} (h0 : I 0 s0)
    (step : ∀ k s, k < n → I k s → (∃ s', B ((k : Int), s) = some (.inl (((k + 1 : Nat) : Int), s')) ∧ I (k + 1) s') ∨ (∃ t, B ((k : Int), s) = some (.inr t) ∧ Pt t))
    (last : ∀ s, I n s → ∃ t, B ((n : Int), s) = some (.inr t) ∧ Pt t) : ∃ t, whileO B (0, s0) = some t ∧ Pt t := by
  refine whileO_inv (fun s => ∃ k : Nat, k ≤ n ∧ s.1 = (k : Int) ∧ I k s.2) (fun s => ((n : Int) - s.1).toNat) Pt ⟨0, Nat.zero_le _, rfl, h0⟩ ?_
  rintro ⟨i, s⟩ ⟨k, hk, rfl, hI⟩
  by_cases hlt : k < n
  · rcases step k s hlt hI with ⟨s', h1, h2⟩ | h
    · exact .inl ⟨_, h1, ⟨k + 1, hlt, rfl, h2⟩, by simp; omega⟩
    · exact .inr h
  · obtain rfl : k = n := by omega
    exact .inr (last s hI)
/-- a row filled from its start on -/
def Fill {α : Type} (n : Nat) (f : Nat → α) (k : Nat) (s : List α) : Prop := s.length = n ∧ ∀ j, j < k → s[j]? = some (f j)
theorem Fill.zero {α : Type} (n : Nat) (f : Nat → α) (z : α) : Fill n f 0 (List.replicate n z) := ⟨by simp, fun j hj => absurd hj (Nat.not_lt_zero j)⟩
theorem Fill.set {α : Type} {n : Nat} {f : Nat → α} {k : Nat} {s : List α} (h : Fill n f k s) (hk : k < n) : Fill n f (k + 1) (s.set k (f k)) := by
  refine ⟨by simp [h.1], fun j hj => ?_⟩
  by_cases e : j = k
  · subst e; simp [h.1, hk]
  · rw [List.getElem?_set_ne (fun h => e h.symm)]; exact h.2 j (by omega)
theorem Fill.all {α : Type} {n : Nat} {f : Nat → α} {s : List α} (h : Fill n f n s) : s = (List.range n).map f := by
  apply List.ext_getElem?
  intro j
  by_cases hj : j < n
  · rw [h.2 j hj]; simp [hj]
  · rw [List.getElem?_eq_none (by rw [h.1]; omega), List.getElem?_eq_none (by simp; omega)]
theorem loop_set {α τ : Type} {B : List α × Int → Option ((List α × Int) ⊕ τ)} (n : Nat) (f : Nat → α) (z : α) {t : τ}
    (h : ∀ k s, k < n → s.length = n → B (s, (k : Int)) = some (.inl (s.set k (f k), ((k + 1 : Nat) : Int))))
    (hn : B ((List.range n).map f, (n : Int)) = some (.inr t)) : whileO B (List.replicate n z, 0) = some t := by
  have key : ∃ u, whileO B (List.replicate n z, 0) = some u ∧ u = t := by
    refine loop_st n (fun k s => Fill n f k s) _ (Fill.zero n f z) ?_ ?_
    · intro k s hk hI
      exact .inl ⟨_, h k s hk hI.1, hI.set hk⟩
    · intro s hs
      rw [hs.all]
      exact ⟨t, hn, rfl⟩
  obtain ⟨u, h1, rfl⟩ := key
  exact h1
theorem idxO_D {α : Type} {xs : List α} {k : Nat} (d : α) (h : k < xs.length) : idxO xs (k : Int) = some (xs.getD k d) := by
  rw [idxO_nat h]; simp [h]
theorem mul_bd {u v a b : Int} (u0 : 0 ≤ u) (u1 : u ≤ a) (v0 : 0 ≤ v) (v1 : v ≤ b) : 0 ≤ u * v ∧ u * v ≤ a * b :=
  ⟨Int.mul_nonneg u0 v0, Int.mul_le_mul u1 v1 v0 (by omega)⟩
theorem sliceO_all {α : Type} {xs : List α} {k : Nat} (h : k ≤ xs.length) : sliceO xs (k : Int) (xs.length : Int) = some (xs.drop k) := by
  rw [sliceO_of (l := k) (k := xs.length) rfl rfl h (Nat.le_refl _), List.take_length]
theorem getD_drop {α : Type} (xs : List α) (n k : Nat) (d : α) : (xs.drop n).getD k d = xs.getD (k + n) d := by
  simp [List.getD_eq_getElem?_getD, List.getElem?_drop, Nat.add_comm]

end Go.Proofs.YtmedbnjhgkcndaaDoor
namespace Go.Proofs.YtmedbnjhgkcndaaDoor
open Go.RowKit
set_option linter.unusedVariables false

noncomputable def F_gauge_within (p0 : Int) (p1 : Int) (p2 : Int) : Option Bool :=
  Option.bind (α := Bool) (
    if decide (p1 ≤ p0) then
      some (decide (p0 ≤ p2))
    else
      some false) fun o2 =>
  some o2
set_option maxHeartbeats 4000000 in
set_option maxRecDepth 100000 in
theorem c_gauge_within (E : Nat → Prop) (w0 : World) (p0 : Int) (p1 : Int) (p2 : Int) (r : Bool) (h : F_gauge_within p0 p1 p2 = some r) (S : St0 E [] w0 w0 [] []) :
    Calls Tryd.prog 77 #[iv p0, iv p1, iv p2] w0 (Ret (X := Unit) E [] w0 (fun _ => .bool r) (fun _ => []) (fun _ => [])) := by
  unfold F_gauge_within at h
  refine sEnter (args := [iv p0, iv p1, iv p2]) 15 Tryd.func77 rfl rfl (by simp) S (fun a S => ?_)
  refine sSeq (fun K1 hK1 => ?_)
  refine sRegion ?_
  refine sMove (.bool false) S (wN rfl) (.inr rfl) rfl rfl (lb rfl) fun a S => ?_
  refine leafL (leafT (hK1 _ _ ?_))
  obtain ⟨t3, h, g4⟩ := bindSome h
  refine sCut (fun a w => ∃ o2, o2 = t3 ∧ St [] E [] w0 15 a w [(6, .bool o2)] [] []) ?_ (fun a w hI => ?_)
  rotate_left
  · obtain ⟨o2, rfl, S⟩ := hI
    have h := g4
    clear g4
    try dsimp only at h
    obtain rfl := Option.some.inj h
    exact wp_ret (sRet (.bool o2) S (rsl1 rfl (rvT (t := 6) (v := .bool o2) S rfl)) ⟨(), rfl, S.mem.sel [] [] (by decide) rfl rfl⟩)
  refine sRegion ?_
  refine sMove (iv p0) S (wN rfl) (.inl rfl) rfl rfl (lb rfl) fun a S => ?_
  refine sMove (iv p1) S (wN rfl) (.inl rfl) rfl rfl (lb rfl) fun a S => ?_
  refine sBin (.bool (decide (p1 ≤ p0))) S (wN rfl) rfl rfl rfl (bGe _ _ _ _ .i64 p0 p1) rfl (lb rfl) fun a S => ?_
  refine sMove (.bool (decide (p1 ≤ p0))) S (wN rfl) (.inl rfl) rfl rfl (lb rfl) fun a S => ?_
  rcases iteSome h with ⟨hc5, h⟩ | ⟨hc5, h⟩
  rotate_left
  · refine sSkip 3 true 10 11 S rfl rfl rfl hc5 rfl (lb rfl) fun a S => ?_
    refine sSkip 3 true 10 12 S rfl rfl rfl hc5 rfl (lb rfl) fun a S => ?_
    refine sSkip 3 true 10 13 S rfl rfl rfl hc5 rfl (lb rfl) fun a S => ?_
    refine sPickF (.bool false) S (wN rfl) rfl rfl hc5 rfl rfl (lb rfl) fun a S => ?_
    refine sMove (.bool false) S (wN rfl) (.inr rfl) rfl rfl (lb rfl) fun a S => ?_
    exact leafL (leafT (⟨false, Option.some.inj h, S.fix [] [] (by decide) rfl rfl rfl⟩))
  refine sMove (iv p0) S (wG 3 true 10 rfl rfl rfl hc5) (.inl rfl) rfl rfl (lb rfl) fun a S => ?_
  refine sMove (iv p2) S (wG 3 true 10 rfl rfl rfl hc5) (.inl rfl) rfl rfl (lb rfl) fun a S => ?_
  refine sBin (.bool (decide (p0 ≤ p2))) S (wG 3 true 10 rfl rfl rfl hc5) rfl rfl rfl (bLe _ _ _ _ .i64 p0 p2) rfl (lb rfl) fun a S => ?_
  refine sPickT (.bool (decide (p0 ≤ p2))) S (wN rfl) rfl rfl hc5 rfl rfl (lb rfl) fun a S => ?_
  refine sMove (.bool (decide (p0 ≤ p2))) S (wN rfl) (.inr rfl) rfl rfl (lb rfl) fun a S => ?_
  exact leafL (leafT (⟨decide (p0 ≤ p2), Option.some.inj h, S.fix [] [] (by decide) rfl rfl rfl⟩))

end Go.Proofs.YtmedbnjhgkcndaaDoor
namespace Go.Proofs.YtmedbnjhgkcndaaDoor
open Go.RowKit
set_option linter.unusedVariables false

noncomputable def gauge_Check_l1 (p0 : api_Gauge) : Int → Option (Int ⊕ (Int ⊕ Unit)) := fun s0 => match s0 with
  | s6 =>
    if decide (s6 < 4) then
      Option.bind (idxO ([p0.Stitches, p0.Width, p0.Rows, p0.Height] : List Int) s6) fun x15 =>
      Option.bind (F_gauge_within x15 1 10000) fun r18 =>
      if !r18 then
        some (.inr (.inl 8))
      else
        some (.inl (w64 (s6 + 1)))
    else
      some (.inr (.inr ()))
noncomputable def F_gauge_Check (p0 : api_Gauge) : Option Int :=
  Option.bind (α := Unit ⊕ Int) (
    Option.bind (whileO (gauge_Check_l1 p0) 0) fun z0 => match z0 with
      | .inl z =>
        some (.inr z)
      | .inr _ =>
        some (.inl ())) fun z0 => match z0 with
    | .inl _ =>
      some 0
    | .inr z =>
      some z
set_option maxHeartbeats 4000000 in
set_option maxRecDepth 100000 in
theorem c_gauge_Check (E : Nat → Prop) (w0 : World) (p0 : api_Gauge) (v0 : Value) (r : Int) (h : F_gauge_Check p0 = some r) (S : St0 E [] w0 w0 [] [fRep r_api_Gauge (v0) p0]) :
    Calls Tryd.prog 76 #[v0] w0 (Ret (X := Unit) E [] w0 (fun _ => .int .i64 r) (fun _ => []) (fun _ => [])) := by
  unfold F_gauge_Check at h
  obtain rfl : v0 = .agg #[iv p0.Stitches, iv p0.Width, iv p0.Rows, iv p0.Height] := S.know (i := 0) (e := fRep r_api_Gauge (v0) p0) rfl
  refine sEnter (args := [.agg #[iv p0.Stitches, iv p0.Width, iv p0.Rows, iv p0.Height]]) 21 Tryd.func76 rfl rfl (by simp) S (fun a S => ?_)
  refine sSeq (fun K1 hK1 => ?_)
  refine sRegion ?_
  refine sBox (v := .agg #[iv p0.Stitches, iv p0.Width, iv p0.Rows, iv p0.Height]) S (wN rfl) rfl rfl [iv p0.Stitches, iv p0.Width, iv p0.Rows, iv p0.Height] rfl rfl (lb rfl) fun a b2 w S => ?_
  refine sMove (iv 0) S (wN rfl) (.inr rfl) rfl rfl (lb rfl) fun a S => ?_
  refine leafL (leafT (hK1 _ _ ?_))
  obtain ⟨t3, h, g4⟩ := bindSome h
  refine sCut (fun a w => .inl () = t3 ∧ St [] E [] w0 21 a w [] [] []) ?_ (fun a w hI => ?_)
  rotate_left
  · obtain ⟨rfl, S⟩ := hI
    have h := g4
    clear g4
    try dsimp only at h
    refine sSeq (fun K22 hK22 => ?_)
    refine sRegion ?_
    refine sMove (iv 0) S (wN rfl) (.inr rfl) rfl rfl (lb rfl) fun a S => ?_
    refine leafL (leafT (hK22 _ _ ?_))
    obtain rfl := Option.some.inj h
    exact wp_ret (sRet (iv 0) S (rsl1 rfl (rvT (t := 2) (v := iv 0) S rfl)) ⟨(), rfl, S.mem.sel [] [] (by decide) rfl rfl⟩)
  refine sSeq (fun K5 hK5 => ?_)
  refine sRegion ?_
  refine sField (b := b2) (off := 0) 0 0 S (wN rfl) rfl rfl rfl rfl rfl (lb rfl) fun a S => ?_
  refine sLoad1 (p := b2) (off := 0) (T := 65) (vs := [iv p0.Stitches, iv p0.Width, iv p0.Rows, iv p0.Height]) 0 (iv p0.Stitches) S (wN rfl) rfl rfl rfl rfl rfl rfl (lb rfl) fun a S => ?_
  refine sField (b := b2) (off := 0) 1 1 S (wN rfl) rfl rfl rfl rfl rfl (lb rfl) fun a S => ?_
  refine sLoad1 (p := b2) (off := 1) (T := 65) (vs := [iv p0.Stitches, iv p0.Width, iv p0.Rows, iv p0.Height]) 0 (iv p0.Width) S (wN rfl) rfl rfl rfl rfl rfl rfl (lb rfl) fun a S => ?_
  refine sField (b := b2) (off := 0) 2 2 S (wN rfl) rfl rfl rfl rfl rfl (lb rfl) fun a S => ?_
  refine sLoad1 (p := b2) (off := 2) (T := 65) (vs := [iv p0.Stitches, iv p0.Width, iv p0.Rows, iv p0.Height]) 0 (iv p0.Rows) S (wN rfl) rfl rfl rfl rfl rfl rfl (lb rfl) fun a S => ?_
  refine sField (b := b2) (off := 0) 3 3 S (wN rfl) rfl rfl rfl rfl rfl (lb rfl) fun a S => ?_
  refine sLoad1 (p := b2) (off := 3) (T := 65) (vs := [iv p0.Stitches, iv p0.Width, iv p0.Rows, iv p0.Height]) 0 (iv p0.Height) S (wN rfl) rfl rfl rfl rfl rfl rfl (lb rfl) fun a S => ?_
  refine sBuild [(0, iv p0.Stitches), (1, iv p0.Width), (2, iv p0.Rows), (3, iv p0.Height)] [iv p0.Stitches, iv p0.Width, iv p0.Rows, iv p0.Height] S (wN rfl) rfl rfl rfl rfl (lb rfl) fun a S => ?_
  refine sMove (iv 0) S (wN rfl) (.inl rfl) rfl rfl (lb rfl) fun a S => ?_
  refine leafL (leafT (hK5 _ _ ?_))
  refine wp_block ?_
  obtain ⟨t9, hl, g8⟩ := bindSome h
  refine sLoop hl (fun s0 a w => match s0 with | s6 => St [] E [] w0 21 a w [(13, .agg #[iv p0.Stitches, iv p0.Width, iv p0.Rows, iv p0.Height]), (14, iv s6)] [] []) (S.fix [] [] (by decide) rfl rfl rfl) ?_
  clear hl h
  intro s6 a w c0 hI h hu7
  unfold gauge_Check_l1 at h
  dsimp only at h hI
  have S := hI
  refine sSeq (fun K10 hK10 => ?_)
  refine sRegion ?_
  refine sBin (.bool (decide (s6 < 4))) S (wN rfl) rfl rfl rfl (bLt _ _ _ _ .i64 s6 4) rfl (lb rfl) fun a S => ?_
  refine leafL (leafT (hK10 _ _ ?_))
  refine sSeq (fun K11 hK11 => ?_)
  rcases iteSome h with ⟨hc12, h⟩ | ⟨hc12, h⟩
  rotate_left
  · refine sCondF S rfl hc12 ?_
    obtain rfl := Option.some.inj h
    obtain rfl := hu7 _ rfl
    have h := g8
    clear g8
    try dsimp only at h
    exact wp_exit (xThen (xThen (xHit (leafT (⟨Option.some.inj h, S.fix [] [] (by decide) rfl rfl rfl⟩)))))
  refine sCondT S rfl hc12 ?_
  refine wp_skip (leafT (hK11 _ _ ?_))
  refine sSeq (fun K13 hK13 => ?_)
  refine wp_block ?_
  refine sSeq (fun K14 hK14 => ?_)
  refine sRegion ?_
  obtain ⟨x15, hx16, h⟩ := bindSome h
  refine sIndexA (g := fun z => .int .i64 z) (xs := ([p0.Stitches, p0.Width, p0.Rows, p0.Height] : List Int)) (j := s6) (k := .i64) 4 [iv p0.Stitches, iv p0.Width, iv p0.Rows, iv p0.Height] S (wN rfl) rfl Tryd.underlying120 rfl rfl rfl rfl rfl rfl hx16 rfl (lb rfl) fun a S => ?_
  refine sMove (iv x15) S (wN rfl) (.inr rfl) rfl rfl (lb rfl) fun a S => ?_
  refine leafL (leafT (hK14 _ _ ?_))
  refine sSeq (fun K17 hK17 => ?_)
  refine sRegion ?_
  refine sMove (iv x15) S (wN rfl) (.inl rfl) rfl rfl (lb rfl) fun a S => ?_
  obtain ⟨r18, hx19, h⟩ := bindSome h
  have S1 := S.mem
  refine sCallQ (X := Unit) (f := 77) (vs := [iv x15, iv 1, iv 10000]) (val := fun _ => .bool r18) S (wN rfl) rfl callee77 rfl (S1.quiet [] rfl) (fun E1 w1 S1 => c_gauge_within E1 w1 x15 1 10000 r18 hx19 S1) rfl (lb rfl) fun _ a w S => ?_
  refine sNot (b := r18) S (wN rfl) rfl rfl rfl (lb rfl) fun a S => ?_
  refine leafL (leafT (hK17 _ _ ?_))
  rcases iteSome h with ⟨hc20, h⟩ | ⟨hc20, h⟩
  rotate_left
  · refine sCondF S rfl hc20 ?_
    refine wp_skip (leafB (leafT (hK13 _ _ ?_)))
    refine sRegion ?_
    refine sBin (iv (w64 (s6 + 1))) S (wN rfl) rfl rfl rfl (bAdd _ _ _ _ s6 1) rfl (lb rfl) fun a S => ?_
    refine sMove (iv (w64 (s6 + 1))) S (wN rfl) (.inl rfl) rfl rfl (lb rfl) fun a S => ?_
    exact leafL (leafT (⟨w64 (s6 + 1), (Option.some.inj h).symm, (S.fix [] [] (by decide) rfl rfl rfl)⟩))
  refine sCondT S rfl hc20 ?_
  refine sSeq (fun K21 hK21 => ?_)
  refine sRegion ?_
  refine sMove (iv 8) S (wN rfl) (.inr rfl) rfl rfl (lb rfl) fun a S => ?_
  refine leafL (leafT (hK21 _ _ ?_))
  obtain rfl := Option.some.inj h
  obtain rfl := hu7 _ rfl
  have h := g8
  clear g8
  try dsimp only at h
  obtain rfl := Option.some.inj h
  have h := g4
  clear g4
  try dsimp only at h
  obtain rfl := Option.some.inj h
  exact wp_ret (rBlock (rThen (rThen (rBlock (rThen (sRet (iv 8) S (rsl1 rfl (rvT (t := 2) (v := iv 8) S rfl)) ⟨(), rfl, S.mem.sel [] [] (by decide) rfl rfl⟩))))))

end Go.Proofs.YtmedbnjhgkcndaaDoor
namespace Go.Proofs.YtmedbnjhgkcndaaDoor
open Go.RowKit
set_option linter.unusedVariables false

noncomputable def F_gauge_ratio_of (p0 : gauge_ratio) (p1 : Int) : Option Int :=
  Option.bind (quoI (w64 ((w64 ((w64 (2 * p1)) * p0.num)) + p0.den)) (w64 (2 * p0.den))) fun z4 =>
  some z4
set_option maxHeartbeats 4000000 in
set_option maxRecDepth 100000 in
theorem c_gauge_ratio_of (E : Nat → Prop) (w0 : World) (p0 : gauge_ratio) (v0 : Value) (p1 : Int) (r : Int) (h : F_gauge_ratio_of p0 p1 = some r) (S : St0 E [] w0 w0 [] [fRep r_gauge_ratio (v0) p0]) :
    Calls Tryd.prog 78 #[v0, iv p1] w0 (Ret (X := Unit) E [] w0 (fun _ => .int .i64 r) (fun _ => []) (fun _ => [])) := by
  unfold F_gauge_ratio_of at h
  obtain rfl : v0 = .agg #[iv p0.num, iv p0.den] := S.know (i := 0) (e := fRep r_gauge_ratio (v0) p0) rfl
  refine sEnter (args := [.agg #[iv p0.num, iv p0.den], iv p1]) 17 Tryd.func78 rfl rfl (by simp) S (fun a S => ?_)
  refine sSeq (fun K1 hK1 => ?_)
  refine sRegion ?_
  refine sBox (v := .agg #[iv p0.num, iv p0.den]) S (wN rfl) rfl rfl [iv p0.num, iv p0.den] rfl rfl (lb rfl) fun a b2 w S => ?_
  refine sMove (iv 0) S (wN rfl) (.inr rfl) rfl rfl (lb rfl) fun a S => ?_
  refine leafL (leafT (hK1 _ _ ?_))
  refine sSeq (fun K3 hK3 => ?_)
  refine sRegion ?_
  refine sMove (iv p1) S (wN rfl) (.inl rfl) rfl rfl (lb rfl) fun a S => ?_
  refine sBin (iv (w64 (2 * p1))) S (wN rfl) rfl rfl rfl (bMul _ _ _ _ 2 p1) rfl (lb rfl) fun a S => ?_
  refine sField (b := b2) (off := 0) 0 0 S (wN rfl) rfl rfl rfl rfl rfl (lb rfl) fun a S => ?_
  refine sLoad1 (p := b2) (off := 0) (T := 123) (vs := [iv p0.num, iv p0.den]) 0 (iv p0.num) S (wN rfl) rfl rfl rfl rfl rfl rfl (lb rfl) fun a S => ?_
  refine sBin (iv (w64 ((w64 (2 * p1)) * p0.num))) S (wN rfl) rfl rfl rfl (bMul _ _ _ _ (w64 (2 * p1)) p0.num) rfl (lb rfl) fun a S => ?_
  refine sField (b := b2) (off := 0) 1 1 S (wN rfl) rfl rfl rfl rfl rfl (lb rfl) fun a S => ?_
  refine sLoad1 (p := b2) (off := 1) (T := 123) (vs := [iv p0.num, iv p0.den]) 0 (iv p0.den) S (wN rfl) rfl rfl rfl rfl rfl rfl (lb rfl) fun a S => ?_
  refine sBin (iv (w64 ((w64 ((w64 (2 * p1)) * p0.num)) + p0.den))) S (wN rfl) rfl rfl rfl (bAdd _ _ _ _ (w64 ((w64 (2 * p1)) * p0.num)) p0.den) rfl (lb rfl) fun a S => ?_
  refine sField (b := b2) (off := 0) 1 1 S (wN rfl) rfl rfl rfl rfl rfl (lb rfl) fun a S => ?_
  refine sLoad1 (p := b2) (off := 1) (T := 123) (vs := [iv p0.num, iv p0.den]) 0 (iv p0.den) S (wN rfl) rfl rfl rfl rfl rfl rfl (lb rfl) fun a S => ?_
  refine sBin (iv (w64 (2 * p0.den))) S (wN rfl) rfl rfl rfl (bMul _ _ _ _ 2 p0.den) rfl (lb rfl) fun a S => ?_
  obtain ⟨z4, hx5, h⟩ := bindSome h
  refine sBin (iv z4) S (wN rfl) rfl rfl rfl (bQuo _ _ _ _ (x := w64 ((w64 ((w64 (2 * p1)) * p0.num)) + p0.den)) (y := w64 (2 * p0.den)) hx5) rfl (lb rfl) fun a S => ?_
  refine sMove (iv z4) S (wN rfl) (.inr rfl) rfl rfl (lb rfl) fun a S => ?_
  refine leafL (leafT (hK3 _ _ ?_))
  obtain rfl := Option.some.inj h
  exact wp_ret (sRet (iv z4) S (rsl1 rfl (rvT (t := 4) (v := iv z4) S rfl)) ⟨(), rfl, S.mem.sel [] [] (by decide) rfl rfl⟩)

end Go.Proofs.YtmedbnjhgkcndaaDoor
namespace Go.Proofs.YtmedbnjhgkcndaaDoor
open Go.RowKit
set_option linter.unusedVariables false

noncomputable def F_gauge_scale (p0 : api_Gauge) (p1 : gauge_ratio) (p2 : Int) (p3 : Int) (p4 : Int) : Option (Int × Int) :=
  Option.bind (F_gauge_Check p0) fun r6 =>
  if r6 != 0 then
    some (0, r6)
  else
    Option.bind (F_gauge_within p2 0 p3) fun r13 =>
    if !r13 then
      some (0, 2)
    else
      Option.bind (F_gauge_ratio_of p1 p2) fun r18 =>
      if decide (p4 < r18) then
        some (0, 16)
      else
        some (r18, 0)
set_option maxHeartbeats 4000000 in
set_option maxRecDepth 100000 in
theorem c_gauge_scale (E : Nat → Prop) (w0 : World) (p0 : api_Gauge) (v0 : Value) (p1 : gauge_ratio) (v1 : Value) (p2 : Int) (p3 : Int) (p4 : Int) (r : (Int × Int)) (h : F_gauge_scale p0 p1 p2 p3 p4 = some r) (S : St0 E [] w0 w0 [] [fRep r_api_Gauge (v0) p0, fRep r_gauge_ratio (v1) p1]) :
    Calls Tryd.prog 70 #[v0, v1, iv p2, iv p3, iv p4] w0 (Ret (X := Unit) E [] w0 (fun _ => .tuple #[.int .i64 r.1, .int .i64 r.2]) (fun _ => []) (fun _ => [])) := by
  unfold F_gauge_scale at h
  obtain rfl : v0 = .agg #[iv p0.Stitches, iv p0.Width, iv p0.Rows, iv p0.Height] := S.know (i := 0) (e := fRep r_api_Gauge (v0) p0) rfl
  obtain rfl : v1 = .agg #[iv p1.num, iv p1.den] := S.know (i := 1) (e := fRep r_gauge_ratio (v1) p1) rfl
  refine sEnter (args := [.agg #[iv p0.Stitches, iv p0.Width, iv p0.Rows, iv p0.Height], .agg #[iv p1.num, iv p1.den], iv p2, iv p3, iv p4]) 30 Tryd.func70 rfl rfl (by simp) S (fun a S => ?_)
  refine sSeq (fun K1 hK1 => ?_)
  refine sRegion ?_
  refine sBox (v := .agg #[iv p0.Stitches, iv p0.Width, iv p0.Rows, iv p0.Height]) S (wN rfl) rfl rfl [iv p0.Stitches, iv p0.Width, iv p0.Rows, iv p0.Height] rfl rfl (lb rfl) fun a b2 w S => ?_
  refine sBox (v := .agg #[iv p1.num, iv p1.den]) S (wN rfl) rfl rfl [iv p1.num, iv p1.den] rfl rfl (lb rfl) fun a b3 w S => ?_
  refine sMove (iv 0) S (wN rfl) (.inr rfl) rfl rfl (lb rfl) fun a S => ?_
  refine sMove (iv 0) S (wN rfl) (.inr rfl) rfl rfl (lb rfl) fun a S => ?_
  refine leafL (leafT (hK1 _ _ ?_))
  refine sSeq (fun K4 hK4 => ?_)
  refine sSeq (fun K5 hK5 => ?_)
  refine sRegion ?_
  refine sLoadN (p := b2) (off := 0) (T := 65) (vs := [iv p0.Stitches, iv p0.Width, iv p0.Rows, iv p0.Height]) 1 [iv p0.Stitches, iv p0.Width, iv p0.Rows, iv p0.Height] S (wN rfl) rfl rfl rfl rfl rfl rfl rfl (lb rfl) fun a S => ?_
  obtain ⟨r6, hx7, h⟩ := bindSome h
  have S1 := S.mem
  refine sCallQ (X := Unit) (f := 76) (vs := [.agg #[iv p0.Stitches, iv p0.Width, iv p0.Rows, iv p0.Height]]) (val := fun _ => iv r6) S (wN rfl) rfl callee76 rfl (S1.quiet [0] rfl) (fun E1 w1 S1 => c_gauge_Check E1 w1 p0 (.agg #[iv p0.Stitches, iv p0.Width, iv p0.Rows, iv p0.Height]) r6 hx7 S1) rfl (lb rfl) fun _ a w S => ?_
  refine sMove (iv r6) S (wN rfl) (.inr rfl) rfl rfl (lb rfl) fun a S => ?_
  refine leafL (leafT (hK5 _ _ ?_))
  refine sSeq (fun K8 hK8 => ?_)
  refine sRegion ?_
  refine sMove (iv r6) S (wN rfl) (.inl rfl) rfl rfl (lb rfl) fun a S => ?_
  refine sBin (.bool (r6 != 0)) S (wN rfl) rfl rfl rfl (bNe _ _ _ _ .i64 r6 0) rfl (lb rfl) fun a S => ?_
  refine leafL (leafT (hK8 _ _ ?_))
  rcases iteSome h with ⟨hc9, h⟩ | ⟨hc9, h⟩
  · refine sCondT S rfl hc9 ?_
    refine sSeq (fun K10 hK10 => ?_)
    refine sRegion ?_
    refine sMove (iv r6) S (wN rfl) (.inl rfl) rfl rfl (lb rfl) fun a S => ?_
    refine sMove (iv 0) S (wN rfl) (.inr rfl) rfl rfl (lb rfl) fun a S => ?_
    refine sMove (iv r6) S (wN rfl) (.inr rfl) rfl rfl (lb rfl) fun a S => ?_
    refine leafL (leafT (hK10 _ _ ?_))
    obtain rfl := Option.some.inj h
    exact wp_ret (rThen (sRet (.tuple #[iv 0, iv r6]) S (rsl2 rfl (rvT (t := 10) (v := iv 0) S rfl) (rvT (t := 11) (v := iv r6) S rfl)) ⟨(), rfl, S.mem.sel [] [] (by decide) rfl rfl⟩))
  refine sCondF S rfl hc9 ?_
  refine wp_skip (leafT (hK4 _ _ ?_))
  refine sSeq (fun K11 hK11 => ?_)
  refine sSeq (fun K12 hK12 => ?_)
  refine sRegion ?_
  refine sMove (iv p2) S (wN rfl) (.inl rfl) rfl rfl (lb rfl) fun a S => ?_
  refine sMove (iv p3) S (wN rfl) (.inl rfl) rfl rfl (lb rfl) fun a S => ?_
  obtain ⟨r13, hx14, h⟩ := bindSome h
  have S1 := S.mem
  refine sCallQ (X := Unit) (f := 77) (vs := [iv p2, iv 0, iv p3]) (val := fun _ => .bool r13) S (wN rfl) rfl callee77 rfl (S1.quiet [] rfl) (fun E1 w1 S1 => c_gauge_within E1 w1 p2 0 p3 r13 hx14 S1) rfl (lb rfl) fun _ a w S => ?_
  refine sNot (b := r13) S (wN rfl) rfl rfl rfl (lb rfl) fun a S => ?_
  refine leafL (leafT (hK12 _ _ ?_))
  rcases iteSome h with ⟨hc15, h⟩ | ⟨hc15, h⟩
  · refine sCondT S rfl hc15 ?_
    refine sSeq (fun K16 hK16 => ?_)
    refine sRegion ?_
    refine sMove (iv 0) S (wN rfl) (.inr rfl) rfl rfl (lb rfl) fun a S => ?_
    refine sMove (iv 2) S (wN rfl) (.inr rfl) rfl rfl (lb rfl) fun a S => ?_
    refine leafL (leafT (hK16 _ _ ?_))
    obtain rfl := Option.some.inj h
    exact wp_ret (rThen (sRet (.tuple #[iv 0, iv 2]) S (rsl2 rfl (rvT (t := 10) (v := iv 0) S rfl) (rvT (t := 11) (v := iv 2) S rfl)) ⟨(), rfl, S.mem.sel [] [] (by decide) rfl rfl⟩))
  refine sCondF S rfl hc15 ?_
  refine wp_skip (leafT (hK11 _ _ ?_))
  refine sSeq (fun K17 hK17 => ?_)
  refine sRegion ?_
  refine sLoadN (p := b3) (off := 0) (T := 123) (vs := [iv p1.num, iv p1.den]) 0 [iv p1.num, iv p1.den] S (wN rfl) rfl rfl rfl rfl rfl rfl rfl (lb rfl) fun a S => ?_
  refine sMove (iv p2) S (wN rfl) (.inl rfl) rfl rfl (lb rfl) fun a S => ?_
  obtain ⟨r18, hx19, h⟩ := bindSome h
  have S1 := S.mem
  refine sCallQ (X := Unit) (f := 78) (vs := [.agg #[iv p1.num, iv p1.den], iv p2]) (val := fun _ => iv r18) S (wN rfl) rfl callee78 rfl (S1.quiet [1] rfl) (fun E1 w1 S1 => c_gauge_ratio_of E1 w1 p1 (.agg #[iv p1.num, iv p1.den]) p2 r18 hx19 S1) rfl (lb rfl) fun _ a w S => ?_
  refine sMove (iv r18) S (wN rfl) (.inr rfl) rfl rfl (lb rfl) fun a S => ?_
  refine leafL (leafT (hK17 _ _ ?_))
  refine sSeq (fun K20 hK20 => ?_)
  refine sSeq (fun K21 hK21 => ?_)
  refine sRegion ?_
  refine sMove (iv r18) S (wN rfl) (.inl rfl) rfl rfl (lb rfl) fun a S => ?_
  refine sMove (iv p4) S (wN rfl) (.inl rfl) rfl rfl (lb rfl) fun a S => ?_
  refine sBin (.bool (decide (p4 < r18))) S (wN rfl) rfl rfl rfl (bGt _ _ _ _ .i64 r18 p4) rfl (lb rfl) fun a S => ?_
  refine leafL (leafT (hK21 _ _ ?_))
  rcases iteSome h with ⟨hc22, h⟩ | ⟨hc22, h⟩
  · refine sCondT S rfl hc22 ?_
    refine sSeq (fun K23 hK23 => ?_)
    refine sRegion ?_
    refine sMove (iv 0) S (wN rfl) (.inr rfl) rfl rfl (lb rfl) fun a S => ?_
    refine sMove (iv 16) S (wN rfl) (.inr rfl) rfl rfl (lb rfl) fun a S => ?_
    refine leafL (leafT (hK23 _ _ ?_))
    obtain rfl := Option.some.inj h
    exact wp_ret (rThen (sRet (.tuple #[iv 0, iv 16]) S (rsl2 rfl (rvT (t := 10) (v := iv 0) S rfl) (rvT (t := 11) (v := iv 16) S rfl)) ⟨(), rfl, S.mem.sel [] [] (by decide) rfl rfl⟩))
  refine sCondF S rfl hc22 ?_
  refine wp_skip (leafT (hK20 _ _ ?_))
  refine sSeq (fun K24 hK24 => ?_)
  refine sRegion ?_
  refine sMove (iv r18) S (wN rfl) (.inl rfl) rfl rfl (lb rfl) fun a S => ?_
  refine sMove (iv r18) S (wN rfl) (.inr rfl) rfl rfl (lb rfl) fun a S => ?_
  refine sMove (iv 0) S (wN rfl) (.inr rfl) rfl rfl (lb rfl) fun a S => ?_
  refine leafL (leafT (hK24 _ _ ?_))
  obtain rfl := Option.some.inj h
  exact wp_ret (sRet (.tuple #[iv r18, iv 0]) S (rsl2 rfl (rvT (t := 10) (v := iv r18) S rfl) (rvT (t := 11) (v := iv 0) S rfl)) ⟨(), rfl, S.mem.sel [] [] (by decide) rfl rfl⟩)

end Go.Proofs.YtmedbnjhgkcndaaDoor
namespace Go.Proofs.YtmedbnjhgkcndaaDoor
open Go.RowKit
set_option linter.unusedVariables false

noncomputable def F_gauge_Stitches (p0 : api_Gauge) (p1 : Int) : Option (Int × Int) :=
  Option.bind (F_gauge_scale p0 (gauge_ratio.mk p0.Stitches p0.Width) p1 1000000 1000000) fun r4 =>
  some (r4.1, r4.2)
set_option maxHeartbeats 4000000 in
set_option maxRecDepth 100000 in
theorem c_gauge_Stitches (E : Nat → Prop) (w0 : World) (p0 : api_Gauge) (v0 : Value) (p1 : Int) (r : (Int × Int)) (h : F_gauge_Stitches p0 p1 = some r) (S : St0 E [] w0 w0 [] [fRep r_api_Gauge (v0) p0]) :
    Calls Tryd.prog 58 #[v0, iv p1] w0 (Ret (X := Unit) E [] w0 (fun _ => .tuple #[.int .i64 r.1, .int .i64 r.2]) (fun _ => []) (fun _ => [])) := by
  unfold F_gauge_Stitches at h
  obtain rfl : v0 = .agg #[iv p0.Stitches, iv p0.Width, iv p0.Rows, iv p0.Height] := S.know (i := 0) (e := fRep r_api_Gauge (v0) p0) rfl
  refine sEnter (args := [.agg #[iv p0.Stitches, iv p0.Width, iv p0.Rows, iv p0.Height], iv p1]) 16 Tryd.func58 rfl rfl (by simp) S (fun a S => ?_)
  refine sSeq (fun K1 hK1 => ?_)
  refine sRegion ?_
  refine sBox (v := .agg #[iv p0.Stitches, iv p0.Width, iv p0.Rows, iv p0.Height]) S (wN rfl) rfl rfl [iv p0.Stitches, iv p0.Width, iv p0.Rows, iv p0.Height] rfl rfl (lb rfl) fun a b2 w S => ?_
  refine sMove (iv 0) S (wN rfl) (.inr rfl) rfl rfl (lb rfl) fun a S => ?_
  refine sMove (iv 0) S (wN rfl) (.inr rfl) rfl rfl (lb rfl) fun a S => ?_
  refine leafL (leafT (hK1 _ _ ?_))
  refine sSeq (fun K3 hK3 => ?_)
  refine sRegion ?_
  refine sLoadN (p := b2) (off := 0) (T := 65) (vs := [iv p0.Stitches, iv p0.Width, iv p0.Rows, iv p0.Height]) 0 [iv p0.Stitches, iv p0.Width, iv p0.Rows, iv p0.Height] S (wN rfl) rfl rfl rfl rfl rfl rfl rfl (lb rfl) fun a S => ?_
  refine sField (b := b2) (off := 0) 0 0 S (wN rfl) rfl rfl rfl rfl rfl (lb rfl) fun a S => ?_
  refine sLoad1 (p := b2) (off := 0) (T := 65) (vs := [iv p0.Stitches, iv p0.Width, iv p0.Rows, iv p0.Height]) 0 (iv p0.Stitches) S (wN rfl) rfl rfl rfl rfl rfl rfl (lb rfl) fun a S => ?_
  refine sField (b := b2) (off := 0) 1 1 S (wN rfl) rfl rfl rfl rfl rfl (lb rfl) fun a S => ?_
  refine sLoad1 (p := b2) (off := 1) (T := 65) (vs := [iv p0.Stitches, iv p0.Width, iv p0.Rows, iv p0.Height]) 0 (iv p0.Width) S (wN rfl) rfl rfl rfl rfl rfl rfl (lb rfl) fun a S => ?_
  refine sBuild [(0, iv p0.Stitches), (1, iv p0.Width)] [iv p0.Stitches, iv p0.Width] S (wN rfl) rfl rfl rfl rfl (lb rfl) fun a S => ?_
  refine sMove (iv p1) S (wN rfl) (.inl rfl) rfl rfl (lb rfl) fun a S => ?_
  obtain ⟨r4, hx5, h⟩ := bindSome h
  have S1 := S.mem
  have S1 := S1.learn (fRep r_gauge_ratio (.agg #[iv p0.Stitches, iv p0.Width]) (gauge_ratio.mk p0.Stitches p0.Width)) rfl
  refine sCallQ (X := Unit) (f := 70) (vs := [.agg #[iv p0.Stitches, iv p0.Width, iv p0.Rows, iv p0.Height], .agg #[iv p0.Stitches, iv p0.Width], iv p1, iv 1000000, iv 1000000]) (val := fun _ => .tuple #[iv r4.1, iv r4.2]) S (wN rfl) rfl callee70 rfl (S1.quiet [1, 0] rfl) (fun E1 w1 S1 => c_gauge_scale E1 w1 p0 (.agg #[iv p0.Stitches, iv p0.Width, iv p0.Rows, iv p0.Height]) (gauge_ratio.mk p0.Stitches p0.Width) (.agg #[iv p0.Stitches, iv p0.Width]) p1 1000000 1000000 r4 hx5 S1) rfl (lb rfl) fun _ a w S => ?_
  refine sExtract (vs := [iv r4.1, iv r4.2]) (iv r4.1) S (wN rfl) rfl rfl rfl rfl (lb rfl) fun a S => ?_
  refine sExtract (vs := [iv r4.1, iv r4.2]) (iv r4.2) S (wN rfl) rfl rfl rfl rfl (lb rfl) fun a S => ?_
  refine sMove (iv r4.1) S (wN rfl) (.inr rfl) rfl rfl (lb rfl) fun a S => ?_
  refine sMove (iv r4.2) S (wN rfl) (.inr rfl) rfl rfl (lb rfl) fun a S => ?_
  refine leafL (leafT (hK3 _ _ ?_))
  obtain rfl := Option.some.inj h
  exact wp_ret (sRet (.tuple #[iv r4.1, iv r4.2]) S (rsl2 rfl (rvT (t := 4) (v := iv r4.1) S rfl) (rvT (t := 5) (v := iv r4.2) S rfl)) ⟨(), rfl, S.mem.sel [] [] (by decide) rfl rfl⟩)

end Go.Proofs.YtmedbnjhgkcndaaDoor
namespace Go.Proofs.YtmedbnjhgkcndaaDoor
open Go.RowKit
set_option linter.unusedVariables false

noncomputable def F_gauge_Rows (p0 : api_Gauge) (p1 : Int) : Option (Int × Int) :=
  Option.bind (F_gauge_scale p0 (gauge_ratio.mk p0.Rows p0.Height) p1 1000000 1000000) fun r4 =>
  some (r4.1, r4.2)
set_option maxHeartbeats 4000000 in
set_option maxRecDepth 100000 in
theorem c_gauge_Rows (E : Nat → Prop) (w0 : World) (p0 : api_Gauge) (v0 : Value) (p1 : Int) (r : (Int × Int)) (h : F_gauge_Rows p0 p1 = some r) (S : St0 E [] w0 w0 [] [fRep r_api_Gauge (v0) p0]) :
    Calls Tryd.prog 59 #[v0, iv p1] w0 (Ret (X := Unit) E [] w0 (fun _ => .tuple #[.int .i64 r.1, .int .i64 r.2]) (fun _ => []) (fun _ => [])) := by
  unfold F_gauge_Rows at h
  obtain rfl : v0 = .agg #[iv p0.Stitches, iv p0.Width, iv p0.Rows, iv p0.Height] := S.know (i := 0) (e := fRep r_api_Gauge (v0) p0) rfl
  refine sEnter (args := [.agg #[iv p0.Stitches, iv p0.Width, iv p0.Rows, iv p0.Height], iv p1]) 16 Tryd.func59 rfl rfl (by simp) S (fun a S => ?_)
  refine sSeq (fun K1 hK1 => ?_)
  refine sRegion ?_
  refine sBox (v := .agg #[iv p0.Stitches, iv p0.Width, iv p0.Rows, iv p0.Height]) S (wN rfl) rfl rfl [iv p0.Stitches, iv p0.Width, iv p0.Rows, iv p0.Height] rfl rfl (lb rfl) fun a b2 w S => ?_
  refine sMove (iv 0) S (wN rfl) (.inr rfl) rfl rfl (lb rfl) fun a S => ?_
  refine sMove (iv 0) S (wN rfl) (.inr rfl) rfl rfl (lb rfl) fun a S => ?_
  refine leafL (leafT (hK1 _ _ ?_))
  refine sSeq (fun K3 hK3 => ?_)
  refine sRegion ?_
  refine sLoadN (p := b2) (off := 0) (T := 65) (vs := [iv p0.Stitches, iv p0.Width, iv p0.Rows, iv p0.Height]) 0 [iv p0.Stitches, iv p0.Width, iv p0.Rows, iv p0.Height] S (wN rfl) rfl rfl rfl rfl rfl rfl rfl (lb rfl) fun a S => ?_
  refine sField (b := b2) (off := 0) 2 2 S (wN rfl) rfl rfl rfl rfl rfl (lb rfl) fun a S => ?_
  refine sLoad1 (p := b2) (off := 2) (T := 65) (vs := [iv p0.Stitches, iv p0.Width, iv p0.Rows, iv p0.Height]) 0 (iv p0.Rows) S (wN rfl) rfl rfl rfl rfl rfl rfl (lb rfl) fun a S => ?_
  refine sField (b := b2) (off := 0) 3 3 S (wN rfl) rfl rfl rfl rfl rfl (lb rfl) fun a S => ?_
  refine sLoad1 (p := b2) (off := 3) (T := 65) (vs := [iv p0.Stitches, iv p0.Width, iv p0.Rows, iv p0.Height]) 0 (iv p0.Height) S (wN rfl) rfl rfl rfl rfl rfl rfl (lb rfl) fun a S => ?_
  refine sBuild [(0, iv p0.Rows), (1, iv p0.Height)] [iv p0.Rows, iv p0.Height] S (wN rfl) rfl rfl rfl rfl (lb rfl) fun a S => ?_
  refine sMove (iv p1) S (wN rfl) (.inl rfl) rfl rfl (lb rfl) fun a S => ?_
  obtain ⟨r4, hx5, h⟩ := bindSome h
  have S1 := S.mem
  have S1 := S1.learn (fRep r_gauge_ratio (.agg #[iv p0.Rows, iv p0.Height]) (gauge_ratio.mk p0.Rows p0.Height)) rfl
  refine sCallQ (X := Unit) (f := 70) (vs := [.agg #[iv p0.Stitches, iv p0.Width, iv p0.Rows, iv p0.Height], .agg #[iv p0.Rows, iv p0.Height], iv p1, iv 1000000, iv 1000000]) (val := fun _ => .tuple #[iv r4.1, iv r4.2]) S (wN rfl) rfl callee70 rfl (S1.quiet [1, 0] rfl) (fun E1 w1 S1 => c_gauge_scale E1 w1 p0 (.agg #[iv p0.Stitches, iv p0.Width, iv p0.Rows, iv p0.Height]) (gauge_ratio.mk p0.Rows p0.Height) (.agg #[iv p0.Rows, iv p0.Height]) p1 1000000 1000000 r4 hx5 S1) rfl (lb rfl) fun _ a w S => ?_
  refine sExtract (vs := [iv r4.1, iv r4.2]) (iv r4.1) S (wN rfl) rfl rfl rfl rfl (lb rfl) fun a S => ?_
  refine sExtract (vs := [iv r4.1, iv r4.2]) (iv r4.2) S (wN rfl) rfl rfl rfl rfl (lb rfl) fun a S => ?_
  refine sMove (iv r4.1) S (wN rfl) (.inr rfl) rfl rfl (lb rfl) fun a S => ?_
  refine sMove (iv r4.2) S (wN rfl) (.inr rfl) rfl rfl (lb rfl) fun a S => ?_
  refine leafL (leafT (hK3 _ _ ?_))
  obtain rfl := Option.some.inj h
  exact wp_ret (sRet (.tuple #[iv r4.1, iv r4.2]) S (rsl2 rfl (rvT (t := 4) (v := iv r4.1) S rfl) (rvT (t := 5) (v := iv r4.2) S rfl)) ⟨(), rfl, S.mem.sel [] [] (by decide) rfl rfl⟩)

end Go.Proofs.YtmedbnjhgkcndaaDoor
namespace Go.Proofs.YtmedbnjhgkcndaaDoor
open Go.RowKit
set_option linter.unusedVariables false

noncomputable def piece_place_l1 (p1 : (List api_Point)) (p0 : api_Gauge) : (List api_Point × Int) → Option ((List api_Point × Int) ⊕ (((List api_Point) × Int) ⊕ (List api_Point))) := fun s0 => match s0 with
  | (s16, s19) =>
    if decide (s19 < (p1.length : Int)) then
      Option.bind (idxO p1 s19) fun x31 =>
      Option.bind (α := Int) (
        Option.bind (α := Bool) (
          if decide (x31.X < 0) then
            some (decide ((-1000000) ≤ x31.X))
          else
            some false) fun o41 =>
        if o41 then
          some (-1)
        else
          some 1) fun o38 =>
      Option.bind (F_gauge_Stitches p0 (w64 (o38 * x31.X))) fun r47 =>
      if r47.2 != 0 then
        some (.inr (.inl (([] : (List api_Point)), r47.2)))
      else
        Option.bind (F_gauge_Rows p0 x31.Y) fun r54 =>
        if r54.2 != 0 then
          some (.inr (.inl (([] : (List api_Point)), r54.2)))
        else
          Option.bind (appO s16 [(api_Point.mk (w64 (o38 * r47.1)) r54.1)]) fun l62 =>
          some (.inl (l62, w64 (s19 + 1)))
    else
      some (.inr (.inr s16))
noncomputable def F_piece_place (p0 : api_Gauge) (p1 : (List api_Point)) : Option ((List api_Point) × Int) :=
  Option.bind (capO (p1.length : Int)) fun z8 =>
  Option.bind (α := List api_Point ⊕ ((List api_Point) × Int)) (
    Option.bind (whileO (piece_place_l1 p1 p0) (([] : List api_Point), 0)) fun z0 => match z0 with
      | .inl z =>
        some (.inr z)
      | .inr e23 =>
        some (.inl e23)) fun z0 => match z0 with
    | .inl o10 =>
      some (o10, 0)
    | .inr z =>
      some z
def c_piece_place_val (r : ((List api_Point) × Int)) (x : Value) : Value := .tuple #[x, .int .i64 r.2]
def c_piece_place_D (r : ((List api_Point) × Int)) (x : Value) : List Fact := [fRep (rL r_api_Point) x r.1]
set_option maxHeartbeats 4000000 in
set_option maxRecDepth 100000 in
theorem c_piece_place (E : Nat → Prop) (w0 : World) (p0 : api_Gauge) (v0 : Value) (p1 : (List api_Point)) (v1 : Value) (r : ((List api_Point) × Int)) (h : F_piece_place p0 p1 = some r) (S : St0 E [] w0 w0 [] [fRep r_api_Gauge (v0) p0, fRep (rL r_api_Point) (v1) p1]) :
    Calls Tryd.prog 47 #[v0, v1] w0 (Ret (X := Value) E [] w0 (c_piece_place_val r) (fun _ => []) (c_piece_place_D r)) := by
  unfold F_piece_place at h
  obtain rfl : v0 = .agg #[iv p0.Stitches, iv p0.Width, iv p0.Rows, iv p0.Height] := S.know (i := 0) (e := fRep r_api_Gauge (v0) p0) rfl
  obtain ⟨ad1, cp2, _, rfl, _⟩ := S.know (i := 1) (e := fRep (rL r_api_Point) (v1) p1) rfl
  refine sEnter (args := [.agg #[iv p0.Stitches, iv p0.Width, iv p0.Rows, iv p0.Height], .slice ad1 p1.length cp2]) 62 Tryd.func47 rfl rfl (by simp) S (fun a S => ?_)
  refine sSeq (fun K3 hK3 => ?_)
  refine sRegion ?_
  refine sBox (v := .agg #[iv p0.Stitches, iv p0.Width, iv p0.Rows, iv p0.Height]) S (wN rfl) rfl rfl [iv p0.Stitches, iv p0.Width, iv p0.Rows, iv p0.Height] rfl rfl (lb rfl) fun a b4 w S => ?_
  refine sMove (.slice none 0 0) S (wN rfl) (.inr rfl) rfl rfl (lb rfl) fun a S => ?_
  refine sMove (iv 0) S (wN rfl) (.inr rfl) rfl rfl (lb rfl) fun a S => ?_
  refine leafL (leafT (hK3 _ _ ?_))
  refine sSeq (fun K5 hK5 => ?_)
  refine sRegion ?_
  refine sMove (.slice ad1 p1.length cp2) S (wN rfl) (.inl rfl) rfl rfl (lb rfl) fun a S => ?_
  refine sLen (ad := ad1) (m := p1.length) (c := cp2) S (wN rfl) rfl Tryd.underlying22 rfl rfl (lb rfl) fun a S => ?_
  obtain ⟨z8, hx9, h⟩ := bindSome h
  refine sMake0 r_api_Point (m := (p1.length : Int)) (u := z8) (.agg #[iv 0, iv 0]) 16 S (wN rfl) rfl Tryd.underlying22 rfl (by decide) rfl rfl hx9 rfl (lb rfl) fun a w ad6 cp7 S => ?_
  refine sMove (.slice ad6 ([] : List api_Point).length cp7) S (wN rfl) (.inr rfl) rfl rfl (lb rfl) fun a S => ?_
  refine leafL (leafT (hK5 _ _ ?_))
  obtain ⟨t13, h, g14⟩ := bindSome h
  refine sCut (fun a w => ∃ o10, .inl o10 = t13 ∧ ∃ ad11, ∃ cp12, St [] E [] w0 62 a w [(6, .slice ad11 o10.length cp12)] [eRow r_api_Point 35 (.slice ad11 o10.length cp12) o10] []) ?_ (fun a w hI => ?_)
  rotate_left
  · obtain ⟨o10, rfl, ad11, cp12, S⟩ := hI
    have h := g14
    clear g14
    try dsimp only at h
    refine sSeq (fun K66 hK66 => ?_)
    refine sRegion ?_
    refine sMove (.slice ad11 o10.length cp12) S (wN rfl) (.inl rfl) rfl rfl (lb rfl) fun a S => ?_
    refine sMove (.slice ad11 o10.length cp12) S (wN rfl) (.inr rfl) rfl rfl (lb rfl) fun a S => ?_
    refine sMove (iv 0) S (wN rfl) (.inr rfl) rfl rfl (lb rfl) fun a S => ?_
    refine leafL (leafT (hK66 _ _ ?_))
    obtain rfl := Option.some.inj h
    have S := S.shutR (r := r_api_Point) (T := 35) (v := .slice ad11 o10.length cp12) (xs := o10) 0 rfl
    exact wp_ret (sRet (.tuple #[.slice ad11 o10.length cp12, iv 0]) S (rsl2 rfl (rvT (t := 4) (v := .slice ad11 o10.length cp12) S rfl) (rvT (t := 5) (v := iv 0) S rfl)) ⟨(.slice ad11 o10.length cp12), rfl, S.mem.sel [] [0] (by decide) rfl rfl⟩)
  refine sSeq (fun K15 hK15 => ?_)
  refine sRegion ?_
  refine sMove (.slice ad1 p1.length cp2) S (wN rfl) (.inl rfl) rfl rfl (lb rfl) fun a S => ?_
  refine sLen (ad := ad1) (m := p1.length) (c := cp2) S (wN rfl) rfl Tryd.underlying22 rfl rfl (lb rfl) fun a S => ?_
  refine sMove (iv 0) S (wN rfl) (.inl rfl) rfl rfl (lb rfl) fun a S => ?_
  refine leafL (leafT (hK15 _ _ ?_))
  refine wp_block ?_
  obtain ⟨t22, hl, g21⟩ := bindSome h
  refine sLoop hl (fun s0 a w => match s0 with | (s16, s19) => ∃ ad17, ∃ cp18, St [] E [] w0 62 a w [(2, .pointer (some ⟨b4, 0, none⟩)), (6, .slice ad17 s16.length cp18), (16, .slice ad1 p1.length cp2), (17, iv (p1.length : Int)), (18, iv s19)] [eBox b4 65 [iv p0.Stitches, iv p0.Width, iv p0.Rows, iv p0.Height], eRow r_api_Point 35 (.slice ad17 s16.length cp18) s16] [fRep (rL r_api_Point) (.slice ad1 p1.length cp2) p1]) ⟨ad6, cp7, S.fix [1, 0] [1] (by decide) rfl rfl rfl⟩ ?_
  clear hl h
  intro s0 a w c0 hI h hu20
  obtain ⟨s16, s19⟩ := s0
  unfold piece_place_l1 at h
  dsimp only at h hI
  obtain ⟨ad17, cp18, S⟩ := hI
  refine sSeq (fun K26 hK26 => ?_)
  refine sRegion ?_
  refine sBin (.bool (decide (s19 < (p1.length : Int)))) S (wN rfl) rfl rfl rfl (bLt _ _ _ _ .i64 s19 (p1.length : Int)) rfl (lb rfl) fun a S => ?_
  refine leafL (leafT (hK26 _ _ ?_))
  refine sSeq (fun K27 hK27 => ?_)
  rcases iteSome h with ⟨hc28, h⟩ | ⟨hc28, h⟩
  rotate_left
  · refine sCondF S rfl hc28 ?_
    obtain rfl := Option.some.inj h
    obtain rfl := hu20 _ rfl
    have h := g21
    clear g21
    try dsimp only at h
    exact wp_exit (xThen (xThen (xHit (leafT (⟨s16, Option.some.inj h, ad17, cp18, S.fix [1] [] (by decide) rfl rfl rfl⟩)))))
  refine sCondT S rfl hc28 ?_
  refine wp_skip (leafT (hK27 _ _ ?_))
  refine sSeq (fun K29 hK29 => ?_)
  refine wp_block ?_
  refine sSeq (fun K30 hK30 => ?_)
  refine sRegion ?_
  obtain ⟨x31, hx32, h⟩ := bindSome h
  obtain ⟨q33, hq34, S⟩ := pIdx (P := Tryd.prog) (r := r_api_Point) (v := .slice ad1 p1.length cp2) (xs := p1) (j := s19) 22 35 0 S Tryd.underlying22 rfl rfl hx32
  refine sIdxV (v := .slice ad1 p1.length cp2) (k := .i64) (j := s19) S (wN rfl) rfl rfl rfl hq34 rfl (lb rfl) fun a S => ?_
  obtain ⟨u35, S⟩ := pLoad (r := r_api_Point) (q := q33) (x := x31) 0 S rfl
  obtain rfl : u35 = .agg #[iv x31.X, iv x31.Y] := S.mem.know (i := 1) (e := fRep r_api_Point (u35) x31) rfl
  refine sLoadVN (vq := q33) 0 [iv x31.X, iv x31.Y] S (wN rfl) rfl rfl rfl rfl rfl rfl (lb rfl) fun a S => ?_
  refine sAlloc (.agg #[iv 0, iv 0]) S (wN rfl) rfl rfl [iv 0, iv 0] rfl rfl (lb rfl) fun a b36 w S => ?_
  refine sStore (p := b36) (off := 0) (T := 35) (vs := [iv 0, iv 0]) (v := .agg #[iv x31.X, iv x31.Y]) 0 [iv x31.X, iv x31.Y] S (wN rfl) rfl rfl rfl rfl rfl rfl rfl (by simp) rfl fun a w S => ?_
  refine leafL (leafT (hK30 _ _ ?_))
  refine sSeq (fun K37 hK37 => ?_)
  refine sRegion ?_
  refine sMove (iv 1) S (wN rfl) (.inr rfl) rfl rfl (lb rfl) fun a S => ?_
  refine leafL (leafT (hK37 _ _ ?_))
  obtain ⟨t39, h, g40⟩ := bindSome h
  refine sCut (fun a w => ∃ o38, o38 = t39 ∧ St [] E [] w0 62 a w [(2, .pointer (some ⟨b4, 0, none⟩)), (6, .slice ad17 s16.length cp18), (8, .pointer (some ⟨b36, 0, none⟩)), (9, iv o38), (16, .slice ad1 p1.length cp2), (17, iv (p1.length : Int)), (18, iv s19)] [eBox b4 65 [iv p0.Stitches, iv p0.Width, iv p0.Rows, iv p0.Height], eBox b36 35 [iv x31.X, iv x31.Y], eRow r_api_Point 35 (.slice ad17 s16.length cp18) s16] [fRep (rL r_api_Point) (.slice ad1 p1.length cp2) p1]) ?_ (fun a w hI => ?_)
  · obtain ⟨t42, h, g43⟩ := bindSome h
    refine sCut (fun a w => ∃ o41, o41 = t42 ∧ St [] E [] w0 62 a w [(2, .pointer (some ⟨b4, 0, none⟩)), (6, .slice ad17 s16.length cp18), (8, .pointer (some ⟨b36, 0, none⟩)), (9, iv 1), (16, .slice ad1 p1.length cp2), (17, iv (p1.length : Int)), (18, iv s19), (29, .bool o41)] [eBox b4 65 [iv p0.Stitches, iv p0.Width, iv p0.Rows, iv p0.Height], eBox b36 35 [iv x31.X, iv x31.Y], eRow r_api_Point 35 (.slice ad17 s16.length cp18) s16] [fRep (rL r_api_Point) (.slice ad1 p1.length cp2) p1]) ?_ (fun a w hI => ?_)
    rotate_left
    · obtain ⟨o41, rfl, S⟩ := hI
      have h := g43
      clear g43
      try dsimp only at h
      rcases iteSome h with ⟨hc45, h⟩ | ⟨hc45, h⟩
      rotate_left
      · refine sCondF S rfl hc45 ?_
        exact wp_skip (leafT (⟨1, Option.some.inj h, S.fix [0, 1, 2] [0] (by decide) rfl rfl rfl⟩))
      refine sCondT S rfl hc45 ?_
      refine sRegion ?_
      refine sMove (iv (-1)) S (wN rfl) (.inr rfl) rfl rfl (lb rfl) fun a S => ?_
      exact leafL (leafT (⟨(-1), Option.some.inj h, S.fix [0, 1, 2] [0] (by decide) rfl rfl rfl⟩))
    refine sRegion ?_
    refine sField (b := b36) (off := 0) 0 0 S (wN rfl) rfl rfl rfl rfl rfl (lb rfl) fun a S => ?_
    refine sLoad1 (p := b36) (off := 0) (T := 35) (vs := [iv x31.X, iv x31.Y]) 0 (iv x31.X) S (wN rfl) rfl rfl rfl rfl rfl rfl (lb rfl) fun a S => ?_
    refine sBin (.bool (decide (x31.X < 0))) S (wN rfl) rfl rfl rfl (bLt _ _ _ _ .i64 x31.X 0) rfl (lb rfl) fun a S => ?_
    refine sMove (.bool (decide (x31.X < 0))) S (wN rfl) (.inl rfl) rfl rfl (lb rfl) fun a S => ?_
    rcases iteSome h with ⟨hc44, h⟩ | ⟨hc44, h⟩
    rotate_left
    · refine sSkip 3 true 25 26 S rfl rfl rfl hc44 rfl (lb rfl) fun a S => ?_
      refine sSkip 3 true 25 27 S rfl rfl rfl hc44 rfl (lb rfl) fun a S => ?_
      refine sSkip 3 true 25 28 S rfl rfl rfl hc44 rfl (lb rfl) fun a S => ?_
      refine sPickF (.bool false) S (wN rfl) rfl rfl hc44 rfl rfl (lb rfl) fun a S => ?_
      exact leafL (leafT (⟨false, Option.some.inj h, S.fix [1, 0, 2] [3] (by decide) rfl rfl rfl⟩))
    refine sField (b := b36) (off := 0) 0 0 S (wG 3 true 25 rfl rfl rfl hc44) rfl rfl rfl rfl rfl (lb rfl) fun a S => ?_
    refine sLoad1 (p := b36) (off := 0) (T := 35) (vs := [iv x31.X, iv x31.Y]) 0 (iv x31.X) S (wG 3 true 25 rfl rfl rfl hc44) rfl rfl rfl rfl rfl rfl (lb rfl) fun a S => ?_
    refine sBin (.bool (decide ((-1000000) ≤ x31.X))) S (wG 3 true 25 rfl rfl rfl hc44) rfl rfl rfl (bGe _ _ _ _ .i64 x31.X (-1000000)) rfl (lb rfl) fun a S => ?_
    refine sPickT (.bool (decide ((-1000000) ≤ x31.X))) S (wN rfl) rfl rfl hc44 rfl rfl (lb rfl) fun a S => ?_
    exact leafL (leafT (⟨decide ((-1000000) ≤ x31.X), Option.some.inj h, S.fix [1, 0, 2] [3] (by decide) rfl rfl rfl⟩))
  obtain ⟨o38, rfl, S⟩ := hI
  have h := g40
  clear g40
  try dsimp only at h
  refine sSeq (fun K46 hK46 => ?_)
  refine sRegion ?_
  refine sLoadN (p := b4) (off := 0) (T := 65) (vs := [iv p0.Stitches, iv p0.Width, iv p0.Rows, iv p0.Height]) 0 [iv p0.Stitches, iv p0.Width, iv p0.Rows, iv p0.Height] S (wN rfl) rfl rfl rfl rfl rfl rfl rfl (lb rfl) fun a S => ?_
  refine sMove (iv o38) S (wN rfl) (.inl rfl) rfl rfl (lb rfl) fun a S => ?_
  refine sField (b := b36) (off := 0) 0 0 S (wN rfl) rfl rfl rfl rfl rfl (lb rfl) fun a S => ?_
  refine sLoad1 (p := b36) (off := 0) (T := 35) (vs := [iv x31.X, iv x31.Y]) 1 (iv x31.X) S (wN rfl) rfl rfl rfl rfl rfl rfl (lb rfl) fun a S => ?_
  refine sBin (iv (w64 (o38 * x31.X))) S (wN rfl) rfl rfl rfl (bMul _ _ _ _ o38 x31.X) rfl (lb rfl) fun a S => ?_
  obtain ⟨r47, hx48, h⟩ := bindSome h
  have S1 := S.mem
  have S1 := S1.learn (fRep r_api_Gauge (.agg #[iv p0.Stitches, iv p0.Width, iv p0.Rows, iv p0.Height]) p0) rfl
  refine sCallQ (X := Unit) (f := 58) (vs := [.agg #[iv p0.Stitches, iv p0.Width, iv p0.Rows, iv p0.Height], iv (w64 (o38 * x31.X))]) (val := fun _ => .tuple #[iv r47.1, iv r47.2]) S (wN rfl) rfl callee58 rfl (S1.quiet [0] rfl) (fun E1 w1 S1 => c_gauge_Stitches E1 w1 p0 (.agg #[iv p0.Stitches, iv p0.Width, iv p0.Rows, iv p0.Height]) (w64 (o38 * x31.X)) r47 hx48 S1) rfl (lb rfl) fun _ a w S => ?_
  refine sMove (.tuple #[iv r47.1, iv r47.2]) S (wN rfl) (.inl rfl) rfl rfl (lb rfl) fun a S => ?_
  refine sExtract (vs := [iv r47.1, iv r47.2]) (iv r47.1) S (wN rfl) rfl rfl rfl rfl (lb rfl) fun a S => ?_
  refine sExtract (vs := [iv r47.1, iv r47.2]) (iv r47.2) S (wN rfl) rfl rfl rfl rfl (lb rfl) fun a S => ?_
  refine sMove (iv r47.1) S (wN rfl) (.inr rfl) rfl rfl (lb rfl) fun a S => ?_
  refine sMove (iv r47.2) S (wN rfl) (.inr rfl) rfl rfl (lb rfl) fun a S => ?_
  refine leafL (leafT (hK46 _ _ ?_))
  refine sSeq (fun K49 hK49 => ?_)
  refine sSeq (fun K50 hK50 => ?_)
  refine sRegion ?_
  refine sMove (iv r47.2) S (wN rfl) (.inl rfl) rfl rfl (lb rfl) fun a S => ?_
  refine sBin (.bool (r47.2 != 0)) S (wN rfl) rfl rfl rfl (bNe _ _ _ _ .i64 r47.2 0) rfl (lb rfl) fun a S => ?_
  refine leafL (leafT (hK50 _ _ ?_))
  rcases iteSome h with ⟨hc51, h⟩ | ⟨hc51, h⟩
  · refine sCondT S rfl hc51 ?_
    refine sSeq (fun K52 hK52 => ?_)
    refine sRegion ?_
    refine sMove (iv r47.2) S (wN rfl) (.inl rfl) rfl rfl (lb rfl) fun a S => ?_
    refine sMove (.slice none 0 0) S (wN rfl) (.inr rfl) rfl rfl (lb rfl) fun a S => ?_
    refine sMove (iv r47.2) S (wN rfl) (.inr rfl) rfl rfl (lb rfl) fun a S => ?_
    refine leafL (leafT (hK52 _ _ ?_))
    obtain rfl := Option.some.inj h
    obtain rfl := hu20 _ rfl
    have h := g21
    clear g21
    try dsimp only at h
    obtain rfl := Option.some.inj h
    have h := g14
    clear g14
    try dsimp only at h
    obtain rfl := Option.some.inj h
    have S := S.learn (fRep (rL r_api_Point) (.slice none 0 0) ([] : (List api_Point))) (rL_nil _ _ _)
    exact wp_ret (rThen (rBlock (rThen (rThen (rBlock (rThen (sRet (.tuple #[.slice none 0 0, iv r47.2]) S (rsl2 rfl (rvT (t := 4) (v := .slice none 0 0) S rfl) (rvT (t := 5) (v := iv r47.2) S rfl)) ⟨(.slice none 0 0), rfl, S.mem.sel [] [0] (by decide) rfl rfl⟩)))))))
  refine sCondF S rfl hc51 ?_
  refine wp_skip (leafT (hK49 _ _ ?_))
  refine sSeq (fun K53 hK53 => ?_)
  refine sRegion ?_
  refine sLoadN (p := b4) (off := 0) (T := 65) (vs := [iv p0.Stitches, iv p0.Width, iv p0.Rows, iv p0.Height]) 0 [iv p0.Stitches, iv p0.Width, iv p0.Rows, iv p0.Height] S (wN rfl) rfl rfl rfl rfl rfl rfl rfl (lb rfl) fun a S => ?_
  refine sField (b := b36) (off := 0) 1 1 S (wN rfl) rfl rfl rfl rfl rfl (lb rfl) fun a S => ?_
  refine sLoad1 (p := b36) (off := 1) (T := 35) (vs := [iv x31.X, iv x31.Y]) 1 (iv x31.Y) S (wN rfl) rfl rfl rfl rfl rfl rfl (lb rfl) fun a S => ?_
  obtain ⟨r54, hx55, h⟩ := bindSome h
  have S1 := S.mem
  have S1 := S1.learn (fRep r_api_Gauge (.agg #[iv p0.Stitches, iv p0.Width, iv p0.Rows, iv p0.Height]) p0) rfl
  refine sCallQ (X := Unit) (f := 59) (vs := [.agg #[iv p0.Stitches, iv p0.Width, iv p0.Rows, iv p0.Height], iv x31.Y]) (val := fun _ => .tuple #[iv r54.1, iv r54.2]) S (wN rfl) rfl callee59 rfl (S1.quiet [0] rfl) (fun E1 w1 S1 => c_gauge_Rows E1 w1 p0 (.agg #[iv p0.Stitches, iv p0.Width, iv p0.Rows, iv p0.Height]) x31.Y r54 hx55 S1) rfl (lb rfl) fun _ a w S => ?_
  refine sMove (.tuple #[iv r54.1, iv r54.2]) S (wN rfl) (.inl rfl) rfl rfl (lb rfl) fun a S => ?_
  refine sExtract (vs := [iv r54.1, iv r54.2]) (iv r54.1) S (wN rfl) rfl rfl rfl rfl (lb rfl) fun a S => ?_
  refine sExtract (vs := [iv r54.1, iv r54.2]) (iv r54.2) S (wN rfl) rfl rfl rfl rfl (lb rfl) fun a S => ?_
  refine sMove (iv r54.1) S (wN rfl) (.inr rfl) rfl rfl (lb rfl) fun a S => ?_
  refine sMove (iv r54.2) S (wN rfl) (.inr rfl) rfl rfl (lb rfl) fun a S => ?_
  refine leafL (leafT (hK53 _ _ ?_))
  refine sSeq (fun K56 hK56 => ?_)
  refine sSeq (fun K57 hK57 => ?_)
  refine sRegion ?_
  refine sMove (iv r54.2) S (wN rfl) (.inl rfl) rfl rfl (lb rfl) fun a S => ?_
  refine sBin (.bool (r54.2 != 0)) S (wN rfl) rfl rfl rfl (bNe _ _ _ _ .i64 r54.2 0) rfl (lb rfl) fun a S => ?_
  refine leafL (leafT (hK57 _ _ ?_))
  rcases iteSome h with ⟨hc58, h⟩ | ⟨hc58, h⟩
  · refine sCondT S rfl hc58 ?_
    refine sSeq (fun K59 hK59 => ?_)
    refine sRegion ?_
    refine sMove (iv r54.2) S (wN rfl) (.inl rfl) rfl rfl (lb rfl) fun a S => ?_
    refine sMove (.slice none 0 0) S (wN rfl) (.inr rfl) rfl rfl (lb rfl) fun a S => ?_
    refine sMove (iv r54.2) S (wN rfl) (.inr rfl) rfl rfl (lb rfl) fun a S => ?_
    refine leafL (leafT (hK59 _ _ ?_))
    obtain rfl := Option.some.inj h
    obtain rfl := hu20 _ rfl
    have h := g21
    clear g21
    try dsimp only at h
    obtain rfl := Option.some.inj h
    have h := g14
    clear g14
    try dsimp only at h
    obtain rfl := Option.some.inj h
    have S := S.learn (fRep (rL r_api_Point) (.slice none 0 0) ([] : (List api_Point))) (rL_nil _ _ _)
    exact wp_ret (rThen (rBlock (rThen (rThen (rBlock (rThen (sRet (.tuple #[.slice none 0 0, iv r54.2]) S (rsl2 rfl (rvT (t := 4) (v := .slice none 0 0) S rfl) (rvT (t := 5) (v := iv r54.2) S rfl)) ⟨(.slice none 0 0), rfl, S.mem.sel [] [0] (by decide) rfl rfl⟩)))))))
  refine sCondF S rfl hc58 ?_
  refine wp_skip (leafT (hK56 _ _ ?_))
  refine sRegion ?_
  refine sMove (.slice ad17 s16.length cp18) S (wN rfl) (.inl rfl) rfl rfl (lb rfl) fun a S => ?_
  refine sMove (iv o38) S (wN rfl) (.inl rfl) rfl rfl (lb rfl) fun a S => ?_
  refine sMove (iv r47.1) S (wN rfl) (.inl rfl) rfl rfl (lb rfl) fun a S => ?_
  refine sBin (iv (w64 (o38 * r47.1))) S (wN rfl) rfl rfl rfl (bMul _ _ _ _ o38 r47.1) rfl (lb rfl) fun a S => ?_
  refine sMove (iv r54.1) S (wN rfl) (.inl rfl) rfl rfl (lb rfl) fun a S => ?_
  refine sBuild [(0, iv (w64 (o38 * r47.1))), (1, iv r54.1)] [iv (w64 (o38 * r47.1)), iv r54.1] S (wN rfl) rfl rfl rfl rfl (lb rfl) fun a S => ?_
  have S := S.learn (fRep r_api_Point (.agg #[iv (w64 (o38 * r47.1)), iv r54.1]) (api_Point.mk (w64 (o38 * r47.1)) r54.1)) rfl
  refine sLit (r := r_api_Point) (T := 35) (xs := [(api_Point.mk (w64 (o38 * r47.1)) r54.1)]) [(0, .agg #[iv (w64 (o38 * r47.1)), iv r54.1])] 1 [.agg #[iv (w64 (o38 * r47.1)), iv r54.1]] [iv (w64 (o38 * r47.1)), iv r54.1] (.agg #[iv 0, iv 0]) 16 S (wN rfl) rfl rfl Tryd.underlying22 rfl (by decide) (by decide) (by kernel_rfl) rfl (fun E1 w1 hE => All.cons (r_api_Point.mono hE (S.mem.know (i := 0) (e := fRep r_api_Point (.agg #[iv (w64 (o38 * r47.1)), iv r54.1]) (api_Point.mk (w64 (o38 * r47.1)) r54.1)) rfl)) (All.nil _ _ _)) rfl rfl (lb rfl) fun a w ad60 cp61 S => ?_
  obtain ⟨l62, hx63, h⟩ := bindSome h
  refine sApp (r := r_api_Point) (T := 35) (xs := s16) (ys := [(api_Point.mk (w64 (o38 * r47.1)) r54.1)]) (v := .slice ad17 s16.length cp18) (u := .slice ad60 [(api_Point.mk (w64 (o38 * r47.1)) r54.1)].length cp61) 3 (.agg #[iv 0, iv 0]) 16 S (wN rfl) rfl Tryd.underlying22 rfl rfl (by decide) rfl rfl rfl (src_R (T := 35) 0 S.mem rfl) hx63 rfl (lb rfl) fun a w ad64 cp65 S => ?_
  refine sMove (.slice ad64 l62.length cp65) S (wN rfl) (.inr rfl) rfl rfl (lb rfl) fun a S => ?_
  refine leafL (leafB (leafT (hK29 _ _ ?_)))
  refine sRegion ?_
  refine sBin (iv (w64 (s19 + 1))) S (wN rfl) rfl rfl rfl (bAdd _ _ _ _ s19 1) rfl (lb rfl) fun a S => ?_
  refine sMove (iv (w64 (s19 + 1))) S (wN rfl) (.inl rfl) rfl rfl (lb rfl) fun a S => ?_
  exact leafL (leafT (⟨(l62, w64 (s19 + 1)), (Option.some.inj h).symm, ⟨ad64, cp65, S.fix [2, 0] [1] (by decide) rfl rfl rfl⟩⟩))

end Go.Proofs.YtmedbnjhgkcndaaDoor
namespace Go.Proofs.YtmedbnjhgkcndaaDoor
open Go.RowKit
set_option linter.unusedVariables false

noncomputable def F_piece_Measure (p0 : api_Gauge) (p1 : (List api_Point)) (p2 : (List api_Point)) : Option (api_Shape × Int) :=
  Option.bind (F_piece_place p0 p1) fun r13 =>
  if r13.2 != 0 then
    some ((api_Shape.mk ([] : (List api_Point)) ([] : (List api_Point))), r13.2)
  else
    Option.bind (F_piece_place p0 p2) fun r23 =>
    if r23.2 != 0 then
      some ((api_Shape.mk ([] : (List api_Point)) ([] : (List api_Point))), r23.2)
    else
      Option.bind (F_piece_shape (api_Shape.mk r13.1 r23.1)) fun r33 =>
      if r33 != 0 then
        some ((api_Shape.mk ([] : (List api_Point)) ([] : (List api_Point))), r33)
      else
        some ((api_Shape.mk r13.1 r23.1), 0)
def c_piece_Measure_val (r : (api_Shape × Int)) (x : Value) : Value := .tuple #[x, .int .i64 r.2]
def c_piece_Measure_D (r : (api_Shape × Int)) (x : Value) : List Fact := [fRep r_api_Shape x r.1]
set_option maxHeartbeats 4000000 in
set_option maxRecDepth 100000 in
theorem c_piece_Measure (E : Nat → Prop) (w0 : World) (p0 : api_Gauge) (v0 : Value) (p1 : (List api_Point)) (v1 : Value) (p2 : (List api_Point)) (v2 : Value) (r : (api_Shape × Int)) (h : F_piece_Measure p0 p1 p2 = some r) (S : St0 E [] w0 w0 [] [fRep r_api_Gauge (v0) p0, fRep (rL r_api_Point) (v1) p1, fRep (rL r_api_Point) (v2) p2]) :
    Calls Tryd.prog 28 #[v0, v1, v2] w0 (Ret (X := Value) E [] w0 (c_piece_Measure_val r) (fun _ => []) (c_piece_Measure_D r)) := by
  unfold F_piece_Measure at h
  obtain rfl : v0 = .agg #[iv p0.Stitches, iv p0.Width, iv p0.Rows, iv p0.Height] := S.know (i := 0) (e := fRep r_api_Gauge (v0) p0) rfl
  obtain ⟨ad1, cp2, _, rfl, _⟩ := S.know (i := 1) (e := fRep (rL r_api_Point) (v1) p1) rfl
  obtain ⟨ad3, cp4, _, rfl, _⟩ := S.know (i := 2) (e := fRep (rL r_api_Point) (v2) p2) rfl
  refine sEnter (args := [.agg #[iv p0.Stitches, iv p0.Width, iv p0.Rows, iv p0.Height], .slice ad1 p1.length cp2, .slice ad3 p2.length cp4]) 39 Tryd.func28 rfl rfl (by simp) S (fun a S => ?_)
  refine sSeq (fun K5 hK5 => ?_)
  refine sRegion ?_
  refine sBox (v := .agg #[iv p0.Stitches, iv p0.Width, iv p0.Rows, iv p0.Height]) S (wN rfl) rfl rfl [iv p0.Stitches, iv p0.Width, iv p0.Rows, iv p0.Height] rfl rfl (lb rfl) fun a b6 w S => ?_
  refine sAlloc (.agg #[.slice none 0 0, .slice none 0 0]) S (wN rfl) rfl rfl [.slice none 0 0, .slice none 0 0] rfl rfl (lb rfl) fun a b7 w S => ?_
  refine sMove (iv 0) S (wN rfl) (.inr rfl) rfl rfl (lb rfl) fun a S => ?_
  refine leafL (leafT (hK5 _ _ ?_))
  refine sSeq (fun K8 hK8 => ?_)
  refine sRegion ?_
  refine sAlloc (.agg #[.slice none 0 0, .slice none 0 0]) S (wN rfl) rfl rfl [.slice none 0 0, .slice none 0 0] rfl rfl (lb rfl) fun a b9 w S => ?_
  refine leafL (leafT (hK8 _ _ ?_))
  refine sSeq (fun K10 hK10 => ?_)
  refine sRegion ?_
  refine sMove (iv 0) S (wN rfl) (.inr rfl) rfl rfl (lb rfl) fun a S => ?_
  refine leafL (leafT (hK10 _ _ ?_))
  refine sSeq (fun K11 hK11 => ?_)
  refine sSeq (fun K12 hK12 => ?_)
  refine sRegion ?_
  refine sLoadN (p := b6) (off := 0) (T := 65) (vs := [iv p0.Stitches, iv p0.Width, iv p0.Rows, iv p0.Height]) 2 [iv p0.Stitches, iv p0.Width, iv p0.Rows, iv p0.Height] S (wN rfl) rfl rfl rfl rfl rfl rfl rfl (lb rfl) fun a S => ?_
  refine sMove (.slice ad1 p1.length cp2) S (wN rfl) (.inl rfl) rfl rfl (lb rfl) fun a S => ?_
  obtain ⟨r13, hx14, h⟩ := bindSome h
  refine sCall (X := Value) (f := 47) (vs := [.agg #[iv p0.Stitches, iv p0.Width, iv p0.Rows, iv p0.Height], .slice ad1 p1.length cp2]) (val := c_piece_place_val r13) (B' := fun _ => []) (D' := c_piece_place_D r13) [] [eBox b9 24 [.slice none 0 0, .slice none 0 0], eBox b7 24 [.slice none 0 0, .slice none 0 0], eBox b6 65 [iv p0.Stitches, iv p0.Width, iv p0.Rows, iv p0.Height]] [fRep r_api_Gauge (.agg #[iv p0.Stitches, iv p0.Width, iv p0.Rows, iv p0.Height]) p0, fRep (rL r_api_Point) (.slice ad1 p1.length cp2) p1] [0, 1, 2] [0, 1] S (wN rfl) rfl callee47 rfl (by decide) rfl rfl (fun E1 w1 S1 => c_piece_place E1 w1 p0 (.agg #[iv p0.Stitches, iv p0.Width, iv p0.Rows, iv p0.Height]) p1 (.slice ad1 p1.length cp2) r13 hx14 S1) rfl (lb rfl) fun u15 a w S => ?_
  obtain ⟨ad16, cp17, _, rfl, _⟩ := S.mem.know (i := 0) (e := fRep (rL r_api_Point) (u15) r13.1) rfl
  refine sMove (.tuple #[.slice ad16 r13.1.length cp17, iv r13.2]) S (wN rfl) (.inl rfl) rfl rfl (lb rfl) fun a S => ?_
  refine sExtract (vs := [.slice ad16 r13.1.length cp17, iv r13.2]) (.slice ad16 r13.1.length cp17) S (wN rfl) rfl rfl rfl rfl (lb rfl) fun a S => ?_
  refine sExtract (vs := [.slice ad16 r13.1.length cp17, iv r13.2]) (iv r13.2) S (wN rfl) rfl rfl rfl rfl (lb rfl) fun a S => ?_
  refine sField (b := b9) (off := 0) 0 0 S (wN rfl) rfl rfl rfl rfl rfl (lb rfl) fun a S => ?_
  refine sStore (p := b9) (off := 0) (T := 24) (vs := [.slice none 0 0, .slice none 0 0]) (v := .slice ad16 r13.1.length cp17) 0 [.slice ad16 r13.1.length cp17] S (wN rfl) rfl rfl rfl rfl rfl rfl rfl (by simp) rfl fun a w S => ?_
  refine sMove (iv r13.2) S (wN rfl) (.inr rfl) rfl rfl (lb rfl) fun a S => ?_
  refine leafL (leafT (hK12 _ _ ?_))
  refine sSeq (fun K18 hK18 => ?_)
  refine sRegion ?_
  refine sMove (iv r13.2) S (wN rfl) (.inl rfl) rfl rfl (lb rfl) fun a S => ?_
  refine sBin (.bool (r13.2 != 0)) S (wN rfl) rfl rfl rfl (bNe _ _ _ _ .i64 r13.2 0) rfl (lb rfl) fun a S => ?_
  refine leafL (leafT (hK18 _ _ ?_))
  rcases iteSome h with ⟨hc19, h⟩ | ⟨hc19, h⟩
  · refine sCondT S rfl hc19 ?_
    refine sSeq (fun K20 hK20 => ?_)
    refine sRegion ?_
    refine sBuild [] [.slice none 0 0, .slice none 0 0] S (wN rfl) rfl rfl rfl rfl (lb rfl) fun a S => ?_
    refine sMove (iv r13.2) S (wN rfl) (.inl rfl) rfl rfl (lb rfl) fun a S => ?_
    refine sStore (p := b7) (off := 0) (T := 24) (vs := [.slice none 0 0, .slice none 0 0]) (v := .agg #[.slice none 0 0, .slice none 0 0]) 1 [.slice none 0 0, .slice none 0 0] S (wN rfl) rfl rfl rfl rfl rfl rfl rfl (by simp) rfl fun a w S => ?_
    refine sMove (iv r13.2) S (wN rfl) (.inr rfl) rfl rfl (lb rfl) fun a S => ?_
    refine leafL (leafT (hK20 _ _ ?_))
    obtain rfl := Option.some.inj h
    have S := S.learn (fRep (rL r_api_Point) (.slice none 0 0) ([] : (List api_Point))) (rL_nil _ _ _)
    have S := S.learn (fRep r_api_Shape (.agg #[.slice none 0 0, .slice none 0 0]) (api_Shape.mk ([] : (List api_Point)) ([] : (List api_Point)))) ⟨_, _, rfl, S.mem.know (i := 0) (e := fRep (rL r_api_Point) (.slice none 0 0) ([] : (List api_Point))) rfl, S.mem.know (i := 0) (e := fRep (rL r_api_Point) (.slice none 0 0) ([] : (List api_Point))) rfl⟩
    exact wp_ret (rThen (sRet (.tuple #[.agg #[.slice none 0 0, .slice none 0 0], iv r13.2]) S (rsl2 rfl (rvN (c := 6) (t := 24) (T := 24) (p := b7) 0 [.slice none 0 0, .slice none 0 0] S rfl rfl rfl rfl) (rvT (t := 7) (v := iv r13.2) S rfl)) ⟨(.agg #[.slice none 0 0, .slice none 0 0]), rfl, S.mem.sel [] [0] (by decide) rfl rfl⟩))
  refine sCondF S rfl hc19 ?_
  refine wp_skip (leafT (hK11 _ _ ?_))
  refine sSeq (fun K21 hK21 => ?_)
  refine sSeq (fun K22 hK22 => ?_)
  refine sRegion ?_
  refine sLoadN (p := b6) (off := 0) (T := 65) (vs := [iv p0.Stitches, iv p0.Width, iv p0.Rows, iv p0.Height]) 2 [iv p0.Stitches, iv p0.Width, iv p0.Rows, iv p0.Height] S (wN rfl) rfl rfl rfl rfl rfl rfl rfl (lb rfl) fun a S => ?_
  refine sMove (.slice ad3 p2.length cp4) S (wN rfl) (.inl rfl) rfl rfl (lb rfl) fun a S => ?_
  obtain ⟨r23, hx24, h⟩ := bindSome h
  refine sCall (X := Value) (f := 47) (vs := [.agg #[iv p0.Stitches, iv p0.Width, iv p0.Rows, iv p0.Height], .slice ad3 p2.length cp4]) (val := c_piece_place_val r23) (B' := fun _ => []) (D' := c_piece_place_D r23) [] [eBox b9 24 [.slice ad16 r13.1.length cp17, .slice none 0 0], eBox b7 24 [.slice none 0 0, .slice none 0 0], eBox b6 65 [iv p0.Stitches, iv p0.Width, iv p0.Rows, iv p0.Height]] [fRep r_api_Gauge (.agg #[iv p0.Stitches, iv p0.Width, iv p0.Rows, iv p0.Height]) p0, fRep (rL r_api_Point) (.slice ad3 p2.length cp4) p2] [0, 1, 2] [1, 3] S (wN rfl) rfl callee47 rfl (by decide) rfl rfl (fun E1 w1 S1 => c_piece_place E1 w1 p0 (.agg #[iv p0.Stitches, iv p0.Width, iv p0.Rows, iv p0.Height]) p2 (.slice ad3 p2.length cp4) r23 hx24 S1) rfl (lb rfl) fun u25 a w S => ?_
  obtain ⟨ad26, cp27, _, rfl, _⟩ := S.mem.know (i := 0) (e := fRep (rL r_api_Point) (u25) r23.1) rfl
  refine sMove (.tuple #[.slice ad26 r23.1.length cp27, iv r23.2]) S (wN rfl) (.inl rfl) rfl rfl (lb rfl) fun a S => ?_
  refine sExtract (vs := [.slice ad26 r23.1.length cp27, iv r23.2]) (.slice ad26 r23.1.length cp27) S (wN rfl) rfl rfl rfl rfl (lb rfl) fun a S => ?_
  refine sExtract (vs := [.slice ad26 r23.1.length cp27, iv r23.2]) (iv r23.2) S (wN rfl) rfl rfl rfl rfl (lb rfl) fun a S => ?_
  refine sField (b := b9) (off := 0) 1 1 S (wN rfl) rfl rfl rfl rfl rfl (lb rfl) fun a S => ?_
  refine sStore (p := b9) (off := 1) (T := 24) (vs := [.slice ad16 r13.1.length cp17, .slice none 0 0]) (v := .slice ad26 r23.1.length cp27) 0 [.slice ad26 r23.1.length cp27] S (wN rfl) rfl rfl rfl rfl rfl rfl rfl (by simp) rfl fun a w S => ?_
  refine sMove (iv r23.2) S (wN rfl) (.inr rfl) rfl rfl (lb rfl) fun a S => ?_
  refine leafL (leafT (hK22 _ _ ?_))
  refine sSeq (fun K28 hK28 => ?_)
  refine sRegion ?_
  refine sMove (iv r23.2) S (wN rfl) (.inl rfl) rfl rfl (lb rfl) fun a S => ?_
  refine sBin (.bool (r23.2 != 0)) S (wN rfl) rfl rfl rfl (bNe _ _ _ _ .i64 r23.2 0) rfl (lb rfl) fun a S => ?_
  refine leafL (leafT (hK28 _ _ ?_))
  rcases iteSome h with ⟨hc29, h⟩ | ⟨hc29, h⟩
  · refine sCondT S rfl hc29 ?_
    refine sSeq (fun K30 hK30 => ?_)
    refine sRegion ?_
    refine sBuild [] [.slice none 0 0, .slice none 0 0] S (wN rfl) rfl rfl rfl rfl (lb rfl) fun a S => ?_
    refine sMove (iv r23.2) S (wN rfl) (.inl rfl) rfl rfl (lb rfl) fun a S => ?_
    refine sStore (p := b7) (off := 0) (T := 24) (vs := [.slice none 0 0, .slice none 0 0]) (v := .agg #[.slice none 0 0, .slice none 0 0]) 1 [.slice none 0 0, .slice none 0 0] S (wN rfl) rfl rfl rfl rfl rfl rfl rfl (by simp) rfl fun a w S => ?_
    refine sMove (iv r23.2) S (wN rfl) (.inr rfl) rfl rfl (lb rfl) fun a S => ?_
    refine leafL (leafT (hK30 _ _ ?_))
    obtain rfl := Option.some.inj h
    have S := S.learn (fRep (rL r_api_Point) (.slice none 0 0) ([] : (List api_Point))) (rL_nil _ _ _)
    have S := S.learn (fRep r_api_Shape (.agg #[.slice none 0 0, .slice none 0 0]) (api_Shape.mk ([] : (List api_Point)) ([] : (List api_Point)))) ⟨_, _, rfl, S.mem.know (i := 0) (e := fRep (rL r_api_Point) (.slice none 0 0) ([] : (List api_Point))) rfl, S.mem.know (i := 0) (e := fRep (rL r_api_Point) (.slice none 0 0) ([] : (List api_Point))) rfl⟩
    exact wp_ret (rThen (sRet (.tuple #[.agg #[.slice none 0 0, .slice none 0 0], iv r23.2]) S (rsl2 rfl (rvN (c := 6) (t := 24) (T := 24) (p := b7) 0 [.slice none 0 0, .slice none 0 0] S rfl rfl rfl rfl) (rvT (t := 7) (v := iv r23.2) S rfl)) ⟨(.agg #[.slice none 0 0, .slice none 0 0]), rfl, S.mem.sel [] [0] (by decide) rfl rfl⟩))
  refine sCondF S rfl hc29 ?_
  refine wp_skip (leafT (hK21 _ _ ?_))
  refine sSeq (fun K31 hK31 => ?_)
  refine sSeq (fun K32 hK32 => ?_)
  refine sRegion ?_
  refine sLoadN (p := b9) (off := 0) (T := 24) (vs := [.slice ad16 r13.1.length cp17, .slice ad26 r23.1.length cp27]) 0 [.slice ad16 r13.1.length cp17, .slice ad26 r23.1.length cp27] S (wN rfl) rfl rfl rfl rfl rfl rfl rfl (lb rfl) fun a S => ?_
  obtain ⟨r33, hx34, h⟩ := bindSome h
  have S1 := S.mem
  have S1 := S1.learn (fRep r_api_Shape (.agg #[.slice ad16 r13.1.length cp17, .slice ad26 r23.1.length cp27]) (api_Shape.mk r13.1 r23.1)) ⟨_, _, rfl, S1.know (i := 1) (e := fRep (rL r_api_Point) (.slice ad16 r13.1.length cp17) r13.1) rfl, S1.know (i := 0) (e := fRep (rL r_api_Point) (.slice ad26 r23.1.length cp27) r23.1) rfl⟩
  refine sCallQ (X := Unit) (f := 35) (vs := [.agg #[.slice ad16 r13.1.length cp17, .slice ad26 r23.1.length cp27]]) (val := fun _ => iv r33) S (wN rfl) rfl callee35 rfl (S1.quiet [0] rfl) (fun E1 w1 S1 => c_piece_shape E1 w1 (api_Shape.mk r13.1 r23.1) (.agg #[.slice ad16 r13.1.length cp17, .slice ad26 r23.1.length cp27]) r33 hx34 S1) rfl (lb rfl) fun _ a w S => ?_
  refine sMove (iv r33) S (wN rfl) (.inr rfl) rfl rfl (lb rfl) fun a S => ?_
  refine leafL (leafT (hK32 _ _ ?_))
  refine sSeq (fun K35 hK35 => ?_)
  refine sRegion ?_
  refine sMove (iv r33) S (wN rfl) (.inl rfl) rfl rfl (lb rfl) fun a S => ?_
  refine sBin (.bool (r33 != 0)) S (wN rfl) rfl rfl rfl (bNe _ _ _ _ .i64 r33 0) rfl (lb rfl) fun a S => ?_
  refine leafL (leafT (hK35 _ _ ?_))
  rcases iteSome h with ⟨hc36, h⟩ | ⟨hc36, h⟩
  · refine sCondT S rfl hc36 ?_
    refine sSeq (fun K37 hK37 => ?_)
    refine sRegion ?_
    refine sBuild [] [.slice none 0 0, .slice none 0 0] S (wN rfl) rfl rfl rfl rfl (lb rfl) fun a S => ?_
    refine sMove (iv r33) S (wN rfl) (.inl rfl) rfl rfl (lb rfl) fun a S => ?_
    refine sStore (p := b7) (off := 0) (T := 24) (vs := [.slice none 0 0, .slice none 0 0]) (v := .agg #[.slice none 0 0, .slice none 0 0]) 1 [.slice none 0 0, .slice none 0 0] S (wN rfl) rfl rfl rfl rfl rfl rfl rfl (by simp) rfl fun a w S => ?_
    refine sMove (iv r33) S (wN rfl) (.inr rfl) rfl rfl (lb rfl) fun a S => ?_
    refine leafL (leafT (hK37 _ _ ?_))
    obtain rfl := Option.some.inj h
    have S := S.learn (fRep (rL r_api_Point) (.slice none 0 0) ([] : (List api_Point))) (rL_nil _ _ _)
    have S := S.learn (fRep r_api_Shape (.agg #[.slice none 0 0, .slice none 0 0]) (api_Shape.mk ([] : (List api_Point)) ([] : (List api_Point)))) ⟨_, _, rfl, S.mem.know (i := 0) (e := fRep (rL r_api_Point) (.slice none 0 0) ([] : (List api_Point))) rfl, S.mem.know (i := 0) (e := fRep (rL r_api_Point) (.slice none 0 0) ([] : (List api_Point))) rfl⟩
    exact wp_ret (rThen (sRet (.tuple #[.agg #[.slice none 0 0, .slice none 0 0], iv r33]) S (rsl2 rfl (rvN (c := 6) (t := 24) (T := 24) (p := b7) 0 [.slice none 0 0, .slice none 0 0] S rfl rfl rfl rfl) (rvT (t := 7) (v := iv r33) S rfl)) ⟨(.agg #[.slice none 0 0, .slice none 0 0]), rfl, S.mem.sel [] [0] (by decide) rfl rfl⟩))
  refine sCondF S rfl hc36 ?_
  refine wp_skip (leafT (hK31 _ _ ?_))
  refine sSeq (fun K38 hK38 => ?_)
  refine sRegion ?_
  refine sLoadN (p := b9) (off := 0) (T := 24) (vs := [.slice ad16 r13.1.length cp17, .slice ad26 r23.1.length cp27]) 0 [.slice ad16 r13.1.length cp17, .slice ad26 r23.1.length cp27] S (wN rfl) rfl rfl rfl rfl rfl rfl rfl (lb rfl) fun a S => ?_
  refine sStore (p := b7) (off := 0) (T := 24) (vs := [.slice none 0 0, .slice none 0 0]) (v := .agg #[.slice ad16 r13.1.length cp17, .slice ad26 r23.1.length cp27]) 1 [.slice ad16 r13.1.length cp17, .slice ad26 r23.1.length cp27] S (wN rfl) rfl rfl rfl rfl rfl rfl rfl (by simp) rfl fun a w S => ?_
  refine sMove (iv 0) S (wN rfl) (.inr rfl) rfl rfl (lb rfl) fun a S => ?_
  refine leafL (leafT (hK38 _ _ ?_))
  obtain rfl := Option.some.inj h
  have S := S.learn (fRep r_api_Shape (.agg #[.slice ad16 r13.1.length cp17, .slice ad26 r23.1.length cp27]) (api_Shape.mk r13.1 r23.1)) ⟨_, _, rfl, S.mem.know (i := 1) (e := fRep (rL r_api_Point) (.slice ad16 r13.1.length cp17) r13.1) rfl, S.mem.know (i := 0) (e := fRep (rL r_api_Point) (.slice ad26 r23.1.length cp27) r23.1) rfl⟩
  exact wp_ret (sRet (.tuple #[.agg #[.slice ad16 r13.1.length cp17, .slice ad26 r23.1.length cp27], iv 0]) S (rsl2 rfl (rvN (c := 6) (t := 24) (T := 24) (p := b7) 0 [.slice ad16 r13.1.length cp17, .slice ad26 r23.1.length cp27] S rfl rfl rfl rfl) (rvT (t := 7) (v := iv 0) S rfl)) ⟨(.agg #[.slice ad16 r13.1.length cp17, .slice ad26 r23.1.length cp27]), rfl, S.mem.sel [] [0] (by decide) rfl rfl⟩)

end Go.Proofs.YtmedbnjhgkcndaaDoor
namespace Go.Proofs.YtmedbnjhgkcndaaDoor
open Go.RowKit
set_option linter.unusedVariables false

noncomputable def F_raddleref35_Check (p0 : api_Gauge) : Option Int :=
  Option.bind (α := Bool) (
    if decide (p0.Stitches < 1) then
      some true
    else
      if decide (10000 < p0.Stitches) then
        some true
      else
        if decide (p0.Width < 1) then
          some true
        else
          if decide (10000 < p0.Width) then
            some true
          else
            if decide (p0.Rows < 1) then
              some true
            else
              if decide (10000 < p0.Rows) then
                some true
              else
                if decide (p0.Height < 1) then
                  some true
                else
                  some (decide (10000 < p0.Height))) fun o4 =>
  if o4 then
    some 8
  else
    some 0
set_option maxHeartbeats 4000000 in
set_option maxRecDepth 100000 in
theorem c_raddleref35_Check (E : Nat → Prop) (w0 : World) (p0 : api_Gauge) (v0 : Value) (r : Int) (h : F_raddleref35_Check p0 = some r) (S : St0 E [] w0 w0 [] [fRep r_api_Gauge (v0) p0]) :
    Calls Tryd.prog 31 #[v0] w0 (Ret (X := Unit) E [] w0 (fun _ => .int .i64 r) (fun _ => []) (fun _ => [])) := by
  unfold F_raddleref35_Check at h
  obtain rfl : v0 = .agg #[iv p0.Stitches, iv p0.Width, iv p0.Rows, iv p0.Height] := S.know (i := 0) (e := fRep r_api_Gauge (v0) p0) rfl
  refine sEnter (args := [.agg #[iv p0.Stitches, iv p0.Width, iv p0.Rows, iv p0.Height]]) 41 Tryd.func31 rfl rfl (by simp) S (fun a S => ?_)
  refine sSeq (fun K1 hK1 => ?_)
  refine sRegion ?_
  refine sBox (v := .agg #[iv p0.Stitches, iv p0.Width, iv p0.Rows, iv p0.Height]) S (wN rfl) rfl rfl [iv p0.Stitches, iv p0.Width, iv p0.Rows, iv p0.Height] rfl rfl (lb rfl) fun a b2 w S => ?_
  refine sMove (iv 0) S (wN rfl) (.inr rfl) rfl rfl (lb rfl) fun a S => ?_
  refine leafL (leafT (hK1 _ _ ?_))
  refine sSeq (fun K3 hK3 => ?_)
  obtain ⟨t5, h, g6⟩ := bindSome h
  refine sCut (fun a w => ∃ o4, o4 = t5 ∧ St [] E [] w0 41 a w [(40, .bool o4)] [] []) ?_ (fun a w hI => ?_)
  rotate_left
  · obtain ⟨o4, rfl, S⟩ := hI
    have h := g6
    clear g6
    try dsimp only at h
    rcases iteSome h with ⟨hc14, h⟩ | ⟨hc14, h⟩
    · refine sCondT S rfl hc14 ?_
      refine sSeq (fun K15 hK15 => ?_)
      refine sRegion ?_
      refine sMove (iv 8) S (wN rfl) (.inr rfl) rfl rfl (lb rfl) fun a S => ?_
      refine leafL (leafT (hK15 _ _ ?_))
      obtain rfl := Option.some.inj h
      exact wp_ret (rThen (sRet (iv 8) S (rsl1 rfl (rvT (t := 2) (v := iv 8) S rfl)) ⟨(), rfl, S.mem.sel [] [] (by decide) rfl rfl⟩))
    refine sCondF S rfl hc14 ?_
    refine wp_skip (leafT (hK3 _ _ ?_))
    refine sSeq (fun K16 hK16 => ?_)
    refine sRegion ?_
    refine sMove (iv 0) S (wN rfl) (.inr rfl) rfl rfl (lb rfl) fun a S => ?_
    refine leafL (leafT (hK16 _ _ ?_))
    obtain rfl := Option.some.inj h
    exact wp_ret (sRet (iv 0) S (rsl1 rfl (rvT (t := 2) (v := iv 0) S rfl)) ⟨(), rfl, S.mem.sel [] [] (by decide) rfl rfl⟩)
  refine sRegion ?_
  refine sField (b := b2) (off := 0) 0 0 S (wN rfl) rfl rfl rfl rfl rfl (lb rfl) fun a S => ?_
  refine sLoad1 (p := b2) (off := 0) (T := 65) (vs := [iv p0.Stitches, iv p0.Width, iv p0.Rows, iv p0.Height]) 0 (iv p0.Stitches) S (wN rfl) rfl rfl rfl rfl rfl rfl (lb rfl) fun a S => ?_
  refine sBin (.bool (decide (p0.Stitches < 1))) S (wN rfl) rfl rfl rfl (bLt _ _ _ _ .i64 p0.Stitches 1) rfl (lb rfl) fun a S => ?_
  refine sMove (.bool (decide (p0.Stitches < 1))) S (wN rfl) (.inl rfl) rfl rfl (lb rfl) fun a S => ?_
  rcases iteSome h with ⟨hc7, h⟩ | ⟨hc7, h⟩
  · refine sSkip 3 false 6 7 S rfl rfl rfl hc7 rfl (lb rfl) fun a S => ?_
    refine sSkip 3 false 6 8 S rfl rfl rfl hc7 rfl (lb rfl) fun a S => ?_
    refine sSkip 3 false 6 9 S rfl rfl rfl hc7 rfl (lb rfl) fun a S => ?_
    refine sPickT (.bool true) S (wN rfl) rfl rfl hc7 rfl rfl (lb rfl) fun a S => ?_
    refine sMove (.bool true) S (wN rfl) (.inl rfl) rfl rfl (lb rfl) fun a S => ?_
    refine sSkip 8 false 11 12 S rfl rfl rfl rfl rfl (lb rfl) fun a S => ?_
    refine sSkip 8 false 11 13 S rfl rfl rfl rfl rfl (lb rfl) fun a S => ?_
    refine sSkip 8 false 11 14 S rfl rfl rfl rfl rfl (lb rfl) fun a S => ?_
    refine sPickT (.bool true) S (wN rfl) rfl rfl rfl rfl rfl (lb rfl) fun a S => ?_
    refine sMove (.bool true) S (wN rfl) (.inl rfl) rfl rfl (lb rfl) fun a S => ?_
    refine sSkip 13 false 16 17 S rfl rfl rfl rfl rfl (lb rfl) fun a S => ?_
    refine sSkip 13 false 16 18 S rfl rfl rfl rfl rfl (lb rfl) fun a S => ?_
    refine sSkip 13 false 16 19 S rfl rfl rfl rfl rfl (lb rfl) fun a S => ?_
    refine sPickT (.bool true) S (wN rfl) rfl rfl rfl rfl rfl (lb rfl) fun a S => ?_
    refine sMove (.bool true) S (wN rfl) (.inl rfl) rfl rfl (lb rfl) fun a S => ?_
    refine sSkip 18 false 21 22 S rfl rfl rfl rfl rfl (lb rfl) fun a S => ?_
    refine sSkip 18 false 21 23 S rfl rfl rfl rfl rfl (lb rfl) fun a S => ?_
    refine sSkip 18 false 21 24 S rfl rfl rfl rfl rfl (lb rfl) fun a S => ?_
    refine sPickT (.bool true) S (wN rfl) rfl rfl rfl rfl rfl (lb rfl) fun a S => ?_
    refine sMove (.bool true) S (wN rfl) (.inl rfl) rfl rfl (lb rfl) fun a S => ?_
    refine sSkip 23 false 26 27 S rfl rfl rfl rfl rfl (lb rfl) fun a S => ?_
    refine sSkip 23 false 26 28 S rfl rfl rfl rfl rfl (lb rfl) fun a S => ?_
    refine sSkip 23 false 26 29 S rfl rfl rfl rfl rfl (lb rfl) fun a S => ?_
    refine sPickT (.bool true) S (wN rfl) rfl rfl rfl rfl rfl (lb rfl) fun a S => ?_
    refine sMove (.bool true) S (wN rfl) (.inl rfl) rfl rfl (lb rfl) fun a S => ?_
    refine sSkip 28 false 31 32 S rfl rfl rfl rfl rfl (lb rfl) fun a S => ?_
    refine sSkip 28 false 31 33 S rfl rfl rfl rfl rfl (lb rfl) fun a S => ?_
    refine sSkip 28 false 31 34 S rfl rfl rfl rfl rfl (lb rfl) fun a S => ?_
    refine sPickT (.bool true) S (wN rfl) rfl rfl rfl rfl rfl (lb rfl) fun a S => ?_
    refine sMove (.bool true) S (wN rfl) (.inl rfl) rfl rfl (lb rfl) fun a S => ?_
    refine sSkip 33 false 36 37 S rfl rfl rfl rfl rfl (lb rfl) fun a S => ?_
    refine sSkip 33 false 36 38 S rfl rfl rfl rfl rfl (lb rfl) fun a S => ?_
    refine sSkip 33 false 36 39 S rfl rfl rfl rfl rfl (lb rfl) fun a S => ?_
    refine sPickT (.bool true) S (wN rfl) rfl rfl rfl rfl rfl (lb rfl) fun a S => ?_
    exact leafL (leafT (⟨true, Option.some.inj h, S.fix [] [] (by decide) rfl rfl rfl⟩))
  refine sField (b := b2) (off := 0) 0 0 S (wG 3 false 6 rfl rfl rfl hc7) rfl rfl rfl rfl rfl (lb rfl) fun a S => ?_
  refine sLoad1 (p := b2) (off := 0) (T := 65) (vs := [iv p0.Stitches, iv p0.Width, iv p0.Rows, iv p0.Height]) 0 (iv p0.Stitches) S (wG 3 false 6 rfl rfl rfl hc7) rfl rfl rfl rfl rfl rfl (lb rfl) fun a S => ?_
  refine sBin (.bool (decide (10000 < p0.Stitches))) S (wG 3 false 6 rfl rfl rfl hc7) rfl rfl rfl (bGt _ _ _ _ .i64 p0.Stitches 10000) rfl (lb rfl) fun a S => ?_
  refine sPickF (.bool (decide (10000 < p0.Stitches))) S (wN rfl) rfl rfl hc7 rfl rfl (lb rfl) fun a S => ?_
  refine sMove (.bool (decide (10000 < p0.Stitches))) S (wN rfl) (.inl rfl) rfl rfl (lb rfl) fun a S => ?_
  rcases iteSome h with ⟨hc8, h⟩ | ⟨hc8, h⟩
  · refine sSkip 8 false 11 12 S rfl rfl rfl hc8 rfl (lb rfl) fun a S => ?_
    refine sSkip 8 false 11 13 S rfl rfl rfl hc8 rfl (lb rfl) fun a S => ?_
    refine sSkip 8 false 11 14 S rfl rfl rfl hc8 rfl (lb rfl) fun a S => ?_
    refine sPickT (.bool true) S (wN rfl) rfl rfl hc8 rfl rfl (lb rfl) fun a S => ?_
    refine sMove (.bool true) S (wN rfl) (.inl rfl) rfl rfl (lb rfl) fun a S => ?_
    refine sSkip 13 false 16 17 S rfl rfl rfl rfl rfl (lb rfl) fun a S => ?_
    refine sSkip 13 false 16 18 S rfl rfl rfl rfl rfl (lb rfl) fun a S => ?_
    refine sSkip 13 false 16 19 S rfl rfl rfl rfl rfl (lb rfl) fun a S => ?_
    refine sPickT (.bool true) S (wN rfl) rfl rfl rfl rfl rfl (lb rfl) fun a S => ?_
    refine sMove (.bool true) S (wN rfl) (.inl rfl) rfl rfl (lb rfl) fun a S => ?_
    refine sSkip 18 false 21 22 S rfl rfl rfl rfl rfl (lb rfl) fun a S => ?_
    refine sSkip 18 false 21 23 S rfl rfl rfl rfl rfl (lb rfl) fun a S => ?_
    refine sSkip 18 false 21 24 S rfl rfl rfl rfl rfl (lb rfl) fun a S => ?_
    refine sPickT (.bool true) S (wN rfl) rfl rfl rfl rfl rfl (lb rfl) fun a S => ?_
    refine sMove (.bool true) S (wN rfl) (.inl rfl) rfl rfl (lb rfl) fun a S => ?_
    refine sSkip 23 false 26 27 S rfl rfl rfl rfl rfl (lb rfl) fun a S => ?_
    refine sSkip 23 false 26 28 S rfl rfl rfl rfl rfl (lb rfl) fun a S => ?_
    refine sSkip 23 false 26 29 S rfl rfl rfl rfl rfl (lb rfl) fun a S => ?_
    refine sPickT (.bool true) S (wN rfl) rfl rfl rfl rfl rfl (lb rfl) fun a S => ?_
    refine sMove (.bool true) S (wN rfl) (.inl rfl) rfl rfl (lb rfl) fun a S => ?_
    refine sSkip 28 false 31 32 S rfl rfl rfl rfl rfl (lb rfl) fun a S => ?_
    refine sSkip 28 false 31 33 S rfl rfl rfl rfl rfl (lb rfl) fun a S => ?_
    refine sSkip 28 false 31 34 S rfl rfl rfl rfl rfl (lb rfl) fun a S => ?_
    refine sPickT (.bool true) S (wN rfl) rfl rfl rfl rfl rfl (lb rfl) fun a S => ?_
    refine sMove (.bool true) S (wN rfl) (.inl rfl) rfl rfl (lb rfl) fun a S => ?_
    refine sSkip 33 false 36 37 S rfl rfl rfl rfl rfl (lb rfl) fun a S => ?_
    refine sSkip 33 false 36 38 S rfl rfl rfl rfl rfl (lb rfl) fun a S => ?_
    refine sSkip 33 false 36 39 S rfl rfl rfl rfl rfl (lb rfl) fun a S => ?_
    refine sPickT (.bool true) S (wN rfl) rfl rfl rfl rfl rfl (lb rfl) fun a S => ?_
    exact leafL (leafT (⟨true, Option.some.inj h, S.fix [] [] (by decide) rfl rfl rfl⟩))
  refine sField (b := b2) (off := 0) 1 1 S (wG 8 false 11 rfl rfl rfl hc8) rfl rfl rfl rfl rfl (lb rfl) fun a S => ?_
  refine sLoad1 (p := b2) (off := 1) (T := 65) (vs := [iv p0.Stitches, iv p0.Width, iv p0.Rows, iv p0.Height]) 0 (iv p0.Width) S (wG 8 false 11 rfl rfl rfl hc8) rfl rfl rfl rfl rfl rfl (lb rfl) fun a S => ?_
  refine sBin (.bool (decide (p0.Width < 1))) S (wG 8 false 11 rfl rfl rfl hc8) rfl rfl rfl (bLt _ _ _ _ .i64 p0.Width 1) rfl (lb rfl) fun a S => ?_
  refine sPickF (.bool (decide (p0.Width < 1))) S (wN rfl) rfl rfl hc8 rfl rfl (lb rfl) fun a S => ?_
  refine sMove (.bool (decide (p0.Width < 1))) S (wN rfl) (.inl rfl) rfl rfl (lb rfl) fun a S => ?_
  rcases iteSome h with ⟨hc9, h⟩ | ⟨hc9, h⟩
  · refine sSkip 13 false 16 17 S rfl rfl rfl hc9 rfl (lb rfl) fun a S => ?_
    refine sSkip 13 false 16 18 S rfl rfl rfl hc9 rfl (lb rfl) fun a S => ?_
    refine sSkip 13 false 16 19 S rfl rfl rfl hc9 rfl (lb rfl) fun a S => ?_
    refine sPickT (.bool true) S (wN rfl) rfl rfl hc9 rfl rfl (lb rfl) fun a S => ?_
    refine sMove (.bool true) S (wN rfl) (.inl rfl) rfl rfl (lb rfl) fun a S => ?_
    refine sSkip 18 false 21 22 S rfl rfl rfl rfl rfl (lb rfl) fun a S => ?_
    refine sSkip 18 false 21 23 S rfl rfl rfl rfl rfl (lb rfl) fun a S => ?_
    refine sSkip 18 false 21 24 S rfl rfl rfl rfl rfl (lb rfl) fun a S => ?_
    refine sPickT (.bool true) S (wN rfl) rfl rfl rfl rfl rfl (lb rfl) fun a S => ?_
    refine sMove (.bool true) S (wN rfl) (.inl rfl) rfl rfl (lb rfl) fun a S => ?_
    refine sSkip 23 false 26 27 S rfl rfl rfl rfl rfl (lb rfl) fun a S => ?_
    refine sSkip 23 false 26 28 S rfl rfl rfl rfl rfl (lb rfl) fun a S => ?_
    refine sSkip 23 false 26 29 S rfl rfl rfl rfl rfl (lb rfl) fun a S => ?_
    refine sPickT (.bool true) S (wN rfl) rfl rfl rfl rfl rfl (lb rfl) fun a S => ?_
    refine sMove (.bool true) S (wN rfl) (.inl rfl) rfl rfl (lb rfl) fun a S => ?_
    refine sSkip 28 false 31 32 S rfl rfl rfl rfl rfl (lb rfl) fun a S => ?_
    refine sSkip 28 false 31 33 S rfl rfl rfl rfl rfl (lb rfl) fun a S => ?_
    refine sSkip 28 false 31 34 S rfl rfl rfl rfl rfl (lb rfl) fun a S => ?_
    refine sPickT (.bool true) S (wN rfl) rfl rfl rfl rfl rfl (lb rfl) fun a S => ?_
    refine sMove (.bool true) S (wN rfl) (.inl rfl) rfl rfl (lb rfl) fun a S => ?_
    refine sSkip 33 false 36 37 S rfl rfl rfl rfl rfl (lb rfl) fun a S => ?_
    refine sSkip 33 false 36 38 S rfl rfl rfl rfl rfl (lb rfl) fun a S => ?_
    refine sSkip 33 false 36 39 S rfl rfl rfl rfl rfl (lb rfl) fun a S => ?_
    refine sPickT (.bool true) S (wN rfl) rfl rfl rfl rfl rfl (lb rfl) fun a S => ?_
    exact leafL (leafT (⟨true, Option.some.inj h, S.fix [] [] (by decide) rfl rfl rfl⟩))
  refine sField (b := b2) (off := 0) 1 1 S (wG 13 false 16 rfl rfl rfl hc9) rfl rfl rfl rfl rfl (lb rfl) fun a S => ?_
  refine sLoad1 (p := b2) (off := 1) (T := 65) (vs := [iv p0.Stitches, iv p0.Width, iv p0.Rows, iv p0.Height]) 0 (iv p0.Width) S (wG 13 false 16 rfl rfl rfl hc9) rfl rfl rfl rfl rfl rfl (lb rfl) fun a S => ?_
  refine sBin (.bool (decide (10000 < p0.Width))) S (wG 13 false 16 rfl rfl rfl hc9) rfl rfl rfl (bGt _ _ _ _ .i64 p0.Width 10000) rfl (lb rfl) fun a S => ?_
  refine sPickF (.bool (decide (10000 < p0.Width))) S (wN rfl) rfl rfl hc9 rfl rfl (lb rfl) fun a S => ?_
  refine sMove (.bool (decide (10000 < p0.Width))) S (wN rfl) (.inl rfl) rfl rfl (lb rfl) fun a S => ?_
  rcases iteSome h with ⟨hc10, h⟩ | ⟨hc10, h⟩
  · refine sSkip 18 false 21 22 S rfl rfl rfl hc10 rfl (lb rfl) fun a S => ?_
    refine sSkip 18 false 21 23 S rfl rfl rfl hc10 rfl (lb rfl) fun a S => ?_
    refine sSkip 18 false 21 24 S rfl rfl rfl hc10 rfl (lb rfl) fun a S => ?_
    refine sPickT (.bool true) S (wN rfl) rfl rfl hc10 rfl rfl (lb rfl) fun a S => ?_
    refine sMove (.bool true) S (wN rfl) (.inl rfl) rfl rfl (lb rfl) fun a S => ?_
    refine sSkip 23 false 26 27 S rfl rfl rfl rfl rfl (lb rfl) fun a S => ?_
    refine sSkip 23 false 26 28 S rfl rfl rfl rfl rfl (lb rfl) fun a S => ?_
    refine sSkip 23 false 26 29 S rfl rfl rfl rfl rfl (lb rfl) fun a S => ?_
    refine sPickT (.bool true) S (wN rfl) rfl rfl rfl rfl rfl (lb rfl) fun a S => ?_
    refine sMove (.bool true) S (wN rfl) (.inl rfl) rfl rfl (lb rfl) fun a S => ?_
    refine sSkip 28 false 31 32 S rfl rfl rfl rfl rfl (lb rfl) fun a S => ?_
    refine sSkip 28 false 31 33 S rfl rfl rfl rfl rfl (lb rfl) fun a S => ?_
    refine sSkip 28 false 31 34 S rfl rfl rfl rfl rfl (lb rfl) fun a S => ?_
    refine sPickT (.bool true) S (wN rfl) rfl rfl rfl rfl rfl (lb rfl) fun a S => ?_
    refine sMove (.bool true) S (wN rfl) (.inl rfl) rfl rfl (lb rfl) fun a S => ?_
    refine sSkip 33 false 36 37 S rfl rfl rfl rfl rfl (lb rfl) fun a S => ?_
    refine sSkip 33 false 36 38 S rfl rfl rfl rfl rfl (lb rfl) fun a S => ?_
    refine sSkip 33 false 36 39 S rfl rfl rfl rfl rfl (lb rfl) fun a S => ?_
    refine sPickT (.bool true) S (wN rfl) rfl rfl rfl rfl rfl (lb rfl) fun a S => ?_
    exact leafL (leafT (⟨true, Option.some.inj h, S.fix [] [] (by decide) rfl rfl rfl⟩))
  refine sField (b := b2) (off := 0) 2 2 S (wG 18 false 21 rfl rfl rfl hc10) rfl rfl rfl rfl rfl (lb rfl) fun a S => ?_
  refine sLoad1 (p := b2) (off := 2) (T := 65) (vs := [iv p0.Stitches, iv p0.Width, iv p0.Rows, iv p0.Height]) 0 (iv p0.Rows) S (wG 18 false 21 rfl rfl rfl hc10) rfl rfl rfl rfl rfl rfl (lb rfl) fun a S => ?_
  refine sBin (.bool (decide (p0.Rows < 1))) S (wG 18 false 21 rfl rfl rfl hc10) rfl rfl rfl (bLt _ _ _ _ .i64 p0.Rows 1) rfl (lb rfl) fun a S => ?_
  refine sPickF (.bool (decide (p0.Rows < 1))) S (wN rfl) rfl rfl hc10 rfl rfl (lb rfl) fun a S => ?_
  refine sMove (.bool (decide (p0.Rows < 1))) S (wN rfl) (.inl rfl) rfl rfl (lb rfl) fun a S => ?_
  rcases iteSome h with ⟨hc11, h⟩ | ⟨hc11, h⟩
  · refine sSkip 23 false 26 27 S rfl rfl rfl hc11 rfl (lb rfl) fun a S => ?_
    refine sSkip 23 false 26 28 S rfl rfl rfl hc11 rfl (lb rfl) fun a S => ?_
    refine sSkip 23 false 26 29 S rfl rfl rfl hc11 rfl (lb rfl) fun a S => ?_
    refine sPickT (.bool true) S (wN rfl) rfl rfl hc11 rfl rfl (lb rfl) fun a S => ?_
    refine sMove (.bool true) S (wN rfl) (.inl rfl) rfl rfl (lb rfl) fun a S => ?_
    refine sSkip 28 false 31 32 S rfl rfl rfl rfl rfl (lb rfl) fun a S => ?_
    refine sSkip 28 false 31 33 S rfl rfl rfl rfl rfl (lb rfl) fun a S => ?_
    refine sSkip 28 false 31 34 S rfl rfl rfl rfl rfl (lb rfl) fun a S => ?_
    refine sPickT (.bool true) S (wN rfl) rfl rfl rfl rfl rfl (lb rfl) fun a S => ?_
    refine sMove (.bool true) S (wN rfl) (.inl rfl) rfl rfl (lb rfl) fun a S => ?_
    refine sSkip 33 false 36 37 S rfl rfl rfl rfl rfl (lb rfl) fun a S => ?_
    refine sSkip 33 false 36 38 S rfl rfl rfl rfl rfl (lb rfl) fun a S => ?_
    refine sSkip 33 false 36 39 S rfl rfl rfl rfl rfl (lb rfl) fun a S => ?_
    refine sPickT (.bool true) S (wN rfl) rfl rfl rfl rfl rfl (lb rfl) fun a S => ?_
    exact leafL (leafT (⟨true, Option.some.inj h, S.fix [] [] (by decide) rfl rfl rfl⟩))
  refine sField (b := b2) (off := 0) 2 2 S (wG 23 false 26 rfl rfl rfl hc11) rfl rfl rfl rfl rfl (lb rfl) fun a S => ?_
  refine sLoad1 (p := b2) (off := 2) (T := 65) (vs := [iv p0.Stitches, iv p0.Width, iv p0.Rows, iv p0.Height]) 0 (iv p0.Rows) S (wG 23 false 26 rfl rfl rfl hc11) rfl rfl rfl rfl rfl rfl (lb rfl) fun a S => ?_
  refine sBin (.bool (decide (10000 < p0.Rows))) S (wG 23 false 26 rfl rfl rfl hc11) rfl rfl rfl (bGt _ _ _ _ .i64 p0.Rows 10000) rfl (lb rfl) fun a S => ?_
  refine sPickF (.bool (decide (10000 < p0.Rows))) S (wN rfl) rfl rfl hc11 rfl rfl (lb rfl) fun a S => ?_
  refine sMove (.bool (decide (10000 < p0.Rows))) S (wN rfl) (.inl rfl) rfl rfl (lb rfl) fun a S => ?_
  rcases iteSome h with ⟨hc12, h⟩ | ⟨hc12, h⟩
  · refine sSkip 28 false 31 32 S rfl rfl rfl hc12 rfl (lb rfl) fun a S => ?_
    refine sSkip 28 false 31 33 S rfl rfl rfl hc12 rfl (lb rfl) fun a S => ?_
    refine sSkip 28 false 31 34 S rfl rfl rfl hc12 rfl (lb rfl) fun a S => ?_
    refine sPickT (.bool true) S (wN rfl) rfl rfl hc12 rfl rfl (lb rfl) fun a S => ?_
    refine sMove (.bool true) S (wN rfl) (.inl rfl) rfl rfl (lb rfl) fun a S => ?_
    refine sSkip 33 false 36 37 S rfl rfl rfl rfl rfl (lb rfl) fun a S => ?_
    refine sSkip 33 false 36 38 S rfl rfl rfl rfl rfl (lb rfl) fun a S => ?_
    refine sSkip 33 false 36 39 S rfl rfl rfl rfl rfl (lb rfl) fun a S => ?_
    refine sPickT (.bool true) S (wN rfl) rfl rfl rfl rfl rfl (lb rfl) fun a S => ?_
    exact leafL (leafT (⟨true, Option.some.inj h, S.fix [] [] (by decide) rfl rfl rfl⟩))
  refine sField (b := b2) (off := 0) 3 3 S (wG 28 false 31 rfl rfl rfl hc12) rfl rfl rfl rfl rfl (lb rfl) fun a S => ?_
  refine sLoad1 (p := b2) (off := 3) (T := 65) (vs := [iv p0.Stitches, iv p0.Width, iv p0.Rows, iv p0.Height]) 0 (iv p0.Height) S (wG 28 false 31 rfl rfl rfl hc12) rfl rfl rfl rfl rfl rfl (lb rfl) fun a S => ?_
  refine sBin (.bool (decide (p0.Height < 1))) S (wG 28 false 31 rfl rfl rfl hc12) rfl rfl rfl (bLt _ _ _ _ .i64 p0.Height 1) rfl (lb rfl) fun a S => ?_
  refine sPickF (.bool (decide (p0.Height < 1))) S (wN rfl) rfl rfl hc12 rfl rfl (lb rfl) fun a S => ?_
  refine sMove (.bool (decide (p0.Height < 1))) S (wN rfl) (.inl rfl) rfl rfl (lb rfl) fun a S => ?_
  rcases iteSome h with ⟨hc13, h⟩ | ⟨hc13, h⟩
  · refine sSkip 33 false 36 37 S rfl rfl rfl hc13 rfl (lb rfl) fun a S => ?_
    refine sSkip 33 false 36 38 S rfl rfl rfl hc13 rfl (lb rfl) fun a S => ?_
    refine sSkip 33 false 36 39 S rfl rfl rfl hc13 rfl (lb rfl) fun a S => ?_
    refine sPickT (.bool true) S (wN rfl) rfl rfl hc13 rfl rfl (lb rfl) fun a S => ?_
    exact leafL (leafT (⟨true, Option.some.inj h, S.fix [] [] (by decide) rfl rfl rfl⟩))
  refine sField (b := b2) (off := 0) 3 3 S (wG 33 false 36 rfl rfl rfl hc13) rfl rfl rfl rfl rfl (lb rfl) fun a S => ?_
  refine sLoad1 (p := b2) (off := 3) (T := 65) (vs := [iv p0.Stitches, iv p0.Width, iv p0.Rows, iv p0.Height]) 0 (iv p0.Height) S (wG 33 false 36 rfl rfl rfl hc13) rfl rfl rfl rfl rfl rfl (lb rfl) fun a S => ?_
  refine sBin (.bool (decide (10000 < p0.Height))) S (wG 33 false 36 rfl rfl rfl hc13) rfl rfl rfl (bGt _ _ _ _ .i64 p0.Height 10000) rfl (lb rfl) fun a S => ?_
  refine sPickF (.bool (decide (10000 < p0.Height))) S (wN rfl) rfl rfl hc13 rfl rfl (lb rfl) fun a S => ?_
  exact leafL (leafT (⟨decide (10000 < p0.Height), Option.some.inj h, S.fix [] [] (by decide) rfl rfl rfl⟩))

end Go.Proofs.YtmedbnjhgkcndaaDoor
