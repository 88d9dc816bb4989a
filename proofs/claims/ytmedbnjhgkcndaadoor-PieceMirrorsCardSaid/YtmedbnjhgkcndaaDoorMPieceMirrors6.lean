/- Several texts in one: G9 KvAlive PlA PlB G45 G21 G15 PlP -/
import Derived.WalkKit
import Derived.Maps.AppendAt
import Derived.Deep.AppendLies
import Derived.KernelRfl
import Derived.Laws.OwnMore
import Derived.Great.BuildSlice
import Derived.Orders
import Derived.Laws.StructEq
import Derived.ChangeKeysEq
import Derived.Defers
import Derived.Laws.BytesString
import Derived.RangeFuncNested
import Derived.RangeFuncBound
import Derived.RangeFuncCalls
import Derived.RangeFuncLeaves
import Derived.OrdersIn
import Derived.LoopNIn
import Derived.Test.YtmedbnjhgkcndaaDoorProg
import Derived.ProofKit
import Derived.OpenShut
import Derived.ChangeOld
import Derived.Deep.Slices
import Derived.Lib.SmallJoins
import Derived.JoinedOf
import Derived.JoinedAt
import Derived.Below
import Derived.Shelf.Strings.Builder1
import Derived.Shelf.Strings.Builder2
import Derived.Shelf.Strings.OnBuilder
import Derived.Test.YtmedbnjhgkcndaaDoorRows
import Derived.LaidMore
import Derived.SevenTiedAt
import Derived.Test.YtmedbnjhgkcndaaDoorCards
import Derived.Test.YtmedbnjhgkcndaaDoorTie
import Derived.Test.YtmedbnjhgkcndaaDoorMPieceMirrors5
namespace Go.Proofs.YtmedbnjhgkcndaaDoor
open Go.RowKit
set_option linter.unusedVariables false

def anc_raddlelaw37_alive_0 : List (List Nat) := [[], [0], [0, 1], [0, 1, 2], [0, 1, 2], [0, 1, 2, 3, 4], [0, 1, 2, 3, 4, 5], [0, 1, 2, 3, 4, 5, 6], [0, 1, 2, 3, 4, 5, 6, 7], [0, 1, 2, 3, 4, 5, 6, 7, 8], [0, 1, 2, 3, 4, 5, 6, 7, 8, 9], [0, 1, 2, 3, 4, 5, 6, 7, 8, 9, 10], [0, 1, 2, 3, 4, 5, 6, 7, 8, 9, 10, 11], [0, 1, 2, 3, 4, 5, 6, 7, 8, 9, 10, 11, 12], [0, 1, 2, 3, 4, 5, 6, 7, 8, 9, 10, 11, 12, 13], [0, 1, 2, 3, 4, 5, 6, 7, 8, 9, 10, 11, 12, 13, 14], [0, 1, 2, 3, 4, 5, 6, 7, 8, 9, 10, 11, 12, 13, 14, 15], [0, 1, 2, 3, 4, 5, 6, 7, 8, 9, 10, 11, 12, 13, 14, 15, 16], [0, 1, 2, 3, 4, 5, 6, 7, 8, 9, 10, 11, 12, 13, 14, 15, 16, 17], [0, 1, 2, 3, 4, 5, 6, 7, 8, 9, 10, 11, 12, 13, 14, 15, 16, 17, 18], [0, 1, 2, 3, 4, 5, 6, 7, 8, 9, 10, 11, 12, 13, 14, 15, 16, 17, 18, 19], [0, 1, 2, 3, 4, 5, 6, 7, 8, 9, 10, 11, 12, 13, 14, 15, 16, 17, 18, 19, 20], [0, 1, 2, 3, 4, 5, 6, 7, 8, 9, 10, 11, 12, 13, 14, 15, 16, 17, 18, 19, 20, 21], [0, 1, 2, 3, 4, 5, 6, 7, 8, 9, 10, 11, 12, 13, 14, 15, 16, 17, 18, 19, 20, 21, 22], [0, 1, 2, 3, 4, 5, 6, 7, 8, 9, 10, 11, 12, 13, 14, 15, 16, 17, 18, 19, 20, 21, 22, 23], [0, 1, 2, 3, 4, 5, 6, 7, 8, 9, 10, 11, 12, 13, 14, 15, 16, 17, 18, 19, 20, 21, 22, 23, 24], [0, 1, 2, 3, 4, 5, 6, 7, 8, 9, 10, 11, 12, 13, 14, 15, 16, 17, 18, 19, 20, 21, 22, 23, 24, 25], [0, 1, 2, 3, 4, 5, 6, 7, 8, 9, 10, 11, 12, 13, 14, 15, 16, 17, 18, 19, 20, 21, 22, 23, 24, 25, 26], [0, 1, 2, 3, 4, 5, 6, 7, 8, 9, 10, 11, 12, 13, 14, 15, 16, 17, 18, 19, 20, 21, 22, 23, 24, 25, 26, 27], [0, 1, 2, 3, 4, 5, 6, 7, 8, 9, 10, 11, 12, 13, 14, 15, 16, 17, 18, 19, 20, 21, 22, 23, 24, 25, 26, 27], [0, 1, 2, 3, 4, 5, 6, 7, 8, 9, 10, 11, 12, 13, 14, 15, 16, 17, 18, 19, 20, 21, 22, 23, 24, 25, 26, 27, 28, 29], [0, 1, 2, 3, 4, 5, 6, 7, 8, 9, 10, 11, 12, 13, 14, 15, 16, 17, 18, 19, 20, 21, 22, 23, 24, 25, 26, 27, 28, 29, 30], [0, 1, 2, 3, 4, 5, 6, 7, 8, 9, 10, 11, 12, 13, 14, 15, 16, 17, 18, 19, 20, 21, 22, 23, 24, 25, 26, 27, 28, 29, 30, 31]]
noncomputable def raddlelaw37_alive_l1 (r38 : (api_Chart × Int)) : Int → Option (Int ⊕ (Bool ⊕ Unit)) := fun s0 => match s0 with
  | s95 =>
    if decide (s95 < 4) then
      Option.bind (idxO r38.1.Rows s95) fun x104 =>
      Option.bind (F_stitch_Text x104.Cells) fun r113 =>
      Option.bind (α := Bool) (
        if r113.2 != 0 then
          some true
        else
          Option.bind (idxO ([(⟨#[112, 108, 50, 32, 112, 56]⟩ : ByteArray), (⟨#[107, 102, 50, 32, 107, 55]⟩ : ByteArray), (⟨#[112, 108, 50, 32, 112, 54]⟩ : ByteArray), (⟨#[107, 102, 50, 32, 107, 53]⟩ : ByteArray)] : List ByteArray) s95) fun x119 =>
          if r113.1 != x119 then
            some true
          else
            Option.bind (remI s95 2) fun z127 =>
            some (x104.Back != (z127 == 0))) fun o115 =>
      if o115 then
        some (.inr (.inl false))
      else
        some (.inl (w64 (s95 + 1)))
    else
      some (.inr (.inr ()))
noncomputable def F_raddlelaw37_alive  : Option Bool :=
  Option.bind (F_raddlelaw37_given) fun r3 =>
  Option.bind (F_piece_Make r3) fun r14 =>
  Option.bind (F_raddlelaw37_made) fun r27 =>
  Option.bind (F_piece_Chart r27) fun r38 =>
  Option.bind (F_piece_Read r38.1 0) fun r47 =>
  if r14.2 != 0 then
    none
  else
    Option.bind (F_raddleref37_Same r14.1 r27) fun r73 =>
    if !r73 then
      none
    else
      if r38.2 != 0 then
        none
      else
        if r38.1.Start != 10 then
          none
        else
          if (r38.1.Rows.length : Int) != 4 then
            none
          else
            if r47.2 != 0 then
              none
            else
              Option.bind (F_raddleref37_Same r47.1 r14.1) fun r80 =>
              if !r80 then
                none
              else
                Option.bind (α := Unit ⊕ Bool) (
                  Option.bind (whileO (raddlelaw37_alive_l1 r38) 0) fun z0 => match z0 with
                    | .inl z =>
                      some (.inr z)
                    | .inr _ =>
                      some (.inl ())) fun z0 => match z0 with
                  | .inl _ =>
                    some true
                  | .inr z =>
                    some z
set_option maxHeartbeats 4000000 in
set_option maxRecDepth 100000 in
theorem c_raddlelaw37_alive (E : Nat → Prop) (w0 : World)  (r : Bool) (h : F_raddlelaw37_alive  = some r) (S : St0 E [] w0 w0 [] []) :
    Calls Tryd.prog 9 #[] w0 (Ret (X := Unit) E [] w0 (fun _ => .bool r) (fun _ => []) (fun _ => [])) := by
  unfold F_raddlelaw37_alive at h
  refine sEnter (args := []) 95 Tryd.func9 rfl rfl (by simp) S (fun a S => ?_)
  refine sSeq (fun K1 hK1 => ?_)
  refine sRegion ?_
  refine sMove (.bool false) S (wN rfl) (.inr rfl) rfl rfl (lb rfl) fun a S => ?_
  refine leafL (leafT (hK1 _ _ ?_))
  refine sSeq (fun K2 hK2 => ?_)
  refine sRegion ?_
  obtain ⟨r3, hx4, h⟩ := bindSome h
  have hv_r3 : r3 = (api_Shape.mk [(api_Point.mk 0 0), (api_Point.mk 2 4)] [(api_Point.mk 10 0), (api_Point.mk 8 4)]) := Option.some.inj (hx4.symm.trans (by exact kc_raddlelaw37_alive_0))
  refine sCall (X := Value) (f := 32) (vs := []) (val := c_raddlelaw37_given_val r3) (B' := fun _ => []) (D' := c_raddlelaw37_given_D r3) [] [] [] [] [] S (wN rfl) rfl callee32 rfl (by decide) rfl rfl (fun E1 w1 S1 => c_raddlelaw37_given E1 w1  r3 hx4 S1) rfl (lb rfl) fun u5 a w S => ?_
  obtain ⟨u6, u7, rfl, hu8, hu9⟩ := S.mem.know (i := 0) (e := fRep r_api_Shape (u5) r3) rfl
  have S := S.learn (fRep (rL r_api_Point) u6 r3.Left) hu8
  obtain ⟨ad10, cp11, _, rfl, _⟩ := hu8
  have S := S.learn (fRep (rL r_api_Point) u7 r3.Right) hu9
  obtain ⟨ad12, cp13, _, rfl, _⟩ := hu9
  obtain ⟨r14, hx15, h⟩ := bindSome h
  have hv_r14 : r14 = ((api_Piece.mk [0, 1, 1, 2, 2] [10, 10, 9, 9, 8]), 0) := Option.some.inj (hx15.symm.trans (by rw [hv_r3]; exact kc_raddlelaw37_alive_1))
  refine sCall (X := Value) (f := 12) (vs := [.agg #[.slice ad10 r3.Left.length cp11, .slice ad12 r3.Right.length cp13]]) (val := c_piece_Make_val r14) (B' := fun _ => []) (D' := c_piece_Make_D r14) [] [] [fRep r_api_Shape (.agg #[.slice ad10 r3.Left.length cp11, .slice ad12 r3.Right.length cp13]) r3] [] [2] S (wN rfl) rfl callee12 rfl (by decide) rfl rfl (fun E1 w1 S1 => c_piece_Make E1 w1 r3 (.agg #[.slice ad10 r3.Left.length cp11, .slice ad12 r3.Right.length cp13]) r14 hx15 S1) rfl (lb rfl) fun u16 a w S => ?_
  obtain ⟨u17, u18, rfl, hu19, hu20⟩ := S.mem.know (i := 0) (e := fRep r_api_Piece (u16) r14.1) rfl
  have S := S.learn (fRep (rL (rI .i64)) u17 r14.1.Left) hu19
  obtain ⟨ad21, cp22, _, rfl, _⟩ := hu19
  have S := S.learn (fRep (rL (rI .i64)) u18 r14.1.Right) hu20
  obtain ⟨ad23, cp24, _, rfl, _⟩ := hu20
  refine sMove (.tuple #[.agg #[.slice ad21 r14.1.Left.length cp22, .slice ad23 r14.1.Right.length cp24], iv r14.2]) S (wN rfl) (.inl rfl) rfl rfl (lb rfl) fun a S => ?_
  refine sExtract (vs := [.agg #[.slice ad21 r14.1.Left.length cp22, .slice ad23 r14.1.Right.length cp24], iv r14.2]) (.agg #[.slice ad21 r14.1.Left.length cp22, .slice ad23 r14.1.Right.length cp24]) S (wN rfl) rfl rfl rfl rfl (lb rfl) fun a S => ?_
  refine sExtract (vs := [.agg #[.slice ad21 r14.1.Left.length cp22, .slice ad23 r14.1.Right.length cp24], iv r14.2]) (iv r14.2) S (wN rfl) rfl rfl rfl rfl (lb rfl) fun a S => ?_
  refine sAlloc (.agg #[.slice none 0 0, .slice none 0 0]) S (wN rfl) rfl rfl [.slice none 0 0, .slice none 0 0] rfl rfl (lb rfl) fun a b25 w S => ?_
  refine sStore (p := b25) (off := 0) (T := 30) (vs := [.slice none 0 0, .slice none 0 0]) (v := .agg #[.slice ad21 r14.1.Left.length cp22, .slice ad23 r14.1.Right.length cp24]) 0 [.slice ad21 r14.1.Left.length cp22, .slice ad23 r14.1.Right.length cp24] S (wN rfl) rfl rfl rfl rfl rfl rfl rfl (by simp) rfl fun a w S => ?_
  refine sMove (iv r14.2) S (wN rfl) (.inr rfl) rfl rfl (lb rfl) fun a S => ?_
  refine leafL (leafT (hK2 _ _ ?_))
  refine sSeq (fun K26 hK26 => ?_)
  refine sRegion ?_
  obtain ⟨r27, hx28, h⟩ := bindSome h
  have hv_r27 : r27 = (api_Piece.mk [0, 1, 1, 2, 2] [10, 10, 9, 9, 8]) := Option.some.inj (hx28.symm.trans (by exact kc_raddlelaw37_alive_2))
  refine sCall (X := Value) (f := 29) (vs := []) (val := c_raddlelaw37_made_val r27) (B' := fun _ => []) (D' := c_raddlelaw37_made_D r27) [] [eBox b25 30 [.slice ad21 r14.1.Left.length cp22, .slice ad23 r14.1.Right.length cp24]] [] [0] [] S (wN rfl) rfl callee29 rfl (by decide) rfl rfl (fun E1 w1 S1 => c_raddlelaw37_made E1 w1  r27 hx28 S1) rfl (lb rfl) fun u29 a w S => ?_
  obtain ⟨u30, u31, rfl, hu32, hu33⟩ := S.mem.know (i := 0) (e := fRep r_api_Piece (u29) r27) rfl
  have S := S.learn (fRep (rL (rI .i64)) u30 r27.Left) hu32
  obtain ⟨ad34, cp35, _, rfl, _⟩ := hu32
  have S := S.learn (fRep (rL (rI .i64)) u31 r27.Right) hu33
  obtain ⟨ad36, cp37, _, rfl, _⟩ := hu33
  obtain ⟨r38, hx39, h⟩ := bindSome h
  have hv_r38 : r38 = ((api_Chart.mk 10 [(api_Row.mk true [(api_Stitch.mk 4 true 2 0), (api_Stitch.mk 1 true 0 0), (api_Stitch.mk 1 true 0 0), (api_Stitch.mk 1 true 0 0), (api_Stitch.mk 1 true 0 0), (api_Stitch.mk 1 true 0 0), (api_Stitch.mk 1 true 0 0), (api_Stitch.mk 1 true 0 0), (api_Stitch.mk 1 true 0 0)]), (api_Row.mk false [(api_Stitch.mk 3 false 2 0), (api_Stitch.mk 1 false 0 0), (api_Stitch.mk 1 false 0 0), (api_Stitch.mk 1 false 0 0), (api_Stitch.mk 1 false 0 0), (api_Stitch.mk 1 false 0 0), (api_Stitch.mk 1 false 0 0), (api_Stitch.mk 1 false 0 0)]), (api_Row.mk true [(api_Stitch.mk 4 true 2 0), (api_Stitch.mk 1 true 0 0), (api_Stitch.mk 1 true 0 0), (api_Stitch.mk 1 true 0 0), (api_Stitch.mk 1 true 0 0), (api_Stitch.mk 1 true 0 0), (api_Stitch.mk 1 true 0 0)]), (api_Row.mk false [(api_Stitch.mk 3 false 2 0), (api_Stitch.mk 1 false 0 0), (api_Stitch.mk 1 false 0 0), (api_Stitch.mk 1 false 0 0), (api_Stitch.mk 1 false 0 0), (api_Stitch.mk 1 false 0 0)])]), 0) := Option.some.inj (hx39.symm.trans (by rw [hv_r27]; exact kc_raddlelaw37_alive_3))
  refine sCall (X := Value) (f := 17) (vs := [.agg #[.slice ad34 r27.Left.length cp35, .slice ad36 r27.Right.length cp37]]) (val := c_piece_Chart_val r38) (B' := fun _ => []) (D' := c_piece_Chart_D r38) [] [eBox b25 30 [.slice ad21 r14.1.Left.length cp22, .slice ad23 r14.1.Right.length cp24]] [fRep r_api_Piece (.agg #[.slice ad34 r27.Left.length cp35, .slice ad36 r27.Right.length cp37]) r27] [0] [2] S (wN rfl) rfl callee17 rfl (by decide) rfl rfl (fun E1 w1 S1 => c_piece_Chart E1 w1 r27 (.agg #[.slice ad34 r27.Left.length cp35, .slice ad36 r27.Right.length cp37]) r38 hx39 S1) rfl (lb rfl) fun u40 a w S => ?_
  obtain ⟨u41, rfl, hu42⟩ := S.mem.know (i := 0) (e := fRep r_api_Chart (u40) r38.1) rfl
  have S := S.learn (fRep (rL r_api_Row) u41 r38.1.Rows) hu42
  obtain ⟨ad43, cp44, _, rfl, _⟩ := hu42
  refine sMove (.tuple #[.agg #[iv r38.1.Start, .slice ad43 r38.1.Rows.length cp44], iv r38.2]) S (wN rfl) (.inl rfl) rfl rfl (lb rfl) fun a S => ?_
  refine sExtract (vs := [.agg #[iv r38.1.Start, .slice ad43 r38.1.Rows.length cp44], iv r38.2]) (.agg #[iv r38.1.Start, .slice ad43 r38.1.Rows.length cp44]) S (wN rfl) rfl rfl rfl rfl (lb rfl) fun a S => ?_
  refine sExtract (vs := [.agg #[iv r38.1.Start, .slice ad43 r38.1.Rows.length cp44], iv r38.2]) (iv r38.2) S (wN rfl) rfl rfl rfl rfl (lb rfl) fun a S => ?_
  refine sAlloc (.agg #[iv 0, .slice none 0 0]) S (wN rfl) rfl rfl [iv 0, .slice none 0 0] rfl rfl (lb rfl) fun a b45 w S => ?_
  refine sStore (p := b45) (off := 0) (T := 40) (vs := [iv 0, .slice none 0 0]) (v := .agg #[iv r38.1.Start, .slice ad43 r38.1.Rows.length cp44]) 0 [iv r38.1.Start, .slice ad43 r38.1.Rows.length cp44] S (wN rfl) rfl rfl rfl rfl rfl rfl rfl (by simp) rfl fun a w S => ?_
  refine sMove (iv r38.2) S (wN rfl) (.inr rfl) rfl rfl (lb rfl) fun a S => ?_
  refine leafL (leafT (hK26 _ _ ?_))
  refine sSeq (fun K46 hK46 => ?_)
  refine sRegion ?_
  refine sLoadN (p := b45) (off := 0) (T := 40) (vs := [iv r38.1.Start, .slice ad43 r38.1.Rows.length cp44]) 0 [iv r38.1.Start, .slice ad43 r38.1.Rows.length cp44] S (wN rfl) rfl rfl rfl rfl rfl rfl rfl (lb rfl) fun a S => ?_
  obtain ⟨r47, hx48, h⟩ := bindSome h
  have hv_r47 : r47 = ((api_Piece.mk [0, 1, 1, 2, 2] [10, 10, 9, 9, 8]), 0) := Option.some.inj (hx48.symm.trans (by rw [hv_r38]; exact kc_raddlelaw37_alive_4))
  refine sCall (X := Value) (f := 18) (vs := [.agg #[iv r38.1.Start, .slice ad43 r38.1.Rows.length cp44], iv 0]) (val := c_piece_Read_val r47) (B' := fun _ => []) (D' := c_piece_Read_D r47) [] [eBox b45 40 [iv r38.1.Start, .slice ad43 r38.1.Rows.length cp44], eBox b25 30 [.slice ad21 r14.1.Left.length cp22, .slice ad23 r14.1.Right.length cp24]] [fRep r_api_Chart (.agg #[iv r38.1.Start, .slice ad43 r38.1.Rows.length cp44]) r38.1] [0, 1] [1] S (wN rfl) rfl callee18 rfl (by decide) rfl rfl (fun E1 w1 S1 => c_piece_Read E1 w1 r38.1 (.agg #[iv r38.1.Start, .slice ad43 r38.1.Rows.length cp44]) 0 r47 hx48 S1) rfl (lb rfl) fun u49 a w S => ?_
  obtain ⟨u50, u51, rfl, hu52, hu53⟩ := S.mem.know (i := 0) (e := fRep r_api_Piece (u49) r47.1) rfl
  have S := S.learn (fRep (rL (rI .i64)) u50 r47.1.Left) hu52
  obtain ⟨ad54, cp55, _, rfl, _⟩ := hu52
  have S := S.learn (fRep (rL (rI .i64)) u51 r47.1.Right) hu53
  obtain ⟨ad56, cp57, _, rfl, _⟩ := hu53
  refine sMove (.tuple #[.agg #[.slice ad54 r47.1.Left.length cp55, .slice ad56 r47.1.Right.length cp57], iv r47.2]) S (wN rfl) (.inl rfl) rfl rfl (lb rfl) fun a S => ?_
  refine sExtract (vs := [.agg #[.slice ad54 r47.1.Left.length cp55, .slice ad56 r47.1.Right.length cp57], iv r47.2]) (.agg #[.slice ad54 r47.1.Left.length cp55, .slice ad56 r47.1.Right.length cp57]) S (wN rfl) rfl rfl rfl rfl (lb rfl) fun a S => ?_
  refine sExtract (vs := [.agg #[.slice ad54 r47.1.Left.length cp55, .slice ad56 r47.1.Right.length cp57], iv r47.2]) (iv r47.2) S (wN rfl) rfl rfl rfl rfl (lb rfl) fun a S => ?_
  refine sAlloc (.agg #[.slice none 0 0, .slice none 0 0]) S (wN rfl) rfl rfl [.slice none 0 0, .slice none 0 0] rfl rfl (lb rfl) fun a b58 w S => ?_
  refine sStore (p := b58) (off := 0) (T := 30) (vs := [.slice none 0 0, .slice none 0 0]) (v := .agg #[.slice ad54 r47.1.Left.length cp55, .slice ad56 r47.1.Right.length cp57]) 0 [.slice ad54 r47.1.Left.length cp55, .slice ad56 r47.1.Right.length cp57] S (wN rfl) rfl rfl rfl rfl rfl rfl rfl (by simp) rfl fun a w S => ?_
  refine sMove (iv r47.2) S (wN rfl) (.inr rfl) rfl rfl (lb rfl) fun a S => ?_
  refine leafL (leafT (hK46 _ _ ?_))
  refine sSeq (fun K59 hK59 => ?_)
  refine sRegion ?_
  refine sBuild [(0, .string (⟨#[112, 108, 50, 32, 112, 56]⟩ : ByteArray)), (1, .string (⟨#[107, 102, 50, 32, 107, 55]⟩ : ByteArray)), (2, .string (⟨#[112, 108, 50, 32, 112, 54]⟩ : ByteArray)), (3, .string (⟨#[107, 102, 50, 32, 107, 53]⟩ : ByteArray))] [.string (⟨#[112, 108, 50, 32, 112, 56]⟩ : ByteArray), .string (⟨#[107, 102, 50, 32, 107, 55]⟩ : ByteArray), .string (⟨#[112, 108, 50, 32, 112, 54]⟩ : ByteArray), .string (⟨#[107, 102, 50, 32, 107, 53]⟩ : ByteArray)] S (wN rfl) rfl rfl rfl rfl (lb rfl) fun a S => ?_
  refine sAlloc (.agg #[.string (⟨#[]⟩ : ByteArray), .string (⟨#[]⟩ : ByteArray), .string (⟨#[]⟩ : ByteArray), .string (⟨#[]⟩ : ByteArray)]) S (wN rfl) rfl rfl [.string (⟨#[]⟩ : ByteArray), .string (⟨#[]⟩ : ByteArray), .string (⟨#[]⟩ : ByteArray), .string (⟨#[]⟩ : ByteArray)] rfl rfl (lb rfl) fun a b60 w S => ?_
  refine sStore (p := b60) (off := 0) (T := 73) (vs := [.string (⟨#[]⟩ : ByteArray), .string (⟨#[]⟩ : ByteArray), .string (⟨#[]⟩ : ByteArray), .string (⟨#[]⟩ : ByteArray)]) (v := .agg #[.string (⟨#[112, 108, 50, 32, 112, 56]⟩ : ByteArray), .string (⟨#[107, 102, 50, 32, 107, 55]⟩ : ByteArray), .string (⟨#[112, 108, 50, 32, 112, 54]⟩ : ByteArray), .string (⟨#[107, 102, 50, 32, 107, 53]⟩ : ByteArray)]) 0 [.string (⟨#[112, 108, 50, 32, 112, 56]⟩ : ByteArray), .string (⟨#[107, 102, 50, 32, 107, 55]⟩ : ByteArray), .string (⟨#[112, 108, 50, 32, 112, 54]⟩ : ByteArray), .string (⟨#[107, 102, 50, 32, 107, 53]⟩ : ByteArray)] S (wN rfl) rfl rfl rfl rfl rfl rfl rfl (by simp) rfl fun a w S => ?_
  refine leafL (leafT (hK59 _ _ ?_))
  refine sSeq (fun K61 hK61 => ?_)
  refine sSeq (fun K62 hK62 => ?_)
  rcases iteSome h with ⟨hc63, h⟩ | ⟨hc63, h⟩
  · exact absurd hc63 (by rw [hv_r14]; decide)
  obtain ⟨r73, hx74, h⟩ := bindSome h
  have hv_r73 : r73 = true := Option.some.inj (hx74.symm.trans (by rw [hv_r14, hv_r27]; exact kc_raddlelaw37_alive_5))
  rcases iteSome h with ⟨hc75, h⟩ | ⟨hc75, h⟩
  · exact absurd hc75 (by rw [hv_r73]; decide)
  rcases iteSome h with ⟨hc76, h⟩ | ⟨hc76, h⟩
  · exact absurd hc76 (by rw [hv_r38]; decide)
  rcases iteSome h with ⟨hc77, h⟩ | ⟨hc77, h⟩
  · exact absurd hc77 (by rw [hv_r38]; decide)
  rcases iteSome h with ⟨hc78, h⟩ | ⟨hc78, h⟩
  · exact absurd hc78 (by rw [hv_r38]; decide)
  rcases iteSome h with ⟨hc79, h⟩ | ⟨hc79, h⟩
  · exact absurd hc79 (by rw [hv_r47]; decide)
  obtain ⟨r80, hx81, h⟩ := bindSome h
  have hv_r80 : r80 = true := Option.some.inj (hx81.symm.trans (by rw [hv_r47, hv_r14]; exact kc_raddlelaw37_alive_6))
  refine sDraw (nf := [4]) (W := [(0, 27, iv r14.2), (1, 28, .bool (r14.2 != 0)), (2, 29, .bool (r14.2 != 0)), (3, 30, .agg #[.slice ad21 r14.1.Left.length cp22, .slice ad23 r14.1.Right.length cp24])]) rfl S ?_
  refine node_by (A := anc_raddlelaw37_alive_0) (nf := [4]) (Y := []) (W := [(0, 27, iv r14.2), (1, 28, .bool (r14.2 != 0)), (2, 29, .bool (r14.2 != 0)), (3, 30, .agg #[.slice ad21 r14.1.Left.length cp22, .slice ad23 r14.1.Right.length cp24])]) 33 (by kernel_rfl) (by kernel_rfl) (by kernel_rfl) (by kernel_rfl) (by kernel_rfl) [0, 1, 2, 3] (by kernel_rfl) (by decide) (by decide) (aF 0 32 (by decide) ?_ (aF 1 31 (by decide) ?_ (aF 2 30 (by decide) ?_ (aF 3 29 (by decide) ?_ (aN 4 28 (by decide) ?_ (aE 5 27 4 (by decide) (aE 6 26 4 (by decide) (aE 7 25 4 (by decide) (aE 8 24 4 (by decide) (aE 9 23 4 (by decide) (aE 10 22 4 (by decide) (aE 11 21 4 (by decide) (aE 12 20 4 (by decide) (aE 13 19 4 (by decide) (aE 14 18 4 (by decide) (aE 15 17 4 (by decide) (aE 16 16 4 (by decide) (aE 17 15 4 (by decide) (aE 18 14 4 (by decide) (aE 19 13 4 (by decide) (aE 20 12 4 (by decide) (aE 21 11 4 (by decide) (aE 22 10 4 (by decide) (aE 23 9 4 (by decide) (aE 24 8 4 (by decide) (aE 25 7 4 (by decide) (aE 26 6 4 (by decide) (aE 27 5 4 (by decide) (aE 28 4 4 (by decide) (aE 29 3 4 (by decide) (aE 30 2 4 (by decide) (aE 31 1 4 (by decide) (aE 32 0 4 (by decide) (trivial)))))))))))))))))))))))))))))))))) [] (fun q hq => by cases hq) (fun hY => absurd (hY 4 (by decide)) (by decide))
  · refine fI 27 (iv r14.2) [(2, iv r14.2)] 0 [none] rfl rfl rfl rfl rfl rfl fun G a w S => ?_
    refine sMove (iv r14.2) S (wN rfl) (.inl rfl) rfl rfl (lb rfl) fun a S => ?_
    exact leafL ⟨rfl, S⟩
  · refine fI 28 (.bool (r14.2 != 0)) [(27, iv r14.2)] 1 [some 0] rfl rfl rfl rfl rfl rfl fun G a w S => ?_
    refine sBin (.bool (r14.2 != 0)) S (wN rfl) rfl rfl rfl (bNe _ _ _ _ .i64 r14.2 0) rfl (lb rfl) fun a S => ?_
    exact leafL ⟨rfl, S⟩
  · refine fI 29 (.bool (r14.2 != 0)) [(28, .bool (r14.2 != 0))] 2 [some 1] rfl rfl rfl rfl rfl rfl fun G a w S => ?_
    refine sMove (.bool (r14.2 != 0)) S (wN rfl) (.inl rfl) rfl rfl (lb rfl) fun a S => ?_
    exact leafL ⟨rfl, S⟩
  · refine fI 30 (.agg #[.slice ad21 r14.1.Left.length cp22, .slice ad23 r14.1.Right.length cp24]) [(1, .pointer (some ⟨b25, 0, none⟩)), (29, .bool (r14.2 != 0))] 3 [none, some 2] rfl rfl rfl rfl rfl rfl fun G a w S => ?_
    refine sLoadN (p := b25) (off := 0) (T := 30) (vs := [.slice ad21 r14.1.Left.length cp22, .slice ad23 r14.1.Right.length cp24]) 3 [.slice ad21 r14.1.Left.length cp22, .slice ad23 r14.1.Right.length cp24] S (wG 2 false 29 rfl rfl rfl hc63) rfl rfl rfl rfl rfl rfl rfl (lb rfl) fun a S => ?_
    exact leafL ⟨rfl, S⟩
  refine ⟨_, [(29, .bool (r14.2 != 0))], rfl, (srcs_of [some 2] rfl rfl rfl), fun G a w S => ?_⟩
  refine sCall (X := Value) (f := 29) (vs := []) (val := c_raddlelaw37_made_val r27) (B' := fun _ => []) (D' := c_raddlelaw37_made_D r27) [] [eBox b60 73 [.string (⟨#[112, 108, 50, 32, 112, 56]⟩ : ByteArray), .string (⟨#[107, 102, 50, 32, 107, 55]⟩ : ByteArray), .string (⟨#[112, 108, 50, 32, 112, 54]⟩ : ByteArray), .string (⟨#[107, 102, 50, 32, 107, 53]⟩ : ByteArray)], eBox b58 30 [.slice ad54 r47.1.Left.length cp55, .slice ad56 r47.1.Right.length cp57], eBox b45 40 [iv r38.1.Start, .slice ad43 r38.1.Rows.length cp44], eBox b25 30 [.slice ad21 r14.1.Left.length cp22, .slice ad23 r14.1.Right.length cp24]] [] [0, 1, 2, 3] [] S (wG 2 false 29 rfl rfl rfl hc63) rfl callee29 rfl (by decide) rfl rfl (fun E1 w1 S1 => c_raddlelaw37_made E1 w1  r27 hx28 S1) rfl (lb rfl) fun u82 a w S => ?_
  obtain ⟨u83, u84, rfl, hu85, hu86⟩ := S.mem.know (i := 0) (e := fRep r_api_Piece (u82) r27) rfl
  have S := S.learn (fRep (rL (rI .i64)) u83 r27.Left) hu85
  obtain ⟨ad87, cp88, _, rfl, _⟩ := hu85
  have S := S.learn (fRep (rL (rI .i64)) u84 r27.Right) hu86
  obtain ⟨ad89, cp90, _, rfl, _⟩ := hu86
  refine leafL ⟨rfl, _, _, .inl ⟨31, (.agg #[.slice ad87 r27.Left.length cp88, .slice ad89 r27.Right.length cp90]), [(5, 32, .bool r73), (6, 33, .bool (!r73)), (7, 34, .bool (!r73)), (8, 35, .bool (!r73)), (9, 36, iv r38.2), (10, 37, .bool (r38.2 != 0)), (11, 38, .bool (r38.2 != 0)), (12, 39, .bool (r38.2 != 0)), (13, 40, .pointer (some ⟨b45, 0, none⟩)), (14, 41, iv r38.1.Start), (15, 42, .bool (r38.1.Start != 10)), (16, 43, .bool (r38.1.Start != 10)), (17, 44, .bool (r38.1.Start != 10)), (18, 45, .pointer (some ⟨b45, 1, none⟩)), (19, 46, .slice ad43 r38.1.Rows.length cp44), (20, 47, iv (r38.1.Rows.length : Int)), (21, 48, .bool ((r38.1.Rows.length : Int) != 4)), (22, 49, .bool ((r38.1.Rows.length : Int) != 4)), (23, 50, .bool ((r38.1.Rows.length : Int) != 4)), (24, 51, iv r47.2), (25, 52, .bool (r47.2 != 0)), (26, 53, .bool (r47.2 != 0)), (27, 54, .bool (r47.2 != 0)), (28, 55, .agg #[.slice ad54 r47.1.Left.length cp55, .slice ad56 r47.1.Right.length cp57]), (29, 56, .agg #[.slice ad21 r14.1.Left.length cp22, .slice ad23 r14.1.Right.length cp24]), (30, 57, .bool r80), (31, 58, .bool (!r80)), (32, 59, .bool (!r80))], rfl, S, hz_of rfl, ?_⟩⟩
  refine node_by (A := anc_raddlelaw37_alive_0) (nf := [4]) (Y := [4]) 33 (by kernel_rfl) (by kernel_rfl) (by kernel_rfl) (by kernel_rfl) (by kernel_rfl) [5, 6, 7, 8, 9, 10, 11, 12, 13, 14, 15, 16, 17, 18, 19, 20, 21, 22, 23, 24, 25, 26, 27, 28, 29, 30, 31, 32, 4, 0, 1, 2, 3] (by kernel_rfl) (by decide) (by decide) (aD 0 32 4 (by decide) (aD 1 31 4 (by decide) (aD 2 30 4 (by decide) (aF 3 29 (by decide) ?_ (aY 4 28 (by decide) (aF 5 27 (by decide) ?_ (aF 6 26 (by decide) ?_ (aF 7 25 (by decide) ?_ (aF 8 24 (by decide) ?_ (aF 9 23 (by decide) ?_ (aF 10 22 (by decide) ?_ (aF 11 21 (by decide) ?_ (aF 12 20 (by decide) ?_ (aF 13 19 (by decide) ?_ (aF 14 18 (by decide) ?_ (aF 15 17 (by decide) ?_ (aF 16 16 (by decide) ?_ (aF 17 15 (by decide) ?_ (aF 18 14 (by decide) ?_ (aF 19 13 (by decide) ?_ (aF 20 12 (by decide) ?_ (aF 21 11 (by decide) ?_ (aF 22 10 (by decide) ?_ (aF 23 9 (by decide) ?_ (aF 24 8 (by decide) ?_ (aF 25 7 (by decide) ?_ (aF 26 6 (by decide) ?_ (aF 27 5 (by decide) ?_ (aF 28 4 (by decide) ?_ (aF 29 3 (by decide) ?_ (aF 30 2 (by decide) ?_ (aF 31 1 (by decide) ?_ (aF 32 0 (by decide) ?_ (trivial)))))))))))))))))))))))))))))))))) [(3, .pointer (some ⟨b45, 0, none⟩)), (7, .pointer (some ⟨b60, 0, none⟩)), (59, .bool (!r80))] (fin_of [none, none, some 27] rfl (by kernel_rfl) (by kernel_rfl)) (fun _ a w S => ?_)
  · refine fI 30 (.agg #[.slice ad21 r14.1.Left.length cp22, .slice ad23 r14.1.Right.length cp24]) [(1, .pointer (some ⟨b25, 0, none⟩)), (29, .bool (r14.2 != 0))] 32 [none, some 31] rfl rfl rfl rfl rfl rfl fun G a w S => ?_
    refine sLoadN (p := b25) (off := 0) (T := 30) (vs := [.slice ad21 r14.1.Left.length cp22, .slice ad23 r14.1.Right.length cp24]) 3 [.slice ad21 r14.1.Left.length cp22, .slice ad23 r14.1.Right.length cp24] S (wG 2 false 29 rfl rfl rfl hc63) rfl rfl rfl rfl rfl rfl rfl (lb rfl) fun a S => ?_
    exact leafL ⟨rfl, S⟩
  · refine fI 32 (.bool r73) [(30, .agg #[.slice ad21 r14.1.Left.length cp22, .slice ad23 r14.1.Right.length cp24]), (31, .agg #[.slice ad87 r27.Left.length cp88, .slice ad89 r27.Right.length cp90]), (29, .bool (r14.2 != 0))] 0 [some 32, some 28, some 31] rfl rfl rfl rfl rfl rfl fun G a w S => ?_
    have S1 := S.mem
    refine sCallQ (X := Unit) (f := 19) (vs := [.agg #[.slice ad21 r14.1.Left.length cp22, .slice ad23 r14.1.Right.length cp24], .agg #[.slice ad87 r27.Left.length cp88, .slice ad89 r27.Right.length cp90]]) (val := fun _ => .bool r73) S (wG 2 false 29 rfl rfl rfl hc63) rfl callee19 rfl (S1.quiet [13, 2] rfl) (fun E1 w1 S1 => c_raddleref37_Same E1 w1 r14.1 (.agg #[.slice ad21 r14.1.Left.length cp22, .slice ad23 r14.1.Right.length cp24]) r27 (.agg #[.slice ad87 r27.Left.length cp88, .slice ad89 r27.Right.length cp90]) r73 hx74 S1) rfl (lb rfl) fun _ a w S => ?_
    exact leafL ⟨rfl, S⟩
  · refine fI 33 (.bool (!r73)) [(32, .bool r73), (29, .bool (r14.2 != 0))] 1 [some 0, some 31] rfl rfl rfl rfl rfl rfl fun G a w S => ?_
    refine sNot (b := r73) S (wG 2 false 29 rfl rfl rfl hc63) rfl rfl rfl (lb rfl) fun a S => ?_
    exact leafL ⟨rfl, S⟩
  · refine fI 34 (.bool (!r73)) [(29, .bool (r14.2 != 0)), (33, .bool (!r73))] 2 [some 31, some 1] rfl rfl rfl rfl rfl rfl fun G a w S => ?_
    refine sPickF (.bool (!r73)) S (wN rfl) rfl rfl hc63 rfl rfl (lb rfl) fun a S => ?_
    exact leafL ⟨rfl, S⟩
  · refine fI 35 (.bool (!r73)) [(34, .bool (!r73))] 3 [some 2] rfl rfl rfl rfl rfl rfl fun G a w S => ?_
    refine sMove (.bool (!r73)) S (wN rfl) (.inl rfl) rfl rfl (lb rfl) fun a S => ?_
    exact leafL ⟨rfl, S⟩
  · refine fI 36 (iv r38.2) [(4, iv r38.2), (35, .bool (!r73))] 4 [none, some 3] rfl rfl rfl rfl rfl rfl fun G a w S => ?_
    refine sMove (iv r38.2) S (wG 8 false 35 rfl rfl rfl hc75) (.inl rfl) rfl rfl (lb rfl) fun a S => ?_
    exact leafL ⟨rfl, S⟩
  · refine fI 37 (.bool (r38.2 != 0)) [(36, iv r38.2), (35, .bool (!r73))] 5 [some 4, some 3] rfl rfl rfl rfl rfl rfl fun G a w S => ?_
    refine sBin (.bool (r38.2 != 0)) S (wG 8 false 35 rfl rfl rfl hc75) rfl rfl rfl (bNe _ _ _ _ .i64 r38.2 0) rfl (lb rfl) fun a S => ?_
    exact leafL ⟨rfl, S⟩
  · refine fI 38 (.bool (r38.2 != 0)) [(35, .bool (!r73)), (37, .bool (r38.2 != 0))] 6 [some 3, some 5] rfl rfl rfl rfl rfl rfl fun G a w S => ?_
    refine sPickF (.bool (r38.2 != 0)) S (wN rfl) rfl rfl hc75 rfl rfl (lb rfl) fun a S => ?_
    exact leafL ⟨rfl, S⟩
  · refine fI 39 (.bool (r38.2 != 0)) [(38, .bool (r38.2 != 0))] 7 [some 6] rfl rfl rfl rfl rfl rfl fun G a w S => ?_
    refine sMove (.bool (r38.2 != 0)) S (wN rfl) (.inl rfl) rfl rfl (lb rfl) fun a S => ?_
    exact leafL ⟨rfl, S⟩
  · refine fI 40 (.pointer (some ⟨b45, 0, none⟩)) [(3, .pointer (some ⟨b45, 0, none⟩)), (39, .bool (r38.2 != 0))] 8 [none, some 7] rfl rfl rfl rfl rfl rfl fun G a w S => ?_
    refine sField (b := b45) (off := 0) 0 0 S (wG 12 false 39 rfl rfl rfl hc76) rfl rfl rfl rfl rfl (lb rfl) fun a S => ?_
    exact leafL ⟨rfl, S⟩
  · refine fI 41 (iv r38.1.Start) [(40, .pointer (some ⟨b45, 0, none⟩)), (39, .bool (r38.2 != 0))] 9 [some 8, some 7] rfl rfl rfl rfl rfl rfl fun G a w S => ?_
    refine sLoad1 (p := b45) (off := 0) (T := 40) (vs := [iv r38.1.Start, .slice ad43 r38.1.Rows.length cp44]) 2 (iv r38.1.Start) S (wG 12 false 39 rfl rfl rfl hc76) rfl rfl rfl rfl rfl rfl (lb rfl) fun a S => ?_
    exact leafL ⟨rfl, S⟩
  · refine fI 42 (.bool (r38.1.Start != 10)) [(41, iv r38.1.Start), (39, .bool (r38.2 != 0))] 10 [some 9, some 7] rfl rfl rfl rfl rfl rfl fun G a w S => ?_
    refine sBin (.bool (r38.1.Start != 10)) S (wG 12 false 39 rfl rfl rfl hc76) rfl rfl rfl (bNe _ _ _ _ .i64 r38.1.Start 10) rfl (lb rfl) fun a S => ?_
    exact leafL ⟨rfl, S⟩
  · refine fI 43 (.bool (r38.1.Start != 10)) [(39, .bool (r38.2 != 0)), (42, .bool (r38.1.Start != 10))] 11 [some 7, some 10] rfl rfl rfl rfl rfl rfl fun G a w S => ?_
    refine sPickF (.bool (r38.1.Start != 10)) S (wN rfl) rfl rfl hc76 rfl rfl (lb rfl) fun a S => ?_
    exact leafL ⟨rfl, S⟩
  · refine fI 44 (.bool (r38.1.Start != 10)) [(43, .bool (r38.1.Start != 10))] 12 [some 11] rfl rfl rfl rfl rfl rfl fun G a w S => ?_
    refine sMove (.bool (r38.1.Start != 10)) S (wN rfl) (.inl rfl) rfl rfl (lb rfl) fun a S => ?_
    exact leafL ⟨rfl, S⟩
  · refine fI 45 (.pointer (some ⟨b45, 1, none⟩)) [(3, .pointer (some ⟨b45, 0, none⟩)), (44, .bool (r38.1.Start != 10))] 13 [none, some 12] rfl rfl rfl rfl rfl rfl fun G a w S => ?_
    refine sField (b := b45) (off := 0) 1 1 S (wG 17 false 44 rfl rfl rfl hc77) rfl rfl rfl rfl rfl (lb rfl) fun a S => ?_
    exact leafL ⟨rfl, S⟩
  · refine fI 46 (.slice ad43 r38.1.Rows.length cp44) [(45, .pointer (some ⟨b45, 1, none⟩)), (44, .bool (r38.1.Start != 10))] 14 [some 13, some 12] rfl rfl rfl rfl rfl rfl fun G a w S => ?_
    refine sLoad1 (p := b45) (off := 1) (T := 40) (vs := [iv r38.1.Start, .slice ad43 r38.1.Rows.length cp44]) 2 (.slice ad43 r38.1.Rows.length cp44) S (wG 17 false 44 rfl rfl rfl hc77) rfl rfl rfl rfl rfl rfl (lb rfl) fun a S => ?_
    exact leafL ⟨rfl, S⟩
  · refine fI 47 (iv (r38.1.Rows.length : Int)) [(46, .slice ad43 r38.1.Rows.length cp44), (44, .bool (r38.1.Start != 10))] 15 [some 14, some 12] rfl rfl rfl rfl rfl rfl fun G a w S => ?_
    refine sLen (ad := ad43) (m := r38.1.Rows.length) (c := cp44) S (wG 17 false 44 rfl rfl rfl hc77) rfl Tryd.underlying38 rfl rfl (lb rfl) fun a S => ?_
    exact leafL ⟨rfl, S⟩
  · refine fI 48 (.bool ((r38.1.Rows.length : Int) != 4)) [(47, iv (r38.1.Rows.length : Int)), (44, .bool (r38.1.Start != 10))] 16 [some 15, some 12] rfl rfl rfl rfl rfl rfl fun G a w S => ?_
    refine sBin (.bool ((r38.1.Rows.length : Int) != 4)) S (wG 17 false 44 rfl rfl rfl hc77) rfl rfl rfl (bNe _ _ _ _ .i64 (r38.1.Rows.length : Int) 4) rfl (lb rfl) fun a S => ?_
    exact leafL ⟨rfl, S⟩
  · refine fI 49 (.bool ((r38.1.Rows.length : Int) != 4)) [(44, .bool (r38.1.Start != 10)), (48, .bool ((r38.1.Rows.length : Int) != 4))] 17 [some 12, some 16] rfl rfl rfl rfl rfl rfl fun G a w S => ?_
    refine sPickF (.bool ((r38.1.Rows.length : Int) != 4)) S (wN rfl) rfl rfl hc77 rfl rfl (lb rfl) fun a S => ?_
    exact leafL ⟨rfl, S⟩
  · refine fI 50 (.bool ((r38.1.Rows.length : Int) != 4)) [(49, .bool ((r38.1.Rows.length : Int) != 4))] 18 [some 17] rfl rfl rfl rfl rfl rfl fun G a w S => ?_
    refine sMove (.bool ((r38.1.Rows.length : Int) != 4)) S (wN rfl) (.inl rfl) rfl rfl (lb rfl) fun a S => ?_
    exact leafL ⟨rfl, S⟩
  · refine fI 51 (iv r47.2) [(6, iv r47.2), (50, .bool ((r38.1.Rows.length : Int) != 4))] 19 [none, some 18] rfl rfl rfl rfl rfl rfl fun G a w S => ?_
    refine sMove (iv r47.2) S (wG 23 false 50 rfl rfl rfl hc78) (.inl rfl) rfl rfl (lb rfl) fun a S => ?_
    exact leafL ⟨rfl, S⟩
  · refine fI 52 (.bool (r47.2 != 0)) [(51, iv r47.2), (50, .bool ((r38.1.Rows.length : Int) != 4))] 20 [some 19, some 18] rfl rfl rfl rfl rfl rfl fun G a w S => ?_
    refine sBin (.bool (r47.2 != 0)) S (wG 23 false 50 rfl rfl rfl hc78) rfl rfl rfl (bNe _ _ _ _ .i64 r47.2 0) rfl (lb rfl) fun a S => ?_
    exact leafL ⟨rfl, S⟩
  · refine fI 53 (.bool (r47.2 != 0)) [(50, .bool ((r38.1.Rows.length : Int) != 4)), (52, .bool (r47.2 != 0))] 21 [some 18, some 20] rfl rfl rfl rfl rfl rfl fun G a w S => ?_
    refine sPickF (.bool (r47.2 != 0)) S (wN rfl) rfl rfl hc78 rfl rfl (lb rfl) fun a S => ?_
    exact leafL ⟨rfl, S⟩
  · refine fI 54 (.bool (r47.2 != 0)) [(53, .bool (r47.2 != 0))] 22 [some 21] rfl rfl rfl rfl rfl rfl fun G a w S => ?_
    refine sMove (.bool (r47.2 != 0)) S (wN rfl) (.inl rfl) rfl rfl (lb rfl) fun a S => ?_
    exact leafL ⟨rfl, S⟩
  · refine fI 55 (.agg #[.slice ad54 r47.1.Left.length cp55, .slice ad56 r47.1.Right.length cp57]) [(5, .pointer (some ⟨b58, 0, none⟩)), (54, .bool (r47.2 != 0))] 23 [none, some 22] rfl rfl rfl rfl rfl rfl fun G a w S => ?_
    refine sLoadN (p := b58) (off := 0) (T := 30) (vs := [.slice ad54 r47.1.Left.length cp55, .slice ad56 r47.1.Right.length cp57]) 1 [.slice ad54 r47.1.Left.length cp55, .slice ad56 r47.1.Right.length cp57] S (wG 27 false 54 rfl rfl rfl hc79) rfl rfl rfl rfl rfl rfl rfl (lb rfl) fun a S => ?_
    exact leafL ⟨rfl, S⟩
  · refine fI 56 (.agg #[.slice ad21 r14.1.Left.length cp22, .slice ad23 r14.1.Right.length cp24]) [(1, .pointer (some ⟨b25, 0, none⟩)), (54, .bool (r47.2 != 0))] 24 [none, some 22] rfl rfl rfl rfl rfl rfl fun G a w S => ?_
    refine sLoadN (p := b25) (off := 0) (T := 30) (vs := [.slice ad21 r14.1.Left.length cp22, .slice ad23 r14.1.Right.length cp24]) 3 [.slice ad21 r14.1.Left.length cp22, .slice ad23 r14.1.Right.length cp24] S (wG 27 false 54 rfl rfl rfl hc79) rfl rfl rfl rfl rfl rfl rfl (lb rfl) fun a S => ?_
    exact leafL ⟨rfl, S⟩
  · refine fI 57 (.bool r80) [(55, .agg #[.slice ad54 r47.1.Left.length cp55, .slice ad56 r47.1.Right.length cp57]), (56, .agg #[.slice ad21 r14.1.Left.length cp22, .slice ad23 r14.1.Right.length cp24]), (54, .bool (r47.2 != 0))] 25 [some 23, some 24, some 22] rfl rfl rfl rfl rfl rfl fun G a w S => ?_
    have S1 := S.mem
    refine sCallQ (X := Unit) (f := 19) (vs := [.agg #[.slice ad54 r47.1.Left.length cp55, .slice ad56 r47.1.Right.length cp57], .agg #[.slice ad21 r14.1.Left.length cp22, .slice ad23 r14.1.Right.length cp24]]) (val := fun _ => .bool r80) S (wG 27 false 54 rfl rfl rfl hc79) rfl callee19 rfl (S1.quiet [5, 13] rfl) (fun E1 w1 S1 => c_raddleref37_Same E1 w1 r47.1 (.agg #[.slice ad54 r47.1.Left.length cp55, .slice ad56 r47.1.Right.length cp57]) r14.1 (.agg #[.slice ad21 r14.1.Left.length cp22, .slice ad23 r14.1.Right.length cp24]) r80 hx81 S1) rfl (lb rfl) fun _ a w S => ?_
    exact leafL ⟨rfl, S⟩
  · refine fI 58 (.bool (!r80)) [(57, .bool r80), (54, .bool (r47.2 != 0))] 26 [some 25, some 22] rfl rfl rfl rfl rfl rfl fun G a w S => ?_
    refine sNot (b := r80) S (wG 27 false 54 rfl rfl rfl hc79) rfl rfl rfl (lb rfl) fun a S => ?_
    exact leafL ⟨rfl, S⟩
  · refine fI 59 (.bool (!r80)) [(54, .bool (r47.2 != 0)), (58, .bool (!r80))] 27 [some 22, some 26] rfl rfl rfl rfl rfl rfl fun G a w S => ?_
    refine sPickF (.bool (!r80)) S (wN rfl) rfl rfl hc79 rfl rfl (lb rfl) fun a S => ?_
    exact leafL ⟨rfl, S⟩
  refine leafT (hK62 _ _ ?_)
  rcases iteSome h with ⟨hc91, h⟩ | ⟨hc91, h⟩
  · exact absurd hc91 (by rw [hv_r80]; decide)
  refine sCondF S rfl hc91 ?_
  refine wp_skip (leafT (hK61 _ _ ?_))
  obtain ⟨t92, h, g93⟩ := bindSome h
  refine sCut (fun a w => .inl () = t92 ∧ St [] E [] w0 95 a w [] [] []) ?_ (fun a w hI => ?_)
  rotate_left
  · obtain ⟨rfl, S⟩ := hI
    have h := g93
    clear g93
    try dsimp only at h
    refine sSeq (fun K131 hK131 => ?_)
    refine sRegion ?_
    refine sMove (.bool true) S (wN rfl) (.inr rfl) rfl rfl (lb rfl) fun a S => ?_
    refine leafL (leafT (hK131 _ _ ?_))
    obtain rfl := Option.some.inj h
    exact wp_ret (sRet (.bool true) S (rsl1 rfl (rvT (t := 0) (v := .bool true) S rfl)) ⟨(), rfl, S.mem.sel [] [] (by decide) rfl rfl⟩)
  refine sSeq (fun K94 hK94 => ?_)
  refine sRegion ?_
  refine sMove (iv 0) S (wN rfl) (.inr rfl) rfl rfl (lb rfl) fun a S => ?_
  refine leafL (leafT (hK94 _ _ ?_))
  refine wp_block ?_
  obtain ⟨t98, hl, g97⟩ := bindSome h
  refine sLoop hl (fun s0 a w => match s0 with | s95 => St [] E [] w0 95 a w [(3, .pointer (some ⟨b45, 0, none⟩)), (7, .pointer (some ⟨b60, 0, none⟩)), (8, iv s95)] [eBox b45 40 [iv r38.1.Start, .slice ad43 r38.1.Rows.length cp44], eBox b60 73 [.string (⟨#[112, 108, 50, 32, 112, 56]⟩ : ByteArray), .string (⟨#[107, 102, 50, 32, 107, 55]⟩ : ByteArray), .string (⟨#[112, 108, 50, 32, 112, 54]⟩ : ByteArray), .string (⟨#[107, 102, 50, 32, 107, 53]⟩ : ByteArray)]] [fRep (rL r_api_Row) (.slice ad43 r38.1.Rows.length cp44) r38.1.Rows]) (S.fix [2, 0] [6] (by decide) rfl rfl rfl) ?_
  clear hl h
  intro s95 a w c0 hI h hu96
  unfold raddlelaw37_alive_l1 at h
  dsimp only at h hI
  have S := hI
  refine sSeq (fun K99 hK99 => ?_)
  refine sSeq (fun K100 hK100 => ?_)
  refine sRegion ?_
  refine sMove (iv s95) S (wN rfl) (.inl rfl) rfl rfl (lb rfl) fun a S => ?_
  refine sBin (.bool (decide (s95 < 4))) S (wN rfl) rfl rfl rfl (bLt _ _ _ _ .i64 s95 4) rfl (lb rfl) fun a S => ?_
  refine leafL (leafT (hK100 _ _ ?_))
  rcases iteSome h with ⟨hc101, h⟩ | ⟨hc101, h⟩
  rotate_left
  · refine sCondF S rfl hc101 ?_
    obtain rfl := Option.some.inj h
    obtain rfl := hu96 _ rfl
    have h := g97
    clear g97
    try dsimp only at h
    exact wp_exit (xThen (xThen (xHit (leafT (⟨Option.some.inj h, S.fix [] [] (by decide) rfl rfl rfl⟩)))))
  refine sCondT S rfl hc101 ?_
  refine wp_skip (leafT (hK99 _ _ ?_))
  refine sSeq (fun K102 hK102 => ?_)
  refine wp_block ?_
  refine sSeq (fun K103 hK103 => ?_)
  refine sRegion ?_
  refine sField (b := b45) (off := 0) 1 1 S (wN rfl) rfl rfl rfl rfl rfl (lb rfl) fun a S => ?_
  refine sLoad1 (p := b45) (off := 1) (T := 40) (vs := [iv r38.1.Start, .slice ad43 r38.1.Rows.length cp44]) 0 (.slice ad43 r38.1.Rows.length cp44) S (wN rfl) rfl rfl rfl rfl rfl rfl (lb rfl) fun a S => ?_
  refine sMove (iv s95) S (wN rfl) (.inl rfl) rfl rfl (lb rfl) fun a S => ?_
  obtain ⟨x104, hx105, h⟩ := bindSome h
  obtain ⟨q106, hq107, S⟩ := pIdx (P := Tryd.prog) (r := r_api_Row) (v := .slice ad43 r38.1.Rows.length cp44) (xs := r38.1.Rows) (j := s95) 38 54 0 S Tryd.underlying38 rfl rfl hx105
  refine sIdxV (v := .slice ad43 r38.1.Rows.length cp44) (k := .i64) (j := s95) S (wN rfl) rfl rfl rfl hq107 rfl (lb rfl) fun a S => ?_
  obtain ⟨q108, hq109, S⟩ := pFld (P := Tryd.prog) (r := r_api_Row) (s2 := (rL r_api_Stitch)) (g := (·.Cells)) (q := q106) (z := x104) 54 1 0 1 S rfl rfl comp_api_Row_Cells
  refine sFldV (q := q106) S (wN rfl) rfl rfl hq109 rfl (lb rfl) fun a S => ?_
  obtain ⟨u110, S⟩ := pLoad (r := (rL r_api_Stitch)) (q := q108) (x := x104.Cells) 0 S rfl
  obtain ⟨ad111, cp112, _, rfl, _⟩ := S.mem.know (i := 1) (e := fRep (rL r_api_Stitch) (u110) x104.Cells) rfl
  refine sLoadV1 (vq := q108) 0 (.slice ad111 x104.Cells.length cp112) S (wN rfl) rfl rfl rfl rfl rfl (lb rfl) fun a S => ?_
  obtain ⟨r113, hx114, h⟩ := bindSome h
  have S1 := S.mem
  refine sCallQ (X := Unit) (f := 33) (vs := [.slice ad111 x104.Cells.length cp112]) (val := fun _ => .tuple #[.string r113.1, iv r113.2]) S (wN rfl) rfl callee33 rfl (S1.quiet [1] rfl) (fun E1 w1 S1 => c_stitch_Text E1 w1 x104.Cells (.slice ad111 x104.Cells.length cp112) r113 hx114 S1) rfl (lb rfl) fun _ a w S => ?_
  refine sMove (.tuple #[.string r113.1, iv r113.2]) S (wN rfl) (.inl rfl) rfl rfl (lb rfl) fun a S => ?_
  refine sExtract (vs := [.string r113.1, iv r113.2]) (.string r113.1) S (wN rfl) rfl rfl rfl rfl (lb rfl) fun a S => ?_
  refine sExtract (vs := [.string r113.1, iv r113.2]) (iv r113.2) S (wN rfl) rfl rfl rfl rfl (lb rfl) fun a S => ?_
  refine sMove (.string r113.1) S (wN rfl) (.inr rfl) rfl rfl (lb rfl) fun a S => ?_
  refine sMove (iv r113.2) S (wN rfl) (.inr rfl) rfl rfl (lb rfl) fun a S => ?_
  refine leafL (leafT (hK103 _ _ ?_))
  obtain ⟨t116, h, g117⟩ := bindSome h
  refine sCut (fun a w => ∃ o115, o115 = t116 ∧ St [] E [] w0 95 a w [(3, .pointer (some ⟨b45, 0, none⟩)), (7, .pointer (some ⟨b60, 0, none⟩)), (8, iv s95), (94, .bool o115)] [eBox b45 40 [iv r38.1.Start, .slice ad43 r38.1.Rows.length cp44], eBox b60 73 [.string (⟨#[112, 108, 50, 32, 112, 56]⟩ : ByteArray), .string (⟨#[107, 102, 50, 32, 107, 55]⟩ : ByteArray), .string (⟨#[112, 108, 50, 32, 112, 54]⟩ : ByteArray), .string (⟨#[107, 102, 50, 32, 107, 53]⟩ : ByteArray)]] [fRep (rL r_api_Row) (.slice ad43 r38.1.Rows.length cp44) r38.1.Rows]) ?_ (fun a w hI => ?_)
  rotate_left
  · obtain ⟨o115, rfl, S⟩ := hI
    have h := g117
    clear g117
    try dsimp only at h
    rcases iteSome h with ⟨hc129, h⟩ | ⟨hc129, h⟩
    rotate_left
    · refine sCondF S rfl hc129 ?_
      refine wp_skip (leafB (leafT (hK102 _ _ ?_)))
      refine sRegion ?_
      refine sMove (iv s95) S (wN rfl) (.inl rfl) rfl rfl (lb rfl) fun a S => ?_
      refine sBin (iv (w64 (s95 + 1))) S (wN rfl) rfl rfl rfl (bAdd _ _ _ _ s95 1) rfl (lb rfl) fun a S => ?_
      refine sMove (iv (w64 (s95 + 1))) S (wN rfl) (.inr rfl) rfl rfl (lb rfl) fun a S => ?_
      exact leafL (leafT (⟨w64 (s95 + 1), (Option.some.inj h).symm, (S.fix [0, 1] [0] (by decide) rfl rfl rfl)⟩))
    refine sCondT S rfl hc129 ?_
    refine sSeq (fun K130 hK130 => ?_)
    refine sRegion ?_
    refine sMove (.bool false) S (wN rfl) (.inr rfl) rfl rfl (lb rfl) fun a S => ?_
    refine leafL (leafT (hK130 _ _ ?_))
    obtain rfl := Option.some.inj h
    obtain rfl := hu96 _ rfl
    have h := g97
    clear g97
    try dsimp only at h
    obtain rfl := Option.some.inj h
    have h := g93
    clear g93
    try dsimp only at h
    obtain rfl := Option.some.inj h
    exact wp_ret (rBlock (rThen (rThen (rBlock (rThen (sRet (.bool false) S (rsl1 rfl (rvT (t := 0) (v := .bool false) S rfl)) ⟨(), rfl, S.mem.sel [] [] (by decide) rfl rfl⟩))))))
  refine sRegion ?_
  refine sMove (iv r113.2) S (wN rfl) (.inl rfl) rfl rfl (lb rfl) fun a S => ?_
  refine sBin (.bool (r113.2 != 0)) S (wN rfl) rfl rfl rfl (bNe _ _ _ _ .i64 r113.2 0) rfl (lb rfl) fun a S => ?_
  refine sMove (.bool (r113.2 != 0)) S (wN rfl) (.inl rfl) rfl rfl (lb rfl) fun a S => ?_
  rcases iteSome h with ⟨hc118, h⟩ | ⟨hc118, h⟩
  · refine sSkip 2 false 76 77 S rfl rfl rfl hc118 rfl (lb rfl) fun a S => ?_
    refine sSkip 2 false 76 78 S rfl rfl rfl hc118 rfl (lb rfl) fun a S => ?_
    refine sSkip 2 false 76 79 S rfl rfl rfl hc118 rfl (lb rfl) fun a S => ?_
    refine sSkip 2 false 76 80 S rfl rfl rfl hc118 rfl (lb rfl) fun a S => ?_
    refine sSkip 2 false 76 81 S rfl rfl rfl hc118 rfl (lb rfl) fun a S => ?_
    refine sPickT (.bool true) S (wN rfl) rfl rfl hc118 rfl rfl (lb rfl) fun a S => ?_
    refine sMove (.bool true) S (wN rfl) (.inl rfl) rfl rfl (lb rfl) fun a S => ?_
    refine sSkip 9 false 83 84 S rfl rfl rfl rfl rfl (lb rfl) fun a S => ?_
    refine sSkip 9 false 83 85 S rfl rfl rfl rfl rfl (lb rfl) fun a S => ?_
    refine sSkip 9 false 83 86 S rfl rfl rfl rfl rfl (lb rfl) fun a S => ?_
    refine sSkip 9 false 83 87 S rfl rfl rfl rfl rfl (lb rfl) fun a S => ?_
    refine sSkip 9 false 83 88 S rfl rfl rfl rfl rfl (lb rfl) fun a S => ?_
    refine sSkip 9 false 83 89 S rfl rfl rfl rfl rfl (lb rfl) fun a S => ?_
    refine sSkip 9 false 83 90 S rfl rfl rfl rfl rfl (lb rfl) fun a S => ?_
    refine sSkip 9 false 83 91 S rfl rfl rfl rfl rfl (lb rfl) fun a S => ?_
    refine sSkip 9 false 83 92 S rfl rfl rfl rfl rfl (lb rfl) fun a S => ?_
    refine sSkip 9 false 83 93 S rfl rfl rfl rfl rfl (lb rfl) fun a S => ?_
    refine sPickT (.bool true) S (wN rfl) rfl rfl rfl rfl rfl (lb rfl) fun a S => ?_
    exact leafL (leafT (⟨true, Option.some.inj h, S.fix [0, 1] [4] (by decide) rfl rfl rfl⟩))
  refine sMove (.string r113.1) S (wG 2 false 76 rfl rfl rfl hc118) (.inl rfl) rfl rfl (lb rfl) fun a S => ?_
  refine sMove (iv s95) S (wG 2 false 76 rfl rfl rfl hc118) (.inl rfl) rfl rfl (lb rfl) fun a S => ?_
  obtain ⟨x119, hx120, h⟩ := bindSome h
  refine sIdxV (v := .pointer (some ⟨b60, 0, none⟩)) (k := .i64) (j := s95) (q := .pointer (some ⟨b60, 0 + (s95).toNat * 1, none⟩)) S (wG 2 false 76 rfl rfl rfl hc118) rfl rfl rfl (idxV_arr (m := 4) (sz := 1) Tryd.underlying73 rfl (idxO_rng (m := 4) hx120 rfl).1 (idxO_rng (m := 4) hx120 rfl).2 0) rfl (lb rfl) fun a S => ?_
  refine sLoad1 (p := b60) (off := 0 + (s95).toNat * 1) (T := 73) (vs := [.string (⟨#[112, 108, 50, 32, 112, 56]⟩ : ByteArray), .string (⟨#[107, 102, 50, 32, 107, 55]⟩ : ByteArray), .string (⟨#[112, 108, 50, 32, 112, 54]⟩ : ByteArray), .string (⟨#[107, 102, 50, 32, 107, 53]⟩ : ByteArray)]) 1 (.string x119) S (wG 2 false 76 rfl rfl rfl hc118) rfl rfl rfl rfl (box_at (g := (fun z => .string z)) [] [] 0 hx120 rfl rfl) rfl (lb rfl) fun a S => ?_
  refine sBin (.bool (r113.1 != x119)) S (wG 2 false 76 rfl rfl rfl hc118) rfl rfl rfl (bNeS _ _ _ _ r113.1 x119) rfl (lb rfl) fun a S => ?_
  refine sPickF (.bool (r113.1 != x119)) S (wN rfl) rfl rfl hc118 rfl rfl (lb rfl) fun a S => ?_
  refine sMove (.bool (r113.1 != x119)) S (wN rfl) (.inl rfl) rfl rfl (lb rfl) fun a S => ?_
  rcases iteSome h with ⟨hc121, h⟩ | ⟨hc121, h⟩
  · refine sSkip 9 false 83 84 S rfl rfl rfl hc121 rfl (lb rfl) fun a S => ?_
    refine sSkip 9 false 83 85 S rfl rfl rfl hc121 rfl (lb rfl) fun a S => ?_
    refine sSkip 9 false 83 86 S rfl rfl rfl hc121 rfl (lb rfl) fun a S => ?_
    refine sSkip 9 false 83 87 S rfl rfl rfl hc121 rfl (lb rfl) fun a S => ?_
    refine sSkip 9 false 83 88 S rfl rfl rfl hc121 rfl (lb rfl) fun a S => ?_
    refine sSkip 9 false 83 89 S rfl rfl rfl hc121 rfl (lb rfl) fun a S => ?_
    refine sSkip 9 false 83 90 S rfl rfl rfl hc121 rfl (lb rfl) fun a S => ?_
    refine sSkip 9 false 83 91 S rfl rfl rfl hc121 rfl (lb rfl) fun a S => ?_
    refine sSkip 9 false 83 92 S rfl rfl rfl hc121 rfl (lb rfl) fun a S => ?_
    refine sSkip 9 false 83 93 S rfl rfl rfl hc121 rfl (lb rfl) fun a S => ?_
    refine sPickT (.bool true) S (wN rfl) rfl rfl hc121 rfl rfl (lb rfl) fun a S => ?_
    exact leafL (leafT (⟨true, Option.some.inj h, S.fix [0, 1] [4] (by decide) rfl rfl rfl⟩))
  refine sField (b := b45) (off := 0) 1 1 S (wG 9 false 83 rfl rfl rfl hc121) rfl rfl rfl rfl rfl (lb rfl) fun a S => ?_
  refine sLoad1 (p := b45) (off := 1) (T := 40) (vs := [iv r38.1.Start, .slice ad43 r38.1.Rows.length cp44]) 0 (.slice ad43 r38.1.Rows.length cp44) S (wG 9 false 83 rfl rfl rfl hc121) rfl rfl rfl rfl rfl rfl (lb rfl) fun a S => ?_
  refine sMove (iv s95) S (wG 9 false 83 rfl rfl rfl hc121) (.inl rfl) rfl rfl (lb rfl) fun a S => ?_
  obtain ⟨q122, hq123, S⟩ := pIdx (P := Tryd.prog) (r := r_api_Row) (v := .slice ad43 r38.1.Rows.length cp44) (xs := r38.1.Rows) (j := s95) 38 54 4 S Tryd.underlying38 rfl rfl hx105
  refine sIdxV (v := .slice ad43 r38.1.Rows.length cp44) (k := .i64) (j := s95) S (wG 9 false 83 rfl rfl rfl hc121) rfl rfl rfl hq123 rfl (lb rfl) fun a S => ?_
  obtain ⟨q124, hq125, S⟩ := pFld (P := Tryd.prog) (r := r_api_Row) (s2 := rB) (g := (·.Back)) (q := q122) (z := x104) 54 0 0 0 S rfl rfl comp_api_Row_Back
  refine sFldV (q := q122) S (wG 9 false 83 rfl rfl rfl hc121) rfl rfl hq125 rfl (lb rfl) fun a S => ?_
  obtain ⟨u126, S⟩ := pLoad (r := rB) (q := q124) (x := x104.Back) 0 S rfl
  obtain rfl : u126 = .bool x104.Back := S.mem.know (i := 1) (e := fRep rB (u126) x104.Back) rfl
  refine sLoadV1 (vq := q124) 0 (.bool x104.Back) S (wG 9 false 83 rfl rfl rfl hc121) rfl rfl rfl rfl rfl (lb rfl) fun a S => ?_
  refine sMove (iv s95) S (wG 9 false 83 rfl rfl rfl hc121) (.inl rfl) rfl rfl (lb rfl) fun a S => ?_
  obtain ⟨z127, hx128, h⟩ := bindSome h
  refine sBin (iv z127) S (wG 9 false 83 rfl rfl rfl hc121) rfl rfl rfl (bRem _ _ _ _ (x := s95) (y := 2) hx128) rfl (lb rfl) fun a S => ?_
  refine sBin (.bool (z127 == 0)) S (wG 9 false 83 rfl rfl rfl hc121) rfl rfl rfl (bEq _ _ _ _ .i64 z127 0) rfl (lb rfl) fun a S => ?_
  refine sBin (.bool (x104.Back != (z127 == 0))) S (wG 9 false 83 rfl rfl rfl hc121) rfl rfl rfl (bNeB _ _ _ _ Tryd.underlying4 x104.Back (z127 == 0)) rfl (lb rfl) fun a S => ?_
  refine sPickF (.bool (x104.Back != (z127 == 0))) S (wN rfl) rfl rfl hc121 rfl rfl (lb rfl) fun a S => ?_
  exact leafL (leafT (⟨x104.Back != (z127 == 0), Option.some.inj h, S.fix [0, 1] [8] (by decide) rfl rfl rfl⟩))

end Go.Proofs.YtmedbnjhgkcndaaDoor
namespace Go.Proofs.YtmedbnjhgkcndaaDoor
open Go.RowKit
set_option linter.unusedVariables false

def K_raddlelaw37_alive_l1 (r38 : (api_Chart × Int)) : Int → Option (Int ⊕ (Bool ⊕ Unit)) := fun s0 => match s0 with
  | s95 =>
    if decide (s95 < 4) then
      Option.bind (idxO r38.1.Rows s95) fun x104 =>
      Option.bind (K_stitch_Text x104.Cells) fun r113 =>
      Option.bind (α := Bool) (
        if r113.2 != 0 then
          some true
        else
          Option.bind (idxO ([(⟨#[112, 108, 50, 32, 112, 56]⟩ : ByteArray), (⟨#[107, 102, 50, 32, 107, 55]⟩ : ByteArray), (⟨#[112, 108, 50, 32, 112, 54]⟩ : ByteArray), (⟨#[107, 102, 50, 32, 107, 53]⟩ : ByteArray)] : List ByteArray) s95) fun x119 =>
          if r113.1 != x119 then
            some true
          else
            Option.bind (remI s95 2) fun z127 =>
            some (x104.Back != (z127 == 0))) fun o115 =>
      if o115 then
        some (.inr (.inl false))
      else
        some (.inl (w64 (s95 + 1)))
    else
      some (.inr (.inr ()))
def K_raddlelaw37_alive  : Option Bool :=
  Option.bind (K_raddlelaw37_given) fun r3 =>
  Option.bind (K_piece_Make r3) fun r14 =>
  Option.bind (K_raddlelaw37_made) fun r27 =>
  Option.bind (K_piece_Chart r27) fun r38 =>
  Option.bind (K_piece_Read r38.1 0) fun r47 =>
  if r14.2 != 0 then
    none
  else
    Option.bind (K_raddleref37_Same r14.1 r27) fun r73 =>
    if !r73 then
      none
    else
      if r38.2 != 0 then
        none
      else
        if r38.1.Start != 10 then
          none
        else
          if (r38.1.Rows.length : Int) != 4 then
            none
          else
            if r47.2 != 0 then
              none
            else
              Option.bind (K_raddleref37_Same r47.1 r14.1) fun r80 =>
              if !r80 then
                none
              else
                Option.bind (α := Unit ⊕ Bool) (
                  Option.bind (whileK (K_raddlelaw37_alive_l1 r38) 0) fun z0 => match z0 with
                    | .inl z =>
                      some (.inr z)
                    | .inr _ =>
                      some (.inl ())) fun z0 => match z0 with
                  | .inl _ =>
                    some true
                  | .inr z =>
                    some z
theorem m_raddlelaw37_alive_l1 (r38 : (api_Chart × Int)) : ∀ s, Le (K_raddlelaw37_alive_l1 r38 s) (raddlelaw37_alive_l1 r38 s) := by
  unfold K_raddlelaw37_alive_l1 raddlelaw37_alive_l1
  with_reducible repeat' (first | exact m_F_stitch_Text _ | exact Le.rfl _ | refine Le.loop _ ?_ | refine Le.bind ?_ ?_ | refine Le.ite ?_ ?_ | refine Le.sum ?_ ?_ | refine Le.prod ?_ | intro _ | exact Empty.elim (by assumption) | dsimp only)
theorem m_F_raddlelaw37_alive  : Le (K_raddlelaw37_alive) (F_raddlelaw37_alive) := by
  unfold K_raddlelaw37_alive F_raddlelaw37_alive
  with_reducible repeat' (first | exact m_F_raddlelaw37_given | exact m_F_piece_Make _ | exact m_F_raddlelaw37_made | exact m_F_piece_Chart _ | exact m_F_piece_Read _ _ | exact m_F_raddleref37_Same _ _ | exact m_raddlelaw37_alive_l1 _ | exact Le.rfl _ | refine Le.loop _ ?_ | refine Le.bind ?_ ?_ | refine Le.ite ?_ ?_ | refine Le.sum ?_ ?_ | refine Le.prod ?_ | intro _ | exact Empty.elim (by assumption) | dsimp only)
set_option maxRecDepth 1000000 in
theorem k_raddlelaw37_alive : F_raddlelaw37_alive = some true := m_F_raddlelaw37_alive _ (by kernel_rfl)
end Go.Proofs.YtmedbnjhgkcndaaDoor
namespace Go.Proofs.YtmedbnjhgkcndaaDoor
open Go.RowKit
set_option linter.unusedVariables false

theorem w64_of {x : Int} (h0 : -9223372036854775808 ≤ x) (h1 : x ≤ 9223372036854775807) : w64 x = x := w64_id ⟨h0, h1⟩
theorem w64_succ {k : Nat} (h : k < 9223372036854775807) : w64 ((k : Int) + 1) = ((k + 1 : Nat) : Int) := by
  rw [w64_of (by omega) (by omega)]; omega
theorem idxO_nat {α : Type} {xs : List α} {k : Nat} (h : k < xs.length) : idxO xs (k : Int) = some xs[k] := by
  simp [idxO, h]
theorem idxO_of {α : Type} {xs : List α} {i : Int} {k : Nat} (hi : i = (k : Int)) (h : k < xs.length) : idxO xs i = some xs[k] := by subst hi; exact idxO_nat h
theorem setO_nat {α : Type} {xs : List α} {k : Nat} {y : α} (h : k < xs.length) : setO xs (k : Int) y = some (xs.set k y) := by
  simp [setO, h]
theorem appO_of {α : Type} {xs ys : List α} (h : xs.length + ys.length ≤ 68719476736) : appO xs ys = some (xs ++ ys) := by
  simp [appO, lim, h]
theorem capO_of {n : Int} {k : Nat} (h : n = (k : Int)) (hk : k ≤ 68719476736) : capO n = some () := by
  subst h; simp [capO, lim, hk]
theorem makeO_of {α : Type} {n : Int} {z : α} {k : Nat} (h : n = (k : Int)) (hk : k ≤ 68719476736) : makeO n z = some (List.replicate k z) := by
  subst h; simp [makeO, lim, hk]
theorem sliceO_of {α : Type} {xs : List α} {lo hi : Int} {l k : Nat} (h1 : lo = l) (h2 : hi = k) (h3 : l ≤ k) (h4 : k ≤ xs.length) : sliceO xs lo hi = some ((xs.take k).drop l) := by
  subst h1 h2; simp [sliceO, h3, h4]
/-- a loop over an index, with a state beside it -/
theorem loop_st {σ τ : Type} {B : σ × Int → Option ((σ × Int) ⊕ τ)} (n : Nat) (I : Nat → σ → Prop) (Pt : τ → Prop) {s0 : σ} (h0 : I 0 s0)
    (step : ∀ k s, k < n → I k s → (∃ s', B (s, (k : Int)) = some (.inl (s', ((k + 1 : Nat) : Int))) ∧ I (k + 1) s') ∨ (∃ t, B (s, (k : Int)) = some (.inr t) ∧ Pt t))
    (last : ∀ s, I n s → ∃ t, B (s, (n : Int)) = some (.inr t) ∧ Pt t) : ∃ t, whileO B (s0, 0) = some t ∧ Pt t := by
  refine whileO_inv (fun s => ∃ k : Nat, k ≤ n ∧ s.2 = (k : Int) ∧ I k s.1) (fun s => ((n : Int) - s.2).toNat) Pt ⟨0, Nat.zero_le _, rfl, h0⟩ ?_
  rintro ⟨s, i⟩ ⟨k, hk, rfl, hI⟩
  by_cases hlt : k < n
  · rcases step k s hlt hI with ⟨s', h1, h2⟩ | h
    · exact .inl ⟨_, h1, ⟨k + 1, hlt, rfl, h2⟩, by simp; omega⟩
    · exact .inr h
  · obtain rfl : k = n := by omega
    exact .inr (last s hI)
/-- a loop over an index alone -/
theorem loop_ix {τ : Type} {B : Int → Option (Int ⊕ τ)} (n : Nat) (I : Nat → Prop) (Pt : τ → Prop) (h0 : I 0)
    (step : ∀ k, k < n → I k → (B (k : Int) = some (.inl ((k + 1 : Nat) : Int)) ∧ I (k + 1)) ∨ (∃ t, B (k : Int) = some (.inr t) ∧ Pt t))
    (last : I n → ∃ t, B (n : Int) = some (.inr t) ∧ Pt t) : ∃ t, whileO B 0 = some t ∧ Pt t := by
  refine whileO_inv (fun s => ∃ k : Nat, k ≤ n ∧ s = (k : Int) ∧ I k) (fun s => ((n : Int) - s).toNat) Pt ⟨0, Nat.zero_le _, rfl, h0⟩ ?_
  rintro i ⟨k, hk, rfl, hI⟩
  by_cases hlt : k < n
  · rcases step k hlt hI with ⟨h1, h2⟩ | h
    · exact .inl ⟨_, h1, ⟨k + 1, hlt, rfl, h2⟩, by simp; omega⟩
    · exact .inr h
  · obtain rfl : k = n := by omega
    exact .inr (last hI)

end Go.Proofs.YtmedbnjhgkcndaaDoor
namespace Go.Proofs.YtmedbnjhgkcndaaDoor
open Go.RowKit
set_option linter.unusedVariables false

theorem loop_fr {σ τ : Type} {B : σ × Int → Option ((σ × Int) ⊕ τ)} (a n : Nat) (ha : a ≤ n) (I : Nat → σ → Prop) (Pt : τ → Prop) {s0 : σ} (h0 : I a s0)
    (step : ∀ k s, a ≤ k → k < n → I k s → (∃ s', B (s, (k : Int)) = some (.inl (s', ((k + 1 : Nat) : Int))) ∧ I (k + 1) s') ∨ (∃ t, B (s, (k : Int)) = some (.inr t) ∧ Pt t))
    (last : ∀ s, I n s → ∃ t, B (s, (n : Int)) = some (.inr t) ∧ Pt t) : ∃ t, whileO B (s0, (a : Int)) = some t ∧ Pt t := by
  refine whileO_inv (fun s => ∃ k : Nat, a ≤ k ∧ k ≤ n ∧ s.2 = (k : Int) ∧ I k s.1) (fun s => ((n : Int) - s.2).toNat) Pt ⟨a, Nat.le_refl _, ha, rfl, h0⟩ ?_
  rintro ⟨s, i⟩ ⟨k, hak, hk, rfl, hI⟩
  by_cases hlt : k < n
  · rcases step k s hak hlt hI with ⟨s', h1, h2⟩ | h
    · exact .inl ⟨_, h1, ⟨k + 1, by omega, hlt, rfl, h2⟩, by simp; omega⟩
    · exact .inr h
  · obtain rfl : k = n := by omega
    exact .inr (last s hI)
/-- a loop that leaves at the first index where f answers -/
theorem loop_find {τ : Type} {B : Int → Option (Int ⊕ τ)} (n : Nat) (f : Nat → Option τ) (good : τ)
    (h : ∀ k, k < n → B (k : Int) = some (match f k with | none => .inl ((k + 1 : Nat) : Int) | some t => .inr t)) (hn : B (n : Int) = some (.inr good)) :
    whileO B 0 = some (((List.range n).findSome? f).getD good) := by
  have key : ∃ t, whileO B 0 = some t ∧ t = ((List.range n).findSome? f).getD good := by
    refine loop_ix n (fun k => (List.range k).findSome? f = none) _ rfl ?_ ?_
    · intro k hk hI
      cases hf : f k with
      | none =>
        refine .inl ⟨by rw [h k hk, hf], ?_⟩
        rw [List.range_succ, List.findSome?_append, hI]
        simp [hf]
      | some t =>
        refine .inr ⟨t, by rw [h k hk, hf], ?_⟩
        have e : List.range n = List.range (k + 1) ++ (List.range (n - (k + 1))).map (k + 1 + ·) := by
          rw [← List.range_add]; congr 1; omega
        rw [e, List.findSome?_append, List.range_succ, List.findSome?_append, hI]
        simp [hf]
    · intro hI
      exact ⟨good, hn, by rw [hI]; rfl⟩
  obtain ⟨t, h1, rfl⟩ := key
  exact h1
/-- a loop that tests all, and says bad at the first that fails -/
theorem loop_all {τ : Type} {B : Int → Option (Int ⊕ τ)} (n : Nat) (p : Nat → Bool) (good bad : τ)
    (h : ∀ k, k < n → B (k : Int) = some (if p k = true then .inl ((k + 1 : Nat) : Int) else .inr bad)) (hn : B (n : Int) = some (.inr good)) :
    whileO B 0 = some (if (List.range n).all p = true then good else bad) := by
  have key : ∃ t, whileO B 0 = some t ∧ t = if (List.range n).all p = true then good else bad := by
    refine loop_ix n (fun k => ∀ j, j < k → p j = true) _ (fun j h => absurd h (Nat.not_lt_zero j)) ?_ ?_
    · intro k hk hI
      cases hf : p k with
      | true =>
        refine .inl ⟨by rw [h k hk, if_pos hf], fun j hj => ?_⟩
        by_cases e : j = k
        · rw [e]; exact hf
        · exact hI j (by omega)
      | false =>
        refine .inr ⟨bad, by rw [h k hk, hf]; simp, ?_⟩
        rw [if_neg]
        intro hc
        rw [List.all_eq_true] at hc
        have := hc k (List.mem_range.2 hk)
        rw [hf] at this; cases this
    · intro hI
      refine ⟨good, hn, ?_⟩
      rw [if_pos]
      rw [List.all_eq_true]
      exact fun j hj => hI j (List.mem_range.1 hj)
  obtain ⟨t, h1, rfl⟩ := key
  exact h1
/-- a loop that folds -/
theorem loop_fold {σ τ : Type} {B : σ × Int → Option ((σ × Int) ⊕ τ)} (n : Nat) (f : σ → Nat → σ) (s0 : σ) {t : τ}
    (h : ∀ k s, k < n → s = (List.range k).foldl f s0 → B (s, (k : Int)) = some (.inl (f s k, ((k + 1 : Nat) : Int))))
    (hn : B ((List.range n).foldl f s0, (n : Int)) = some (.inr t)) : whileO B (s0, 0) = some t := by
  have key : ∃ u, whileO B (s0, 0) = some u ∧ u = t := by
    refine loop_st n (fun k s => s = (List.range k).foldl f s0) _ rfl ?_ ?_
    · rintro k s hk hI
      refine .inl ⟨_, h k s hk hI, ?_⟩
      rw [List.range_succ, List.foldl_append, ← hI]; rfl
    · rintro s rfl
      exact ⟨t, hn, rfl⟩
  obtain ⟨u, h1, rfl⟩ := key
  exact h1
/-- a loop that gathers -/
theorem loop_map {α τ : Type} {B : List α × Int → Option ((List α × Int) ⊕ τ)} (n : Nat) (f : Nat → α) {t : τ}
    (h : ∀ k s, k < n → s = (List.range k).map f → B (s, (k : Int)) = some (.inl (s ++ [f k], ((k + 1 : Nat) : Int))))
    (hn : B ((List.range n).map f, (n : Int)) = some (.inr t)) : whileO B ([], 0) = some t := by
  have key : ∃ u, whileO B ([], 0) = some u ∧ u = t := by
    refine loop_st n (fun k s => s = (List.range k).map f) _ rfl ?_ ?_
    · rintro k s hk hI
      refine .inl ⟨_, h k s hk hI, ?_⟩
      rw [List.range_succ, List.map_append, ← hI]; rfl
    · rintro s rfl
      exact ⟨t, hn, rfl⟩
  obtain ⟨u, h1, rfl⟩ := key
  exact h1
theorem all_cong {n : Nat} {p q : Nat → Bool} (h : ∀ k, k < n → p k = q k) : (List.range n).all p = (List.range n).all q := by
  have : ∀ m, m ≤ n → (List.range m).all p = (List.range m).all q := by
    intro m
    induction m with
    | zero => intro _; rfl
    | succ m ih => intro hm; rw [List.range_succ, List.all_append, List.all_append, ih (by omega)]; simp [h m (by omega)]
  exact this n (Nat.le_refl _)
theorem map_cong {α : Type} {n : Nat} {f g : Nat → α} (h : ∀ k, k < n → f k = g k) : (List.range n).map f = (List.range n).map g :=
  List.map_congr_left fun k hk => h k (List.mem_range.1 hk)
/-- an element, wherever the index lies -/
theorem idxO_get {α : Type} {xs : List α} {i : Int} (h0 : 0 ≤ i) (h1 : i < (xs.length : Int)) : idxO xs i = some (xs[i.toNat]'(by omega)) := by
  have : i.toNat < xs.length := by omega
  simp [idxO, h0, this]
theorem dT {p : Prop} [Decidable p] (h : p) : decide p = true := decide_eq_true h
theorem dF {p : Prop} [Decidable p] (h : ¬ p) : decide p = false := decide_eq_false h
theorem bT {a b : Int} (h : a = b) : (a == b) = true := by simp [h]
theorem bF {a b : Int} (h : ¬ a = b) : (a == b) = false := by simp [h]
theorem nT {a b : Int} (h : ¬ a = b) : (a != b) = true := by simp [h]
theorem nF {a b : Int} (h : a = b) : (a != b) = false := by simp [h]
/-- a loop whose index comes first in its state -/
theorem loop_ts {σ τ : Type} {B : Int × σ → Option ((Int × σ) ⊕ τ)} (n : Nat) (I : Nat → σ → Prop) (Pt : τ → Prop) {s0 : σ} (h0 : I 0 s0)
    (step : ∀ k s, k < n → I k s → (∃ s', B ((k : Int), s) = some (.inl (((k + 1 : Nat) : Int), s')) ∧ I (k + 1) s') ∨ (∃ t, B ((k : Int), s) = some (.inr t) ∧ Pt t))
    (last : ∀ s, I n s → ∃ t, B ((n : Int), s) = some (.inr t) ∧ Pt t) : ∃ t, whileO B (0, s0) = some t ∧ Pt t := by
  refine whileO_inv (fun s => ∃ k : Nat, k ≤ n ∧ s.1 = (k : Int) ∧ I k s.2) (fun s => ((n : Int) - s.1).toNat) Pt ⟨0, Nat.zero_le _, rfl, h0⟩ ?_
  rintro ⟨i, s⟩ ⟨k, hk, rfl, hI⟩
  by_cases hlt : k < n
  · rcases step k s hlt hI with ⟨s', h1, h2⟩ | h
    · exact .inl ⟨_, h1, ⟨k + 1, hlt, rfl, h2⟩, by simp; omega⟩
    · exact .inr h
  · obtain rfl : k = n := by omega
    exact .inr (last s hI)
/-- a row filled from its start on -/
def Fill {α : Type} (n : Nat) (f : Nat → α) (k : Nat) (s : List α) : Prop := s.length = n ∧ ∀ j, j < k → s[j]? = some (f j)
theorem Fill.zero {α : Type} (n : Nat) (f : Nat → α) (z : α) : Fill n f 0 (List.replicate n z) := ⟨by simp, fun j hj => absurd hj (Nat.not_lt_zero j)⟩
theorem Fill.set {α : Type} {n : Nat} {f : Nat → α} {k : Nat} {s : List α} (h : Fill n f k s) (hk : k < n) : Fill n f (k + 1) (s.set k (f k)) := by
  refine ⟨by simp [h.1], fun j hj => ?_⟩
  by_cases e : j = k
  · subst e; simp [h.1, hk]
  · rw [List.getElem?_set_ne (fun h => e h.symm)]; exact h.2 j (by omega)
theorem Fill.all {α : Type} {n : Nat} {f : Nat → α} {s : List α} (h : Fill n f n s) : s = (List.range n).map f := by
  apply List.ext_getElem?
  intro j
  by_cases hj : j < n
  · rw [h.2 j hj]; simp [hj]
  · rw [List.getElem?_eq_none (by rw [h.1]; omega), List.getElem?_eq_none (by simp; omega)]
theorem loop_set {α τ : Type} {B : List α × Int → Option ((List α × Int) ⊕ τ)} (n : Nat) (f : Nat → α) (z : α) {t : τ}
    (h : ∀ k s, k < n → s.length = n → B (s, (k : Int)) = some (.inl (s.set k (f k), ((k + 1 : Nat) : Int))))
    (hn : B ((List.range n).map f, (n : Int)) = some (.inr t)) : whileO B (List.replicate n z, 0) = some t := by
  have key : ∃ u, whileO B (List.replicate n z, 0) = some u ∧ u = t := by
    refine loop_st n (fun k s => Fill n f k s) _ (Fill.zero n f z) ?_ ?_
    · intro k s hk hI
      exact .inl ⟨_, h k s hk hI.1, hI.set hk⟩
    · intro s hs
      rw [hs.all]
      exact ⟨t, hn, rfl⟩
  obtain ⟨u, h1, rfl⟩ := key
  exact h1
theorem idxO_D {α : Type} {xs : List α} {k : Nat} (d : α) (h : k < xs.length) : idxO xs (k : Int) = some (xs.getD k d) := by
  rw [idxO_nat h]; simp [h]
theorem mul_bd {u v a b : Int} (u0 : 0 ≤ u) (u1 : u ≤ a) (v0 : 0 ≤ v) (v1 : v ≤ b) : 0 ≤ u * v ∧ u * v ≤ a * b :=
  ⟨Int.mul_nonneg u0 v0, Int.mul_le_mul u1 v1 v0 (by omega)⟩
theorem sliceO_all {α : Type} {xs : List α} {k : Nat} (h : k ≤ xs.length) : sliceO xs (k : Int) (xs.length : Int) = some (xs.drop k) := by
  rw [sliceO_of (l := k) (k := xs.length) rfl rfl h (Nat.le_refl _), List.take_length]
theorem getD_drop {α : Type} (xs : List α) (n k : Nat) (d : α) : (xs.drop n).getD k d = xs.getD (k + n) d := by
  simp [List.getD_eq_getElem?_getD, List.getElem?_drop, Nat.add_comm]

end Go.Proofs.YtmedbnjhgkcndaaDoor
namespace Go.Proofs.YtmedbnjhgkcndaaDoor
open Go.RowKit
set_option linter.unusedVariables false

noncomputable def F_raddleref37_in (p0 : Int) : Option Bool :=
  Option.bind (α := Bool) (
    if decide ((-500) ≤ p0) then
      some (decide (p0 ≤ 500))
    else
      some false) fun o2 =>
  some o2
set_option maxHeartbeats 4000000 in
set_option maxRecDepth 100000 in
theorem c_raddleref37_in (E : Nat → Prop) (w0 : World) (p0 : Int) (r : Bool) (h : F_raddleref37_in p0 = some r) (S : St0 E [] w0 w0 [] []) :
    Calls Tryd.prog 45 #[iv p0] w0 (Ret (X := Unit) E [] w0 (fun _ => .bool r) (fun _ => []) (fun _ => [])) := by
  unfold F_raddleref37_in at h
  refine sEnter (args := [iv p0]) 9 Tryd.func45 rfl rfl (by simp) S (fun a S => ?_)
  refine sSeq (fun K1 hK1 => ?_)
  refine sRegion ?_
  refine sMove (.bool false) S (wN rfl) (.inr rfl) rfl rfl (lb rfl) fun a S => ?_
  refine leafL (leafT (hK1 _ _ ?_))
  obtain ⟨t3, h, g4⟩ := bindSome h
  refine sCut (fun a w => ∃ o2, o2 = t3 ∧ St [] E [] w0 9 a w [(2, .bool o2)] [] []) ?_ (fun a w hI => ?_)
  rotate_left
  · obtain ⟨o2, rfl, S⟩ := hI
    have h := g4
    clear g4
    try dsimp only at h
    obtain rfl := Option.some.inj h
    exact wp_ret (sRet (.bool o2) S (rsl1 rfl (rvT (t := 2) (v := .bool o2) S rfl)) ⟨(), rfl, S.mem.sel [] [] (by decide) rfl rfl⟩)
  refine sRegion ?_
  refine sMove (iv p0) S (wN rfl) (.inl rfl) rfl rfl (lb rfl) fun a S => ?_
  refine sBin (.bool (decide ((-500) ≤ p0))) S (wN rfl) rfl rfl rfl (bGe _ _ _ _ .i64 p0 (-500)) rfl (lb rfl) fun a S => ?_
  refine sMove (.bool (decide ((-500) ≤ p0))) S (wN rfl) (.inl rfl) rfl rfl (lb rfl) fun a S => ?_
  rcases iteSome h with ⟨hc5, h⟩ | ⟨hc5, h⟩
  rotate_left
  · refine sSkip 2 true 5 6 S rfl rfl rfl hc5 rfl (lb rfl) fun a S => ?_
    refine sSkip 2 true 5 7 S rfl rfl rfl hc5 rfl (lb rfl) fun a S => ?_
    refine sPickF (.bool false) S (wN rfl) rfl rfl hc5 rfl rfl (lb rfl) fun a S => ?_
    refine sMove (.bool false) S (wN rfl) (.inr rfl) rfl rfl (lb rfl) fun a S => ?_
    exact leafL (leafT (⟨false, Option.some.inj h, S.fix [] [] (by decide) rfl rfl rfl⟩))
  refine sMove (iv p0) S (wG 2 true 5 rfl rfl rfl hc5) (.inl rfl) rfl rfl (lb rfl) fun a S => ?_
  refine sBin (.bool (decide (p0 ≤ 500))) S (wG 2 true 5 rfl rfl rfl hc5) rfl rfl rfl (bLe _ _ _ _ .i64 p0 500) rfl (lb rfl) fun a S => ?_
  refine sPickT (.bool (decide (p0 ≤ 500))) S (wN rfl) rfl rfl hc5 rfl rfl (lb rfl) fun a S => ?_
  refine sMove (.bool (decide (p0 ≤ 500))) S (wN rfl) (.inr rfl) rfl rfl (lb rfl) fun a S => ?_
  exact leafL (leafT (⟨decide (p0 ≤ 500), Option.some.inj h, S.fix [] [] (by decide) rfl rfl rfl⟩))

end Go.Proofs.YtmedbnjhgkcndaaDoor
namespace Go.Proofs.YtmedbnjhgkcndaaDoor
open Go.RowKit
set_option linter.unusedVariables false

def anc_raddleref37_Check_0 : List (List Nat) := [[], [0], [], [0, 1, 2], [0, 1, 2, 3], [0, 1, 2, 3, 4], [0, 1, 2, 3, 4, 5], [0, 1, 2, 3, 4, 5, 6], [0, 1, 2, 3, 4, 5, 6, 7], [0, 1, 2, 3, 4, 5, 6, 7, 8], [0, 1, 2, 3, 4, 5, 6, 7], [0, 1, 2, 3, 4, 5, 6, 7, 8, 9, 10], [0, 1, 2, 3, 4, 5, 6, 7, 8, 9, 10, 11], [0, 1, 2, 3, 4, 5, 6, 7, 8, 9, 10, 11, 12], [0, 1, 2, 3, 4, 5, 6, 7, 8, 9, 10, 11, 12, 13], [0, 1, 2, 3, 4, 5, 6, 7, 8, 9, 10, 11, 12, 13, 14], [0, 1, 2, 3, 4, 5, 6, 7, 8, 9, 10, 11, 12, 13, 14, 15], [0, 1, 2, 3, 4, 5, 6, 7, 8, 9, 10, 11, 12, 13, 14, 15, 16], [0, 1, 2, 3, 4, 5, 6, 7, 8, 9, 10, 11, 12, 13, 14, 15, 16, 17], [0, 1, 2, 3, 4, 5, 6, 7, 8, 9, 10, 11, 12, 13, 14, 15, 16], [0, 1, 2, 3, 4, 5, 6, 7, 8, 9, 10, 11, 12, 13, 14, 15, 16, 17, 18, 19], [0, 1, 2, 3, 4, 5, 6, 7, 8, 9, 10, 11, 12, 13, 14, 15, 16, 17, 18, 19, 20], [0, 1, 2, 3, 4, 5, 6, 7, 8, 9, 10, 11, 12, 13, 14, 15, 16], [0, 1, 2, 3, 4, 5, 6, 7, 8, 9, 10, 11, 12, 13, 14, 15, 16, 22], [0, 1, 2, 3, 4, 5, 6, 7, 8, 9, 10, 11, 12, 13, 14, 15, 16], [0, 1, 2, 3, 4, 5, 6, 7, 8, 9, 10, 11, 12, 13, 14, 15, 16, 22, 23, 24], [0, 1, 2, 3, 4, 5, 6, 7, 8, 9, 10, 11, 12, 13, 14, 15, 16, 22, 23, 24, 25], [0, 1, 2, 3, 4, 5, 6, 7, 8, 9, 10, 11, 12, 13, 14, 15, 16, 17, 18, 19, 20, 21, 22, 23, 24, 25, 26], [0, 1, 2, 3, 4, 5, 6, 7, 8, 9, 10, 11, 12, 13, 14, 15, 16, 17, 18, 19, 20, 21, 22, 23, 24, 25, 26, 27], [0, 1, 2, 3, 4, 5, 6, 7, 8, 9, 10, 11, 12, 13, 14, 15, 16, 17, 18, 19, 20, 21, 22, 23, 24, 25, 26, 27, 28], [0, 1, 2, 3, 4, 5, 6, 7, 8, 9, 10, 11, 12, 13, 14, 15, 16, 17, 18, 19, 20, 21, 22, 23, 24, 25, 26, 27, 28, 29], [0, 1, 2, 3, 4, 5, 6, 7, 8, 9, 10, 11, 12, 13, 14, 15, 16, 17, 18, 19, 20, 21, 22, 23, 24, 25, 26, 27, 28, 29, 30], [0, 1, 2, 3, 4, 5, 6, 7, 8, 9, 10, 11, 12, 13, 14, 15, 16, 17, 18, 19, 20, 21, 22, 23, 24, 25, 26, 27, 28, 29], [0, 1, 2, 3, 4, 5, 6, 7, 8, 9, 10, 11, 12, 13, 14, 15, 16, 17, 18, 19, 20, 21, 22, 23, 24, 25, 26, 27, 28, 29, 30, 31, 32], [0, 1, 2, 3, 4, 5, 6, 7, 8, 9, 10, 11, 12, 13, 14, 15, 16, 17, 18, 19, 20, 21, 22, 23, 24, 25, 26, 27, 28, 29, 30, 31, 32, 33], [0, 1, 2, 3, 4, 5, 6, 7, 8, 9, 10, 11, 12, 13, 14, 15, 16, 17, 18, 19, 20, 21, 22, 23, 24, 25, 26, 27, 28, 29], [0, 1, 2, 3, 4, 5, 6, 7, 8, 9, 10, 11, 12, 13, 14, 15, 16, 17, 18, 19, 20, 21, 22, 23, 24, 25, 26, 27, 28, 29, 35], [0, 1, 2, 3, 4, 5, 6, 7, 8, 9, 10, 11, 12, 13, 14, 15, 16, 17, 18, 19, 20, 21, 22, 23, 24, 25, 26, 27, 28, 29], [0, 1, 2, 3, 4, 5, 6, 7, 8, 9, 10, 11, 12, 13, 14, 15, 16, 17, 18, 19, 20, 21, 22, 23, 24, 25, 26, 27, 28, 29, 35, 36, 37], [0, 1, 2, 3, 4, 5, 6, 7, 8, 9, 10, 11, 12, 13, 14, 15, 16, 17, 18, 19, 20, 21, 22, 23, 24, 25, 26, 27, 28, 29, 35, 36, 37, 38], [0, 1, 2, 3, 4, 5, 6, 7, 8, 9, 10, 11, 12, 13, 14, 15, 16, 17, 18, 19, 20, 21, 22, 23, 24, 25, 26, 27, 28, 29, 30, 31, 32, 33, 34, 35, 36, 37, 38, 39], [0, 1, 2, 3, 4, 5, 6, 7, 8, 9, 10, 11, 12, 13, 14, 15, 16, 17, 18, 19, 20, 21, 22, 23, 24, 25, 26, 27, 28, 29, 30, 31, 32, 33, 34, 35, 36, 37, 38, 39, 40], [0, 1, 2, 3, 4, 5, 6, 7, 8, 9, 10, 11, 12, 13, 14, 15, 16, 17, 18, 19, 20, 21, 22, 23, 24, 25, 26, 27, 28, 29, 30, 31, 32, 33, 34, 35, 36, 37, 38, 39, 40, 41]]
noncomputable def raddleref37_Check_l1 (p0 : api_Piece) : Int → Option (Int ⊕ (Int ⊕ Unit)) := fun s0 => match s0 with
  | s22 =>
    if decide (s22 < (p0.Left.length : Int)) then
      Option.bind (α := Bool) (
        Option.bind (idxO p0.Left s22) fun x33 =>
        Option.bind (F_raddleref37_in x33) fun r38 =>
        if !r38 then
          some true
        else
          Option.bind (idxO p0.Right s22) fun x44 =>
          Option.bind (F_raddleref37_in x44) fun r49 =>
          if !r49 then
            some true
          else
            if decide (x44 ≤ x33) then
              some true
            else
              some (decide (200 < (w64 (x44 - x33))))) fun o30 =>
      if o30 then
        some (.inr (.inl 8))
      else
        some (.inl (w64 (s22 + 1)))
    else
      some (.inr (.inr ()))
noncomputable def F_raddleref37_Check (p0 : api_Piece) : Option Int :=
  Option.bind (α := Bool) (
    if (p0.Left.length : Int) != (p0.Right.length : Int) then
      some true
    else
      if decide ((p0.Left.length : Int) < 1) then
        some true
      else
        some (decide (100 < (p0.Left.length : Int)))) fun o12 =>
  if o12 then
    some 8
  else
    Option.bind (α := Unit ⊕ Int) (
      Option.bind (whileO (raddleref37_Check_l1 p0) 0) fun z0 => match z0 with
        | .inl z =>
          some (.inr z)
        | .inr _ =>
          some (.inl ())) fun z0 => match z0 with
      | .inl _ =>
        some 0
      | .inr z =>
        some z
set_option maxHeartbeats 4000000 in
set_option maxRecDepth 100000 in
theorem c_raddleref37_Check (E : Nat → Prop) (w0 : World) (p0 : api_Piece) (v0 : Value) (r : Int) (h : F_raddleref37_Check p0 = some r) (S : St0 E [] w0 w0 [] [fRep r_api_Piece (v0) p0]) :
    Calls Tryd.prog 21 #[v0] w0 (Ret (X := Unit) E [] w0 (fun _ => .int .i64 r) (fun _ => []) (fun _ => [])) := by
  unfold F_raddleref37_Check at h
  obtain ⟨u1, u2, rfl, hu3, hu4⟩ := S.know (i := 0) (e := fRep r_api_Piece (v0) p0) rfl
  have S := S.learn (fRep (rL (rI .i64)) u1 p0.Left) hu3
  obtain ⟨ad5, cp6, _, rfl, _⟩ := hu3
  have S := S.learn (fRep (rL (rI .i64)) u2 p0.Right) hu4
  obtain ⟨ad7, cp8, _, rfl, _⟩ := hu4
  refine sEnter (args := [.agg #[.slice ad5 p0.Left.length cp6, .slice ad7 p0.Right.length cp8]]) 73 Tryd.func21 rfl rfl (by simp) S (fun a S => ?_)
  refine sSeq (fun K9 hK9 => ?_)
  refine sRegion ?_
  refine sBox (v := .agg #[.slice ad5 p0.Left.length cp6, .slice ad7 p0.Right.length cp8]) S (wN rfl) rfl rfl [.slice ad5 p0.Left.length cp6, .slice ad7 p0.Right.length cp8] rfl rfl (lb rfl) fun a b10 w S => ?_
  refine sMove (iv 0) S (wN rfl) (.inr rfl) rfl rfl (lb rfl) fun a S => ?_
  refine leafL (leafT (hK9 _ _ ?_))
  refine sSeq (fun K11 hK11 => ?_)
  obtain ⟨t13, h, g14⟩ := bindSome h
  refine sCut (fun a w => ∃ o12, o12 = t13 ∧ St [] E [] w0 73 a w [(1, .pointer (some ⟨b10, 0, none⟩)), (22, .bool o12)] [eBox b10 30 [.slice ad5 p0.Left.length cp6, .slice ad7 p0.Right.length cp8]] [fRep (rL (rI .i64)) (.slice ad5 p0.Left.length cp6) p0.Left, fRep (rL (rI .i64)) (.slice ad7 p0.Right.length cp8) p0.Right]) ?_ (fun a w hI => ?_)
  · refine sRegion ?_
    refine sField (b := b10) (off := 0) 0 0 S (wN rfl) rfl rfl rfl rfl rfl (lb rfl) fun a S => ?_
    refine sLoad1 (p := b10) (off := 0) (T := 30) (vs := [.slice ad5 p0.Left.length cp6, .slice ad7 p0.Right.length cp8]) 0 (.slice ad5 p0.Left.length cp6) S (wN rfl) rfl rfl rfl rfl rfl rfl (lb rfl) fun a S => ?_
    refine sLen (ad := ad5) (m := p0.Left.length) (c := cp6) S (wN rfl) rfl Tryd.underlying28 rfl rfl (lb rfl) fun a S => ?_
    refine sField (b := b10) (off := 0) 1 1 S (wN rfl) rfl rfl rfl rfl rfl (lb rfl) fun a S => ?_
    refine sLoad1 (p := b10) (off := 1) (T := 30) (vs := [.slice ad5 p0.Left.length cp6, .slice ad7 p0.Right.length cp8]) 0 (.slice ad7 p0.Right.length cp8) S (wN rfl) rfl rfl rfl rfl rfl rfl (lb rfl) fun a S => ?_
    refine sLen (ad := ad7) (m := p0.Right.length) (c := cp8) S (wN rfl) rfl Tryd.underlying28 rfl rfl (lb rfl) fun a S => ?_
    refine sBin (.bool ((p0.Left.length : Int) != (p0.Right.length : Int))) S (wN rfl) rfl rfl rfl (bNe _ _ _ _ .i64 (p0.Left.length : Int) (p0.Right.length : Int)) rfl (lb rfl) fun a S => ?_
    refine sMove (.bool ((p0.Left.length : Int) != (p0.Right.length : Int))) S (wN rfl) (.inl rfl) rfl rfl (lb rfl) fun a S => ?_
    rcases iteSome h with ⟨hc15, h⟩ | ⟨hc15, h⟩
    · refine sSkip 7 false 11 12 S rfl rfl rfl hc15 rfl (lb rfl) fun a S => ?_
      refine sSkip 7 false 11 13 S rfl rfl rfl hc15 rfl (lb rfl) fun a S => ?_
      refine sSkip 7 false 11 14 S rfl rfl rfl hc15 rfl (lb rfl) fun a S => ?_
      refine sSkip 7 false 11 15 S rfl rfl rfl hc15 rfl (lb rfl) fun a S => ?_
      refine sPickT (.bool true) S (wN rfl) rfl rfl hc15 rfl rfl (lb rfl) fun a S => ?_
      refine sMove (.bool true) S (wN rfl) (.inl rfl) rfl rfl (lb rfl) fun a S => ?_
      refine sSkip 13 false 17 18 S rfl rfl rfl rfl rfl (lb rfl) fun a S => ?_
      refine sSkip 13 false 17 19 S rfl rfl rfl rfl rfl (lb rfl) fun a S => ?_
      refine sSkip 13 false 17 20 S rfl rfl rfl rfl rfl (lb rfl) fun a S => ?_
      refine sSkip 13 false 17 21 S rfl rfl rfl rfl rfl (lb rfl) fun a S => ?_
      refine sPickT (.bool true) S (wN rfl) rfl rfl rfl rfl rfl (lb rfl) fun a S => ?_
      exact leafL (leafT (⟨true, Option.some.inj h, S.fix [0] [1, 0] (by decide) rfl rfl rfl⟩))
    refine sField (b := b10) (off := 0) 0 0 S (wG 7 false 11 rfl rfl rfl hc15) rfl rfl rfl rfl rfl (lb rfl) fun a S => ?_
    refine sLoad1 (p := b10) (off := 0) (T := 30) (vs := [.slice ad5 p0.Left.length cp6, .slice ad7 p0.Right.length cp8]) 0 (.slice ad5 p0.Left.length cp6) S (wG 7 false 11 rfl rfl rfl hc15) rfl rfl rfl rfl rfl rfl (lb rfl) fun a S => ?_
    refine sLen (ad := ad5) (m := p0.Left.length) (c := cp6) S (wG 7 false 11 rfl rfl rfl hc15) rfl Tryd.underlying28 rfl rfl (lb rfl) fun a S => ?_
    refine sBin (.bool (decide ((p0.Left.length : Int) < 1))) S (wG 7 false 11 rfl rfl rfl hc15) rfl rfl rfl (bLt _ _ _ _ .i64 (p0.Left.length : Int) 1) rfl (lb rfl) fun a S => ?_
    refine sPickF (.bool (decide ((p0.Left.length : Int) < 1))) S (wN rfl) rfl rfl hc15 rfl rfl (lb rfl) fun a S => ?_
    refine sMove (.bool (decide ((p0.Left.length : Int) < 1))) S (wN rfl) (.inl rfl) rfl rfl (lb rfl) fun a S => ?_
    rcases iteSome h with ⟨hc16, h⟩ | ⟨hc16, h⟩
    · refine sSkip 13 false 17 18 S rfl rfl rfl hc16 rfl (lb rfl) fun a S => ?_
      refine sSkip 13 false 17 19 S rfl rfl rfl hc16 rfl (lb rfl) fun a S => ?_
      refine sSkip 13 false 17 20 S rfl rfl rfl hc16 rfl (lb rfl) fun a S => ?_
      refine sSkip 13 false 17 21 S rfl rfl rfl hc16 rfl (lb rfl) fun a S => ?_
      refine sPickT (.bool true) S (wN rfl) rfl rfl hc16 rfl rfl (lb rfl) fun a S => ?_
      exact leafL (leafT (⟨true, Option.some.inj h, S.fix [0] [1, 0] (by decide) rfl rfl rfl⟩))
    refine sField (b := b10) (off := 0) 0 0 S (wG 13 false 17 rfl rfl rfl hc16) rfl rfl rfl rfl rfl (lb rfl) fun a S => ?_
    refine sLoad1 (p := b10) (off := 0) (T := 30) (vs := [.slice ad5 p0.Left.length cp6, .slice ad7 p0.Right.length cp8]) 0 (.slice ad5 p0.Left.length cp6) S (wG 13 false 17 rfl rfl rfl hc16) rfl rfl rfl rfl rfl rfl (lb rfl) fun a S => ?_
    refine sLen (ad := ad5) (m := p0.Left.length) (c := cp6) S (wG 13 false 17 rfl rfl rfl hc16) rfl Tryd.underlying28 rfl rfl (lb rfl) fun a S => ?_
    refine sBin (.bool (decide (100 < (p0.Left.length : Int)))) S (wG 13 false 17 rfl rfl rfl hc16) rfl rfl rfl (bGt _ _ _ _ .i64 (p0.Left.length : Int) 100) rfl (lb rfl) fun a S => ?_
    refine sPickF (.bool (decide (100 < (p0.Left.length : Int)))) S (wN rfl) rfl rfl hc16 rfl rfl (lb rfl) fun a S => ?_
    exact leafL (leafT (⟨decide (100 < (p0.Left.length : Int)), Option.some.inj h, S.fix [0] [1, 0] (by decide) rfl rfl rfl⟩))
  obtain ⟨o12, rfl, S⟩ := hI
  have h := g14
  clear g14
  try dsimp only at h
  rcases iteSome h with ⟨hc17, h⟩ | ⟨hc17, h⟩
  · refine sCondT S rfl hc17 ?_
    refine sSeq (fun K18 hK18 => ?_)
    refine sRegion ?_
    refine sMove (iv 8) S (wN rfl) (.inr rfl) rfl rfl (lb rfl) fun a S => ?_
    refine leafL (leafT (hK18 _ _ ?_))
    obtain rfl := Option.some.inj h
    exact wp_ret (rThen (sRet (iv 8) S (rsl1 rfl (rvT (t := 2) (v := iv 8) S rfl)) ⟨(), rfl, S.mem.sel [] [] (by decide) rfl rfl⟩))
  refine sCondF S rfl hc17 ?_
  refine wp_skip (leafT (hK11 _ _ ?_))
  obtain ⟨t19, h, g20⟩ := bindSome h
  refine sCut (fun a w => .inl () = t19 ∧ St [] E [] w0 73 a w [] [] []) ?_ (fun a w hI => ?_)
  rotate_left
  · obtain ⟨rfl, S⟩ := hI
    have h := g20
    clear g20
    try dsimp only at h
    refine sSeq (fun K103 hK103 => ?_)
    refine sRegion ?_
    refine sMove (iv 0) S (wN rfl) (.inr rfl) rfl rfl (lb rfl) fun a S => ?_
    refine leafL (leafT (hK103 _ _ ?_))
    obtain rfl := Option.some.inj h
    exact wp_ret (sRet (iv 0) S (rsl1 rfl (rvT (t := 2) (v := iv 0) S rfl)) ⟨(), rfl, S.mem.sel [] [] (by decide) rfl rfl⟩)
  refine sSeq (fun K21 hK21 => ?_)
  refine sRegion ?_
  refine sMove (iv 0) S (wN rfl) (.inr rfl) rfl rfl (lb rfl) fun a S => ?_
  refine leafL (leafT (hK21 _ _ ?_))
  refine wp_block ?_
  obtain ⟨t25, hl, g24⟩ := bindSome h
  refine sLoop hl (fun s0 a w => match s0 with | s22 => St [] E [] w0 73 a w [(1, .pointer (some ⟨b10, 0, none⟩)), (3, iv s22)] [eBox b10 30 [.slice ad5 p0.Left.length cp6, .slice ad7 p0.Right.length cp8]] [fRep (rL (rI .i64)) (.slice ad5 p0.Left.length cp6) p0.Left, fRep (rL (rI .i64)) (.slice ad7 p0.Right.length cp8) p0.Right]) (S.fix [0] [0, 1] (by decide) rfl rfl rfl) ?_
  clear hl h
  intro s22 a w c0 hI h hu23
  unfold raddleref37_Check_l1 at h
  dsimp only at h hI
  have S := hI
  refine sSeq (fun K26 hK26 => ?_)
  refine sSeq (fun K27 hK27 => ?_)
  refine sRegion ?_
  refine sMove (iv s22) S (wN rfl) (.inl rfl) rfl rfl (lb rfl) fun a S => ?_
  refine sField (b := b10) (off := 0) 0 0 S (wN rfl) rfl rfl rfl rfl rfl (lb rfl) fun a S => ?_
  refine sLoad1 (p := b10) (off := 0) (T := 30) (vs := [.slice ad5 p0.Left.length cp6, .slice ad7 p0.Right.length cp8]) 0 (.slice ad5 p0.Left.length cp6) S (wN rfl) rfl rfl rfl rfl rfl rfl (lb rfl) fun a S => ?_
  refine sLen (ad := ad5) (m := p0.Left.length) (c := cp6) S (wN rfl) rfl Tryd.underlying28 rfl rfl (lb rfl) fun a S => ?_
  refine sBin (.bool (decide (s22 < (p0.Left.length : Int)))) S (wN rfl) rfl rfl rfl (bLt _ _ _ _ .i64 s22 (p0.Left.length : Int)) rfl (lb rfl) fun a S => ?_
  refine leafL (leafT (hK27 _ _ ?_))
  rcases iteSome h with ⟨hc28, h⟩ | ⟨hc28, h⟩
  rotate_left
  · refine sCondF S rfl hc28 ?_
    obtain rfl := Option.some.inj h
    obtain rfl := hu23 _ rfl
    have h := g24
    clear g24
    try dsimp only at h
    exact wp_exit (xThen (xThen (xHit (leafT (⟨Option.some.inj h, S.fix [] [] (by decide) rfl rfl rfl⟩)))))
  refine sCondT S rfl hc28 ?_
  refine wp_skip (leafT (hK26 _ _ ?_))
  refine sSeq (fun K29 hK29 => ?_)
  refine wp_block ?_
  obtain ⟨t31, h, g32⟩ := bindSome h
  refine sCut (fun a w => ∃ o30, o30 = t31 ∧ St [] E [] w0 73 a w [(1, .pointer (some ⟨b10, 0, none⟩)), (3, iv s22), (72, .bool o30)] [eBox b10 30 [.slice ad5 p0.Left.length cp6, .slice ad7 p0.Right.length cp8]] [fRep (rL (rI .i64)) (.slice ad5 p0.Left.length cp6) p0.Left, fRep (rL (rI .i64)) (.slice ad7 p0.Right.length cp8) p0.Right]) ?_ (fun a w hI => ?_)
  rotate_left
  · obtain ⟨o30, rfl, S⟩ := hI
    have h := g32
    clear g32
    try dsimp only at h
    rcases iteSome h with ⟨hc101, h⟩ | ⟨hc101, h⟩
    rotate_left
    · refine sCondF S rfl hc101 ?_
      refine wp_skip (leafB (leafT (hK29 _ _ ?_)))
      refine sRegion ?_
      refine sMove (iv s22) S (wN rfl) (.inl rfl) rfl rfl (lb rfl) fun a S => ?_
      refine sBin (iv (w64 (s22 + 1))) S (wN rfl) rfl rfl rfl (bAdd _ _ _ _ s22 1) rfl (lb rfl) fun a S => ?_
      refine sMove (iv (w64 (s22 + 1))) S (wN rfl) (.inr rfl) rfl rfl (lb rfl) fun a S => ?_
      exact leafL (leafT (⟨w64 (s22 + 1), (Option.some.inj h).symm, (S.fix [0] [0, 1] (by decide) rfl rfl rfl)⟩))
    refine sCondT S rfl hc101 ?_
    refine sSeq (fun K102 hK102 => ?_)
    refine sRegion ?_
    refine sMove (iv 8) S (wN rfl) (.inr rfl) rfl rfl (lb rfl) fun a S => ?_
    refine leafL (leafT (hK102 _ _ ?_))
    obtain rfl := Option.some.inj h
    obtain rfl := hu23 _ rfl
    have h := g24
    clear g24
    try dsimp only at h
    obtain rfl := Option.some.inj h
    have h := g20
    clear g20
    try dsimp only at h
    obtain rfl := Option.some.inj h
    exact wp_ret (rBlock (rThen (rThen (rBlock (rThen (sRet (iv 8) S (rsl1 rfl (rvT (t := 2) (v := iv 8) S rfl)) ⟨(), rfl, S.mem.sel [] [] (by decide) rfl rfl⟩))))))
  obtain ⟨x33, hx34, h⟩ := bindSome h
  obtain ⟨r38, hx39, h⟩ := bindSome h
  rcases iteSome h with ⟨hc40, h⟩ | ⟨hc40, h⟩
  · obtain ⟨q41, hq42, S⟩ := pIdx (P := Tryd.prog) (r := (rI .i64)) (v := .slice ad5 p0.Left.length cp6) (xs := p0.Left) (j := s22) 28 3 0 S Tryd.underlying28 rfl rfl hx34
    obtain ⟨u43, S⟩ := pLoad (r := (rI .i64)) (q := q41) (x := x33) 0 S rfl
    obtain rfl : u43 = iv x33 := S.mem.know (i := 1) (e := fRep (rI .i64) (u43) x33) rfl
    refine sDraw (nf := []) (W := [(0, 30, .pointer (some ⟨b10, 0, none⟩)), (1, 31, .slice ad5 p0.Left.length cp6), (2, 32, iv s22), (3, 33, q41), (4, 34, iv x33), (5, 35, .bool r38), (6, 36, .bool (!r38)), (7, 37, .bool (!r38)), (8, 38, undef), (9, 39, undef), (10, 40, undef), (11, 41, undef), (12, 42, undef), (13, 43, undef), (14, 44, undef), (15, 45, .bool true), (16, 46, .bool true), (17, 47, undef), (18, 48, undef), (19, 49, undef), (20, 50, undef), (21, 51, undef), (22, 52, undef), (23, 53, undef), (24, 54, undef), (25, 55, undef), (26, 56, undef), (27, 57, undef), (28, 58, .bool true), (29, 59, .bool true), (30, 60, undef), (31, 61, undef), (32, 62, undef), (33, 63, undef), (34, 64, undef), (35, 65, undef), (36, 66, undef), (37, 67, undef), (38, 68, undef), (39, 69, undef), (40, 70, undef), (41, 71, undef), (42, 72, .bool true)]) rfl S ?_
    refine node_by (A := anc_raddleref37_Check_0) (nf := []) (Y := []) (W := [(0, 30, .pointer (some ⟨b10, 0, none⟩)), (1, 31, .slice ad5 p0.Left.length cp6), (2, 32, iv s22), (3, 33, q41), (4, 34, iv x33), (5, 35, .bool r38), (6, 36, .bool (!r38)), (7, 37, .bool (!r38)), (8, 38, undef), (9, 39, undef), (10, 40, undef), (11, 41, undef), (12, 42, undef), (13, 43, undef), (14, 44, undef), (15, 45, .bool true), (16, 46, .bool true), (17, 47, undef), (18, 48, undef), (19, 49, undef), (20, 50, undef), (21, 51, undef), (22, 52, undef), (23, 53, undef), (24, 54, undef), (25, 55, undef), (26, 56, undef), (27, 57, undef), (28, 58, .bool true), (29, 59, .bool true), (30, 60, undef), (31, 61, undef), (32, 62, undef), (33, 63, undef), (34, 64, undef), (35, 65, undef), (36, 66, undef), (37, 67, undef), (38, 68, undef), (39, 69, undef), (40, 70, undef), (41, 71, undef), (42, 72, .bool true)]) 43 (by kernel_rfl) (by kernel_rfl) (by kernel_rfl) (by kernel_rfl) (by kernel_rfl) [0, 1, 2, 3, 4, 5, 6, 7, 8, 9, 10, 11, 12, 13, 14, 15, 16, 17, 18, 19, 20, 21, 22, 23, 24, 25, 26, 27, 28, 29, 30, 31, 32, 33, 34, 35, 36, 37, 38, 39, 40, 41, 42] (by kernel_rfl) (by decide) (by decide) (aF 0 42 (by decide) ?_ (aF 1 41 (by decide) ?_ (aF 2 40 (by decide) ?_ (aF 3 39 (by decide) ?_ (aF 4 38 (by decide) ?_ (aF 5 37 (by decide) ?_ (aF 6 36 (by decide) ?_ (aF 7 35 (by decide) ?_ (aF 8 34 (by decide) ?_ (aF 9 33 (by decide) ?_ (aF 10 32 (by decide) ?_ (aF 11 31 (by decide) ?_ (aF 12 30 (by decide) ?_ (aF 13 29 (by decide) ?_ (aF 14 28 (by decide) ?_ (aF 15 27 (by decide) ?_ (aF 16 26 (by decide) ?_ (aF 17 25 (by decide) ?_ (aF 18 24 (by decide) ?_ (aF 19 23 (by decide) ?_ (aF 20 22 (by decide) ?_ (aF 21 21 (by decide) ?_ (aF 22 20 (by decide) ?_ (aF 23 19 (by decide) ?_ (aF 24 18 (by decide) ?_ (aF 25 17 (by decide) ?_ (aF 26 16 (by decide) ?_ (aF 27 15 (by decide) ?_ (aF 28 14 (by decide) ?_ (aF 29 13 (by decide) ?_ (aF 30 12 (by decide) ?_ (aF 31 11 (by decide) ?_ (aF 32 10 (by decide) ?_ (aF 33 9 (by decide) ?_ (aF 34 8 (by decide) ?_ (aF 35 7 (by decide) ?_ (aF 36 6 (by decide) ?_ (aF 37 5 (by decide) ?_ (aF 38 4 (by decide) ?_ (aF 39 3 (by decide) ?_ (aF 40 2 (by decide) ?_ (aF 41 1 (by decide) ?_ (aF 42 0 (by decide) ?_ (trivial)))))))))))))))))))))))))))))))))))))))))))) [(1, .pointer (some ⟨b10, 0, none⟩)), (3, iv s22), (38, undef), (39, undef), (40, undef), (41, undef), (42, undef), (43, undef), (44, undef), (47, undef), (48, undef), (49, undef), (50, undef), (51, undef), (52, undef), (53, undef), (54, undef), (55, undef), (56, undef), (57, undef), (60, undef), (61, undef), (62, undef), (63, undef), (64, undef), (65, undef), (66, undef), (67, undef), (68, undef), (69, undef), (70, undef), (71, undef), (72, .bool true)] (fin_of [none, none, some 8, some 9, some 10, some 11, some 12, some 13, some 14, some 17, some 18, some 19, some 20, some 21, some 22, some 23, some 24, some 25, some 26, some 27, some 30, some 31, some 32, some 33, some 34, some 35, some 36, some 37, some 38, some 39, some 40, some 41, some 42] rfl (by kernel_rfl) (by kernel_rfl)) (fun _ a w S => ?_)
    · refine fI 30 (.pointer (some ⟨b10, 0, none⟩)) [(1, .pointer (some ⟨b10, 0, none⟩))] 0 [none] rfl rfl rfl rfl rfl rfl fun G a w S => ?_
      refine sField (b := b10) (off := 0) 0 0 S (wN rfl) rfl rfl rfl rfl rfl (lb rfl) fun a S => ?_
      exact leafL ⟨rfl, S⟩
    · refine fI 31 (.slice ad5 p0.Left.length cp6) [(30, .pointer (some ⟨b10, 0, none⟩))] 1 [some 0] rfl rfl rfl rfl rfl rfl fun G a w S => ?_
      refine sLoad1 (p := b10) (off := 0) (T := 30) (vs := [.slice ad5 p0.Left.length cp6, .slice ad7 p0.Right.length cp8]) 0 (.slice ad5 p0.Left.length cp6) S (wN rfl) rfl rfl rfl rfl rfl rfl (lb rfl) fun a S => ?_
      exact leafL ⟨rfl, S⟩
    · refine fI 32 (iv s22) [(3, iv s22)] 2 [none] rfl rfl rfl rfl rfl rfl fun G a w S => ?_
      refine sMove (iv s22) S (wN rfl) (.inl rfl) rfl rfl (lb rfl) fun a S => ?_
      exact leafL ⟨rfl, S⟩
    · refine fI 33 q41 [(31, .slice ad5 p0.Left.length cp6), (32, iv s22)] 3 [some 1, some 2] rfl rfl rfl rfl rfl rfl fun G a w S => ?_
      refine sIdxV (v := .slice ad5 p0.Left.length cp6) (k := .i64) (j := s22) S (wN rfl) rfl rfl rfl hq42 rfl (lb rfl) fun a S => ?_
      exact leafL ⟨rfl, S⟩
    · refine fI 34 (iv x33) [(33, q41)] 4 [some 3] rfl rfl rfl rfl rfl rfl fun G a w S => ?_
      refine sLoadV1 (vq := q41) 0 (iv x33) S (wN rfl) rfl rfl rfl rfl rfl (lb rfl) fun a S => ?_
      exact leafL ⟨rfl, S⟩
    · refine fI 35 (.bool r38) [(34, iv x33)] 5 [some 4] rfl rfl rfl rfl rfl rfl fun G a w S => ?_
      have S1 := S.mem
      refine sCallQ (X := Unit) (f := 45) (vs := [iv x33]) (val := fun _ => .bool r38) S (wN rfl) rfl callee45 rfl (S1.quiet [] rfl) (fun E1 w1 S1 => c_raddleref37_in E1 w1 x33 r38 hx39 S1) rfl (lb rfl) fun _ a w S => ?_
      exact leafL ⟨rfl, S⟩
    · refine fI 36 (.bool (!r38)) [(35, .bool r38)] 6 [some 5] rfl rfl rfl rfl rfl rfl fun G a w S => ?_
      refine sNot (b := r38) S (wN rfl) rfl rfl rfl (lb rfl) fun a S => ?_
      exact leafL ⟨rfl, S⟩
    · refine fI 37 (.bool (!r38)) [(36, .bool (!r38))] 7 [some 6] rfl rfl rfl rfl rfl rfl fun G a w S => ?_
      refine sMove (.bool (!r38)) S (wN rfl) (.inl rfl) rfl rfl (lb rfl) fun a S => ?_
      exact leafL ⟨rfl, S⟩
    · refine fI 38 undef [(1, .pointer (some ⟨b10, 0, none⟩)), (37, .bool (!r38))] 8 [none, some 7] rfl rfl rfl rfl rfl rfl fun G a w S => ?_
      refine sSkip 7 false 37 38 S rfl rfl rfl hc40 rfl (lb rfl) fun a S => ?_
      exact leafL ⟨rfl, S⟩
    · refine fI 39 undef [(38, undef), (37, .bool (!r38))] 9 [some 8, some 7] rfl rfl rfl rfl rfl rfl fun G a w S => ?_
      refine sSkip 7 false 37 39 S rfl rfl rfl hc40 rfl (lb rfl) fun a S => ?_
      exact leafL ⟨rfl, S⟩
    · refine fI 40 undef [(3, iv s22), (37, .bool (!r38))] 10 [none, some 7] rfl rfl rfl rfl rfl rfl fun G a w S => ?_
      refine sSkip 7 false 37 40 S rfl rfl rfl hc40 rfl (lb rfl) fun a S => ?_
      exact leafL ⟨rfl, S⟩
    · refine fI 41 undef [(39, undef), (40, undef), (37, .bool (!r38))] 11 [some 9, some 10, some 7] rfl rfl rfl rfl rfl rfl fun G a w S => ?_
      refine sSkip 7 false 37 41 S rfl rfl rfl hc40 rfl (lb rfl) fun a S => ?_
      exact leafL ⟨rfl, S⟩
    · refine fI 42 undef [(41, undef), (37, .bool (!r38))] 12 [some 11, some 7] rfl rfl rfl rfl rfl rfl fun G a w S => ?_
      refine sSkip 7 false 37 42 S rfl rfl rfl hc40 rfl (lb rfl) fun a S => ?_
      exact leafL ⟨rfl, S⟩
    · refine fI 43 undef [(42, undef), (37, .bool (!r38))] 13 [some 12, some 7] rfl rfl rfl rfl rfl rfl fun G a w S => ?_
      refine sSkip 7 false 37 43 S rfl rfl rfl hc40 rfl (lb rfl) fun a S => ?_
      exact leafL ⟨rfl, S⟩
    · refine fI 44 undef [(43, undef), (37, .bool (!r38))] 14 [some 13, some 7] rfl rfl rfl rfl rfl rfl fun G a w S => ?_
      refine sSkip 7 false 37 44 S rfl rfl rfl hc40 rfl (lb rfl) fun a S => ?_
      exact leafL ⟨rfl, S⟩
    · refine fI 45 (.bool true) [(37, .bool (!r38)), (44, undef)] 15 [some 7, some 14] rfl rfl rfl rfl rfl rfl fun G a w S => ?_
      refine sPickT (.bool true) S (wN rfl) rfl rfl hc40 rfl rfl (lb rfl) fun a S => ?_
      exact leafL ⟨rfl, S⟩
    · refine fI 46 (.bool true) [(45, .bool true)] 16 [some 15] rfl rfl rfl rfl rfl rfl fun G a w S => ?_
      refine sMove (.bool true) S (wN rfl) (.inl rfl) rfl rfl (lb rfl) fun a S => ?_
      exact leafL ⟨rfl, S⟩
    · refine fI 47 undef [(1, .pointer (some ⟨b10, 0, none⟩)), (46, .bool true)] 17 [none, some 16] rfl rfl rfl rfl rfl rfl fun G a w S => ?_
      refine sSkip 16 false 46 47 S rfl rfl rfl rfl rfl (lb rfl) fun a S => ?_
      exact leafL ⟨rfl, S⟩
    · refine fI 48 undef [(47, undef), (46, .bool true)] 18 [some 17, some 16] rfl rfl rfl rfl rfl rfl fun G a w S => ?_
      refine sSkip 16 false 46 48 S rfl rfl rfl rfl rfl (lb rfl) fun a S => ?_
      exact leafL ⟨rfl, S⟩
    · refine fI 49 undef [(3, iv s22), (46, .bool true)] 19 [none, some 16] rfl rfl rfl rfl rfl rfl fun G a w S => ?_
      refine sSkip 16 false 46 49 S rfl rfl rfl rfl rfl (lb rfl) fun a S => ?_
      exact leafL ⟨rfl, S⟩
    · refine fI 50 undef [(48, undef), (49, undef), (46, .bool true)] 20 [some 18, some 19, some 16] rfl rfl rfl rfl rfl rfl fun G a w S => ?_
      refine sSkip 16 false 46 50 S rfl rfl rfl rfl rfl (lb rfl) fun a S => ?_
      exact leafL ⟨rfl, S⟩
    · refine fI 51 undef [(50, undef), (46, .bool true)] 21 [some 20, some 16] rfl rfl rfl rfl rfl rfl fun G a w S => ?_
      refine sSkip 16 false 46 51 S rfl rfl rfl rfl rfl (lb rfl) fun a S => ?_
      exact leafL ⟨rfl, S⟩
    · refine fI 52 undef [(1, .pointer (some ⟨b10, 0, none⟩)), (46, .bool true)] 22 [none, some 16] rfl rfl rfl rfl rfl rfl fun G a w S => ?_
      refine sSkip 16 false 46 52 S rfl rfl rfl rfl rfl (lb rfl) fun a S => ?_
      exact leafL ⟨rfl, S⟩
    · refine fI 53 undef [(52, undef), (46, .bool true)] 23 [some 22, some 16] rfl rfl rfl rfl rfl rfl fun G a w S => ?_
      refine sSkip 16 false 46 53 S rfl rfl rfl rfl rfl (lb rfl) fun a S => ?_
      exact leafL ⟨rfl, S⟩
    · refine fI 54 undef [(3, iv s22), (46, .bool true)] 24 [none, some 16] rfl rfl rfl rfl rfl rfl fun G a w S => ?_
      refine sSkip 16 false 46 54 S rfl rfl rfl rfl rfl (lb rfl) fun a S => ?_
      exact leafL ⟨rfl, S⟩
    · refine fI 55 undef [(53, undef), (54, undef), (46, .bool true)] 25 [some 23, some 24, some 16] rfl rfl rfl rfl rfl rfl fun G a w S => ?_
      refine sSkip 16 false 46 55 S rfl rfl rfl rfl rfl (lb rfl) fun a S => ?_
      exact leafL ⟨rfl, S⟩
    · refine fI 56 undef [(55, undef), (46, .bool true)] 26 [some 25, some 16] rfl rfl rfl rfl rfl rfl fun G a w S => ?_
      refine sSkip 16 false 46 56 S rfl rfl rfl rfl rfl (lb rfl) fun a S => ?_
      exact leafL ⟨rfl, S⟩
    · refine fI 57 undef [(51, undef), (56, undef), (46, .bool true)] 27 [some 21, some 26, some 16] rfl rfl rfl rfl rfl rfl fun G a w S => ?_
      refine sSkip 16 false 46 57 S rfl rfl rfl rfl rfl (lb rfl) fun a S => ?_
      exact leafL ⟨rfl, S⟩
    · refine fI 58 (.bool true) [(46, .bool true), (57, undef)] 28 [some 16, some 27] rfl rfl rfl rfl rfl rfl fun G a w S => ?_
      refine sPickT (.bool true) S (wN rfl) rfl rfl rfl rfl rfl (lb rfl) fun a S => ?_
      exact leafL ⟨rfl, S⟩
    · refine fI 59 (.bool true) [(58, .bool true)] 29 [some 28] rfl rfl rfl rfl rfl rfl fun G a w S => ?_
      refine sMove (.bool true) S (wN rfl) (.inl rfl) rfl rfl (lb rfl) fun a S => ?_
      exact leafL ⟨rfl, S⟩
    · refine fI 60 undef [(1, .pointer (some ⟨b10, 0, none⟩)), (59, .bool true)] 30 [none, some 29] rfl rfl rfl rfl rfl rfl fun G a w S => ?_
      refine sSkip 29 false 59 60 S rfl rfl rfl rfl rfl (lb rfl) fun a S => ?_
      exact leafL ⟨rfl, S⟩
    · refine fI 61 undef [(60, undef), (59, .bool true)] 31 [some 30, some 29] rfl rfl rfl rfl rfl rfl fun G a w S => ?_
      refine sSkip 29 false 59 61 S rfl rfl rfl rfl rfl (lb rfl) fun a S => ?_
      exact leafL ⟨rfl, S⟩
    · refine fI 62 undef [(3, iv s22), (59, .bool true)] 32 [none, some 29] rfl rfl rfl rfl rfl rfl fun G a w S => ?_
      refine sSkip 29 false 59 62 S rfl rfl rfl rfl rfl (lb rfl) fun a S => ?_
      exact leafL ⟨rfl, S⟩
    · refine fI 63 undef [(61, undef), (62, undef), (59, .bool true)] 33 [some 31, some 32, some 29] rfl rfl rfl rfl rfl rfl fun G a w S => ?_
      refine sSkip 29 false 59 63 S rfl rfl rfl rfl rfl (lb rfl) fun a S => ?_
      exact leafL ⟨rfl, S⟩
    · refine fI 64 undef [(63, undef), (59, .bool true)] 34 [some 33, some 29] rfl rfl rfl rfl rfl rfl fun G a w S => ?_
      refine sSkip 29 false 59 64 S rfl rfl rfl rfl rfl (lb rfl) fun a S => ?_
      exact leafL ⟨rfl, S⟩
    · refine fI 65 undef [(1, .pointer (some ⟨b10, 0, none⟩)), (59, .bool true)] 35 [none, some 29] rfl rfl rfl rfl rfl rfl fun G a w S => ?_
      refine sSkip 29 false 59 65 S rfl rfl rfl rfl rfl (lb rfl) fun a S => ?_
      exact leafL ⟨rfl, S⟩
    · refine fI 66 undef [(65, undef), (59, .bool true)] 36 [some 35, some 29] rfl rfl rfl rfl rfl rfl fun G a w S => ?_
      refine sSkip 29 false 59 66 S rfl rfl rfl rfl rfl (lb rfl) fun a S => ?_
      exact leafL ⟨rfl, S⟩
    · refine fI 67 undef [(3, iv s22), (59, .bool true)] 37 [none, some 29] rfl rfl rfl rfl rfl rfl fun G a w S => ?_
      refine sSkip 29 false 59 67 S rfl rfl rfl rfl rfl (lb rfl) fun a S => ?_
      exact leafL ⟨rfl, S⟩
    · refine fI 68 undef [(66, undef), (67, undef), (59, .bool true)] 38 [some 36, some 37, some 29] rfl rfl rfl rfl rfl rfl fun G a w S => ?_
      refine sSkip 29 false 59 68 S rfl rfl rfl rfl rfl (lb rfl) fun a S => ?_
      exact leafL ⟨rfl, S⟩
    · refine fI 69 undef [(68, undef), (59, .bool true)] 39 [some 38, some 29] rfl rfl rfl rfl rfl rfl fun G a w S => ?_
      refine sSkip 29 false 59 69 S rfl rfl rfl rfl rfl (lb rfl) fun a S => ?_
      exact leafL ⟨rfl, S⟩
    · refine fI 70 undef [(64, undef), (69, undef), (59, .bool true)] 40 [some 34, some 39, some 29] rfl rfl rfl rfl rfl rfl fun G a w S => ?_
      refine sSkip 29 false 59 70 S rfl rfl rfl rfl rfl (lb rfl) fun a S => ?_
      exact leafL ⟨rfl, S⟩
    · refine fI 71 undef [(70, undef), (59, .bool true)] 41 [some 40, some 29] rfl rfl rfl rfl rfl rfl fun G a w S => ?_
      refine sSkip 29 false 59 71 S rfl rfl rfl rfl rfl (lb rfl) fun a S => ?_
      exact leafL ⟨rfl, S⟩
    · refine fI 72 (.bool true) [(59, .bool true), (71, undef)] 42 [some 29, some 41] rfl rfl rfl rfl rfl rfl fun G a w S => ?_
      refine sPickT (.bool true) S (wN rfl) rfl rfl rfl rfl rfl (lb rfl) fun a S => ?_
      exact leafL ⟨rfl, S⟩
    exact leafT (⟨true, Option.some.inj h, S.fix [0] [3, 4] (by decide) rfl rfl rfl⟩)
  obtain ⟨x44, hx45, h⟩ := bindSome h
  obtain ⟨r49, hx50, h⟩ := bindSome h
  rcases iteSome h with ⟨hc51, h⟩ | ⟨hc51, h⟩
  · obtain ⟨q52, hq53, S⟩ := pIdx (P := Tryd.prog) (r := (rI .i64)) (v := .slice ad5 p0.Left.length cp6) (xs := p0.Left) (j := s22) 28 3 0 S Tryd.underlying28 rfl rfl hx34
    obtain ⟨u54, S⟩ := pLoad (r := (rI .i64)) (q := q52) (x := x33) 0 S rfl
    obtain rfl : u54 = iv x33 := S.mem.know (i := 1) (e := fRep (rI .i64) (u54) x33) rfl
    obtain ⟨q55, hq56, S⟩ := pIdx (P := Tryd.prog) (r := (rI .i64)) (v := .slice ad7 p0.Right.length cp8) (xs := p0.Right) (j := s22) 28 3 4 S Tryd.underlying28 rfl rfl hx45
    obtain ⟨u57, S⟩ := pLoad (r := (rI .i64)) (q := q55) (x := x44) 0 S rfl
    obtain rfl : u57 = iv x44 := S.mem.know (i := 1) (e := fRep (rI .i64) (u57) x44) rfl
    refine sDraw (nf := []) (W := [(0, 30, .pointer (some ⟨b10, 0, none⟩)), (1, 31, .slice ad5 p0.Left.length cp6), (2, 32, iv s22), (3, 33, q52), (4, 34, iv x33), (5, 35, .bool r38), (6, 36, .bool (!r38)), (7, 37, .bool (!r38)), (8, 38, .pointer (some ⟨b10, 1, none⟩)), (9, 39, .slice ad7 p0.Right.length cp8), (10, 40, iv s22), (11, 41, q55), (12, 42, iv x44), (13, 43, .bool r49), (14, 44, .bool (!r49)), (15, 45, .bool (!r49)), (16, 46, .bool (!r49)), (17, 47, undef), (18, 48, undef), (19, 49, undef), (20, 50, undef), (21, 51, undef), (22, 52, undef), (23, 53, undef), (24, 54, undef), (25, 55, undef), (26, 56, undef), (27, 57, undef), (28, 58, .bool true), (29, 59, .bool true), (30, 60, undef), (31, 61, undef), (32, 62, undef), (33, 63, undef), (34, 64, undef), (35, 65, undef), (36, 66, undef), (37, 67, undef), (38, 68, undef), (39, 69, undef), (40, 70, undef), (41, 71, undef), (42, 72, .bool true)]) rfl S ?_
    refine node_by (A := anc_raddleref37_Check_0) (nf := []) (Y := []) (W := [(0, 30, .pointer (some ⟨b10, 0, none⟩)), (1, 31, .slice ad5 p0.Left.length cp6), (2, 32, iv s22), (3, 33, q52), (4, 34, iv x33), (5, 35, .bool r38), (6, 36, .bool (!r38)), (7, 37, .bool (!r38)), (8, 38, .pointer (some ⟨b10, 1, none⟩)), (9, 39, .slice ad7 p0.Right.length cp8), (10, 40, iv s22), (11, 41, q55), (12, 42, iv x44), (13, 43, .bool r49), (14, 44, .bool (!r49)), (15, 45, .bool (!r49)), (16, 46, .bool (!r49)), (17, 47, undef), (18, 48, undef), (19, 49, undef), (20, 50, undef), (21, 51, undef), (22, 52, undef), (23, 53, undef), (24, 54, undef), (25, 55, undef), (26, 56, undef), (27, 57, undef), (28, 58, .bool true), (29, 59, .bool true), (30, 60, undef), (31, 61, undef), (32, 62, undef), (33, 63, undef), (34, 64, undef), (35, 65, undef), (36, 66, undef), (37, 67, undef), (38, 68, undef), (39, 69, undef), (40, 70, undef), (41, 71, undef), (42, 72, .bool true)]) 43 (by kernel_rfl) (by kernel_rfl) (by kernel_rfl) (by kernel_rfl) (by kernel_rfl) [0, 1, 2, 3, 4, 5, 6, 7, 8, 9, 10, 11, 12, 13, 14, 15, 16, 17, 18, 19, 20, 21, 22, 23, 24, 25, 26, 27, 28, 29, 30, 31, 32, 33, 34, 35, 36, 37, 38, 39, 40, 41, 42] (by kernel_rfl) (by decide) (by decide) (aF 0 42 (by decide) ?_ (aF 1 41 (by decide) ?_ (aF 2 40 (by decide) ?_ (aF 3 39 (by decide) ?_ (aF 4 38 (by decide) ?_ (aF 5 37 (by decide) ?_ (aF 6 36 (by decide) ?_ (aF 7 35 (by decide) ?_ (aF 8 34 (by decide) ?_ (aF 9 33 (by decide) ?_ (aF 10 32 (by decide) ?_ (aF 11 31 (by decide) ?_ (aF 12 30 (by decide) ?_ (aF 13 29 (by decide) ?_ (aF 14 28 (by decide) ?_ (aF 15 27 (by decide) ?_ (aF 16 26 (by decide) ?_ (aF 17 25 (by decide) ?_ (aF 18 24 (by decide) ?_ (aF 19 23 (by decide) ?_ (aF 20 22 (by decide) ?_ (aF 21 21 (by decide) ?_ (aF 22 20 (by decide) ?_ (aF 23 19 (by decide) ?_ (aF 24 18 (by decide) ?_ (aF 25 17 (by decide) ?_ (aF 26 16 (by decide) ?_ (aF 27 15 (by decide) ?_ (aF 28 14 (by decide) ?_ (aF 29 13 (by decide) ?_ (aF 30 12 (by decide) ?_ (aF 31 11 (by decide) ?_ (aF 32 10 (by decide) ?_ (aF 33 9 (by decide) ?_ (aF 34 8 (by decide) ?_ (aF 35 7 (by decide) ?_ (aF 36 6 (by decide) ?_ (aF 37 5 (by decide) ?_ (aF 38 4 (by decide) ?_ (aF 39 3 (by decide) ?_ (aF 40 2 (by decide) ?_ (aF 41 1 (by decide) ?_ (aF 42 0 (by decide) ?_ (trivial)))))))))))))))))))))))))))))))))))))))))))) [(1, .pointer (some ⟨b10, 0, none⟩)), (3, iv s22), (38, .pointer (some ⟨b10, 1, none⟩)), (39, .slice ad7 p0.Right.length cp8), (40, iv s22), (41, q55), (42, iv x44), (43, .bool r49), (44, .bool (!r49)), (47, undef), (48, undef), (49, undef), (50, undef), (51, undef), (52, undef), (53, undef), (54, undef), (55, undef), (56, undef), (57, undef), (60, undef), (61, undef), (62, undef), (63, undef), (64, undef), (65, undef), (66, undef), (67, undef), (68, undef), (69, undef), (70, undef), (71, undef), (72, .bool true)] (fin_of [none, none, some 8, some 9, some 10, some 11, some 12, some 13, some 14, some 17, some 18, some 19, some 20, some 21, some 22, some 23, some 24, some 25, some 26, some 27, some 30, some 31, some 32, some 33, some 34, some 35, some 36, some 37, some 38, some 39, some 40, some 41, some 42] rfl (by kernel_rfl) (by kernel_rfl)) (fun _ a w S => ?_)
    · refine fI 30 (.pointer (some ⟨b10, 0, none⟩)) [(1, .pointer (some ⟨b10, 0, none⟩))] 0 [none] rfl rfl rfl rfl rfl rfl fun G a w S => ?_
      refine sField (b := b10) (off := 0) 0 0 S (wN rfl) rfl rfl rfl rfl rfl (lb rfl) fun a S => ?_
      exact leafL ⟨rfl, S⟩
    · refine fI 31 (.slice ad5 p0.Left.length cp6) [(30, .pointer (some ⟨b10, 0, none⟩))] 1 [some 0] rfl rfl rfl rfl rfl rfl fun G a w S => ?_
      refine sLoad1 (p := b10) (off := 0) (T := 30) (vs := [.slice ad5 p0.Left.length cp6, .slice ad7 p0.Right.length cp8]) 0 (.slice ad5 p0.Left.length cp6) S (wN rfl) rfl rfl rfl rfl rfl rfl (lb rfl) fun a S => ?_
      exact leafL ⟨rfl, S⟩
    · refine fI 32 (iv s22) [(3, iv s22)] 2 [none] rfl rfl rfl rfl rfl rfl fun G a w S => ?_
      refine sMove (iv s22) S (wN rfl) (.inl rfl) rfl rfl (lb rfl) fun a S => ?_
      exact leafL ⟨rfl, S⟩
    · refine fI 33 q52 [(31, .slice ad5 p0.Left.length cp6), (32, iv s22)] 3 [some 1, some 2] rfl rfl rfl rfl rfl rfl fun G a w S => ?_
      refine sIdxV (v := .slice ad5 p0.Left.length cp6) (k := .i64) (j := s22) S (wN rfl) rfl rfl rfl hq53 rfl (lb rfl) fun a S => ?_
      exact leafL ⟨rfl, S⟩
    · refine fI 34 (iv x33) [(33, q52)] 4 [some 3] rfl rfl rfl rfl rfl rfl fun G a w S => ?_
      refine sLoadV1 (vq := q52) 3 (iv x33) S (wN rfl) rfl rfl rfl rfl rfl (lb rfl) fun a S => ?_
      exact leafL ⟨rfl, S⟩
    · refine fI 35 (.bool r38) [(34, iv x33)] 5 [some 4] rfl rfl rfl rfl rfl rfl fun G a w S => ?_
      have S1 := S.mem
      refine sCallQ (X := Unit) (f := 45) (vs := [iv x33]) (val := fun _ => .bool r38) S (wN rfl) rfl callee45 rfl (S1.quiet [] rfl) (fun E1 w1 S1 => c_raddleref37_in E1 w1 x33 r38 hx39 S1) rfl (lb rfl) fun _ a w S => ?_
      exact leafL ⟨rfl, S⟩
    · refine fI 36 (.bool (!r38)) [(35, .bool r38)] 6 [some 5] rfl rfl rfl rfl rfl rfl fun G a w S => ?_
      refine sNot (b := r38) S (wN rfl) rfl rfl rfl (lb rfl) fun a S => ?_
      exact leafL ⟨rfl, S⟩
    · refine fI 37 (.bool (!r38)) [(36, .bool (!r38))] 7 [some 6] rfl rfl rfl rfl rfl rfl fun G a w S => ?_
      refine sMove (.bool (!r38)) S (wN rfl) (.inl rfl) rfl rfl (lb rfl) fun a S => ?_
      exact leafL ⟨rfl, S⟩
    · refine fI 38 (.pointer (some ⟨b10, 1, none⟩)) [(1, .pointer (some ⟨b10, 0, none⟩)), (37, .bool (!r38))] 8 [none, some 7] rfl rfl rfl rfl rfl rfl fun G a w S => ?_
      refine sField (b := b10) (off := 0) 1 1 S (wG 7 false 37 rfl rfl rfl hc40) rfl rfl rfl rfl rfl (lb rfl) fun a S => ?_
      exact leafL ⟨rfl, S⟩
    · refine fI 39 (.slice ad7 p0.Right.length cp8) [(38, .pointer (some ⟨b10, 1, none⟩)), (37, .bool (!r38))] 9 [some 8, some 7] rfl rfl rfl rfl rfl rfl fun G a w S => ?_
      refine sLoad1 (p := b10) (off := 1) (T := 30) (vs := [.slice ad5 p0.Left.length cp6, .slice ad7 p0.Right.length cp8]) 0 (.slice ad7 p0.Right.length cp8) S (wG 7 false 37 rfl rfl rfl hc40) rfl rfl rfl rfl rfl rfl (lb rfl) fun a S => ?_
      exact leafL ⟨rfl, S⟩
    · refine fI 40 (iv s22) [(3, iv s22), (37, .bool (!r38))] 10 [none, some 7] rfl rfl rfl rfl rfl rfl fun G a w S => ?_
      refine sMove (iv s22) S (wG 7 false 37 rfl rfl rfl hc40) (.inl rfl) rfl rfl (lb rfl) fun a S => ?_
      exact leafL ⟨rfl, S⟩
    · refine fI 41 q55 [(39, .slice ad7 p0.Right.length cp8), (40, iv s22), (37, .bool (!r38))] 11 [some 9, some 10, some 7] rfl rfl rfl rfl rfl rfl fun G a w S => ?_
      refine sIdxV (v := .slice ad7 p0.Right.length cp8) (k := .i64) (j := s22) S (wG 7 false 37 rfl rfl rfl hc40) rfl rfl rfl hq56 rfl (lb rfl) fun a S => ?_
      exact leafL ⟨rfl, S⟩
    · refine fI 42 (iv x44) [(41, q55), (37, .bool (!r38))] 12 [some 11, some 7] rfl rfl rfl rfl rfl rfl fun G a w S => ?_
      refine sLoadV1 (vq := q55) 0 (iv x44) S (wG 7 false 37 rfl rfl rfl hc40) rfl rfl rfl rfl rfl (lb rfl) fun a S => ?_
      exact leafL ⟨rfl, S⟩
    · refine fI 43 (.bool r49) [(42, iv x44), (37, .bool (!r38))] 13 [some 12, some 7] rfl rfl rfl rfl rfl rfl fun G a w S => ?_
      have S1 := S.mem
      refine sCallQ (X := Unit) (f := 45) (vs := [iv x44]) (val := fun _ => .bool r49) S (wG 7 false 37 rfl rfl rfl hc40) rfl callee45 rfl (S1.quiet [] rfl) (fun E1 w1 S1 => c_raddleref37_in E1 w1 x44 r49 hx50 S1) rfl (lb rfl) fun _ a w S => ?_
      exact leafL ⟨rfl, S⟩
    · refine fI 44 (.bool (!r49)) [(43, .bool r49), (37, .bool (!r38))] 14 [some 13, some 7] rfl rfl rfl rfl rfl rfl fun G a w S => ?_
      refine sNot (b := r49) S (wG 7 false 37 rfl rfl rfl hc40) rfl rfl rfl (lb rfl) fun a S => ?_
      exact leafL ⟨rfl, S⟩
    · refine fI 45 (.bool (!r49)) [(37, .bool (!r38)), (44, .bool (!r49))] 15 [some 7, some 14] rfl rfl rfl rfl rfl rfl fun G a w S => ?_
      refine sPickF (.bool (!r49)) S (wN rfl) rfl rfl hc40 rfl rfl (lb rfl) fun a S => ?_
      exact leafL ⟨rfl, S⟩
    · refine fI 46 (.bool (!r49)) [(45, .bool (!r49))] 16 [some 15] rfl rfl rfl rfl rfl rfl fun G a w S => ?_
      refine sMove (.bool (!r49)) S (wN rfl) (.inl rfl) rfl rfl (lb rfl) fun a S => ?_
      exact leafL ⟨rfl, S⟩
    · refine fI 47 undef [(1, .pointer (some ⟨b10, 0, none⟩)), (46, .bool (!r49))] 17 [none, some 16] rfl rfl rfl rfl rfl rfl fun G a w S => ?_
      refine sSkip 16 false 46 47 S rfl rfl rfl hc51 rfl (lb rfl) fun a S => ?_
      exact leafL ⟨rfl, S⟩
    · refine fI 48 undef [(47, undef), (46, .bool (!r49))] 18 [some 17, some 16] rfl rfl rfl rfl rfl rfl fun G a w S => ?_
      refine sSkip 16 false 46 48 S rfl rfl rfl hc51 rfl (lb rfl) fun a S => ?_
      exact leafL ⟨rfl, S⟩
    · refine fI 49 undef [(3, iv s22), (46, .bool (!r49))] 19 [none, some 16] rfl rfl rfl rfl rfl rfl fun G a w S => ?_
      refine sSkip 16 false 46 49 S rfl rfl rfl hc51 rfl (lb rfl) fun a S => ?_
      exact leafL ⟨rfl, S⟩
    · refine fI 50 undef [(48, undef), (49, undef), (46, .bool (!r49))] 20 [some 18, some 19, some 16] rfl rfl rfl rfl rfl rfl fun G a w S => ?_
      refine sSkip 16 false 46 50 S rfl rfl rfl hc51 rfl (lb rfl) fun a S => ?_
      exact leafL ⟨rfl, S⟩
    · refine fI 51 undef [(50, undef), (46, .bool (!r49))] 21 [some 20, some 16] rfl rfl rfl rfl rfl rfl fun G a w S => ?_
      refine sSkip 16 false 46 51 S rfl rfl rfl hc51 rfl (lb rfl) fun a S => ?_
      exact leafL ⟨rfl, S⟩
    · refine fI 52 undef [(1, .pointer (some ⟨b10, 0, none⟩)), (46, .bool (!r49))] 22 [none, some 16] rfl rfl rfl rfl rfl rfl fun G a w S => ?_
      refine sSkip 16 false 46 52 S rfl rfl rfl hc51 rfl (lb rfl) fun a S => ?_
      exact leafL ⟨rfl, S⟩
    · refine fI 53 undef [(52, undef), (46, .bool (!r49))] 23 [some 22, some 16] rfl rfl rfl rfl rfl rfl fun G a w S => ?_
      refine sSkip 16 false 46 53 S rfl rfl rfl hc51 rfl (lb rfl) fun a S => ?_
      exact leafL ⟨rfl, S⟩
    · refine fI 54 undef [(3, iv s22), (46, .bool (!r49))] 24 [none, some 16] rfl rfl rfl rfl rfl rfl fun G a w S => ?_
      refine sSkip 16 false 46 54 S rfl rfl rfl hc51 rfl (lb rfl) fun a S => ?_
      exact leafL ⟨rfl, S⟩
    · refine fI 55 undef [(53, undef), (54, undef), (46, .bool (!r49))] 25 [some 23, some 24, some 16] rfl rfl rfl rfl rfl rfl fun G a w S => ?_
      refine sSkip 16 false 46 55 S rfl rfl rfl hc51 rfl (lb rfl) fun a S => ?_
      exact leafL ⟨rfl, S⟩
    · refine fI 56 undef [(55, undef), (46, .bool (!r49))] 26 [some 25, some 16] rfl rfl rfl rfl rfl rfl fun G a w S => ?_
      refine sSkip 16 false 46 56 S rfl rfl rfl hc51 rfl (lb rfl) fun a S => ?_
      exact leafL ⟨rfl, S⟩
    · refine fI 57 undef [(51, undef), (56, undef), (46, .bool (!r49))] 27 [some 21, some 26, some 16] rfl rfl rfl rfl rfl rfl fun G a w S => ?_
      refine sSkip 16 false 46 57 S rfl rfl rfl hc51 rfl (lb rfl) fun a S => ?_
      exact leafL ⟨rfl, S⟩
    · refine fI 58 (.bool true) [(46, .bool (!r49)), (57, undef)] 28 [some 16, some 27] rfl rfl rfl rfl rfl rfl fun G a w S => ?_
      refine sPickT (.bool true) S (wN rfl) rfl rfl hc51 rfl rfl (lb rfl) fun a S => ?_
      exact leafL ⟨rfl, S⟩
    · refine fI 59 (.bool true) [(58, .bool true)] 29 [some 28] rfl rfl rfl rfl rfl rfl fun G a w S => ?_
      refine sMove (.bool true) S (wN rfl) (.inl rfl) rfl rfl (lb rfl) fun a S => ?_
      exact leafL ⟨rfl, S⟩
    · refine fI 60 undef [(1, .pointer (some ⟨b10, 0, none⟩)), (59, .bool true)] 30 [none, some 29] rfl rfl rfl rfl rfl rfl fun G a w S => ?_
      refine sSkip 29 false 59 60 S rfl rfl rfl rfl rfl (lb rfl) fun a S => ?_
      exact leafL ⟨rfl, S⟩
    · refine fI 61 undef [(60, undef), (59, .bool true)] 31 [some 30, some 29] rfl rfl rfl rfl rfl rfl fun G a w S => ?_
      refine sSkip 29 false 59 61 S rfl rfl rfl rfl rfl (lb rfl) fun a S => ?_
      exact leafL ⟨rfl, S⟩
    · refine fI 62 undef [(3, iv s22), (59, .bool true)] 32 [none, some 29] rfl rfl rfl rfl rfl rfl fun G a w S => ?_
      refine sSkip 29 false 59 62 S rfl rfl rfl rfl rfl (lb rfl) fun a S => ?_
      exact leafL ⟨rfl, S⟩
    · refine fI 63 undef [(61, undef), (62, undef), (59, .bool true)] 33 [some 31, some 32, some 29] rfl rfl rfl rfl rfl rfl fun G a w S => ?_
      refine sSkip 29 false 59 63 S rfl rfl rfl rfl rfl (lb rfl) fun a S => ?_
      exact leafL ⟨rfl, S⟩
    · refine fI 64 undef [(63, undef), (59, .bool true)] 34 [some 33, some 29] rfl rfl rfl rfl rfl rfl fun G a w S => ?_
      refine sSkip 29 false 59 64 S rfl rfl rfl rfl rfl (lb rfl) fun a S => ?_
      exact leafL ⟨rfl, S⟩
    · refine fI 65 undef [(1, .pointer (some ⟨b10, 0, none⟩)), (59, .bool true)] 35 [none, some 29] rfl rfl rfl rfl rfl rfl fun G a w S => ?_
      refine sSkip 29 false 59 65 S rfl rfl rfl rfl rfl (lb rfl) fun a S => ?_
      exact leafL ⟨rfl, S⟩
    · refine fI 66 undef [(65, undef), (59, .bool true)] 36 [some 35, some 29] rfl rfl rfl rfl rfl rfl fun G a w S => ?_
      refine sSkip 29 false 59 66 S rfl rfl rfl rfl rfl (lb rfl) fun a S => ?_
      exact leafL ⟨rfl, S⟩
    · refine fI 67 undef [(3, iv s22), (59, .bool true)] 37 [none, some 29] rfl rfl rfl rfl rfl rfl fun G a w S => ?_
      refine sSkip 29 false 59 67 S rfl rfl rfl rfl rfl (lb rfl) fun a S => ?_
      exact leafL ⟨rfl, S⟩
    · refine fI 68 undef [(66, undef), (67, undef), (59, .bool true)] 38 [some 36, some 37, some 29] rfl rfl rfl rfl rfl rfl fun G a w S => ?_
      refine sSkip 29 false 59 68 S rfl rfl rfl rfl rfl (lb rfl) fun a S => ?_
      exact leafL ⟨rfl, S⟩
    · refine fI 69 undef [(68, undef), (59, .bool true)] 39 [some 38, some 29] rfl rfl rfl rfl rfl rfl fun G a w S => ?_
      refine sSkip 29 false 59 69 S rfl rfl rfl rfl rfl (lb rfl) fun a S => ?_
      exact leafL ⟨rfl, S⟩
    · refine fI 70 undef [(64, undef), (69, undef), (59, .bool true)] 40 [some 34, some 39, some 29] rfl rfl rfl rfl rfl rfl fun G a w S => ?_
      refine sSkip 29 false 59 70 S rfl rfl rfl rfl rfl (lb rfl) fun a S => ?_
      exact leafL ⟨rfl, S⟩
    · refine fI 71 undef [(70, undef), (59, .bool true)] 41 [some 40, some 29] rfl rfl rfl rfl rfl rfl fun G a w S => ?_
      refine sSkip 29 false 59 71 S rfl rfl rfl rfl rfl (lb rfl) fun a S => ?_
      exact leafL ⟨rfl, S⟩
    · refine fI 72 (.bool true) [(59, .bool true), (71, undef)] 42 [some 29, some 41] rfl rfl rfl rfl rfl rfl fun G a w S => ?_
      refine sPickT (.bool true) S (wN rfl) rfl rfl rfl rfl rfl (lb rfl) fun a S => ?_
      exact leafL ⟨rfl, S⟩
    exact leafT (⟨true, Option.some.inj h, S.fix [0] [6, 7] (by decide) rfl rfl rfl⟩)
  rcases iteSome h with ⟨hc64, h⟩ | ⟨hc64, h⟩
  · obtain ⟨q65, hq66, S⟩ := pIdx (P := Tryd.prog) (r := (rI .i64)) (v := .slice ad5 p0.Left.length cp6) (xs := p0.Left) (j := s22) 28 3 0 S Tryd.underlying28 rfl rfl hx34
    obtain ⟨u67, S⟩ := pLoad (r := (rI .i64)) (q := q65) (x := x33) 0 S rfl
    obtain rfl : u67 = iv x33 := S.mem.know (i := 1) (e := fRep (rI .i64) (u67) x33) rfl
    obtain ⟨q68, hq69, S⟩ := pIdx (P := Tryd.prog) (r := (rI .i64)) (v := .slice ad7 p0.Right.length cp8) (xs := p0.Right) (j := s22) 28 3 4 S Tryd.underlying28 rfl rfl hx45
    obtain ⟨u70, S⟩ := pLoad (r := (rI .i64)) (q := q68) (x := x44) 0 S rfl
    obtain rfl : u70 = iv x44 := S.mem.know (i := 1) (e := fRep (rI .i64) (u70) x44) rfl
    obtain ⟨q71, hq72, S⟩ := pIdx (P := Tryd.prog) (r := (rI .i64)) (v := .slice ad5 p0.Left.length cp6) (xs := p0.Left) (j := s22) 28 3 6 S Tryd.underlying28 rfl rfl hx34
    obtain ⟨u73, S⟩ := pLoad (r := (rI .i64)) (q := q71) (x := x33) 0 S rfl
    obtain rfl : u73 = iv x33 := S.mem.know (i := 1) (e := fRep (rI .i64) (u73) x33) rfl
    obtain ⟨q74, hq75, S⟩ := pIdx (P := Tryd.prog) (r := (rI .i64)) (v := .slice ad7 p0.Right.length cp8) (xs := p0.Right) (j := s22) 28 3 10 S Tryd.underlying28 rfl rfl hx45
    obtain ⟨u76, S⟩ := pLoad (r := (rI .i64)) (q := q74) (x := x44) 0 S rfl
    obtain rfl : u76 = iv x44 := S.mem.know (i := 1) (e := fRep (rI .i64) (u76) x44) rfl
    refine sDraw (nf := []) (W := [(0, 30, .pointer (some ⟨b10, 0, none⟩)), (1, 31, .slice ad5 p0.Left.length cp6), (2, 32, iv s22), (3, 33, q65), (4, 34, iv x33), (5, 35, .bool r38), (6, 36, .bool (!r38)), (7, 37, .bool (!r38)), (8, 38, .pointer (some ⟨b10, 1, none⟩)), (9, 39, .slice ad7 p0.Right.length cp8), (10, 40, iv s22), (11, 41, q68), (12, 42, iv x44), (13, 43, .bool r49), (14, 44, .bool (!r49)), (15, 45, .bool (!r49)), (16, 46, .bool (!r49)), (17, 47, .pointer (some ⟨b10, 0, none⟩)), (18, 48, .slice ad5 p0.Left.length cp6), (19, 49, iv s22), (20, 50, q71), (21, 51, iv x33), (22, 52, .pointer (some ⟨b10, 1, none⟩)), (23, 53, .slice ad7 p0.Right.length cp8), (24, 54, iv s22), (25, 55, q74), (26, 56, iv x44), (27, 57, .bool (decide (x44 ≤ x33))), (28, 58, .bool (decide (x44 ≤ x33))), (29, 59, .bool (decide (x44 ≤ x33))), (30, 60, undef), (31, 61, undef), (32, 62, undef), (33, 63, undef), (34, 64, undef), (35, 65, undef), (36, 66, undef), (37, 67, undef), (38, 68, undef), (39, 69, undef), (40, 70, undef), (41, 71, undef), (42, 72, .bool true)]) rfl S ?_
    refine node_by (A := anc_raddleref37_Check_0) (nf := []) (Y := []) (W := [(0, 30, .pointer (some ⟨b10, 0, none⟩)), (1, 31, .slice ad5 p0.Left.length cp6), (2, 32, iv s22), (3, 33, q65), (4, 34, iv x33), (5, 35, .bool r38), (6, 36, .bool (!r38)), (7, 37, .bool (!r38)), (8, 38, .pointer (some ⟨b10, 1, none⟩)), (9, 39, .slice ad7 p0.Right.length cp8), (10, 40, iv s22), (11, 41, q68), (12, 42, iv x44), (13, 43, .bool r49), (14, 44, .bool (!r49)), (15, 45, .bool (!r49)), (16, 46, .bool (!r49)), (17, 47, .pointer (some ⟨b10, 0, none⟩)), (18, 48, .slice ad5 p0.Left.length cp6), (19, 49, iv s22), (20, 50, q71), (21, 51, iv x33), (22, 52, .pointer (some ⟨b10, 1, none⟩)), (23, 53, .slice ad7 p0.Right.length cp8), (24, 54, iv s22), (25, 55, q74), (26, 56, iv x44), (27, 57, .bool (decide (x44 ≤ x33))), (28, 58, .bool (decide (x44 ≤ x33))), (29, 59, .bool (decide (x44 ≤ x33))), (30, 60, undef), (31, 61, undef), (32, 62, undef), (33, 63, undef), (34, 64, undef), (35, 65, undef), (36, 66, undef), (37, 67, undef), (38, 68, undef), (39, 69, undef), (40, 70, undef), (41, 71, undef), (42, 72, .bool true)]) 43 (by kernel_rfl) (by kernel_rfl) (by kernel_rfl) (by kernel_rfl) (by kernel_rfl) [0, 1, 2, 3, 4, 5, 6, 7, 8, 9, 10, 11, 12, 13, 14, 15, 16, 17, 18, 19, 20, 21, 22, 23, 24, 25, 26, 27, 28, 29, 30, 31, 32, 33, 34, 35, 36, 37, 38, 39, 40, 41, 42] (by kernel_rfl) (by decide) (by decide) (aF 0 42 (by decide) ?_ (aF 1 41 (by decide) ?_ (aF 2 40 (by decide) ?_ (aF 3 39 (by decide) ?_ (aF 4 38 (by decide) ?_ (aF 5 37 (by decide) ?_ (aF 6 36 (by decide) ?_ (aF 7 35 (by decide) ?_ (aF 8 34 (by decide) ?_ (aF 9 33 (by decide) ?_ (aF 10 32 (by decide) ?_ (aF 11 31 (by decide) ?_ (aF 12 30 (by decide) ?_ (aF 13 29 (by decide) ?_ (aF 14 28 (by decide) ?_ (aF 15 27 (by decide) ?_ (aF 16 26 (by decide) ?_ (aF 17 25 (by decide) ?_ (aF 18 24 (by decide) ?_ (aF 19 23 (by decide) ?_ (aF 20 22 (by decide) ?_ (aF 21 21 (by decide) ?_ (aF 22 20 (by decide) ?_ (aF 23 19 (by decide) ?_ (aF 24 18 (by decide) ?_ (aF 25 17 (by decide) ?_ (aF 26 16 (by decide) ?_ (aF 27 15 (by decide) ?_ (aF 28 14 (by decide) ?_ (aF 29 13 (by decide) ?_ (aF 30 12 (by decide) ?_ (aF 31 11 (by decide) ?_ (aF 32 10 (by decide) ?_ (aF 33 9 (by decide) ?_ (aF 34 8 (by decide) ?_ (aF 35 7 (by decide) ?_ (aF 36 6 (by decide) ?_ (aF 37 5 (by decide) ?_ (aF 38 4 (by decide) ?_ (aF 39 3 (by decide) ?_ (aF 40 2 (by decide) ?_ (aF 41 1 (by decide) ?_ (aF 42 0 (by decide) ?_ (trivial)))))))))))))))))))))))))))))))))))))))))))) [(1, .pointer (some ⟨b10, 0, none⟩)), (3, iv s22), (38, .pointer (some ⟨b10, 1, none⟩)), (39, .slice ad7 p0.Right.length cp8), (40, iv s22), (41, q68), (42, iv x44), (43, .bool r49), (44, .bool (!r49)), (47, .pointer (some ⟨b10, 0, none⟩)), (48, .slice ad5 p0.Left.length cp6), (49, iv s22), (50, q71), (51, iv x33), (52, .pointer (some ⟨b10, 1, none⟩)), (53, .slice ad7 p0.Right.length cp8), (54, iv s22), (55, q74), (56, iv x44), (57, .bool (decide (x44 ≤ x33))), (60, undef), (61, undef), (62, undef), (63, undef), (64, undef), (65, undef), (66, undef), (67, undef), (68, undef), (69, undef), (70, undef), (71, undef), (72, .bool true)] (fin_of [none, none, some 8, some 9, some 10, some 11, some 12, some 13, some 14, some 17, some 18, some 19, some 20, some 21, some 22, some 23, some 24, some 25, some 26, some 27, some 30, some 31, some 32, some 33, some 34, some 35, some 36, some 37, some 38, some 39, some 40, some 41, some 42] rfl (by kernel_rfl) (by kernel_rfl)) (fun _ a w S => ?_)
    · refine fI 30 (.pointer (some ⟨b10, 0, none⟩)) [(1, .pointer (some ⟨b10, 0, none⟩))] 0 [none] rfl rfl rfl rfl rfl rfl fun G a w S => ?_
      refine sField (b := b10) (off := 0) 0 0 S (wN rfl) rfl rfl rfl rfl rfl (lb rfl) fun a S => ?_
      exact leafL ⟨rfl, S⟩
    · refine fI 31 (.slice ad5 p0.Left.length cp6) [(30, .pointer (some ⟨b10, 0, none⟩))] 1 [some 0] rfl rfl rfl rfl rfl rfl fun G a w S => ?_
      refine sLoad1 (p := b10) (off := 0) (T := 30) (vs := [.slice ad5 p0.Left.length cp6, .slice ad7 p0.Right.length cp8]) 0 (.slice ad5 p0.Left.length cp6) S (wN rfl) rfl rfl rfl rfl rfl rfl (lb rfl) fun a S => ?_
      exact leafL ⟨rfl, S⟩
    · refine fI 32 (iv s22) [(3, iv s22)] 2 [none] rfl rfl rfl rfl rfl rfl fun G a w S => ?_
      refine sMove (iv s22) S (wN rfl) (.inl rfl) rfl rfl (lb rfl) fun a S => ?_
      exact leafL ⟨rfl, S⟩
    · refine fI 33 q65 [(31, .slice ad5 p0.Left.length cp6), (32, iv s22)] 3 [some 1, some 2] rfl rfl rfl rfl rfl rfl fun G a w S => ?_
      refine sIdxV (v := .slice ad5 p0.Left.length cp6) (k := .i64) (j := s22) S (wN rfl) rfl rfl rfl hq66 rfl (lb rfl) fun a S => ?_
      exact leafL ⟨rfl, S⟩
    · refine fI 34 (iv x33) [(33, q65)] 4 [some 3] rfl rfl rfl rfl rfl rfl fun G a w S => ?_
      refine sLoadV1 (vq := q65) 9 (iv x33) S (wN rfl) rfl rfl rfl rfl rfl (lb rfl) fun a S => ?_
      exact leafL ⟨rfl, S⟩
    · refine fI 35 (.bool r38) [(34, iv x33)] 5 [some 4] rfl rfl rfl rfl rfl rfl fun G a w S => ?_
      have S1 := S.mem
      refine sCallQ (X := Unit) (f := 45) (vs := [iv x33]) (val := fun _ => .bool r38) S (wN rfl) rfl callee45 rfl (S1.quiet [] rfl) (fun E1 w1 S1 => c_raddleref37_in E1 w1 x33 r38 hx39 S1) rfl (lb rfl) fun _ a w S => ?_
      exact leafL ⟨rfl, S⟩
    · refine fI 36 (.bool (!r38)) [(35, .bool r38)] 6 [some 5] rfl rfl rfl rfl rfl rfl fun G a w S => ?_
      refine sNot (b := r38) S (wN rfl) rfl rfl rfl (lb rfl) fun a S => ?_
      exact leafL ⟨rfl, S⟩
    · refine fI 37 (.bool (!r38)) [(36, .bool (!r38))] 7 [some 6] rfl rfl rfl rfl rfl rfl fun G a w S => ?_
      refine sMove (.bool (!r38)) S (wN rfl) (.inl rfl) rfl rfl (lb rfl) fun a S => ?_
      exact leafL ⟨rfl, S⟩
    · refine fI 38 (.pointer (some ⟨b10, 1, none⟩)) [(1, .pointer (some ⟨b10, 0, none⟩)), (37, .bool (!r38))] 8 [none, some 7] rfl rfl rfl rfl rfl rfl fun G a w S => ?_
      refine sField (b := b10) (off := 0) 1 1 S (wG 7 false 37 rfl rfl rfl hc40) rfl rfl rfl rfl rfl (lb rfl) fun a S => ?_
      exact leafL ⟨rfl, S⟩
    · refine fI 39 (.slice ad7 p0.Right.length cp8) [(38, .pointer (some ⟨b10, 1, none⟩)), (37, .bool (!r38))] 9 [some 8, some 7] rfl rfl rfl rfl rfl rfl fun G a w S => ?_
      refine sLoad1 (p := b10) (off := 1) (T := 30) (vs := [.slice ad5 p0.Left.length cp6, .slice ad7 p0.Right.length cp8]) 0 (.slice ad7 p0.Right.length cp8) S (wG 7 false 37 rfl rfl rfl hc40) rfl rfl rfl rfl rfl rfl (lb rfl) fun a S => ?_
      exact leafL ⟨rfl, S⟩
    · refine fI 40 (iv s22) [(3, iv s22), (37, .bool (!r38))] 10 [none, some 7] rfl rfl rfl rfl rfl rfl fun G a w S => ?_
      refine sMove (iv s22) S (wG 7 false 37 rfl rfl rfl hc40) (.inl rfl) rfl rfl (lb rfl) fun a S => ?_
      exact leafL ⟨rfl, S⟩
    · refine fI 41 q68 [(39, .slice ad7 p0.Right.length cp8), (40, iv s22), (37, .bool (!r38))] 11 [some 9, some 10, some 7] rfl rfl rfl rfl rfl rfl fun G a w S => ?_
      refine sIdxV (v := .slice ad7 p0.Right.length cp8) (k := .i64) (j := s22) S (wG 7 false 37 rfl rfl rfl hc40) rfl rfl rfl hq69 rfl (lb rfl) fun a S => ?_
      exact leafL ⟨rfl, S⟩
    · refine fI 42 (iv x44) [(41, q68), (37, .bool (!r38))] 12 [some 11, some 7] rfl rfl rfl rfl rfl rfl fun G a w S => ?_
      refine sLoadV1 (vq := q68) 6 (iv x44) S (wG 7 false 37 rfl rfl rfl hc40) rfl rfl rfl rfl rfl (lb rfl) fun a S => ?_
      exact leafL ⟨rfl, S⟩
    · refine fI 43 (.bool r49) [(42, iv x44), (37, .bool (!r38))] 13 [some 12, some 7] rfl rfl rfl rfl rfl rfl fun G a w S => ?_
      have S1 := S.mem
      refine sCallQ (X := Unit) (f := 45) (vs := [iv x44]) (val := fun _ => .bool r49) S (wG 7 false 37 rfl rfl rfl hc40) rfl callee45 rfl (S1.quiet [] rfl) (fun E1 w1 S1 => c_raddleref37_in E1 w1 x44 r49 hx50 S1) rfl (lb rfl) fun _ a w S => ?_
      exact leafL ⟨rfl, S⟩
    · refine fI 44 (.bool (!r49)) [(43, .bool r49), (37, .bool (!r38))] 14 [some 13, some 7] rfl rfl rfl rfl rfl rfl fun G a w S => ?_
      refine sNot (b := r49) S (wG 7 false 37 rfl rfl rfl hc40) rfl rfl rfl (lb rfl) fun a S => ?_
      exact leafL ⟨rfl, S⟩
    · refine fI 45 (.bool (!r49)) [(37, .bool (!r38)), (44, .bool (!r49))] 15 [some 7, some 14] rfl rfl rfl rfl rfl rfl fun G a w S => ?_
      refine sPickF (.bool (!r49)) S (wN rfl) rfl rfl hc40 rfl rfl (lb rfl) fun a S => ?_
      exact leafL ⟨rfl, S⟩
    · refine fI 46 (.bool (!r49)) [(45, .bool (!r49))] 16 [some 15] rfl rfl rfl rfl rfl rfl fun G a w S => ?_
      refine sMove (.bool (!r49)) S (wN rfl) (.inl rfl) rfl rfl (lb rfl) fun a S => ?_
      exact leafL ⟨rfl, S⟩
    · refine fI 47 (.pointer (some ⟨b10, 0, none⟩)) [(1, .pointer (some ⟨b10, 0, none⟩)), (46, .bool (!r49))] 17 [none, some 16] rfl rfl rfl rfl rfl rfl fun G a w S => ?_
      refine sField (b := b10) (off := 0) 0 0 S (wG 16 false 46 rfl rfl rfl hc51) rfl rfl rfl rfl rfl (lb rfl) fun a S => ?_
      exact leafL ⟨rfl, S⟩
    · refine fI 48 (.slice ad5 p0.Left.length cp6) [(47, .pointer (some ⟨b10, 0, none⟩)), (46, .bool (!r49))] 18 [some 17, some 16] rfl rfl rfl rfl rfl rfl fun G a w S => ?_
      refine sLoad1 (p := b10) (off := 0) (T := 30) (vs := [.slice ad5 p0.Left.length cp6, .slice ad7 p0.Right.length cp8]) 0 (.slice ad5 p0.Left.length cp6) S (wG 16 false 46 rfl rfl rfl hc51) rfl rfl rfl rfl rfl rfl (lb rfl) fun a S => ?_
      exact leafL ⟨rfl, S⟩
    · refine fI 49 (iv s22) [(3, iv s22), (46, .bool (!r49))] 19 [none, some 16] rfl rfl rfl rfl rfl rfl fun G a w S => ?_
      refine sMove (iv s22) S (wG 16 false 46 rfl rfl rfl hc51) (.inl rfl) rfl rfl (lb rfl) fun a S => ?_
      exact leafL ⟨rfl, S⟩
    · refine fI 50 q71 [(48, .slice ad5 p0.Left.length cp6), (49, iv s22), (46, .bool (!r49))] 20 [some 18, some 19, some 16] rfl rfl rfl rfl rfl rfl fun G a w S => ?_
      refine sIdxV (v := .slice ad5 p0.Left.length cp6) (k := .i64) (j := s22) S (wG 16 false 46 rfl rfl rfl hc51) rfl rfl rfl hq72 rfl (lb rfl) fun a S => ?_
      exact leafL ⟨rfl, S⟩
    · refine fI 51 (iv x33) [(50, q71), (46, .bool (!r49))] 21 [some 20, some 16] rfl rfl rfl rfl rfl rfl fun G a w S => ?_
      refine sLoadV1 (vq := q71) 3 (iv x33) S (wG 16 false 46 rfl rfl rfl hc51) rfl rfl rfl rfl rfl (lb rfl) fun a S => ?_
      exact leafL ⟨rfl, S⟩
    · refine fI 52 (.pointer (some ⟨b10, 1, none⟩)) [(1, .pointer (some ⟨b10, 0, none⟩)), (46, .bool (!r49))] 22 [none, some 16] rfl rfl rfl rfl rfl rfl fun G a w S => ?_
      refine sField (b := b10) (off := 0) 1 1 S (wG 16 false 46 rfl rfl rfl hc51) rfl rfl rfl rfl rfl (lb rfl) fun a S => ?_
      exact leafL ⟨rfl, S⟩
    · refine fI 53 (.slice ad7 p0.Right.length cp8) [(52, .pointer (some ⟨b10, 1, none⟩)), (46, .bool (!r49))] 23 [some 22, some 16] rfl rfl rfl rfl rfl rfl fun G a w S => ?_
      refine sLoad1 (p := b10) (off := 1) (T := 30) (vs := [.slice ad5 p0.Left.length cp6, .slice ad7 p0.Right.length cp8]) 0 (.slice ad7 p0.Right.length cp8) S (wG 16 false 46 rfl rfl rfl hc51) rfl rfl rfl rfl rfl rfl (lb rfl) fun a S => ?_
      exact leafL ⟨rfl, S⟩
    · refine fI 54 (iv s22) [(3, iv s22), (46, .bool (!r49))] 24 [none, some 16] rfl rfl rfl rfl rfl rfl fun G a w S => ?_
      refine sMove (iv s22) S (wG 16 false 46 rfl rfl rfl hc51) (.inl rfl) rfl rfl (lb rfl) fun a S => ?_
      exact leafL ⟨rfl, S⟩
    · refine fI 55 q74 [(53, .slice ad7 p0.Right.length cp8), (54, iv s22), (46, .bool (!r49))] 25 [some 23, some 24, some 16] rfl rfl rfl rfl rfl rfl fun G a w S => ?_
      refine sIdxV (v := .slice ad7 p0.Right.length cp8) (k := .i64) (j := s22) S (wG 16 false 46 rfl rfl rfl hc51) rfl rfl rfl hq75 rfl (lb rfl) fun a S => ?_
      exact leafL ⟨rfl, S⟩
    · refine fI 56 (iv x44) [(55, q74), (46, .bool (!r49))] 26 [some 25, some 16] rfl rfl rfl rfl rfl rfl fun G a w S => ?_
      refine sLoadV1 (vq := q74) 0 (iv x44) S (wG 16 false 46 rfl rfl rfl hc51) rfl rfl rfl rfl rfl (lb rfl) fun a S => ?_
      exact leafL ⟨rfl, S⟩
    · refine fI 57 (.bool (decide (x44 ≤ x33))) [(51, iv x33), (56, iv x44), (46, .bool (!r49))] 27 [some 21, some 26, some 16] rfl rfl rfl rfl rfl rfl fun G a w S => ?_
      refine sBin (.bool (decide (x44 ≤ x33))) S (wG 16 false 46 rfl rfl rfl hc51) rfl rfl rfl (bGe _ _ _ _ .i64 x33 x44) rfl (lb rfl) fun a S => ?_
      exact leafL ⟨rfl, S⟩
    · refine fI 58 (.bool (decide (x44 ≤ x33))) [(46, .bool (!r49)), (57, .bool (decide (x44 ≤ x33)))] 28 [some 16, some 27] rfl rfl rfl rfl rfl rfl fun G a w S => ?_
      refine sPickF (.bool (decide (x44 ≤ x33))) S (wN rfl) rfl rfl hc51 rfl rfl (lb rfl) fun a S => ?_
      exact leafL ⟨rfl, S⟩
    · refine fI 59 (.bool (decide (x44 ≤ x33))) [(58, .bool (decide (x44 ≤ x33)))] 29 [some 28] rfl rfl rfl rfl rfl rfl fun G a w S => ?_
      refine sMove (.bool (decide (x44 ≤ x33))) S (wN rfl) (.inl rfl) rfl rfl (lb rfl) fun a S => ?_
      exact leafL ⟨rfl, S⟩
    · refine fI 60 undef [(1, .pointer (some ⟨b10, 0, none⟩)), (59, .bool (decide (x44 ≤ x33)))] 30 [none, some 29] rfl rfl rfl rfl rfl rfl fun G a w S => ?_
      refine sSkip 29 false 59 60 S rfl rfl rfl hc64 rfl (lb rfl) fun a S => ?_
      exact leafL ⟨rfl, S⟩
    · refine fI 61 undef [(60, undef), (59, .bool (decide (x44 ≤ x33)))] 31 [some 30, some 29] rfl rfl rfl rfl rfl rfl fun G a w S => ?_
      refine sSkip 29 false 59 61 S rfl rfl rfl hc64 rfl (lb rfl) fun a S => ?_
      exact leafL ⟨rfl, S⟩
    · refine fI 62 undef [(3, iv s22), (59, .bool (decide (x44 ≤ x33)))] 32 [none, some 29] rfl rfl rfl rfl rfl rfl fun G a w S => ?_
      refine sSkip 29 false 59 62 S rfl rfl rfl hc64 rfl (lb rfl) fun a S => ?_
      exact leafL ⟨rfl, S⟩
    · refine fI 63 undef [(61, undef), (62, undef), (59, .bool (decide (x44 ≤ x33)))] 33 [some 31, some 32, some 29] rfl rfl rfl rfl rfl rfl fun G a w S => ?_
      refine sSkip 29 false 59 63 S rfl rfl rfl hc64 rfl (lb rfl) fun a S => ?_
      exact leafL ⟨rfl, S⟩
    · refine fI 64 undef [(63, undef), (59, .bool (decide (x44 ≤ x33)))] 34 [some 33, some 29] rfl rfl rfl rfl rfl rfl fun G a w S => ?_
      refine sSkip 29 false 59 64 S rfl rfl rfl hc64 rfl (lb rfl) fun a S => ?_
      exact leafL ⟨rfl, S⟩
    · refine fI 65 undef [(1, .pointer (some ⟨b10, 0, none⟩)), (59, .bool (decide (x44 ≤ x33)))] 35 [none, some 29] rfl rfl rfl rfl rfl rfl fun G a w S => ?_
      refine sSkip 29 false 59 65 S rfl rfl rfl hc64 rfl (lb rfl) fun a S => ?_
      exact leafL ⟨rfl, S⟩
    · refine fI 66 undef [(65, undef), (59, .bool (decide (x44 ≤ x33)))] 36 [some 35, some 29] rfl rfl rfl rfl rfl rfl fun G a w S => ?_
      refine sSkip 29 false 59 66 S rfl rfl rfl hc64 rfl (lb rfl) fun a S => ?_
      exact leafL ⟨rfl, S⟩
    · refine fI 67 undef [(3, iv s22), (59, .bool (decide (x44 ≤ x33)))] 37 [none, some 29] rfl rfl rfl rfl rfl rfl fun G a w S => ?_
      refine sSkip 29 false 59 67 S rfl rfl rfl hc64 rfl (lb rfl) fun a S => ?_
      exact leafL ⟨rfl, S⟩
    · refine fI 68 undef [(66, undef), (67, undef), (59, .bool (decide (x44 ≤ x33)))] 38 [some 36, some 37, some 29] rfl rfl rfl rfl rfl rfl fun G a w S => ?_
      refine sSkip 29 false 59 68 S rfl rfl rfl hc64 rfl (lb rfl) fun a S => ?_
      exact leafL ⟨rfl, S⟩
    · refine fI 69 undef [(68, undef), (59, .bool (decide (x44 ≤ x33)))] 39 [some 38, some 29] rfl rfl rfl rfl rfl rfl fun G a w S => ?_
      refine sSkip 29 false 59 69 S rfl rfl rfl hc64 rfl (lb rfl) fun a S => ?_
      exact leafL ⟨rfl, S⟩
    · refine fI 70 undef [(64, undef), (69, undef), (59, .bool (decide (x44 ≤ x33)))] 40 [some 34, some 39, some 29] rfl rfl rfl rfl rfl rfl fun G a w S => ?_
      refine sSkip 29 false 59 70 S rfl rfl rfl hc64 rfl (lb rfl) fun a S => ?_
      exact leafL ⟨rfl, S⟩
    · refine fI 71 undef [(70, undef), (59, .bool (decide (x44 ≤ x33)))] 41 [some 40, some 29] rfl rfl rfl rfl rfl rfl fun G a w S => ?_
      refine sSkip 29 false 59 71 S rfl rfl rfl hc64 rfl (lb rfl) fun a S => ?_
      exact leafL ⟨rfl, S⟩
    · refine fI 72 (.bool true) [(59, .bool (decide (x44 ≤ x33))), (71, undef)] 42 [some 29, some 41] rfl rfl rfl rfl rfl rfl fun G a w S => ?_
      refine sPickT (.bool true) S (wN rfl) rfl rfl hc64 rfl rfl (lb rfl) fun a S => ?_
      exact leafL ⟨rfl, S⟩
    exact leafT (⟨true, Option.some.inj h, S.fix [0] [12, 13] (by decide) rfl rfl rfl⟩)
  obtain ⟨q83, hq84, S⟩ := pIdx (P := Tryd.prog) (r := (rI .i64)) (v := .slice ad5 p0.Left.length cp6) (xs := p0.Left) (j := s22) 28 3 0 S Tryd.underlying28 rfl rfl hx34
  obtain ⟨u85, S⟩ := pLoad (r := (rI .i64)) (q := q83) (x := x33) 0 S rfl
  obtain rfl : u85 = iv x33 := S.mem.know (i := 1) (e := fRep (rI .i64) (u85) x33) rfl
  obtain ⟨q86, hq87, S⟩ := pIdx (P := Tryd.prog) (r := (rI .i64)) (v := .slice ad7 p0.Right.length cp8) (xs := p0.Right) (j := s22) 28 3 4 S Tryd.underlying28 rfl rfl hx45
  obtain ⟨u88, S⟩ := pLoad (r := (rI .i64)) (q := q86) (x := x44) 0 S rfl
  obtain rfl : u88 = iv x44 := S.mem.know (i := 1) (e := fRep (rI .i64) (u88) x44) rfl
  obtain ⟨q89, hq90, S⟩ := pIdx (P := Tryd.prog) (r := (rI .i64)) (v := .slice ad5 p0.Left.length cp6) (xs := p0.Left) (j := s22) 28 3 6 S Tryd.underlying28 rfl rfl hx34
  obtain ⟨u91, S⟩ := pLoad (r := (rI .i64)) (q := q89) (x := x33) 0 S rfl
  obtain rfl : u91 = iv x33 := S.mem.know (i := 1) (e := fRep (rI .i64) (u91) x33) rfl
  obtain ⟨q92, hq93, S⟩ := pIdx (P := Tryd.prog) (r := (rI .i64)) (v := .slice ad7 p0.Right.length cp8) (xs := p0.Right) (j := s22) 28 3 10 S Tryd.underlying28 rfl rfl hx45
  obtain ⟨u94, S⟩ := pLoad (r := (rI .i64)) (q := q92) (x := x44) 0 S rfl
  obtain rfl : u94 = iv x44 := S.mem.know (i := 1) (e := fRep (rI .i64) (u94) x44) rfl
  obtain ⟨q95, hq96, S⟩ := pIdx (P := Tryd.prog) (r := (rI .i64)) (v := .slice ad7 p0.Right.length cp8) (xs := p0.Right) (j := s22) 28 3 13 S Tryd.underlying28 rfl rfl hx45
  obtain ⟨u97, S⟩ := pLoad (r := (rI .i64)) (q := q95) (x := x44) 0 S rfl
  obtain rfl : u97 = iv x44 := S.mem.know (i := 1) (e := fRep (rI .i64) (u97) x44) rfl
  obtain ⟨q98, hq99, S⟩ := pIdx (P := Tryd.prog) (r := (rI .i64)) (v := .slice ad5 p0.Left.length cp6) (xs := p0.Left) (j := s22) 28 3 15 S Tryd.underlying28 rfl rfl hx34
  obtain ⟨u100, S⟩ := pLoad (r := (rI .i64)) (q := q98) (x := x33) 0 S rfl
  obtain rfl : u100 = iv x33 := S.mem.know (i := 1) (e := fRep (rI .i64) (u100) x33) rfl
  refine sDraw (nf := []) (W := [(0, 30, .pointer (some ⟨b10, 0, none⟩)), (1, 31, .slice ad5 p0.Left.length cp6), (2, 32, iv s22), (3, 33, q83), (4, 34, iv x33), (5, 35, .bool r38), (6, 36, .bool (!r38)), (7, 37, .bool (!r38)), (8, 38, .pointer (some ⟨b10, 1, none⟩)), (9, 39, .slice ad7 p0.Right.length cp8), (10, 40, iv s22), (11, 41, q86), (12, 42, iv x44), (13, 43, .bool r49), (14, 44, .bool (!r49)), (15, 45, .bool (!r49)), (16, 46, .bool (!r49)), (17, 47, .pointer (some ⟨b10, 0, none⟩)), (18, 48, .slice ad5 p0.Left.length cp6), (19, 49, iv s22), (20, 50, q89), (21, 51, iv x33), (22, 52, .pointer (some ⟨b10, 1, none⟩)), (23, 53, .slice ad7 p0.Right.length cp8), (24, 54, iv s22), (25, 55, q92), (26, 56, iv x44), (27, 57, .bool (decide (x44 ≤ x33))), (28, 58, .bool (decide (x44 ≤ x33))), (29, 59, .bool (decide (x44 ≤ x33))), (30, 60, .pointer (some ⟨b10, 1, none⟩)), (31, 61, .slice ad7 p0.Right.length cp8), (32, 62, iv s22), (33, 63, q95), (34, 64, iv x44), (35, 65, .pointer (some ⟨b10, 0, none⟩)), (36, 66, .slice ad5 p0.Left.length cp6), (37, 67, iv s22), (38, 68, q98), (39, 69, iv x33), (40, 70, iv (w64 (x44 - x33))), (41, 71, .bool (decide (200 < (w64 (x44 - x33))))), (42, 72, .bool (decide (200 < (w64 (x44 - x33)))))]) rfl S ?_
  refine node_by (A := anc_raddleref37_Check_0) (nf := []) (Y := []) (W := [(0, 30, .pointer (some ⟨b10, 0, none⟩)), (1, 31, .slice ad5 p0.Left.length cp6), (2, 32, iv s22), (3, 33, q83), (4, 34, iv x33), (5, 35, .bool r38), (6, 36, .bool (!r38)), (7, 37, .bool (!r38)), (8, 38, .pointer (some ⟨b10, 1, none⟩)), (9, 39, .slice ad7 p0.Right.length cp8), (10, 40, iv s22), (11, 41, q86), (12, 42, iv x44), (13, 43, .bool r49), (14, 44, .bool (!r49)), (15, 45, .bool (!r49)), (16, 46, .bool (!r49)), (17, 47, .pointer (some ⟨b10, 0, none⟩)), (18, 48, .slice ad5 p0.Left.length cp6), (19, 49, iv s22), (20, 50, q89), (21, 51, iv x33), (22, 52, .pointer (some ⟨b10, 1, none⟩)), (23, 53, .slice ad7 p0.Right.length cp8), (24, 54, iv s22), (25, 55, q92), (26, 56, iv x44), (27, 57, .bool (decide (x44 ≤ x33))), (28, 58, .bool (decide (x44 ≤ x33))), (29, 59, .bool (decide (x44 ≤ x33))), (30, 60, .pointer (some ⟨b10, 1, none⟩)), (31, 61, .slice ad7 p0.Right.length cp8), (32, 62, iv s22), (33, 63, q95), (34, 64, iv x44), (35, 65, .pointer (some ⟨b10, 0, none⟩)), (36, 66, .slice ad5 p0.Left.length cp6), (37, 67, iv s22), (38, 68, q98), (39, 69, iv x33), (40, 70, iv (w64 (x44 - x33))), (41, 71, .bool (decide (200 < (w64 (x44 - x33))))), (42, 72, .bool (decide (200 < (w64 (x44 - x33)))))]) 43 (by kernel_rfl) (by kernel_rfl) (by kernel_rfl) (by kernel_rfl) (by kernel_rfl) [0, 1, 2, 3, 4, 5, 6, 7, 8, 9, 10, 11, 12, 13, 14, 15, 16, 17, 18, 19, 20, 21, 22, 23, 24, 25, 26, 27, 28, 29, 30, 31, 32, 33, 34, 35, 36, 37, 38, 39, 40, 41, 42] (by kernel_rfl) (by decide) (by decide) (aF 0 42 (by decide) ?_ (aF 1 41 (by decide) ?_ (aF 2 40 (by decide) ?_ (aF 3 39 (by decide) ?_ (aF 4 38 (by decide) ?_ (aF 5 37 (by decide) ?_ (aF 6 36 (by decide) ?_ (aF 7 35 (by decide) ?_ (aF 8 34 (by decide) ?_ (aF 9 33 (by decide) ?_ (aF 10 32 (by decide) ?_ (aF 11 31 (by decide) ?_ (aF 12 30 (by decide) ?_ (aF 13 29 (by decide) ?_ (aF 14 28 (by decide) ?_ (aF 15 27 (by decide) ?_ (aF 16 26 (by decide) ?_ (aF 17 25 (by decide) ?_ (aF 18 24 (by decide) ?_ (aF 19 23 (by decide) ?_ (aF 20 22 (by decide) ?_ (aF 21 21 (by decide) ?_ (aF 22 20 (by decide) ?_ (aF 23 19 (by decide) ?_ (aF 24 18 (by decide) ?_ (aF 25 17 (by decide) ?_ (aF 26 16 (by decide) ?_ (aF 27 15 (by decide) ?_ (aF 28 14 (by decide) ?_ (aF 29 13 (by decide) ?_ (aF 30 12 (by decide) ?_ (aF 31 11 (by decide) ?_ (aF 32 10 (by decide) ?_ (aF 33 9 (by decide) ?_ (aF 34 8 (by decide) ?_ (aF 35 7 (by decide) ?_ (aF 36 6 (by decide) ?_ (aF 37 5 (by decide) ?_ (aF 38 4 (by decide) ?_ (aF 39 3 (by decide) ?_ (aF 40 2 (by decide) ?_ (aF 41 1 (by decide) ?_ (aF 42 0 (by decide) ?_ (trivial)))))))))))))))))))))))))))))))))))))))))))) [(1, .pointer (some ⟨b10, 0, none⟩)), (3, iv s22), (38, .pointer (some ⟨b10, 1, none⟩)), (39, .slice ad7 p0.Right.length cp8), (40, iv s22), (41, q86), (42, iv x44), (43, .bool r49), (44, .bool (!r49)), (47, .pointer (some ⟨b10, 0, none⟩)), (48, .slice ad5 p0.Left.length cp6), (49, iv s22), (50, q89), (51, iv x33), (52, .pointer (some ⟨b10, 1, none⟩)), (53, .slice ad7 p0.Right.length cp8), (54, iv s22), (55, q92), (56, iv x44), (57, .bool (decide (x44 ≤ x33))), (60, .pointer (some ⟨b10, 1, none⟩)), (61, .slice ad7 p0.Right.length cp8), (62, iv s22), (63, q95), (64, iv x44), (65, .pointer (some ⟨b10, 0, none⟩)), (66, .slice ad5 p0.Left.length cp6), (67, iv s22), (68, q98), (69, iv x33), (70, iv (w64 (x44 - x33))), (71, .bool (decide (200 < (w64 (x44 - x33))))), (72, .bool (decide (200 < (w64 (x44 - x33)))))] (fin_of [none, none, some 8, some 9, some 10, some 11, some 12, some 13, some 14, some 17, some 18, some 19, some 20, some 21, some 22, some 23, some 24, some 25, some 26, some 27, some 30, some 31, some 32, some 33, some 34, some 35, some 36, some 37, some 38, some 39, some 40, some 41, some 42] rfl (by kernel_rfl) (by kernel_rfl)) (fun _ a w S => ?_)
  · refine fI 30 (.pointer (some ⟨b10, 0, none⟩)) [(1, .pointer (some ⟨b10, 0, none⟩))] 0 [none] rfl rfl rfl rfl rfl rfl fun G a w S => ?_
    refine sField (b := b10) (off := 0) 0 0 S (wN rfl) rfl rfl rfl rfl rfl (lb rfl) fun a S => ?_
    exact leafL ⟨rfl, S⟩
  · refine fI 31 (.slice ad5 p0.Left.length cp6) [(30, .pointer (some ⟨b10, 0, none⟩))] 1 [some 0] rfl rfl rfl rfl rfl rfl fun G a w S => ?_
    refine sLoad1 (p := b10) (off := 0) (T := 30) (vs := [.slice ad5 p0.Left.length cp6, .slice ad7 p0.Right.length cp8]) 0 (.slice ad5 p0.Left.length cp6) S (wN rfl) rfl rfl rfl rfl rfl rfl (lb rfl) fun a S => ?_
    exact leafL ⟨rfl, S⟩
  · refine fI 32 (iv s22) [(3, iv s22)] 2 [none] rfl rfl rfl rfl rfl rfl fun G a w S => ?_
    refine sMove (iv s22) S (wN rfl) (.inl rfl) rfl rfl (lb rfl) fun a S => ?_
    exact leafL ⟨rfl, S⟩
  · refine fI 33 q83 [(31, .slice ad5 p0.Left.length cp6), (32, iv s22)] 3 [some 1, some 2] rfl rfl rfl rfl rfl rfl fun G a w S => ?_
    refine sIdxV (v := .slice ad5 p0.Left.length cp6) (k := .i64) (j := s22) S (wN rfl) rfl rfl rfl hq84 rfl (lb rfl) fun a S => ?_
    exact leafL ⟨rfl, S⟩
  · refine fI 34 (iv x33) [(33, q83)] 4 [some 3] rfl rfl rfl rfl rfl rfl fun G a w S => ?_
    refine sLoadV1 (vq := q83) 15 (iv x33) S (wN rfl) rfl rfl rfl rfl rfl (lb rfl) fun a S => ?_
    exact leafL ⟨rfl, S⟩
  · refine fI 35 (.bool r38) [(34, iv x33)] 5 [some 4] rfl rfl rfl rfl rfl rfl fun G a w S => ?_
    have S1 := S.mem
    refine sCallQ (X := Unit) (f := 45) (vs := [iv x33]) (val := fun _ => .bool r38) S (wN rfl) rfl callee45 rfl (S1.quiet [] rfl) (fun E1 w1 S1 => c_raddleref37_in E1 w1 x33 r38 hx39 S1) rfl (lb rfl) fun _ a w S => ?_
    exact leafL ⟨rfl, S⟩
  · refine fI 36 (.bool (!r38)) [(35, .bool r38)] 6 [some 5] rfl rfl rfl rfl rfl rfl fun G a w S => ?_
    refine sNot (b := r38) S (wN rfl) rfl rfl rfl (lb rfl) fun a S => ?_
    exact leafL ⟨rfl, S⟩
  · refine fI 37 (.bool (!r38)) [(36, .bool (!r38))] 7 [some 6] rfl rfl rfl rfl rfl rfl fun G a w S => ?_
    refine sMove (.bool (!r38)) S (wN rfl) (.inl rfl) rfl rfl (lb rfl) fun a S => ?_
    exact leafL ⟨rfl, S⟩
  · refine fI 38 (.pointer (some ⟨b10, 1, none⟩)) [(1, .pointer (some ⟨b10, 0, none⟩)), (37, .bool (!r38))] 8 [none, some 7] rfl rfl rfl rfl rfl rfl fun G a w S => ?_
    refine sField (b := b10) (off := 0) 1 1 S (wG 7 false 37 rfl rfl rfl hc40) rfl rfl rfl rfl rfl (lb rfl) fun a S => ?_
    exact leafL ⟨rfl, S⟩
  · refine fI 39 (.slice ad7 p0.Right.length cp8) [(38, .pointer (some ⟨b10, 1, none⟩)), (37, .bool (!r38))] 9 [some 8, some 7] rfl rfl rfl rfl rfl rfl fun G a w S => ?_
    refine sLoad1 (p := b10) (off := 1) (T := 30) (vs := [.slice ad5 p0.Left.length cp6, .slice ad7 p0.Right.length cp8]) 0 (.slice ad7 p0.Right.length cp8) S (wG 7 false 37 rfl rfl rfl hc40) rfl rfl rfl rfl rfl rfl (lb rfl) fun a S => ?_
    exact leafL ⟨rfl, S⟩
  · refine fI 40 (iv s22) [(3, iv s22), (37, .bool (!r38))] 10 [none, some 7] rfl rfl rfl rfl rfl rfl fun G a w S => ?_
    refine sMove (iv s22) S (wG 7 false 37 rfl rfl rfl hc40) (.inl rfl) rfl rfl (lb rfl) fun a S => ?_
    exact leafL ⟨rfl, S⟩
  · refine fI 41 q86 [(39, .slice ad7 p0.Right.length cp8), (40, iv s22), (37, .bool (!r38))] 11 [some 9, some 10, some 7] rfl rfl rfl rfl rfl rfl fun G a w S => ?_
    refine sIdxV (v := .slice ad7 p0.Right.length cp8) (k := .i64) (j := s22) S (wG 7 false 37 rfl rfl rfl hc40) rfl rfl rfl hq87 rfl (lb rfl) fun a S => ?_
    exact leafL ⟨rfl, S⟩
  · refine fI 42 (iv x44) [(41, q86), (37, .bool (!r38))] 12 [some 11, some 7] rfl rfl rfl rfl rfl rfl fun G a w S => ?_
    refine sLoadV1 (vq := q86) 12 (iv x44) S (wG 7 false 37 rfl rfl rfl hc40) rfl rfl rfl rfl rfl (lb rfl) fun a S => ?_
    exact leafL ⟨rfl, S⟩
  · refine fI 43 (.bool r49) [(42, iv x44), (37, .bool (!r38))] 13 [some 12, some 7] rfl rfl rfl rfl rfl rfl fun G a w S => ?_
    have S1 := S.mem
    refine sCallQ (X := Unit) (f := 45) (vs := [iv x44]) (val := fun _ => .bool r49) S (wG 7 false 37 rfl rfl rfl hc40) rfl callee45 rfl (S1.quiet [] rfl) (fun E1 w1 S1 => c_raddleref37_in E1 w1 x44 r49 hx50 S1) rfl (lb rfl) fun _ a w S => ?_
    exact leafL ⟨rfl, S⟩
  · refine fI 44 (.bool (!r49)) [(43, .bool r49), (37, .bool (!r38))] 14 [some 13, some 7] rfl rfl rfl rfl rfl rfl fun G a w S => ?_
    refine sNot (b := r49) S (wG 7 false 37 rfl rfl rfl hc40) rfl rfl rfl (lb rfl) fun a S => ?_
    exact leafL ⟨rfl, S⟩
  · refine fI 45 (.bool (!r49)) [(37, .bool (!r38)), (44, .bool (!r49))] 15 [some 7, some 14] rfl rfl rfl rfl rfl rfl fun G a w S => ?_
    refine sPickF (.bool (!r49)) S (wN rfl) rfl rfl hc40 rfl rfl (lb rfl) fun a S => ?_
    exact leafL ⟨rfl, S⟩
  · refine fI 46 (.bool (!r49)) [(45, .bool (!r49))] 16 [some 15] rfl rfl rfl rfl rfl rfl fun G a w S => ?_
    refine sMove (.bool (!r49)) S (wN rfl) (.inl rfl) rfl rfl (lb rfl) fun a S => ?_
    exact leafL ⟨rfl, S⟩
  · refine fI 47 (.pointer (some ⟨b10, 0, none⟩)) [(1, .pointer (some ⟨b10, 0, none⟩)), (46, .bool (!r49))] 17 [none, some 16] rfl rfl rfl rfl rfl rfl fun G a w S => ?_
    refine sField (b := b10) (off := 0) 0 0 S (wG 16 false 46 rfl rfl rfl hc51) rfl rfl rfl rfl rfl (lb rfl) fun a S => ?_
    exact leafL ⟨rfl, S⟩
  · refine fI 48 (.slice ad5 p0.Left.length cp6) [(47, .pointer (some ⟨b10, 0, none⟩)), (46, .bool (!r49))] 18 [some 17, some 16] rfl rfl rfl rfl rfl rfl fun G a w S => ?_
    refine sLoad1 (p := b10) (off := 0) (T := 30) (vs := [.slice ad5 p0.Left.length cp6, .slice ad7 p0.Right.length cp8]) 0 (.slice ad5 p0.Left.length cp6) S (wG 16 false 46 rfl rfl rfl hc51) rfl rfl rfl rfl rfl rfl (lb rfl) fun a S => ?_
    exact leafL ⟨rfl, S⟩
  · refine fI 49 (iv s22) [(3, iv s22), (46, .bool (!r49))] 19 [none, some 16] rfl rfl rfl rfl rfl rfl fun G a w S => ?_
    refine sMove (iv s22) S (wG 16 false 46 rfl rfl rfl hc51) (.inl rfl) rfl rfl (lb rfl) fun a S => ?_
    exact leafL ⟨rfl, S⟩
  · refine fI 50 q89 [(48, .slice ad5 p0.Left.length cp6), (49, iv s22), (46, .bool (!r49))] 20 [some 18, some 19, some 16] rfl rfl rfl rfl rfl rfl fun G a w S => ?_
    refine sIdxV (v := .slice ad5 p0.Left.length cp6) (k := .i64) (j := s22) S (wG 16 false 46 rfl rfl rfl hc51) rfl rfl rfl hq90 rfl (lb rfl) fun a S => ?_
    exact leafL ⟨rfl, S⟩
  · refine fI 51 (iv x33) [(50, q89), (46, .bool (!r49))] 21 [some 20, some 16] rfl rfl rfl rfl rfl rfl fun G a w S => ?_
    refine sLoadV1 (vq := q89) 9 (iv x33) S (wG 16 false 46 rfl rfl rfl hc51) rfl rfl rfl rfl rfl (lb rfl) fun a S => ?_
    exact leafL ⟨rfl, S⟩
  · refine fI 52 (.pointer (some ⟨b10, 1, none⟩)) [(1, .pointer (some ⟨b10, 0, none⟩)), (46, .bool (!r49))] 22 [none, some 16] rfl rfl rfl rfl rfl rfl fun G a w S => ?_
    refine sField (b := b10) (off := 0) 1 1 S (wG 16 false 46 rfl rfl rfl hc51) rfl rfl rfl rfl rfl (lb rfl) fun a S => ?_
    exact leafL ⟨rfl, S⟩
  · refine fI 53 (.slice ad7 p0.Right.length cp8) [(52, .pointer (some ⟨b10, 1, none⟩)), (46, .bool (!r49))] 23 [some 22, some 16] rfl rfl rfl rfl rfl rfl fun G a w S => ?_
    refine sLoad1 (p := b10) (off := 1) (T := 30) (vs := [.slice ad5 p0.Left.length cp6, .slice ad7 p0.Right.length cp8]) 0 (.slice ad7 p0.Right.length cp8) S (wG 16 false 46 rfl rfl rfl hc51) rfl rfl rfl rfl rfl rfl (lb rfl) fun a S => ?_
    exact leafL ⟨rfl, S⟩
  · refine fI 54 (iv s22) [(3, iv s22), (46, .bool (!r49))] 24 [none, some 16] rfl rfl rfl rfl rfl rfl fun G a w S => ?_
    refine sMove (iv s22) S (wG 16 false 46 rfl rfl rfl hc51) (.inl rfl) rfl rfl (lb rfl) fun a S => ?_
    exact leafL ⟨rfl, S⟩
  · refine fI 55 q92 [(53, .slice ad7 p0.Right.length cp8), (54, iv s22), (46, .bool (!r49))] 25 [some 23, some 24, some 16] rfl rfl rfl rfl rfl rfl fun G a w S => ?_
    refine sIdxV (v := .slice ad7 p0.Right.length cp8) (k := .i64) (j := s22) S (wG 16 false 46 rfl rfl rfl hc51) rfl rfl rfl hq93 rfl (lb rfl) fun a S => ?_
    exact leafL ⟨rfl, S⟩
  · refine fI 56 (iv x44) [(55, q92), (46, .bool (!r49))] 26 [some 25, some 16] rfl rfl rfl rfl rfl rfl fun G a w S => ?_
    refine sLoadV1 (vq := q92) 6 (iv x44) S (wG 16 false 46 rfl rfl rfl hc51) rfl rfl rfl rfl rfl (lb rfl) fun a S => ?_
    exact leafL ⟨rfl, S⟩
  · refine fI 57 (.bool (decide (x44 ≤ x33))) [(51, iv x33), (56, iv x44), (46, .bool (!r49))] 27 [some 21, some 26, some 16] rfl rfl rfl rfl rfl rfl fun G a w S => ?_
    refine sBin (.bool (decide (x44 ≤ x33))) S (wG 16 false 46 rfl rfl rfl hc51) rfl rfl rfl (bGe _ _ _ _ .i64 x33 x44) rfl (lb rfl) fun a S => ?_
    exact leafL ⟨rfl, S⟩
  · refine fI 58 (.bool (decide (x44 ≤ x33))) [(46, .bool (!r49)), (57, .bool (decide (x44 ≤ x33)))] 28 [some 16, some 27] rfl rfl rfl rfl rfl rfl fun G a w S => ?_
    refine sPickF (.bool (decide (x44 ≤ x33))) S (wN rfl) rfl rfl hc51 rfl rfl (lb rfl) fun a S => ?_
    exact leafL ⟨rfl, S⟩
  · refine fI 59 (.bool (decide (x44 ≤ x33))) [(58, .bool (decide (x44 ≤ x33)))] 29 [some 28] rfl rfl rfl rfl rfl rfl fun G a w S => ?_
    refine sMove (.bool (decide (x44 ≤ x33))) S (wN rfl) (.inl rfl) rfl rfl (lb rfl) fun a S => ?_
    exact leafL ⟨rfl, S⟩
  · refine fI 60 (.pointer (some ⟨b10, 1, none⟩)) [(1, .pointer (some ⟨b10, 0, none⟩)), (59, .bool (decide (x44 ≤ x33)))] 30 [none, some 29] rfl rfl rfl rfl rfl rfl fun G a w S => ?_
    refine sField (b := b10) (off := 0) 1 1 S (wG 29 false 59 rfl rfl rfl hc64) rfl rfl rfl rfl rfl (lb rfl) fun a S => ?_
    exact leafL ⟨rfl, S⟩
  · refine fI 61 (.slice ad7 p0.Right.length cp8) [(60, .pointer (some ⟨b10, 1, none⟩)), (59, .bool (decide (x44 ≤ x33)))] 31 [some 30, some 29] rfl rfl rfl rfl rfl rfl fun G a w S => ?_
    refine sLoad1 (p := b10) (off := 1) (T := 30) (vs := [.slice ad5 p0.Left.length cp6, .slice ad7 p0.Right.length cp8]) 0 (.slice ad7 p0.Right.length cp8) S (wG 29 false 59 rfl rfl rfl hc64) rfl rfl rfl rfl rfl rfl (lb rfl) fun a S => ?_
    exact leafL ⟨rfl, S⟩
  · refine fI 62 (iv s22) [(3, iv s22), (59, .bool (decide (x44 ≤ x33)))] 32 [none, some 29] rfl rfl rfl rfl rfl rfl fun G a w S => ?_
    refine sMove (iv s22) S (wG 29 false 59 rfl rfl rfl hc64) (.inl rfl) rfl rfl (lb rfl) fun a S => ?_
    exact leafL ⟨rfl, S⟩
  · refine fI 63 q95 [(61, .slice ad7 p0.Right.length cp8), (62, iv s22), (59, .bool (decide (x44 ≤ x33)))] 33 [some 31, some 32, some 29] rfl rfl rfl rfl rfl rfl fun G a w S => ?_
    refine sIdxV (v := .slice ad7 p0.Right.length cp8) (k := .i64) (j := s22) S (wG 29 false 59 rfl rfl rfl hc64) rfl rfl rfl hq96 rfl (lb rfl) fun a S => ?_
    exact leafL ⟨rfl, S⟩
  · refine fI 64 (iv x44) [(63, q95), (59, .bool (decide (x44 ≤ x33)))] 34 [some 33, some 29] rfl rfl rfl rfl rfl rfl fun G a w S => ?_
    refine sLoadV1 (vq := q95) 3 (iv x44) S (wG 29 false 59 rfl rfl rfl hc64) rfl rfl rfl rfl rfl (lb rfl) fun a S => ?_
    exact leafL ⟨rfl, S⟩
  · refine fI 65 (.pointer (some ⟨b10, 0, none⟩)) [(1, .pointer (some ⟨b10, 0, none⟩)), (59, .bool (decide (x44 ≤ x33)))] 35 [none, some 29] rfl rfl rfl rfl rfl rfl fun G a w S => ?_
    refine sField (b := b10) (off := 0) 0 0 S (wG 29 false 59 rfl rfl rfl hc64) rfl rfl rfl rfl rfl (lb rfl) fun a S => ?_
    exact leafL ⟨rfl, S⟩
  · refine fI 66 (.slice ad5 p0.Left.length cp6) [(65, .pointer (some ⟨b10, 0, none⟩)), (59, .bool (decide (x44 ≤ x33)))] 36 [some 35, some 29] rfl rfl rfl rfl rfl rfl fun G a w S => ?_
    refine sLoad1 (p := b10) (off := 0) (T := 30) (vs := [.slice ad5 p0.Left.length cp6, .slice ad7 p0.Right.length cp8]) 0 (.slice ad5 p0.Left.length cp6) S (wG 29 false 59 rfl rfl rfl hc64) rfl rfl rfl rfl rfl rfl (lb rfl) fun a S => ?_
    exact leafL ⟨rfl, S⟩
  · refine fI 67 (iv s22) [(3, iv s22), (59, .bool (decide (x44 ≤ x33)))] 37 [none, some 29] rfl rfl rfl rfl rfl rfl fun G a w S => ?_
    refine sMove (iv s22) S (wG 29 false 59 rfl rfl rfl hc64) (.inl rfl) rfl rfl (lb rfl) fun a S => ?_
    exact leafL ⟨rfl, S⟩
  · refine fI 68 q98 [(66, .slice ad5 p0.Left.length cp6), (67, iv s22), (59, .bool (decide (x44 ≤ x33)))] 38 [some 36, some 37, some 29] rfl rfl rfl rfl rfl rfl fun G a w S => ?_
    refine sIdxV (v := .slice ad5 p0.Left.length cp6) (k := .i64) (j := s22) S (wG 29 false 59 rfl rfl rfl hc64) rfl rfl rfl hq99 rfl (lb rfl) fun a S => ?_
    exact leafL ⟨rfl, S⟩
  · refine fI 69 (iv x33) [(68, q98), (59, .bool (decide (x44 ≤ x33)))] 39 [some 38, some 29] rfl rfl rfl rfl rfl rfl fun G a w S => ?_
    refine sLoadV1 (vq := q98) 0 (iv x33) S (wG 29 false 59 rfl rfl rfl hc64) rfl rfl rfl rfl rfl (lb rfl) fun a S => ?_
    exact leafL ⟨rfl, S⟩
  · refine fI 70 (iv (w64 (x44 - x33))) [(64, iv x44), (69, iv x33), (59, .bool (decide (x44 ≤ x33)))] 40 [some 34, some 39, some 29] rfl rfl rfl rfl rfl rfl fun G a w S => ?_
    refine sBin (iv (w64 (x44 - x33))) S (wG 29 false 59 rfl rfl rfl hc64) rfl rfl rfl (bSub _ _ _ _ x44 x33) rfl (lb rfl) fun a S => ?_
    exact leafL ⟨rfl, S⟩
  · refine fI 71 (.bool (decide (200 < (w64 (x44 - x33))))) [(70, iv (w64 (x44 - x33))), (59, .bool (decide (x44 ≤ x33)))] 41 [some 40, some 29] rfl rfl rfl rfl rfl rfl fun G a w S => ?_
    refine sBin (.bool (decide (200 < (w64 (x44 - x33))))) S (wG 29 false 59 rfl rfl rfl hc64) rfl rfl rfl (bGt _ _ _ _ .i64 (w64 (x44 - x33)) 200) rfl (lb rfl) fun a S => ?_
    exact leafL ⟨rfl, S⟩
  · refine fI 72 (.bool (decide (200 < (w64 (x44 - x33))))) [(59, .bool (decide (x44 ≤ x33))), (71, .bool (decide (200 < (w64 (x44 - x33)))))] 42 [some 29, some 41] rfl rfl rfl rfl rfl rfl fun G a w S => ?_
    refine sPickF (.bool (decide (200 < (w64 (x44 - x33))))) S (wN rfl) rfl rfl hc64 rfl rfl (lb rfl) fun a S => ?_
    exact leafL ⟨rfl, S⟩
  exact leafT (⟨decide (200 < (w64 (x44 - x33))), Option.some.inj h, S.fix [0] [18, 19] (by decide) rfl rfl rfl⟩)

end Go.Proofs.YtmedbnjhgkcndaaDoor
namespace Go.Proofs.YtmedbnjhgkcndaaDoor
open Go.RowKit
set_option linter.unusedVariables false

def anc_raddleref37_Great_0 : List (List Nat) := [[], [0], [], [0, 1, 2], [0, 1, 2, 3], [], [5], [], [5, 6, 7], [5, 6, 7, 8], [0, 1, 2, 3, 4, 5, 6, 7, 8, 9], [0, 1, 2, 3, 4, 5, 6, 7, 8, 9, 10], [0, 1, 2, 3, 4, 5, 6, 7, 8, 9, 10, 11], [0, 1, 2, 3, 4, 5, 6, 7, 8, 9, 10, 11, 12], [0, 1, 2, 3, 4, 5, 6, 7, 8, 9, 10, 11, 12, 13], [0, 1, 2, 3, 4, 5, 6, 7, 8, 9, 10, 11, 12], [0, 1, 2, 3, 4, 5, 6, 7, 8, 9, 10, 11, 12, 13, 14, 15], [0, 1, 2, 3, 4, 5, 6, 7, 8, 9, 10, 11, 12, 13, 14, 15, 16], [0, 1, 2, 3, 4, 5, 6, 7, 8, 9, 10, 11, 12], [0, 1, 2, 3, 4, 5, 6, 7, 8, 9, 10, 11, 12, 18], [0, 1, 2, 3, 4, 5, 6, 7, 8, 9, 10, 11, 12], [0, 1, 2, 3, 4, 5, 6, 7, 8, 9, 10, 11, 12, 18, 19, 20], [0, 1, 2, 3, 4, 5, 6, 7, 8, 9, 10, 11, 12, 18, 19, 20, 21], [0, 1, 2, 3, 4, 5, 6, 7, 8, 9, 10, 11, 12, 13, 14, 15, 16, 17, 18, 19, 20, 21, 22], [0, 1, 2, 3, 4, 5, 6, 7, 8, 9, 10, 11, 12, 13, 14, 15, 16, 17, 18, 19, 20, 21, 22, 23], [0, 1, 2, 3, 4, 5, 6, 7, 8, 9, 10, 11, 12, 13, 14, 15, 16, 17, 18, 19, 20, 21, 22, 23, 24]]
noncomputable def raddleref37_Great_l1 (p0 : api_Piece) : Int → Option (Int ⊕ (Bool ⊕ Unit)) := fun s0 => match s0 with
  | s14 =>
    Option.bind (α := Bool) (
      if decide (s14 < (p0.Left.length : Int)) then
        some (decide (s14 < (p0.Right.length : Int)))
      else
        some false) fun o19 =>
    if o19 then
      Option.bind (α := Bool) (
        Option.bind (idxO p0.Right s14) fun x28 =>
        Option.bind (idxO p0.Left s14) fun x33 =>
        if decide (40 < (w64 (x28 - x33))) then
          some (decide ((w64 (x28 - x33)) ≤ 200))
        else
          some false) fun o25 =>
      if o25 then
        some (.inr (.inl true))
      else
        some (.inl (w64 (s14 + 1)))
    else
      some (.inr (.inr ()))
noncomputable def F_raddleref37_Great (p0 : api_Piece) : Option Bool :=
  Option.bind (α := Unit ⊕ Bool) (
    Option.bind (whileO (raddleref37_Great_l1 p0) 0) fun z0 => match z0 with
      | .inl z =>
        some (.inr z)
      | .inr _ =>
        some (.inl ())) fun z0 => match z0 with
    | .inl _ =>
      Option.bind (α := Bool) (
        if decide (20 < (p0.Left.length : Int)) then
          if decide ((p0.Left.length : Int) ≤ 100) then
            some true
          else
            if decide (110 < (p0.Left.length : Int)) then
              some true
            else
              some (decide (110 < (p0.Right.length : Int)))
        else
          if decide (110 < (p0.Left.length : Int)) then
            some true
          else
            some (decide (110 < (p0.Right.length : Int)))) fun o65 =>
      some o65
    | .inr z =>
      some z
set_option maxHeartbeats 4000000 in
set_option maxRecDepth 100000 in
theorem c_raddleref37_Great (E : Nat → Prop) (w0 : World) (p0 : api_Piece) (v0 : Value) (r : Bool) (h : F_raddleref37_Great p0 = some r) (S : St0 E [] w0 w0 [] [fRep r_api_Piece (v0) p0]) :
    Calls Tryd.prog 15 #[v0] w0 (Ret (X := Unit) E [] w0 (fun _ => .bool r) (fun _ => []) (fun _ => [])) := by
  unfold F_raddleref37_Great at h
  obtain ⟨u1, u2, rfl, hu3, hu4⟩ := S.know (i := 0) (e := fRep r_api_Piece (v0) p0) rfl
  have S := S.learn (fRep (rL (rI .i64)) u1 p0.Left) hu3
  obtain ⟨ad5, cp6, _, rfl, _⟩ := hu3
  have S := S.learn (fRep (rL (rI .i64)) u2 p0.Right) hu4
  obtain ⟨ad7, cp8, _, rfl, _⟩ := hu4
  refine sEnter (args := [.agg #[.slice ad5 p0.Left.length cp6, .slice ad7 p0.Right.length cp8]]) 66 Tryd.func15 rfl rfl (by simp) S (fun a S => ?_)
  refine sSeq (fun K9 hK9 => ?_)
  refine sRegion ?_
  refine sBox (v := .agg #[.slice ad5 p0.Left.length cp6, .slice ad7 p0.Right.length cp8]) S (wN rfl) rfl rfl [.slice ad5 p0.Left.length cp6, .slice ad7 p0.Right.length cp8] rfl rfl (lb rfl) fun a b10 w S => ?_
  refine sMove (.bool false) S (wN rfl) (.inr rfl) rfl rfl (lb rfl) fun a S => ?_
  refine leafL (leafT (hK9 _ _ ?_))
  obtain ⟨t11, h, g12⟩ := bindSome h
  refine sCut (fun a w => .inl () = t11 ∧ St [] E [] w0 66 a w [(1, .pointer (some ⟨b10, 0, none⟩))] [eBox b10 30 [.slice ad5 p0.Left.length cp6, .slice ad7 p0.Right.length cp8]] [fRep (rL (rI .i64)) (.slice ad5 p0.Left.length cp6) p0.Left, fRep (rL (rI .i64)) (.slice ad7 p0.Right.length cp8) p0.Right]) ?_ (fun a w hI => ?_)
  rotate_left
  · obtain ⟨rfl, S⟩ := hI
    have h := g12
    clear g12
    try dsimp only at h
    obtain ⟨t66, h, g67⟩ := bindSome h
    refine sCut (fun a w => ∃ o65, o65 = t66 ∧ St [] E [] w0 66 a w [(2, .bool o65)] [] []) ?_ (fun a w hI => ?_)
    rotate_left
    · obtain ⟨o65, rfl, S⟩ := hI
      have h := g67
      clear g67
      try dsimp only at h
      obtain rfl := Option.some.inj h
      exact wp_ret (sRet (.bool o65) S (rsl1 rfl (rvT (t := 2) (v := .bool o65) S rfl)) ⟨(), rfl, S.mem.sel [] [] (by decide) rfl rfl⟩)
    refine sRegion ?_
    refine sField (b := b10) (off := 0) 0 0 S (wN rfl) rfl rfl rfl rfl rfl (lb rfl) fun a S => ?_
    refine sLoad1 (p := b10) (off := 0) (T := 30) (vs := [.slice ad5 p0.Left.length cp6, .slice ad7 p0.Right.length cp8]) 0 (.slice ad5 p0.Left.length cp6) S (wN rfl) rfl rfl rfl rfl rfl rfl (lb rfl) fun a S => ?_
    refine sLen (ad := ad5) (m := p0.Left.length) (c := cp6) S (wN rfl) rfl Tryd.underlying28 rfl rfl (lb rfl) fun a S => ?_
    refine sBin (.bool (decide (20 < (p0.Left.length : Int)))) S (wN rfl) rfl rfl rfl (bGt _ _ _ _ .i64 (p0.Left.length : Int) 20) rfl (lb rfl) fun a S => ?_
    refine sMove (.bool (decide (20 < (p0.Left.length : Int)))) S (wN rfl) (.inl rfl) rfl rfl (lb rfl) fun a S => ?_
    rcases iteSome h with ⟨hc68, h⟩ | ⟨hc68, h⟩
    rotate_left
    · refine sSkip 4 true 48 49 S rfl rfl rfl hc68 rfl (lb rfl) fun a S => ?_
      refine sSkip 4 true 48 50 S rfl rfl rfl hc68 rfl (lb rfl) fun a S => ?_
      refine sSkip 4 true 48 51 S rfl rfl rfl hc68 rfl (lb rfl) fun a S => ?_
      refine sSkip 4 true 48 52 S rfl rfl rfl hc68 rfl (lb rfl) fun a S => ?_
      refine sPickF (.bool false) S (wN rfl) rfl rfl hc68 rfl rfl (lb rfl) fun a S => ?_
      refine sMove (.bool false) S (wN rfl) (.inl rfl) rfl rfl (lb rfl) fun a S => ?_
      refine sField (b := b10) (off := 0) 0 0 S (wG 10 false 54 rfl rfl rfl rfl) rfl rfl rfl rfl rfl (lb rfl) fun a S => ?_
      refine sLoad1 (p := b10) (off := 0) (T := 30) (vs := [.slice ad5 p0.Left.length cp6, .slice ad7 p0.Right.length cp8]) 0 (.slice ad5 p0.Left.length cp6) S (wG 10 false 54 rfl rfl rfl rfl) rfl rfl rfl rfl rfl rfl (lb rfl) fun a S => ?_
      refine sLen (ad := ad5) (m := p0.Left.length) (c := cp6) S (wG 10 false 54 rfl rfl rfl rfl) rfl Tryd.underlying28 rfl rfl (lb rfl) fun a S => ?_
      refine sBin (.bool (decide (110 < (p0.Left.length : Int)))) S (wG 10 false 54 rfl rfl rfl rfl) rfl rfl rfl (bGt _ _ _ _ .i64 (p0.Left.length : Int) 110) rfl (lb rfl) fun a S => ?_
      refine sPickF (.bool (decide (110 < (p0.Left.length : Int)))) S (wN rfl) rfl rfl rfl rfl rfl (lb rfl) fun a S => ?_
      refine sMove (.bool (decide (110 < (p0.Left.length : Int)))) S (wN rfl) (.inl rfl) rfl rfl (lb rfl) fun a S => ?_
      rcases iteSome h with ⟨hc71, h⟩ | ⟨hc71, h⟩
      · refine sSkip 16 false 60 61 S rfl rfl rfl hc71 rfl (lb rfl) fun a S => ?_
        refine sSkip 16 false 60 62 S rfl rfl rfl hc71 rfl (lb rfl) fun a S => ?_
        refine sSkip 16 false 60 63 S rfl rfl rfl hc71 rfl (lb rfl) fun a S => ?_
        refine sSkip 16 false 60 64 S rfl rfl rfl hc71 rfl (lb rfl) fun a S => ?_
        refine sPickT (.bool true) S (wN rfl) rfl rfl hc71 rfl rfl (lb rfl) fun a S => ?_
        refine sMove (.bool true) S (wN rfl) (.inr rfl) rfl rfl (lb rfl) fun a S => ?_
        exact leafL (leafT (⟨true, Option.some.inj h, S.fix [] [] (by decide) rfl rfl rfl⟩))
      refine sField (b := b10) (off := 0) 1 1 S (wG 16 false 60 rfl rfl rfl hc71) rfl rfl rfl rfl rfl (lb rfl) fun a S => ?_
      refine sLoad1 (p := b10) (off := 1) (T := 30) (vs := [.slice ad5 p0.Left.length cp6, .slice ad7 p0.Right.length cp8]) 0 (.slice ad7 p0.Right.length cp8) S (wG 16 false 60 rfl rfl rfl hc71) rfl rfl rfl rfl rfl rfl (lb rfl) fun a S => ?_
      refine sLen (ad := ad7) (m := p0.Right.length) (c := cp8) S (wG 16 false 60 rfl rfl rfl hc71) rfl Tryd.underlying28 rfl rfl (lb rfl) fun a S => ?_
      refine sBin (.bool (decide (110 < (p0.Right.length : Int)))) S (wG 16 false 60 rfl rfl rfl hc71) rfl rfl rfl (bGt _ _ _ _ .i64 (p0.Right.length : Int) 110) rfl (lb rfl) fun a S => ?_
      refine sPickF (.bool (decide (110 < (p0.Right.length : Int)))) S (wN rfl) rfl rfl hc71 rfl rfl (lb rfl) fun a S => ?_
      refine sMove (.bool (decide (110 < (p0.Right.length : Int)))) S (wN rfl) (.inr rfl) rfl rfl (lb rfl) fun a S => ?_
      exact leafL (leafT (⟨decide (110 < (p0.Right.length : Int)), Option.some.inj h, S.fix [] [] (by decide) rfl rfl rfl⟩))
    refine sField (b := b10) (off := 0) 0 0 S (wG 4 true 48 rfl rfl rfl hc68) rfl rfl rfl rfl rfl (lb rfl) fun a S => ?_
    refine sLoad1 (p := b10) (off := 0) (T := 30) (vs := [.slice ad5 p0.Left.length cp6, .slice ad7 p0.Right.length cp8]) 0 (.slice ad5 p0.Left.length cp6) S (wG 4 true 48 rfl rfl rfl hc68) rfl rfl rfl rfl rfl rfl (lb rfl) fun a S => ?_
    refine sLen (ad := ad5) (m := p0.Left.length) (c := cp6) S (wG 4 true 48 rfl rfl rfl hc68) rfl Tryd.underlying28 rfl rfl (lb rfl) fun a S => ?_
    refine sBin (.bool (decide ((p0.Left.length : Int) ≤ 100))) S (wG 4 true 48 rfl rfl rfl hc68) rfl rfl rfl (bLe _ _ _ _ .i64 (p0.Left.length : Int) 100) rfl (lb rfl) fun a S => ?_
    refine sPickT (.bool (decide ((p0.Left.length : Int) ≤ 100))) S (wN rfl) rfl rfl hc68 rfl rfl (lb rfl) fun a S => ?_
    refine sMove (.bool (decide ((p0.Left.length : Int) ≤ 100))) S (wN rfl) (.inl rfl) rfl rfl (lb rfl) fun a S => ?_
    rcases iteSome h with ⟨hc69, h⟩ | ⟨hc69, h⟩
    · refine sSkip 10 false 54 55 S rfl rfl rfl hc69 rfl (lb rfl) fun a S => ?_
      refine sSkip 10 false 54 56 S rfl rfl rfl hc69 rfl (lb rfl) fun a S => ?_
      refine sSkip 10 false 54 57 S rfl rfl rfl hc69 rfl (lb rfl) fun a S => ?_
      refine sSkip 10 false 54 58 S rfl rfl rfl hc69 rfl (lb rfl) fun a S => ?_
      refine sPickT (.bool true) S (wN rfl) rfl rfl hc69 rfl rfl (lb rfl) fun a S => ?_
      refine sMove (.bool true) S (wN rfl) (.inl rfl) rfl rfl (lb rfl) fun a S => ?_
      refine sSkip 16 false 60 61 S rfl rfl rfl rfl rfl (lb rfl) fun a S => ?_
      refine sSkip 16 false 60 62 S rfl rfl rfl rfl rfl (lb rfl) fun a S => ?_
      refine sSkip 16 false 60 63 S rfl rfl rfl rfl rfl (lb rfl) fun a S => ?_
      refine sSkip 16 false 60 64 S rfl rfl rfl rfl rfl (lb rfl) fun a S => ?_
      refine sPickT (.bool true) S (wN rfl) rfl rfl rfl rfl rfl (lb rfl) fun a S => ?_
      refine sMove (.bool true) S (wN rfl) (.inr rfl) rfl rfl (lb rfl) fun a S => ?_
      exact leafL (leafT (⟨true, Option.some.inj h, S.fix [] [] (by decide) rfl rfl rfl⟩))
    refine sField (b := b10) (off := 0) 0 0 S (wG 10 false 54 rfl rfl rfl hc69) rfl rfl rfl rfl rfl (lb rfl) fun a S => ?_
    refine sLoad1 (p := b10) (off := 0) (T := 30) (vs := [.slice ad5 p0.Left.length cp6, .slice ad7 p0.Right.length cp8]) 0 (.slice ad5 p0.Left.length cp6) S (wG 10 false 54 rfl rfl rfl hc69) rfl rfl rfl rfl rfl rfl (lb rfl) fun a S => ?_
    refine sLen (ad := ad5) (m := p0.Left.length) (c := cp6) S (wG 10 false 54 rfl rfl rfl hc69) rfl Tryd.underlying28 rfl rfl (lb rfl) fun a S => ?_
    refine sBin (.bool (decide (110 < (p0.Left.length : Int)))) S (wG 10 false 54 rfl rfl rfl hc69) rfl rfl rfl (bGt _ _ _ _ .i64 (p0.Left.length : Int) 110) rfl (lb rfl) fun a S => ?_
    refine sPickF (.bool (decide (110 < (p0.Left.length : Int)))) S (wN rfl) rfl rfl hc69 rfl rfl (lb rfl) fun a S => ?_
    refine sMove (.bool (decide (110 < (p0.Left.length : Int)))) S (wN rfl) (.inl rfl) rfl rfl (lb rfl) fun a S => ?_
    rcases iteSome h with ⟨hc70, h⟩ | ⟨hc70, h⟩
    · refine sSkip 16 false 60 61 S rfl rfl rfl hc70 rfl (lb rfl) fun a S => ?_
      refine sSkip 16 false 60 62 S rfl rfl rfl hc70 rfl (lb rfl) fun a S => ?_
      refine sSkip 16 false 60 63 S rfl rfl rfl hc70 rfl (lb rfl) fun a S => ?_
      refine sSkip 16 false 60 64 S rfl rfl rfl hc70 rfl (lb rfl) fun a S => ?_
      refine sPickT (.bool true) S (wN rfl) rfl rfl hc70 rfl rfl (lb rfl) fun a S => ?_
      refine sMove (.bool true) S (wN rfl) (.inr rfl) rfl rfl (lb rfl) fun a S => ?_
      exact leafL (leafT (⟨true, Option.some.inj h, S.fix [] [] (by decide) rfl rfl rfl⟩))
    refine sField (b := b10) (off := 0) 1 1 S (wG 16 false 60 rfl rfl rfl hc70) rfl rfl rfl rfl rfl (lb rfl) fun a S => ?_
    refine sLoad1 (p := b10) (off := 1) (T := 30) (vs := [.slice ad5 p0.Left.length cp6, .slice ad7 p0.Right.length cp8]) 0 (.slice ad7 p0.Right.length cp8) S (wG 16 false 60 rfl rfl rfl hc70) rfl rfl rfl rfl rfl rfl (lb rfl) fun a S => ?_
    refine sLen (ad := ad7) (m := p0.Right.length) (c := cp8) S (wG 16 false 60 rfl rfl rfl hc70) rfl Tryd.underlying28 rfl rfl (lb rfl) fun a S => ?_
    refine sBin (.bool (decide (110 < (p0.Right.length : Int)))) S (wG 16 false 60 rfl rfl rfl hc70) rfl rfl rfl (bGt _ _ _ _ .i64 (p0.Right.length : Int) 110) rfl (lb rfl) fun a S => ?_
    refine sPickF (.bool (decide (110 < (p0.Right.length : Int)))) S (wN rfl) rfl rfl hc70 rfl rfl (lb rfl) fun a S => ?_
    refine sMove (.bool (decide (110 < (p0.Right.length : Int)))) S (wN rfl) (.inr rfl) rfl rfl (lb rfl) fun a S => ?_
    exact leafL (leafT (⟨decide (110 < (p0.Right.length : Int)), Option.some.inj h, S.fix [] [] (by decide) rfl rfl rfl⟩))
  refine sSeq (fun K13 hK13 => ?_)
  refine sRegion ?_
  refine sMove (iv 0) S (wN rfl) (.inr rfl) rfl rfl (lb rfl) fun a S => ?_
  refine leafL (leafT (hK13 _ _ ?_))
  refine wp_block ?_
  obtain ⟨t17, hl, g16⟩ := bindSome h
  refine sLoop hl (fun s0 a w => match s0 with | s14 => St [] E [] w0 66 a w [(1, .pointer (some ⟨b10, 0, none⟩)), (3, iv s14)] [eBox b10 30 [.slice ad5 p0.Left.length cp6, .slice ad7 p0.Right.length cp8]] [fRep (rL (rI .i64)) (.slice ad5 p0.Left.length cp6) p0.Left, fRep (rL (rI .i64)) (.slice ad7 p0.Right.length cp8) p0.Right]) (S.fix [0] [1, 0] (by decide) rfl rfl rfl) ?_
  clear hl h
  intro s14 a w c0 hI h hu15
  unfold raddleref37_Great_l1 at h
  dsimp only at h hI
  have S := hI
  refine sSeq (fun K18 hK18 => ?_)
  obtain ⟨t20, h, g21⟩ := bindSome h
  refine sCut (fun a w => ∃ o19, o19 = t20 ∧ St [] E [] w0 66 a w [(1, .pointer (some ⟨b10, 0, none⟩)), (3, iv s14), (15, .bool o19)] [eBox b10 30 [.slice ad5 p0.Left.length cp6, .slice ad7 p0.Right.length cp8]] [fRep (rL (rI .i64)) (.slice ad5 p0.Left.length cp6) p0.Left, fRep (rL (rI .i64)) (.slice ad7 p0.Right.length cp8) p0.Right]) ?_ (fun a w hI => ?_)
  · refine sRegion ?_
    refine sMove (iv s14) S (wN rfl) (.inl rfl) rfl rfl (lb rfl) fun a S => ?_
    refine sField (b := b10) (off := 0) 0 0 S (wN rfl) rfl rfl rfl rfl rfl (lb rfl) fun a S => ?_
    refine sLoad1 (p := b10) (off := 0) (T := 30) (vs := [.slice ad5 p0.Left.length cp6, .slice ad7 p0.Right.length cp8]) 0 (.slice ad5 p0.Left.length cp6) S (wN rfl) rfl rfl rfl rfl rfl rfl (lb rfl) fun a S => ?_
    refine sLen (ad := ad5) (m := p0.Left.length) (c := cp6) S (wN rfl) rfl Tryd.underlying28 rfl rfl (lb rfl) fun a S => ?_
    refine sBin (.bool (decide (s14 < (p0.Left.length : Int)))) S (wN rfl) rfl rfl rfl (bLt _ _ _ _ .i64 s14 (p0.Left.length : Int)) rfl (lb rfl) fun a S => ?_
    refine sMove (.bool (decide (s14 < (p0.Left.length : Int)))) S (wN rfl) (.inl rfl) rfl rfl (lb rfl) fun a S => ?_
    rcases iteSome h with ⟨hc22, h⟩ | ⟨hc22, h⟩
    rotate_left
    · refine sSkip 5 true 9 10 S rfl rfl rfl hc22 rfl (lb rfl) fun a S => ?_
      refine sSkip 5 true 9 11 S rfl rfl rfl hc22 rfl (lb rfl) fun a S => ?_
      refine sSkip 5 true 9 12 S rfl rfl rfl hc22 rfl (lb rfl) fun a S => ?_
      refine sSkip 5 true 9 13 S rfl rfl rfl hc22 rfl (lb rfl) fun a S => ?_
      refine sSkip 5 true 9 14 S rfl rfl rfl hc22 rfl (lb rfl) fun a S => ?_
      refine sPickF (.bool false) S (wN rfl) rfl rfl hc22 rfl rfl (lb rfl) fun a S => ?_
      exact leafL (leafT (⟨false, Option.some.inj h, S.fix [0] [0, 1] (by decide) rfl rfl rfl⟩))
    refine sMove (iv s14) S (wG 5 true 9 rfl rfl rfl hc22) (.inl rfl) rfl rfl (lb rfl) fun a S => ?_
    refine sField (b := b10) (off := 0) 1 1 S (wG 5 true 9 rfl rfl rfl hc22) rfl rfl rfl rfl rfl (lb rfl) fun a S => ?_
    refine sLoad1 (p := b10) (off := 1) (T := 30) (vs := [.slice ad5 p0.Left.length cp6, .slice ad7 p0.Right.length cp8]) 0 (.slice ad7 p0.Right.length cp8) S (wG 5 true 9 rfl rfl rfl hc22) rfl rfl rfl rfl rfl rfl (lb rfl) fun a S => ?_
    refine sLen (ad := ad7) (m := p0.Right.length) (c := cp8) S (wG 5 true 9 rfl rfl rfl hc22) rfl Tryd.underlying28 rfl rfl (lb rfl) fun a S => ?_
    refine sBin (.bool (decide (s14 < (p0.Right.length : Int)))) S (wG 5 true 9 rfl rfl rfl hc22) rfl rfl rfl (bLt _ _ _ _ .i64 s14 (p0.Right.length : Int)) rfl (lb rfl) fun a S => ?_
    refine sPickT (.bool (decide (s14 < (p0.Right.length : Int)))) S (wN rfl) rfl rfl hc22 rfl rfl (lb rfl) fun a S => ?_
    exact leafL (leafT (⟨decide (s14 < (p0.Right.length : Int)), Option.some.inj h, S.fix [0] [0, 1] (by decide) rfl rfl rfl⟩))
  obtain ⟨o19, rfl, S⟩ := hI
  have h := g21
  clear g21
  try dsimp only at h
  rcases iteSome h with ⟨hc23, h⟩ | ⟨hc23, h⟩
  rotate_left
  · refine sCondF S rfl hc23 ?_
    obtain rfl := Option.some.inj h
    obtain rfl := hu15 _ rfl
    have h := g16
    clear g16
    try dsimp only at h
    exact wp_exit (xThen (xThen (xHit (leafT (⟨Option.some.inj h, S.fix [0] [0, 1] (by decide) rfl rfl rfl⟩)))))
  refine sCondT S rfl hc23 ?_
  refine wp_skip (leafT (hK18 _ _ ?_))
  refine sSeq (fun K24 hK24 => ?_)
  refine wp_block ?_
  obtain ⟨t26, h, g27⟩ := bindSome h
  refine sCut (fun a w => ∃ o25, o25 = t26 ∧ St [] E [] w0 66 a w [(1, .pointer (some ⟨b10, 0, none⟩)), (3, iv s14), (43, .bool o25)] [eBox b10 30 [.slice ad5 p0.Left.length cp6, .slice ad7 p0.Right.length cp8]] [fRep (rL (rI .i64)) (.slice ad5 p0.Left.length cp6) p0.Left, fRep (rL (rI .i64)) (.slice ad7 p0.Right.length cp8) p0.Right]) ?_ (fun a w hI => ?_)
  rotate_left
  · obtain ⟨o25, rfl, S⟩ := hI
    have h := g27
    clear g27
    try dsimp only at h
    rcases iteSome h with ⟨hc63, h⟩ | ⟨hc63, h⟩
    rotate_left
    · refine sCondF S rfl hc63 ?_
      refine wp_skip (leafB (leafT (hK24 _ _ ?_)))
      refine sRegion ?_
      refine sMove (iv s14) S (wN rfl) (.inl rfl) rfl rfl (lb rfl) fun a S => ?_
      refine sBin (iv (w64 (s14 + 1))) S (wN rfl) rfl rfl rfl (bAdd _ _ _ _ s14 1) rfl (lb rfl) fun a S => ?_
      refine sMove (iv (w64 (s14 + 1))) S (wN rfl) (.inr rfl) rfl rfl (lb rfl) fun a S => ?_
      exact leafL (leafT (⟨w64 (s14 + 1), (Option.some.inj h).symm, (S.fix [0] [0, 1] (by decide) rfl rfl rfl)⟩))
    refine sCondT S rfl hc63 ?_
    refine sSeq (fun K64 hK64 => ?_)
    refine sRegion ?_
    refine sMove (.bool true) S (wN rfl) (.inr rfl) rfl rfl (lb rfl) fun a S => ?_
    refine leafL (leafT (hK64 _ _ ?_))
    obtain rfl := Option.some.inj h
    obtain rfl := hu15 _ rfl
    have h := g16
    clear g16
    try dsimp only at h
    obtain rfl := Option.some.inj h
    have h := g12
    clear g12
    try dsimp only at h
    obtain rfl := Option.some.inj h
    exact wp_ret (rBlock (rThen (rThen (rBlock (rThen (sRet (.bool true) S (rsl1 rfl (rvT (t := 2) (v := .bool true) S rfl)) ⟨(), rfl, S.mem.sel [] [] (by decide) rfl rfl⟩))))))
  obtain ⟨x28, hx29, h⟩ := bindSome h
  obtain ⟨x33, hx34, h⟩ := bindSome h
  rcases iteSome h with ⟨hc38, h⟩ | ⟨hc38, h⟩
  rotate_left
  · obtain ⟨q57, hq58, S⟩ := pIdx (P := Tryd.prog) (r := (rI .i64)) (v := .slice ad7 p0.Right.length cp8) (xs := p0.Right) (j := s14) 28 3 1 S Tryd.underlying28 rfl rfl hx29
    obtain ⟨u59, S⟩ := pLoad (r := (rI .i64)) (q := q57) (x := x28) 0 S rfl
    obtain rfl : u59 = iv x28 := S.mem.know (i := 1) (e := fRep (rI .i64) (u59) x28) rfl
    obtain ⟨q60, hq61, S⟩ := pIdx (P := Tryd.prog) (r := (rI .i64)) (v := .slice ad5 p0.Left.length cp6) (xs := p0.Left) (j := s14) 28 3 3 S Tryd.underlying28 rfl rfl hx34
    obtain ⟨u62, S⟩ := pLoad (r := (rI .i64)) (q := q60) (x := x33) 0 S rfl
    obtain rfl : u62 = iv x33 := S.mem.know (i := 1) (e := fRep (rI .i64) (u62) x33) rfl
    refine sDraw (nf := []) (W := [(0, 18, .pointer (some ⟨b10, 1, none⟩)), (1, 19, .slice ad7 p0.Right.length cp8), (2, 20, iv s14), (3, 21, q57), (4, 22, iv x28), (5, 23, .pointer (some ⟨b10, 0, none⟩)), (6, 24, .slice ad5 p0.Left.length cp6), (7, 25, iv s14), (8, 26, q60), (9, 27, iv x33), (10, 28, iv (w64 (x28 - x33))), (11, 29, .bool (decide (40 < (w64 (x28 - x33))))), (12, 30, .bool (decide (40 < (w64 (x28 - x33))))), (13, 31, undef), (14, 32, undef), (15, 33, undef), (16, 34, undef), (17, 35, undef), (18, 36, undef), (19, 37, undef), (20, 38, undef), (21, 39, undef), (22, 40, undef), (23, 41, undef), (24, 42, undef), (25, 43, .bool false)]) rfl S ?_
    refine node_by (A := anc_raddleref37_Great_0) (nf := []) (Y := []) (W := [(0, 18, .pointer (some ⟨b10, 1, none⟩)), (1, 19, .slice ad7 p0.Right.length cp8), (2, 20, iv s14), (3, 21, q57), (4, 22, iv x28), (5, 23, .pointer (some ⟨b10, 0, none⟩)), (6, 24, .slice ad5 p0.Left.length cp6), (7, 25, iv s14), (8, 26, q60), (9, 27, iv x33), (10, 28, iv (w64 (x28 - x33))), (11, 29, .bool (decide (40 < (w64 (x28 - x33))))), (12, 30, .bool (decide (40 < (w64 (x28 - x33))))), (13, 31, undef), (14, 32, undef), (15, 33, undef), (16, 34, undef), (17, 35, undef), (18, 36, undef), (19, 37, undef), (20, 38, undef), (21, 39, undef), (22, 40, undef), (23, 41, undef), (24, 42, undef), (25, 43, .bool false)]) 26 (by kernel_rfl) (by kernel_rfl) (by kernel_rfl) (by kernel_rfl) (by kernel_rfl) [0, 1, 2, 3, 4, 5, 6, 7, 8, 9, 10, 11, 12, 13, 14, 15, 16, 17, 18, 19, 20, 21, 22, 23, 24, 25] (by kernel_rfl) (by decide) (by decide) (aF 0 25 (by decide) ?_ (aF 1 24 (by decide) ?_ (aF 2 23 (by decide) ?_ (aF 3 22 (by decide) ?_ (aF 4 21 (by decide) ?_ (aF 5 20 (by decide) ?_ (aF 6 19 (by decide) ?_ (aF 7 18 (by decide) ?_ (aF 8 17 (by decide) ?_ (aF 9 16 (by decide) ?_ (aF 10 15 (by decide) ?_ (aF 11 14 (by decide) ?_ (aF 12 13 (by decide) ?_ (aF 13 12 (by decide) ?_ (aF 14 11 (by decide) ?_ (aF 15 10 (by decide) ?_ (aF 16 9 (by decide) ?_ (aF 17 8 (by decide) ?_ (aF 18 7 (by decide) ?_ (aF 19 6 (by decide) ?_ (aF 20 5 (by decide) ?_ (aF 21 4 (by decide) ?_ (aF 22 3 (by decide) ?_ (aF 23 2 (by decide) ?_ (aF 24 1 (by decide) ?_ (aF 25 0 (by decide) ?_ (trivial))))))))))))))))))))))))))) [(1, .pointer (some ⟨b10, 0, none⟩)), (3, iv s14), (31, undef), (32, undef), (33, undef), (34, undef), (35, undef), (36, undef), (37, undef), (38, undef), (39, undef), (40, undef), (41, undef), (42, undef), (43, .bool false)] (fin_of [none, none, some 13, some 14, some 15, some 16, some 17, some 18, some 19, some 20, some 21, some 22, some 23, some 24, some 25] rfl (by kernel_rfl) (by kernel_rfl)) (fun _ a w S => ?_)
    · refine fI 18 (.pointer (some ⟨b10, 1, none⟩)) [(1, .pointer (some ⟨b10, 0, none⟩))] 0 [none] rfl rfl rfl rfl rfl rfl fun G a w S => ?_
      refine sField (b := b10) (off := 0) 1 1 S (wN rfl) rfl rfl rfl rfl rfl (lb rfl) fun a S => ?_
      exact leafL ⟨rfl, S⟩
    · refine fI 19 (.slice ad7 p0.Right.length cp8) [(18, .pointer (some ⟨b10, 1, none⟩))] 1 [some 0] rfl rfl rfl rfl rfl rfl fun G a w S => ?_
      refine sLoad1 (p := b10) (off := 1) (T := 30) (vs := [.slice ad5 p0.Left.length cp6, .slice ad7 p0.Right.length cp8]) 0 (.slice ad7 p0.Right.length cp8) S (wN rfl) rfl rfl rfl rfl rfl rfl (lb rfl) fun a S => ?_
      exact leafL ⟨rfl, S⟩
    · refine fI 20 (iv s14) [(3, iv s14)] 2 [none] rfl rfl rfl rfl rfl rfl fun G a w S => ?_
      refine sMove (iv s14) S (wN rfl) (.inl rfl) rfl rfl (lb rfl) fun a S => ?_
      exact leafL ⟨rfl, S⟩
    · refine fI 21 q57 [(19, .slice ad7 p0.Right.length cp8), (20, iv s14)] 3 [some 1, some 2] rfl rfl rfl rfl rfl rfl fun G a w S => ?_
      refine sIdxV (v := .slice ad7 p0.Right.length cp8) (k := .i64) (j := s14) S (wN rfl) rfl rfl rfl hq58 rfl (lb rfl) fun a S => ?_
      exact leafL ⟨rfl, S⟩
    · refine fI 22 (iv x28) [(21, q57)] 4 [some 3] rfl rfl rfl rfl rfl rfl fun G a w S => ?_
      refine sLoadV1 (vq := q57) 3 (iv x28) S (wN rfl) rfl rfl rfl rfl rfl (lb rfl) fun a S => ?_
      exact leafL ⟨rfl, S⟩
    · refine fI 23 (.pointer (some ⟨b10, 0, none⟩)) [(1, .pointer (some ⟨b10, 0, none⟩))] 5 [none] rfl rfl rfl rfl rfl rfl fun G a w S => ?_
      refine sField (b := b10) (off := 0) 0 0 S (wN rfl) rfl rfl rfl rfl rfl (lb rfl) fun a S => ?_
      exact leafL ⟨rfl, S⟩
    · refine fI 24 (.slice ad5 p0.Left.length cp6) [(23, .pointer (some ⟨b10, 0, none⟩))] 6 [some 5] rfl rfl rfl rfl rfl rfl fun G a w S => ?_
      refine sLoad1 (p := b10) (off := 0) (T := 30) (vs := [.slice ad5 p0.Left.length cp6, .slice ad7 p0.Right.length cp8]) 0 (.slice ad5 p0.Left.length cp6) S (wN rfl) rfl rfl rfl rfl rfl rfl (lb rfl) fun a S => ?_
      exact leafL ⟨rfl, S⟩
    · refine fI 25 (iv s14) [(3, iv s14)] 7 [none] rfl rfl rfl rfl rfl rfl fun G a w S => ?_
      refine sMove (iv s14) S (wN rfl) (.inl rfl) rfl rfl (lb rfl) fun a S => ?_
      exact leafL ⟨rfl, S⟩
    · refine fI 26 q60 [(24, .slice ad5 p0.Left.length cp6), (25, iv s14)] 8 [some 6, some 7] rfl rfl rfl rfl rfl rfl fun G a w S => ?_
      refine sIdxV (v := .slice ad5 p0.Left.length cp6) (k := .i64) (j := s14) S (wN rfl) rfl rfl rfl hq61 rfl (lb rfl) fun a S => ?_
      exact leafL ⟨rfl, S⟩
    · refine fI 27 (iv x33) [(26, q60)] 9 [some 8] rfl rfl rfl rfl rfl rfl fun G a w S => ?_
      refine sLoadV1 (vq := q60) 0 (iv x33) S (wN rfl) rfl rfl rfl rfl rfl (lb rfl) fun a S => ?_
      exact leafL ⟨rfl, S⟩
    · refine fI 28 (iv (w64 (x28 - x33))) [(22, iv x28), (27, iv x33)] 10 [some 4, some 9] rfl rfl rfl rfl rfl rfl fun G a w S => ?_
      refine sBin (iv (w64 (x28 - x33))) S (wN rfl) rfl rfl rfl (bSub _ _ _ _ x28 x33) rfl (lb rfl) fun a S => ?_
      exact leafL ⟨rfl, S⟩
    · refine fI 29 (.bool (decide (40 < (w64 (x28 - x33))))) [(28, iv (w64 (x28 - x33)))] 11 [some 10] rfl rfl rfl rfl rfl rfl fun G a w S => ?_
      refine sBin (.bool (decide (40 < (w64 (x28 - x33))))) S (wN rfl) rfl rfl rfl (bGt _ _ _ _ .i64 (w64 (x28 - x33)) 40) rfl (lb rfl) fun a S => ?_
      exact leafL ⟨rfl, S⟩
    · refine fI 30 (.bool (decide (40 < (w64 (x28 - x33))))) [(29, .bool (decide (40 < (w64 (x28 - x33)))))] 12 [some 11] rfl rfl rfl rfl rfl rfl fun G a w S => ?_
      refine sMove (.bool (decide (40 < (w64 (x28 - x33))))) S (wN rfl) (.inl rfl) rfl rfl (lb rfl) fun a S => ?_
      exact leafL ⟨rfl, S⟩
    · refine fI 31 undef [(1, .pointer (some ⟨b10, 0, none⟩)), (30, .bool (decide (40 < (w64 (x28 - x33)))))] 13 [none, some 12] rfl rfl rfl rfl rfl rfl fun G a w S => ?_
      refine sSkip 12 true 30 31 S rfl rfl rfl hc38 rfl (lb rfl) fun a S => ?_
      exact leafL ⟨rfl, S⟩
    · refine fI 32 undef [(31, undef), (30, .bool (decide (40 < (w64 (x28 - x33)))))] 14 [some 13, some 12] rfl rfl rfl rfl rfl rfl fun G a w S => ?_
      refine sSkip 12 true 30 32 S rfl rfl rfl hc38 rfl (lb rfl) fun a S => ?_
      exact leafL ⟨rfl, S⟩
    · refine fI 33 undef [(3, iv s14), (30, .bool (decide (40 < (w64 (x28 - x33)))))] 15 [none, some 12] rfl rfl rfl rfl rfl rfl fun G a w S => ?_
      refine sSkip 12 true 30 33 S rfl rfl rfl hc38 rfl (lb rfl) fun a S => ?_
      exact leafL ⟨rfl, S⟩
    · refine fI 34 undef [(32, undef), (33, undef), (30, .bool (decide (40 < (w64 (x28 - x33)))))] 16 [some 14, some 15, some 12] rfl rfl rfl rfl rfl rfl fun G a w S => ?_
      refine sSkip 12 true 30 34 S rfl rfl rfl hc38 rfl (lb rfl) fun a S => ?_
      exact leafL ⟨rfl, S⟩
    · refine fI 35 undef [(34, undef), (30, .bool (decide (40 < (w64 (x28 - x33)))))] 17 [some 16, some 12] rfl rfl rfl rfl rfl rfl fun G a w S => ?_
      refine sSkip 12 true 30 35 S rfl rfl rfl hc38 rfl (lb rfl) fun a S => ?_
      exact leafL ⟨rfl, S⟩
    · refine fI 36 undef [(1, .pointer (some ⟨b10, 0, none⟩)), (30, .bool (decide (40 < (w64 (x28 - x33)))))] 18 [none, some 12] rfl rfl rfl rfl rfl rfl fun G a w S => ?_
      refine sSkip 12 true 30 36 S rfl rfl rfl hc38 rfl (lb rfl) fun a S => ?_
      exact leafL ⟨rfl, S⟩
    · refine fI 37 undef [(36, undef), (30, .bool (decide (40 < (w64 (x28 - x33)))))] 19 [some 18, some 12] rfl rfl rfl rfl rfl rfl fun G a w S => ?_
      refine sSkip 12 true 30 37 S rfl rfl rfl hc38 rfl (lb rfl) fun a S => ?_
      exact leafL ⟨rfl, S⟩
    · refine fI 38 undef [(3, iv s14), (30, .bool (decide (40 < (w64 (x28 - x33)))))] 20 [none, some 12] rfl rfl rfl rfl rfl rfl fun G a w S => ?_
      refine sSkip 12 true 30 38 S rfl rfl rfl hc38 rfl (lb rfl) fun a S => ?_
      exact leafL ⟨rfl, S⟩
    · refine fI 39 undef [(37, undef), (38, undef), (30, .bool (decide (40 < (w64 (x28 - x33)))))] 21 [some 19, some 20, some 12] rfl rfl rfl rfl rfl rfl fun G a w S => ?_
      refine sSkip 12 true 30 39 S rfl rfl rfl hc38 rfl (lb rfl) fun a S => ?_
      exact leafL ⟨rfl, S⟩
    · refine fI 40 undef [(39, undef), (30, .bool (decide (40 < (w64 (x28 - x33)))))] 22 [some 21, some 12] rfl rfl rfl rfl rfl rfl fun G a w S => ?_
      refine sSkip 12 true 30 40 S rfl rfl rfl hc38 rfl (lb rfl) fun a S => ?_
      exact leafL ⟨rfl, S⟩
    · refine fI 41 undef [(35, undef), (40, undef), (30, .bool (decide (40 < (w64 (x28 - x33)))))] 23 [some 17, some 22, some 12] rfl rfl rfl rfl rfl rfl fun G a w S => ?_
      refine sSkip 12 true 30 41 S rfl rfl rfl hc38 rfl (lb rfl) fun a S => ?_
      exact leafL ⟨rfl, S⟩
    · refine fI 42 undef [(41, undef), (30, .bool (decide (40 < (w64 (x28 - x33)))))] 24 [some 23, some 12] rfl rfl rfl rfl rfl rfl fun G a w S => ?_
      refine sSkip 12 true 30 42 S rfl rfl rfl hc38 rfl (lb rfl) fun a S => ?_
      exact leafL ⟨rfl, S⟩
    · refine fI 43 (.bool false) [(30, .bool (decide (40 < (w64 (x28 - x33))))), (42, undef)] 25 [some 12, some 24] rfl rfl rfl rfl rfl rfl fun G a w S => ?_
      refine sPickF (.bool false) S (wN rfl) rfl rfl hc38 rfl rfl (lb rfl) fun a S => ?_
      exact leafL ⟨rfl, S⟩
    exact leafT (⟨false, Option.some.inj h, S.fix [0] [6, 7] (by decide) rfl rfl rfl⟩)
  obtain ⟨q45, hq46, S⟩ := pIdx (P := Tryd.prog) (r := (rI .i64)) (v := .slice ad7 p0.Right.length cp8) (xs := p0.Right) (j := s14) 28 3 1 S Tryd.underlying28 rfl rfl hx29
  obtain ⟨u47, S⟩ := pLoad (r := (rI .i64)) (q := q45) (x := x28) 0 S rfl
  obtain rfl : u47 = iv x28 := S.mem.know (i := 1) (e := fRep (rI .i64) (u47) x28) rfl
  obtain ⟨q48, hq49, S⟩ := pIdx (P := Tryd.prog) (r := (rI .i64)) (v := .slice ad5 p0.Left.length cp6) (xs := p0.Left) (j := s14) 28 3 3 S Tryd.underlying28 rfl rfl hx34
  obtain ⟨u50, S⟩ := pLoad (r := (rI .i64)) (q := q48) (x := x33) 0 S rfl
  obtain rfl : u50 = iv x33 := S.mem.know (i := 1) (e := fRep (rI .i64) (u50) x33) rfl
  obtain ⟨q51, hq52, S⟩ := pIdx (P := Tryd.prog) (r := (rI .i64)) (v := .slice ad7 p0.Right.length cp8) (xs := p0.Right) (j := s14) 28 3 7 S Tryd.underlying28 rfl rfl hx29
  obtain ⟨u53, S⟩ := pLoad (r := (rI .i64)) (q := q51) (x := x28) 0 S rfl
  obtain rfl : u53 = iv x28 := S.mem.know (i := 1) (e := fRep (rI .i64) (u53) x28) rfl
  obtain ⟨q54, hq55, S⟩ := pIdx (P := Tryd.prog) (r := (rI .i64)) (v := .slice ad5 p0.Left.length cp6) (xs := p0.Left) (j := s14) 28 3 9 S Tryd.underlying28 rfl rfl hx34
  obtain ⟨u56, S⟩ := pLoad (r := (rI .i64)) (q := q54) (x := x33) 0 S rfl
  obtain rfl : u56 = iv x33 := S.mem.know (i := 1) (e := fRep (rI .i64) (u56) x33) rfl
  refine sDraw (nf := []) (W := [(0, 18, .pointer (some ⟨b10, 1, none⟩)), (1, 19, .slice ad7 p0.Right.length cp8), (2, 20, iv s14), (3, 21, q45), (4, 22, iv x28), (5, 23, .pointer (some ⟨b10, 0, none⟩)), (6, 24, .slice ad5 p0.Left.length cp6), (7, 25, iv s14), (8, 26, q48), (9, 27, iv x33), (10, 28, iv (w64 (x28 - x33))), (11, 29, .bool (decide (40 < (w64 (x28 - x33))))), (12, 30, .bool (decide (40 < (w64 (x28 - x33))))), (13, 31, .pointer (some ⟨b10, 1, none⟩)), (14, 32, .slice ad7 p0.Right.length cp8), (15, 33, iv s14), (16, 34, q51), (17, 35, iv x28), (18, 36, .pointer (some ⟨b10, 0, none⟩)), (19, 37, .slice ad5 p0.Left.length cp6), (20, 38, iv s14), (21, 39, q54), (22, 40, iv x33), (23, 41, iv (w64 (x28 - x33))), (24, 42, .bool (decide ((w64 (x28 - x33)) ≤ 200))), (25, 43, .bool (decide ((w64 (x28 - x33)) ≤ 200)))]) rfl S ?_
  refine node_by (A := anc_raddleref37_Great_0) (nf := []) (Y := []) (W := [(0, 18, .pointer (some ⟨b10, 1, none⟩)), (1, 19, .slice ad7 p0.Right.length cp8), (2, 20, iv s14), (3, 21, q45), (4, 22, iv x28), (5, 23, .pointer (some ⟨b10, 0, none⟩)), (6, 24, .slice ad5 p0.Left.length cp6), (7, 25, iv s14), (8, 26, q48), (9, 27, iv x33), (10, 28, iv (w64 (x28 - x33))), (11, 29, .bool (decide (40 < (w64 (x28 - x33))))), (12, 30, .bool (decide (40 < (w64 (x28 - x33))))), (13, 31, .pointer (some ⟨b10, 1, none⟩)), (14, 32, .slice ad7 p0.Right.length cp8), (15, 33, iv s14), (16, 34, q51), (17, 35, iv x28), (18, 36, .pointer (some ⟨b10, 0, none⟩)), (19, 37, .slice ad5 p0.Left.length cp6), (20, 38, iv s14), (21, 39, q54), (22, 40, iv x33), (23, 41, iv (w64 (x28 - x33))), (24, 42, .bool (decide ((w64 (x28 - x33)) ≤ 200))), (25, 43, .bool (decide ((w64 (x28 - x33)) ≤ 200)))]) 26 (by kernel_rfl) (by kernel_rfl) (by kernel_rfl) (by kernel_rfl) (by kernel_rfl) [0, 1, 2, 3, 4, 5, 6, 7, 8, 9, 10, 11, 12, 13, 14, 15, 16, 17, 18, 19, 20, 21, 22, 23, 24, 25] (by kernel_rfl) (by decide) (by decide) (aF 0 25 (by decide) ?_ (aF 1 24 (by decide) ?_ (aF 2 23 (by decide) ?_ (aF 3 22 (by decide) ?_ (aF 4 21 (by decide) ?_ (aF 5 20 (by decide) ?_ (aF 6 19 (by decide) ?_ (aF 7 18 (by decide) ?_ (aF 8 17 (by decide) ?_ (aF 9 16 (by decide) ?_ (aF 10 15 (by decide) ?_ (aF 11 14 (by decide) ?_ (aF 12 13 (by decide) ?_ (aF 13 12 (by decide) ?_ (aF 14 11 (by decide) ?_ (aF 15 10 (by decide) ?_ (aF 16 9 (by decide) ?_ (aF 17 8 (by decide) ?_ (aF 18 7 (by decide) ?_ (aF 19 6 (by decide) ?_ (aF 20 5 (by decide) ?_ (aF 21 4 (by decide) ?_ (aF 22 3 (by decide) ?_ (aF 23 2 (by decide) ?_ (aF 24 1 (by decide) ?_ (aF 25 0 (by decide) ?_ (trivial))))))))))))))))))))))))))) [(1, .pointer (some ⟨b10, 0, none⟩)), (3, iv s14), (31, .pointer (some ⟨b10, 1, none⟩)), (32, .slice ad7 p0.Right.length cp8), (33, iv s14), (34, q51), (35, iv x28), (36, .pointer (some ⟨b10, 0, none⟩)), (37, .slice ad5 p0.Left.length cp6), (38, iv s14), (39, q54), (40, iv x33), (41, iv (w64 (x28 - x33))), (42, .bool (decide ((w64 (x28 - x33)) ≤ 200))), (43, .bool (decide ((w64 (x28 - x33)) ≤ 200)))] (fin_of [none, none, some 13, some 14, some 15, some 16, some 17, some 18, some 19, some 20, some 21, some 22, some 23, some 24, some 25] rfl (by kernel_rfl) (by kernel_rfl)) (fun _ a w S => ?_)
  · refine fI 18 (.pointer (some ⟨b10, 1, none⟩)) [(1, .pointer (some ⟨b10, 0, none⟩))] 0 [none] rfl rfl rfl rfl rfl rfl fun G a w S => ?_
    refine sField (b := b10) (off := 0) 1 1 S (wN rfl) rfl rfl rfl rfl rfl (lb rfl) fun a S => ?_
    exact leafL ⟨rfl, S⟩
  · refine fI 19 (.slice ad7 p0.Right.length cp8) [(18, .pointer (some ⟨b10, 1, none⟩))] 1 [some 0] rfl rfl rfl rfl rfl rfl fun G a w S => ?_
    refine sLoad1 (p := b10) (off := 1) (T := 30) (vs := [.slice ad5 p0.Left.length cp6, .slice ad7 p0.Right.length cp8]) 0 (.slice ad7 p0.Right.length cp8) S (wN rfl) rfl rfl rfl rfl rfl rfl (lb rfl) fun a S => ?_
    exact leafL ⟨rfl, S⟩
  · refine fI 20 (iv s14) [(3, iv s14)] 2 [none] rfl rfl rfl rfl rfl rfl fun G a w S => ?_
    refine sMove (iv s14) S (wN rfl) (.inl rfl) rfl rfl (lb rfl) fun a S => ?_
    exact leafL ⟨rfl, S⟩
  · refine fI 21 q45 [(19, .slice ad7 p0.Right.length cp8), (20, iv s14)] 3 [some 1, some 2] rfl rfl rfl rfl rfl rfl fun G a w S => ?_
    refine sIdxV (v := .slice ad7 p0.Right.length cp8) (k := .i64) (j := s14) S (wN rfl) rfl rfl rfl hq46 rfl (lb rfl) fun a S => ?_
    exact leafL ⟨rfl, S⟩
  · refine fI 22 (iv x28) [(21, q45)] 4 [some 3] rfl rfl rfl rfl rfl rfl fun G a w S => ?_
    refine sLoadV1 (vq := q45) 9 (iv x28) S (wN rfl) rfl rfl rfl rfl rfl (lb rfl) fun a S => ?_
    exact leafL ⟨rfl, S⟩
  · refine fI 23 (.pointer (some ⟨b10, 0, none⟩)) [(1, .pointer (some ⟨b10, 0, none⟩))] 5 [none] rfl rfl rfl rfl rfl rfl fun G a w S => ?_
    refine sField (b := b10) (off := 0) 0 0 S (wN rfl) rfl rfl rfl rfl rfl (lb rfl) fun a S => ?_
    exact leafL ⟨rfl, S⟩
  · refine fI 24 (.slice ad5 p0.Left.length cp6) [(23, .pointer (some ⟨b10, 0, none⟩))] 6 [some 5] rfl rfl rfl rfl rfl rfl fun G a w S => ?_
    refine sLoad1 (p := b10) (off := 0) (T := 30) (vs := [.slice ad5 p0.Left.length cp6, .slice ad7 p0.Right.length cp8]) 0 (.slice ad5 p0.Left.length cp6) S (wN rfl) rfl rfl rfl rfl rfl rfl (lb rfl) fun a S => ?_
    exact leafL ⟨rfl, S⟩
  · refine fI 25 (iv s14) [(3, iv s14)] 7 [none] rfl rfl rfl rfl rfl rfl fun G a w S => ?_
    refine sMove (iv s14) S (wN rfl) (.inl rfl) rfl rfl (lb rfl) fun a S => ?_
    exact leafL ⟨rfl, S⟩
  · refine fI 26 q48 [(24, .slice ad5 p0.Left.length cp6), (25, iv s14)] 8 [some 6, some 7] rfl rfl rfl rfl rfl rfl fun G a w S => ?_
    refine sIdxV (v := .slice ad5 p0.Left.length cp6) (k := .i64) (j := s14) S (wN rfl) rfl rfl rfl hq49 rfl (lb rfl) fun a S => ?_
    exact leafL ⟨rfl, S⟩
  · refine fI 27 (iv x33) [(26, q48)] 9 [some 8] rfl rfl rfl rfl rfl rfl fun G a w S => ?_
    refine sLoadV1 (vq := q48) 6 (iv x33) S (wN rfl) rfl rfl rfl rfl rfl (lb rfl) fun a S => ?_
    exact leafL ⟨rfl, S⟩
  · refine fI 28 (iv (w64 (x28 - x33))) [(22, iv x28), (27, iv x33)] 10 [some 4, some 9] rfl rfl rfl rfl rfl rfl fun G a w S => ?_
    refine sBin (iv (w64 (x28 - x33))) S (wN rfl) rfl rfl rfl (bSub _ _ _ _ x28 x33) rfl (lb rfl) fun a S => ?_
    exact leafL ⟨rfl, S⟩
  · refine fI 29 (.bool (decide (40 < (w64 (x28 - x33))))) [(28, iv (w64 (x28 - x33)))] 11 [some 10] rfl rfl rfl rfl rfl rfl fun G a w S => ?_
    refine sBin (.bool (decide (40 < (w64 (x28 - x33))))) S (wN rfl) rfl rfl rfl (bGt _ _ _ _ .i64 (w64 (x28 - x33)) 40) rfl (lb rfl) fun a S => ?_
    exact leafL ⟨rfl, S⟩
  · refine fI 30 (.bool (decide (40 < (w64 (x28 - x33))))) [(29, .bool (decide (40 < (w64 (x28 - x33)))))] 12 [some 11] rfl rfl rfl rfl rfl rfl fun G a w S => ?_
    refine sMove (.bool (decide (40 < (w64 (x28 - x33))))) S (wN rfl) (.inl rfl) rfl rfl (lb rfl) fun a S => ?_
    exact leafL ⟨rfl, S⟩
  · refine fI 31 (.pointer (some ⟨b10, 1, none⟩)) [(1, .pointer (some ⟨b10, 0, none⟩)), (30, .bool (decide (40 < (w64 (x28 - x33)))))] 13 [none, some 12] rfl rfl rfl rfl rfl rfl fun G a w S => ?_
    refine sField (b := b10) (off := 0) 1 1 S (wG 12 true 30 rfl rfl rfl hc38) rfl rfl rfl rfl rfl (lb rfl) fun a S => ?_
    exact leafL ⟨rfl, S⟩
  · refine fI 32 (.slice ad7 p0.Right.length cp8) [(31, .pointer (some ⟨b10, 1, none⟩)), (30, .bool (decide (40 < (w64 (x28 - x33)))))] 14 [some 13, some 12] rfl rfl rfl rfl rfl rfl fun G a w S => ?_
    refine sLoad1 (p := b10) (off := 1) (T := 30) (vs := [.slice ad5 p0.Left.length cp6, .slice ad7 p0.Right.length cp8]) 0 (.slice ad7 p0.Right.length cp8) S (wG 12 true 30 rfl rfl rfl hc38) rfl rfl rfl rfl rfl rfl (lb rfl) fun a S => ?_
    exact leafL ⟨rfl, S⟩
  · refine fI 33 (iv s14) [(3, iv s14), (30, .bool (decide (40 < (w64 (x28 - x33)))))] 15 [none, some 12] rfl rfl rfl rfl rfl rfl fun G a w S => ?_
    refine sMove (iv s14) S (wG 12 true 30 rfl rfl rfl hc38) (.inl rfl) rfl rfl (lb rfl) fun a S => ?_
    exact leafL ⟨rfl, S⟩
  · refine fI 34 q51 [(32, .slice ad7 p0.Right.length cp8), (33, iv s14), (30, .bool (decide (40 < (w64 (x28 - x33)))))] 16 [some 14, some 15, some 12] rfl rfl rfl rfl rfl rfl fun G a w S => ?_
    refine sIdxV (v := .slice ad7 p0.Right.length cp8) (k := .i64) (j := s14) S (wG 12 true 30 rfl rfl rfl hc38) rfl rfl rfl hq52 rfl (lb rfl) fun a S => ?_
    exact leafL ⟨rfl, S⟩
  · refine fI 35 (iv x28) [(34, q51), (30, .bool (decide (40 < (w64 (x28 - x33)))))] 17 [some 16, some 12] rfl rfl rfl rfl rfl rfl fun G a w S => ?_
    refine sLoadV1 (vq := q51) 3 (iv x28) S (wG 12 true 30 rfl rfl rfl hc38) rfl rfl rfl rfl rfl (lb rfl) fun a S => ?_
    exact leafL ⟨rfl, S⟩
  · refine fI 36 (.pointer (some ⟨b10, 0, none⟩)) [(1, .pointer (some ⟨b10, 0, none⟩)), (30, .bool (decide (40 < (w64 (x28 - x33)))))] 18 [none, some 12] rfl rfl rfl rfl rfl rfl fun G a w S => ?_
    refine sField (b := b10) (off := 0) 0 0 S (wG 12 true 30 rfl rfl rfl hc38) rfl rfl rfl rfl rfl (lb rfl) fun a S => ?_
    exact leafL ⟨rfl, S⟩
  · refine fI 37 (.slice ad5 p0.Left.length cp6) [(36, .pointer (some ⟨b10, 0, none⟩)), (30, .bool (decide (40 < (w64 (x28 - x33)))))] 19 [some 18, some 12] rfl rfl rfl rfl rfl rfl fun G a w S => ?_
    refine sLoad1 (p := b10) (off := 0) (T := 30) (vs := [.slice ad5 p0.Left.length cp6, .slice ad7 p0.Right.length cp8]) 0 (.slice ad5 p0.Left.length cp6) S (wG 12 true 30 rfl rfl rfl hc38) rfl rfl rfl rfl rfl rfl (lb rfl) fun a S => ?_
    exact leafL ⟨rfl, S⟩
  · refine fI 38 (iv s14) [(3, iv s14), (30, .bool (decide (40 < (w64 (x28 - x33)))))] 20 [none, some 12] rfl rfl rfl rfl rfl rfl fun G a w S => ?_
    refine sMove (iv s14) S (wG 12 true 30 rfl rfl rfl hc38) (.inl rfl) rfl rfl (lb rfl) fun a S => ?_
    exact leafL ⟨rfl, S⟩
  · refine fI 39 q54 [(37, .slice ad5 p0.Left.length cp6), (38, iv s14), (30, .bool (decide (40 < (w64 (x28 - x33)))))] 21 [some 19, some 20, some 12] rfl rfl rfl rfl rfl rfl fun G a w S => ?_
    refine sIdxV (v := .slice ad5 p0.Left.length cp6) (k := .i64) (j := s14) S (wG 12 true 30 rfl rfl rfl hc38) rfl rfl rfl hq55 rfl (lb rfl) fun a S => ?_
    exact leafL ⟨rfl, S⟩
  · refine fI 40 (iv x33) [(39, q54), (30, .bool (decide (40 < (w64 (x28 - x33)))))] 22 [some 21, some 12] rfl rfl rfl rfl rfl rfl fun G a w S => ?_
    refine sLoadV1 (vq := q54) 0 (iv x33) S (wG 12 true 30 rfl rfl rfl hc38) rfl rfl rfl rfl rfl (lb rfl) fun a S => ?_
    exact leafL ⟨rfl, S⟩
  · refine fI 41 (iv (w64 (x28 - x33))) [(35, iv x28), (40, iv x33), (30, .bool (decide (40 < (w64 (x28 - x33)))))] 23 [some 17, some 22, some 12] rfl rfl rfl rfl rfl rfl fun G a w S => ?_
    refine sBin (iv (w64 (x28 - x33))) S (wG 12 true 30 rfl rfl rfl hc38) rfl rfl rfl (bSub _ _ _ _ x28 x33) rfl (lb rfl) fun a S => ?_
    exact leafL ⟨rfl, S⟩
  · refine fI 42 (.bool (decide ((w64 (x28 - x33)) ≤ 200))) [(41, iv (w64 (x28 - x33))), (30, .bool (decide (40 < (w64 (x28 - x33)))))] 24 [some 23, some 12] rfl rfl rfl rfl rfl rfl fun G a w S => ?_
    refine sBin (.bool (decide ((w64 (x28 - x33)) ≤ 200))) S (wG 12 true 30 rfl rfl rfl hc38) rfl rfl rfl (bLe _ _ _ _ .i64 (w64 (x28 - x33)) 200) rfl (lb rfl) fun a S => ?_
    exact leafL ⟨rfl, S⟩
  · refine fI 43 (.bool (decide ((w64 (x28 - x33)) ≤ 200))) [(30, .bool (decide (40 < (w64 (x28 - x33))))), (42, .bool (decide ((w64 (x28 - x33)) ≤ 200)))] 25 [some 12, some 24] rfl rfl rfl rfl rfl rfl fun G a w S => ?_
    refine sPickT (.bool (decide ((w64 (x28 - x33)) ≤ 200))) S (wN rfl) rfl rfl hc38 rfl rfl (lb rfl) fun a S => ?_
    exact leafL ⟨rfl, S⟩
  exact leafT (⟨decide ((w64 (x28 - x33)) ≤ 200), Option.some.inj h, S.fix [0] [12, 13] (by decide) rfl rfl rfl⟩)

end Go.Proofs.YtmedbnjhgkcndaaDoor
namespace Go.Proofs.YtmedbnjhgkcndaaDoor
open Go.RowKit
set_option linter.unusedVariables false

theorem col_eq (x : Int) : F_piece_column x = some (decide (-500 ≤ x) && decide (x ≤ 500)) ∧ F_raddleref37_in x = some (decide (-500 ≤ x) && decide (x ≤ 500)) := by
  unfold F_piece_column F_raddleref37_in
  by_cases h : -500 ≤ x <;> simp [h]
def col (x : Int) : Bool := decide (-500 ≤ x) && decide (x ≤ 500)
def pokAt (p : api_Piece) (k : Nat) : Bool := col (p.Left.getD k 0) && (col (p.Right.getD k 0) && (decide (p.Left.getD k 0 < p.Right.getD k 0) && decide (p.Right.getD k 0 - p.Left.getD k 0 ≤ 200)))
def pok (p : api_Piece) : Bool := decide (p.Left.length = p.Right.length) && (decide (1 ≤ p.Left.length) && (decide (p.Left.length ≤ 100) && (List.range p.Left.length).all (pokAt p)))
theorem col_spec {x : Int} : col x = true ↔ -500 ≤ x ∧ x ≤ 500 := by simp [col]
theorem pcheck_eq (p : api_Piece) (h1 : p.Left.length ≤ 1000000) (h2 : p.Right.length ≤ 1000000) : F_piece_Check p = some (if pok p = true then 0 else 8) ∧ F_raddleref37_Check p = some (if pok p = true then 0 else 8) := by
  unfold F_piece_Check F_raddleref37_Check
  by_cases e1 : p.Left.length = p.Right.length
  case neg =>
    have hb : ((p.Left.length : Int) != (p.Right.length : Int)) = true := nT (by omega)
    have hp : pok p = false := by simp [pok, e1]
    simp [hb, hp]
  have hb : ((p.Left.length : Int) != (p.Right.length : Int)) = false := nF (by omega)
  by_cases e2 : 1 ≤ p.Left.length
  case neg =>
    have hc : ((p.Left.length : Int) == 0) = true := bT (by omega)
    have hd : decide ((p.Left.length : Int) < 1) = true := dT (by omega)
    have hp : pok p = false := by simp [pok, e2]
    simp [hb, hc, hd, hp]
  have hc : ((p.Left.length : Int) == 0) = false := bF (by omega)
  have hd : decide ((p.Left.length : Int) < 1) = false := dF (by omega)
  by_cases e3 : p.Left.length ≤ 100
  case neg =>
    have he : decide (100 < (p.Left.length : Int)) = true := dT (by omega)
    have hp : pok p = false := by simp [pok, e3]
    simp [hb, hc, hd, he, hp]
  have he : decide (100 < (p.Left.length : Int)) = false := dF (by omega)
  have hp : pok p = (List.range p.Left.length).all (pokAt p) := by simp only [pok, e1, e2, e3, decide_true, Bool.true_and]; rw [← e1]; simp [e2, e3]
  have hl1 : whileO (piece_Check_l1 p) 0 = some (if (List.range p.Left.length).all (pokAt p) = true then .inr () else .inl 8) := by
    refine loop_all _ _ _ _ (fun k hk => ?_) ?_
    · have hx := idxO_D (0 : Int) hk
      have hy := idxO_D (0 : Int) (show k < p.Right.length by omega)
      have hs : w64 ((k : Int) + 1) = ((k + 1 : Nat) : Int) := w64_succ (by omega)
      have hk' : decide ((k : Int) < (p.Left.length : Int)) = true := dT (by omega)
      unfold piece_Check_l1 pokAt
      simp only [hk', if_true, hx, hy, hs, Option.bind_some, (col_eq _).1, ← col.eq_1]
      generalize p.Left.getD k 0 = x
      generalize p.Right.getD k 0 = y
      cases hcx : col x with
      | false => simp
      | true =>
        cases hcy : col y with
        | false => simp
        | true =>
          rw [col_spec] at hcx hcy
          have hw : w64 (y - x) = y - x := w64_of (by omega) (by omega)
          by_cases g1 : x < y
          · by_cases g2 : y - x ≤ 200
            · simp [g1, g2, hw, show ¬ y ≤ x by omega, show ¬ 200 < y - x by omega]
            · simp [g1, g2, hw, show ¬ y ≤ x by omega, show 200 < y - x by omega]
          · simp [g1, hw, show y ≤ x by omega]
    · unfold piece_Check_l1; simp
  have hl2 : whileO (raddleref37_Check_l1 p) 0 = some (if (List.range p.Left.length).all (pokAt p) = true then .inr () else .inl 8) := by
    refine loop_all _ _ _ _ (fun k hk => ?_) ?_
    · have hx := idxO_D (0 : Int) hk
      have hy := idxO_D (0 : Int) (show k < p.Right.length by omega)
      have hs : w64 ((k : Int) + 1) = ((k + 1 : Nat) : Int) := w64_succ (by omega)
      have hk' : decide ((k : Int) < (p.Left.length : Int)) = true := dT (by omega)
      unfold raddleref37_Check_l1 pokAt
      simp only [hk', if_true, hx, hy, hs, Option.bind_some, (col_eq _).2, ← col.eq_1]
      generalize p.Left.getD k 0 = x
      generalize p.Right.getD k 0 = y
      cases hcx : col x with
      | false => simp
      | true =>
        cases hcy : col y with
        | false => simp
        | true =>
          rw [col_spec] at hcx hcy
          have hw : w64 (y - x) = y - x := w64_of (by omega) (by omega)
          by_cases g1 : x < y
          · by_cases g2 : y - x ≤ 200
            · simp [g1, g2, hw, show ¬ y ≤ x by omega, show ¬ 200 < y - x by omega]
            · simp [g1, g2, hw, show ¬ y ≤ x by omega, show 200 < y - x by omega]
          · simp [g1, hw, show y ≤ x by omega]
    · unfold raddleref37_Check_l1; simp
  rw [hl1, hl2, ← hp]
  cases pok p <;> simp [hb, hc, hd, he]
/-- P36.1: a number of a line -/
theorem pok_len {p : api_Piece} (h : pok p = true) : p.Left.length = p.Right.length ∧ p.Left.length ≤ 100 := by
  simp only [pok, Bool.and_eq_true, decide_eq_true_eq] at h
  exact ⟨h.1, h.2.2.1⟩
theorem same_self (l : List Int) (hl : l.length ≤ 1000000) : F_raddleref36_Same l l = some true := by
  have hw : whileO (raddleref36_Same_l1 l l) 0 = some (if (List.range l.length).all (fun _ => true) = true then .inr () else .inl false) := by
    refine loop_all _ _ _ _ (fun k hk => ?_) ?_
    · unfold raddleref36_Same_l1
      simp only [dT (show (k : Int) < (l.length : Int) by omega), if_true, idxO_nat hk, Option.bind_some, bne_self_eq_false, Bool.false_eq_true, if_false, w64_succ (show k < 9223372036854775807 by omega)]
    · unfold raddleref36_Same_l1; simp
  have : (List.range l.length).all (fun _ => true) = true := by simp
  rw [this] at hw
  unfold F_raddleref36_Same
  simp [hw]
theorem samep_self (p : api_Piece) (h1 : p.Left.length ≤ 1000000) (h2 : p.Right.length ≤ 1000000) : F_raddleref37_Same p p = some true := by
  unfold F_raddleref37_Same
  simp [same_self _ h1, same_self _ h2]
theorem great_eq (p : api_Piece) (h1 : p.Left.length ≤ 9223372036854775807) (h2 : p.Right.length ≤ 9223372036854775807) : ∃ b, F_raddleref37_Great p = some b ∧ (b = false → p.Left.length ≤ 1000 ∧ p.Right.length ≤ 1000) := by
  have hw : ∃ t, whileO (raddleref37_Great_l1 p) 0 = some t ∧ (t = .inl true ∨ t = .inr ()) := by
    refine loop_ix (min p.Left.length p.Right.length) (fun _ => True) _ trivial ?_ ?_
    · intro k hk _
      have ha : decide ((k : Int) < (p.Left.length : Int)) = true := dT (by omega)
      have hb : decide ((k : Int) < (p.Right.length : Int)) = true := dT (by omega)
      have hs : w64 ((k : Int) + 1) = ((k + 1 : Nat) : Int) := w64_succ (by omega)
      have hst : raddleref37_Great_l1 p (k : Int) = (if (decide (40 < w64 (p.Right.getD k 0 - p.Left.getD k 0)) && decide (w64 (p.Right.getD k 0 - p.Left.getD k 0) ≤ 200)) = true then some (.inr (.inl true)) else some (.inl ((k + 1 : Nat) : Int))) := by
        unfold raddleref37_Great_l1
        simp only [ha, hb, if_true, Option.bind_some, idxO_D (0 : Int) (show k < p.Left.length by omega), idxO_D (0 : Int) (show k < p.Right.length by omega), hs]
        generalize w64 (p.Right.getD k 0 - p.Left.getD k 0) = d
        by_cases g1 : 40 < d
        · simp [g1]
        · simp [g1]
      rw [hst]
      split
      · exact .inr ⟨_, rfl, .inl rfl⟩
      · exact .inl ⟨rfl, trivial⟩
    · intro _
      refine ⟨.inr (), ?_, .inr rfl⟩
      unfold raddleref37_Great_l1
      by_cases g : p.Left.length ≤ p.Right.length
      · have ha : decide (((min p.Left.length p.Right.length : Nat) : Int) < (p.Left.length : Int)) = false := dF (by omega)
        simp only [ha, Bool.false_eq_true, if_false, Option.bind_some]
      · have ha : decide (((min p.Left.length p.Right.length : Nat) : Int) < (p.Left.length : Int)) = true := dT (by omega)
        have hb : decide (((min p.Left.length p.Right.length : Nat) : Int) < (p.Right.length : Int)) = false := dF (by omega)
        simp only [ha, hb, Bool.false_eq_true, if_true, if_false, Option.bind_some]
  obtain ⟨t, t1, t2⟩ := hw
  unfold F_raddleref37_Great
  rw [t1]
  rcases t2 with rfl | rfl
  · exact ⟨true, rfl, fun h => by cases h⟩
  · simp only [Option.bind_some]
    by_cases g1 : 110 < p.Left.length
    · refine ⟨true, ?_, fun h => by cases h⟩
      simp [show (20 : Int) < (p.Left.length : Int) by omega, show ¬ (p.Left.length : Int) ≤ 100 by omega, show (110 : Int) < (p.Left.length : Int) by omega]
    by_cases g2 : 110 < p.Right.length
    · by_cases g3 : 20 < p.Left.length
      · by_cases g4 : p.Left.length ≤ 100
        · exact ⟨true, by simp [show (20 : Int) < (p.Left.length : Int) by omega, show (p.Left.length : Int) ≤ 100 by omega], fun h => by cases h⟩
        · exact ⟨true, by simp [show (20 : Int) < (p.Left.length : Int) by omega, show ¬ (p.Left.length : Int) ≤ 100 by omega, show ¬ (110 : Int) < (p.Left.length : Int) by omega, show (110 : Int) < (p.Right.length : Int) by omega], fun h => by cases h⟩
      · exact ⟨true, by simp [show ¬ (20 : Int) < (p.Left.length : Int) by omega, show ¬ (110 : Int) < (p.Left.length : Int) by omega, show (110 : Int) < (p.Right.length : Int) by omega], fun h => by cases h⟩
    · by_cases g3 : 20 < p.Left.length
      · by_cases g4 : p.Left.length ≤ 100
        · exact ⟨true, by simp [show (20 : Int) < (p.Left.length : Int) by omega, show (p.Left.length : Int) ≤ 100 by omega], fun h => by cases h⟩
        · exact ⟨false, by simp [show (20 : Int) < (p.Left.length : Int) by omega, show ¬ (p.Left.length : Int) ≤ 100 by omega, show ¬ (110 : Int) < (p.Left.length : Int) by omega, show ¬ (110 : Int) < (p.Right.length : Int) by omega], fun _ => ⟨by omega, by omega⟩⟩
      · exact ⟨false, by simp [show ¬ (20 : Int) < (p.Left.length : Int) by omega, show ¬ (110 : Int) < (p.Left.length : Int) by omega, show ¬ (110 : Int) < (p.Right.length : Int) by omega], fun _ => ⟨by omega, by omega⟩⟩

end Go.Proofs.YtmedbnjhgkcndaaDoor
