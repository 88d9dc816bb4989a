/- Several texts in one: G18 G43 G19 G29 G32 G82 G88 G89 G83 G79 G71 G61 G60 GJn G48 G33 -/
import Derived.WalkKit
import Derived.Maps.AppendAt
import Derived.Deep.AppendLies
import Derived.KernelRfl
import Derived.Laws.OwnMore
import Derived.Great.BuildSlice
import Derived.Orders
import Derived.Laws.StructEq
import Derived.ChangeKeysEq
import Derived.Defers
import Derived.Laws.BytesString
import Derived.RangeFuncNested
import Derived.RangeFuncBound
import Derived.RangeFuncCalls
import Derived.RangeFuncLeaves
import Derived.OrdersIn
import Derived.LoopNIn
import Derived.Test.YtmedbnjhgkcndaaDoorProg
import Derived.ProofKit
import Derived.OpenShut
import Derived.ChangeOld
import Derived.Deep.Slices
import Derived.Lib.SmallJoins
import Derived.JoinedOf
import Derived.JoinedAt
import Derived.Below
import Derived.Shelf.Strings.Builder1
import Derived.Shelf.Strings.Builder2
import Derived.Shelf.Strings.OnBuilder
import Derived.Test.YtmedbnjhgkcndaaDoorRows
import Derived.LaidMore
import Derived.SevenTiedAt
import Derived.Test.YtmedbnjhgkcndaaDoorCards
import Derived.Test.YtmedbnjhgkcndaaDoorTie
import Derived.Test.YtmedbnjhgkcndaaDoorMPieceNear3
namespace Go.Proofs.YtmedbnjhgkcndaaDoor
open Go.RowKit
set_option linter.unusedVariables false

def anc_piece_Read_0 : List (List Nat) := [[], [0], [0, 1], [0, 1, 2], [], [], [5], [5, 6], [4, 5, 6, 7], [4, 5, 6, 7, 8], [0, 1, 2, 3, 4, 5, 6, 7, 8, 9], [0, 1, 2, 3, 4, 5, 6, 7, 8, 9, 10], [0, 1, 2, 3, 4, 5, 6, 7, 8, 9, 10, 11]]
def anc_piece_Read_1 : List (List Nat) := [[], [0], [], [2], [], [2, 3, 4], [2, 3, 4, 5], [], [2, 3, 4, 5, 6, 7], [2, 3, 4, 5, 6, 7, 8], [0, 1, 2, 3, 4, 5, 6, 7, 8, 9], [0, 1, 2, 3, 4, 5, 6, 7, 8, 9, 10], [0, 1, 2, 3, 4, 5, 6, 7, 8, 9, 10, 11]]
def anc_piece_Read_2 : List (List Nat) := [[], [0], [], [2], [], [2, 3, 4], [2, 3, 4, 5], [2, 3, 4, 5, 6], [0, 1, 2, 3, 4, 5, 6, 7], [0, 1, 2, 3, 4, 5, 6, 7, 8], [0, 1, 2, 3, 4, 5, 6, 7, 8, 9], [0, 1, 2, 3, 4, 5, 6, 7, 8, 9, 10], [0, 1, 2, 3, 4, 5, 6, 7, 8, 9], [0, 1, 2, 3, 4, 5, 6, 7, 8, 9, 12], [0, 1, 2, 3, 4, 5, 6, 7, 8, 9], [0, 1, 2, 3, 4, 5, 6, 7, 8, 9, 12, 13, 14], [0, 1, 2, 3, 4, 5, 6, 7, 8, 9, 12, 13, 14, 15], [0, 1, 2, 3, 4, 5, 6, 7, 8, 9, 12, 13, 14, 15, 16], [0, 1, 2, 3, 4, 5, 6, 7, 8, 9, 10, 11, 12, 13, 14, 15, 16, 17], [0, 1, 2, 3, 4, 5, 6, 7, 8, 9, 10, 11, 12, 13, 14, 15, 16, 17, 18], [0, 1, 2, 3, 4, 5, 6, 7, 8, 9, 10, 11, 12, 13, 14, 15, 16, 17, 18, 19]]
noncomputable def piece_Read_l1 (p0 : api_Chart) : (Int × List Int × List Int) → Option ((Int × List Int × List Int) ⊕ ((api_Piece × Int) ⊕ (List Int × List Int))) := fun s0 => match s0 with
  | (s34, s35, s38) =>
    if decide (s34 < (p0.Rows.length : Int)) then
      Option.bind (idxO p0.Rows s34) fun x55 =>
      Option.bind (α := Bool) (
        if (x55.Cells.length : Int) == 0 then
          some true
        else
          Option.bind (F_stitch_All x55.Cells) fun r71 =>
          some (r71 != 0)) fun o67 =>
      if o67 then
        some (.inr (.inl ((api_Piece.mk ([] : (List Int)) ([] : (List Int))), 8)))
      else
        Option.bind (idxO x55.Cells 0) fun x76 =>
        Option.bind (F_piece_grows x76) fun r81 =>
        Option.bind (idxO x55.Cells (w64 ((x55.Cells.length : Int) - 1))) fun x83 =>
        Option.bind (F_piece_grows x83) fun r88 =>
        Option.bind (α := (Int × Int)) (
          if x55.Back then
            some (r88, r81)
          else
            some (r81, r88)) fun (o96, o97) =>
        Option.bind (idxO s35 s34) fun x103 =>
        Option.bind (appO s35 ([w64 (x103 - o97)] : List Int)) fun l110 =>
        Option.bind (idxO s38 s34) fun x121 =>
        Option.bind (appO s38 ([w64 (x121 + o96)] : List Int)) fun l128 =>
        some (.inl (w64 (s34 + 1), l110, l128))
    else
      some (.inr (.inr (s35, s38)))
noncomputable def piece_Read_l2 (p0 : api_Chart) (r140 : (api_Chart × Int)) : Int → Option (Int ⊕ ((api_Piece × Int) ⊕ Unit)) := fun s0 => match s0 with
  | s155 =>
    if decide (s155 < (p0.Rows.length : Int)) then
      Option.bind (idxO p0.Rows s155) fun x164 =>
      Option.bind (α := Bool) (
        Option.bind (idxO r140.1.Rows s155) fun x177 =>
        if x164.Back != x177.Back then
          some true
        else
          Option.bind (F_stitch_Same x164.Cells x177.Cells) fun r197 =>
          some (!r197)) fun o174 =>
      if o174 then
        some (.inr (.inl ((api_Piece.mk ([] : (List Int)) ([] : (List Int))), 8)))
      else
        some (.inl (w64 (s155 + 1)))
    else
      some (.inr (.inr ()))
noncomputable def F_piece_Read (p0 : api_Chart) (p1 : Int) : Option (api_Piece × Int) :=
  Option.bind (α := Bool) (
    Option.bind (F_piece_column p1) fun r12 =>
    if !r12 then
      some true
    else
      if decide (p0.Start < 1) then
        some true
      else
        if decide (200 < p0.Start) then
          some true
        else
          some (decide (100 ≤ (p0.Rows.length : Int)))) fun o9 =>
  if o9 then
    some ((api_Piece.mk ([] : (List Int)) ([] : (List Int))), 8)
  else
    Option.bind (α := (List Int × List Int) ⊕ (api_Piece × Int)) (
      Option.bind (whileO (piece_Read_l1 p0) (0, ([p1] : List Int), ([w64 (p1 + p0.Start)] : List Int))) fun z0 => match z0 with
        | .inl z =>
          some (.inr z)
        | .inr (e44, e47) =>
          some (.inl (e44, e47))) fun z0 => match z0 with
      | .inl (o25, o28) =>
        Option.bind (F_piece_Chart (api_Piece.mk o25 o28)) fun r140 =>
        if r140.2 != 0 then
          some ((api_Piece.mk ([] : (List Int)) ([] : (List Int))), 8)
        else
          Option.bind (α := Unit ⊕ (api_Piece × Int)) (
            Option.bind (whileO (piece_Read_l2 p0 r140) 0) fun z0 => match z0 with
              | .inl z =>
                some (.inr z)
              | .inr _ =>
                some (.inl ())) fun z0 => match z0 with
            | .inl _ =>
              some ((api_Piece.mk o25 o28), 0)
            | .inr z =>
              some z
      | .inr z =>
        some z
def c_piece_Read_val (r : (api_Piece × Int)) (x : Value) : Value := .tuple #[x, .int .i64 r.2]
def c_piece_Read_D (r : (api_Piece × Int)) (x : Value) : List Fact := [fRep r_api_Piece x r.1]
set_option maxHeartbeats 4000000 in
set_option maxRecDepth 100000 in
theorem c_piece_Read (E : Nat → Prop) (w0 : World) (p0 : api_Chart) (v0 : Value) (p1 : Int) (r : (api_Piece × Int)) (h : F_piece_Read p0 p1 = some r) (S : St0 E [] w0 w0 [] [fRep r_api_Chart (v0) p0]) :
    Calls Tryd.prog 18 #[v0, iv p1] w0 (Ret (X := Value) E [] w0 (c_piece_Read_val r) (fun _ => []) (c_piece_Read_D r)) := by
  unfold F_piece_Read at h
  obtain ⟨u1, rfl, hu2⟩ := S.know (i := 0) (e := fRep r_api_Chart (v0) p0) rfl
  have S := S.learn (fRep (rL r_api_Row) u1 p0.Rows) hu2
  obtain ⟨ad3, cp4, _, rfl, _⟩ := hu2
  refine sEnter (args := [.agg #[iv p0.Start, .slice ad3 p0.Rows.length cp4], iv p1]) 143 Tryd.func18 rfl rfl (by simp) S (fun a S => ?_)
  refine sSeq (fun K5 hK5 => ?_)
  refine sRegion ?_
  refine sBox (v := .agg #[iv p0.Start, .slice ad3 p0.Rows.length cp4]) S (wN rfl) rfl rfl [iv p0.Start, .slice ad3 p0.Rows.length cp4] rfl rfl (lb rfl) fun a b6 w S => ?_
  refine sAlloc (.agg #[.slice none 0 0, .slice none 0 0]) S (wN rfl) rfl rfl [.slice none 0 0, .slice none 0 0] rfl rfl (lb rfl) fun a b7 w S => ?_
  refine sMove (iv 0) S (wN rfl) (.inr rfl) rfl rfl (lb rfl) fun a S => ?_
  refine leafL (leafT (hK5 _ _ ?_))
  refine sSeq (fun K8 hK8 => ?_)
  obtain ⟨t10, h, g11⟩ := bindSome h
  refine sCut (fun a w => ∃ o9, o9 = t10 ∧ St [] E [] w0 143 a w [(1, iv p1), (2, .pointer (some ⟨b6, 0, none⟩)), (4, .pointer (some ⟨b7, 0, none⟩)), (34, .bool o9)] [eBox b6 40 [iv p0.Start, .slice ad3 p0.Rows.length cp4], eBox b7 30 [.slice none 0 0, .slice none 0 0]] [fRep (rL r_api_Row) (.slice ad3 p0.Rows.length cp4) p0.Rows]) ?_ (fun a w hI => ?_)
  · refine sRegion ?_
    refine sMove (iv p1) S (wN rfl) (.inl rfl) rfl rfl (lb rfl) fun a S => ?_
    obtain ⟨r12, hx13, h⟩ := bindSome h
    have S1 := S.mem
    refine sCallQ (X := Unit) (f := 37) (vs := [iv p1]) (val := fun _ => .bool r12) S (wN rfl) rfl callee37 rfl (S1.quiet [] rfl) (fun E1 w1 S1 => c_piece_column E1 w1 p1 r12 hx13 S1) rfl (lb rfl) fun _ a w S => ?_
    refine sNot (b := r12) S (wN rfl) rfl rfl rfl (lb rfl) fun a S => ?_
    refine sMove (.bool (!r12)) S (wN rfl) (.inl rfl) rfl rfl (lb rfl) fun a S => ?_
    rcases iteSome h with ⟨hc14, h⟩ | ⟨hc14, h⟩
    · refine sSkip 3 false 19 20 S rfl rfl rfl hc14 rfl (lb rfl) fun a S => ?_
      refine sSkip 3 false 19 21 S rfl rfl rfl hc14 rfl (lb rfl) fun a S => ?_
      refine sSkip 3 false 19 22 S rfl rfl rfl hc14 rfl (lb rfl) fun a S => ?_
      refine sPickT (.bool true) S (wN rfl) rfl rfl hc14 rfl rfl (lb rfl) fun a S => ?_
      refine sMove (.bool true) S (wN rfl) (.inl rfl) rfl rfl (lb rfl) fun a S => ?_
      refine sSkip 8 false 24 25 S rfl rfl rfl rfl rfl (lb rfl) fun a S => ?_
      refine sSkip 8 false 24 26 S rfl rfl rfl rfl rfl (lb rfl) fun a S => ?_
      refine sSkip 8 false 24 27 S rfl rfl rfl rfl rfl (lb rfl) fun a S => ?_
      refine sPickT (.bool true) S (wN rfl) rfl rfl rfl rfl rfl (lb rfl) fun a S => ?_
      refine sMove (.bool true) S (wN rfl) (.inl rfl) rfl rfl (lb rfl) fun a S => ?_
      refine sSkip 13 false 29 30 S rfl rfl rfl rfl rfl (lb rfl) fun a S => ?_
      refine sSkip 13 false 29 31 S rfl rfl rfl rfl rfl (lb rfl) fun a S => ?_
      refine sSkip 13 false 29 32 S rfl rfl rfl rfl rfl (lb rfl) fun a S => ?_
      refine sSkip 13 false 29 33 S rfl rfl rfl rfl rfl (lb rfl) fun a S => ?_
      refine sPickT (.bool true) S (wN rfl) rfl rfl rfl rfl rfl (lb rfl) fun a S => ?_
      exact leafL (leafT (⟨true, Option.some.inj h, S.fix [1, 0] [0] (by decide) rfl rfl rfl⟩))
    refine sField (b := b6) (off := 0) 0 0 S (wG 3 false 19 rfl rfl rfl hc14) rfl rfl rfl rfl rfl (lb rfl) fun a S => ?_
    refine sLoad1 (p := b6) (off := 0) (T := 40) (vs := [iv p0.Start, .slice ad3 p0.Rows.length cp4]) 1 (iv p0.Start) S (wG 3 false 19 rfl rfl rfl hc14) rfl rfl rfl rfl rfl rfl (lb rfl) fun a S => ?_
    refine sBin (.bool (decide (p0.Start < 1))) S (wG 3 false 19 rfl rfl rfl hc14) rfl rfl rfl (bLt _ _ _ _ .i64 p0.Start 1) rfl (lb rfl) fun a S => ?_
    refine sPickF (.bool (decide (p0.Start < 1))) S (wN rfl) rfl rfl hc14 rfl rfl (lb rfl) fun a S => ?_
    refine sMove (.bool (decide (p0.Start < 1))) S (wN rfl) (.inl rfl) rfl rfl (lb rfl) fun a S => ?_
    rcases iteSome h with ⟨hc15, h⟩ | ⟨hc15, h⟩
    · refine sSkip 8 false 24 25 S rfl rfl rfl hc15 rfl (lb rfl) fun a S => ?_
      refine sSkip 8 false 24 26 S rfl rfl rfl hc15 rfl (lb rfl) fun a S => ?_
      refine sSkip 8 false 24 27 S rfl rfl rfl hc15 rfl (lb rfl) fun a S => ?_
      refine sPickT (.bool true) S (wN rfl) rfl rfl hc15 rfl rfl (lb rfl) fun a S => ?_
      refine sMove (.bool true) S (wN rfl) (.inl rfl) rfl rfl (lb rfl) fun a S => ?_
      refine sSkip 13 false 29 30 S rfl rfl rfl rfl rfl (lb rfl) fun a S => ?_
      refine sSkip 13 false 29 31 S rfl rfl rfl rfl rfl (lb rfl) fun a S => ?_
      refine sSkip 13 false 29 32 S rfl rfl rfl rfl rfl (lb rfl) fun a S => ?_
      refine sSkip 13 false 29 33 S rfl rfl rfl rfl rfl (lb rfl) fun a S => ?_
      refine sPickT (.bool true) S (wN rfl) rfl rfl rfl rfl rfl (lb rfl) fun a S => ?_
      exact leafL (leafT (⟨true, Option.some.inj h, S.fix [1, 0] [0] (by decide) rfl rfl rfl⟩))
    refine sField (b := b6) (off := 0) 0 0 S (wG 8 false 24 rfl rfl rfl hc15) rfl rfl rfl rfl rfl (lb rfl) fun a S => ?_
    refine sLoad1 (p := b6) (off := 0) (T := 40) (vs := [iv p0.Start, .slice ad3 p0.Rows.length cp4]) 1 (iv p0.Start) S (wG 8 false 24 rfl rfl rfl hc15) rfl rfl rfl rfl rfl rfl (lb rfl) fun a S => ?_
    refine sBin (.bool (decide (200 < p0.Start))) S (wG 8 false 24 rfl rfl rfl hc15) rfl rfl rfl (bGt _ _ _ _ .i64 p0.Start 200) rfl (lb rfl) fun a S => ?_
    refine sPickF (.bool (decide (200 < p0.Start))) S (wN rfl) rfl rfl hc15 rfl rfl (lb rfl) fun a S => ?_
    refine sMove (.bool (decide (200 < p0.Start))) S (wN rfl) (.inl rfl) rfl rfl (lb rfl) fun a S => ?_
    rcases iteSome h with ⟨hc16, h⟩ | ⟨hc16, h⟩
    · refine sSkip 13 false 29 30 S rfl rfl rfl hc16 rfl (lb rfl) fun a S => ?_
      refine sSkip 13 false 29 31 S rfl rfl rfl hc16 rfl (lb rfl) fun a S => ?_
      refine sSkip 13 false 29 32 S rfl rfl rfl hc16 rfl (lb rfl) fun a S => ?_
      refine sSkip 13 false 29 33 S rfl rfl rfl hc16 rfl (lb rfl) fun a S => ?_
      refine sPickT (.bool true) S (wN rfl) rfl rfl hc16 rfl rfl (lb rfl) fun a S => ?_
      exact leafL (leafT (⟨true, Option.some.inj h, S.fix [1, 0] [0] (by decide) rfl rfl rfl⟩))
    refine sField (b := b6) (off := 0) 1 1 S (wG 13 false 29 rfl rfl rfl hc16) rfl rfl rfl rfl rfl (lb rfl) fun a S => ?_
    refine sLoad1 (p := b6) (off := 1) (T := 40) (vs := [iv p0.Start, .slice ad3 p0.Rows.length cp4]) 1 (.slice ad3 p0.Rows.length cp4) S (wG 13 false 29 rfl rfl rfl hc16) rfl rfl rfl rfl rfl rfl (lb rfl) fun a S => ?_
    refine sLen (ad := ad3) (m := p0.Rows.length) (c := cp4) S (wG 13 false 29 rfl rfl rfl hc16) rfl Tryd.underlying38 rfl rfl (lb rfl) fun a S => ?_
    refine sBin (.bool (decide (100 ≤ (p0.Rows.length : Int)))) S (wG 13 false 29 rfl rfl rfl hc16) rfl rfl rfl (bGe _ _ _ _ .i64 (p0.Rows.length : Int) 100) rfl (lb rfl) fun a S => ?_
    refine sPickF (.bool (decide (100 ≤ (p0.Rows.length : Int)))) S (wN rfl) rfl rfl hc16 rfl rfl (lb rfl) fun a S => ?_
    exact leafL (leafT (⟨decide (100 ≤ (p0.Rows.length : Int)), Option.some.inj h, S.fix [1, 0] [0] (by decide) rfl rfl rfl⟩))
  obtain ⟨o9, rfl, S⟩ := hI
  have h := g11
  clear g11
  try dsimp only at h
  rcases iteSome h with ⟨hc17, h⟩ | ⟨hc17, h⟩
  · refine sCondT S rfl hc17 ?_
    refine sSeq (fun K18 hK18 => ?_)
    refine sRegion ?_
    refine sBuild [] [.slice none 0 0, .slice none 0 0] S (wN rfl) rfl rfl rfl rfl (lb rfl) fun a S => ?_
    refine sStore (p := b7) (off := 0) (T := 30) (vs := [.slice none 0 0, .slice none 0 0]) (v := .agg #[.slice none 0 0, .slice none 0 0]) 1 [.slice none 0 0, .slice none 0 0] S (wN rfl) rfl rfl rfl rfl rfl rfl rfl (by simp) rfl fun a w S => ?_
    refine sMove (iv 8) S (wN rfl) (.inr rfl) rfl rfl (lb rfl) fun a S => ?_
    refine leafL (leafT (hK18 _ _ ?_))
    obtain rfl := Option.some.inj h
    have S := S.learn (fRep (rL (rI .i64)) (.slice none 0 0) ([] : (List Int))) (rL_nil _ _ _)
    have S := S.learn (fRep r_api_Piece (.agg #[.slice none 0 0, .slice none 0 0]) (api_Piece.mk ([] : (List Int)) ([] : (List Int)))) ⟨_, _, rfl, S.mem.know (i := 0) (e := fRep (rL (rI .i64)) (.slice none 0 0) ([] : (List Int))) rfl, S.mem.know (i := 0) (e := fRep (rL (rI .i64)) (.slice none 0 0) ([] : (List Int))) rfl⟩
    exact wp_ret (rThen (sRet (.tuple #[.agg #[.slice none 0 0, .slice none 0 0], iv 8]) S (rsl2 rfl (rvN (c := 4) (t := 30) (T := 30) (p := b7) 0 [.slice none 0 0, .slice none 0 0] S rfl rfl rfl rfl) (rvT (t := 5) (v := iv 8) S rfl)) ⟨(.agg #[.slice none 0 0, .slice none 0 0]), rfl, S.mem.sel [] [0] (by decide) rfl rfl⟩))
  refine sCondF S rfl hc17 ?_
  refine wp_skip (leafT (hK8 _ _ ?_))
  refine sSeq (fun K19 hK19 => ?_)
  refine sRegion ?_
  refine sMove (iv p1) S (wN rfl) (.inl rfl) rfl rfl (lb rfl) fun a S => ?_
  refine sLit (r := (rI .i64)) (T := 3) (xs := ([p1] : List Int)) [(0, iv p1)] 1 [iv p1] [iv p1] (iv 0) 8 S (wN rfl) rfl rfl Tryd.underlying28 rfl (by decide) (by decide) (by kernel_rfl) rfl (fun E1 w1 hE => All.cons rfl (All.nil _ _ _)) rfl rfl (lb rfl) fun a w ad20 cp21 S => ?_
  refine sMove (iv p1) S (wN rfl) (.inl rfl) rfl rfl (lb rfl) fun a S => ?_
  refine sField (b := b6) (off := 0) 0 0 S (wN rfl) rfl rfl rfl rfl rfl (lb rfl) fun a S => ?_
  refine sLoad1 (p := b6) (off := 0) (T := 40) (vs := [iv p0.Start, .slice ad3 p0.Rows.length cp4]) 1 (iv p0.Start) S (wN rfl) rfl rfl rfl rfl rfl rfl (lb rfl) fun a S => ?_
  refine sBin (iv (w64 (p1 + p0.Start))) S (wN rfl) rfl rfl rfl (bAdd _ _ _ _ p1 p0.Start) rfl (lb rfl) fun a S => ?_
  refine sLit (r := (rI .i64)) (T := 3) (xs := ([w64 (p1 + p0.Start)] : List Int)) [(0, iv (w64 (p1 + p0.Start)))] 1 [iv (w64 (p1 + p0.Start))] [iv (w64 (p1 + p0.Start))] (iv 0) 8 S (wN rfl) rfl rfl Tryd.underlying28 rfl (by decide) (by decide) (by kernel_rfl) rfl (fun E1 w1 hE => All.cons rfl (All.nil _ _ _)) rfl rfl (lb rfl) fun a w ad22 cp23 S => ?_
  refine sBuild [(0, .slice ad20 ([p1] : List Int).length cp21), (1, .slice ad22 ([w64 (p1 + p0.Start)] : List Int).length cp23)] [.slice ad20 ([p1] : List Int).length cp21, .slice ad22 ([w64 (p1 + p0.Start)] : List Int).length cp23] S (wN rfl) rfl rfl rfl rfl (lb rfl) fun a S => ?_
  refine sAlloc (.agg #[.slice none 0 0, .slice none 0 0]) S (wN rfl) rfl rfl [.slice none 0 0, .slice none 0 0] rfl rfl (lb rfl) fun a b24 w S => ?_
  refine sStore (p := b24) (off := 0) (T := 30) (vs := [.slice none 0 0, .slice none 0 0]) (v := .agg #[.slice ad20 ([p1] : List Int).length cp21, .slice ad22 ([w64 (p1 + p0.Start)] : List Int).length cp23]) 0 [.slice ad20 ([p1] : List Int).length cp21, .slice ad22 ([w64 (p1 + p0.Start)] : List Int).length cp23] S (wN rfl) rfl rfl rfl rfl rfl rfl rfl (by simp) rfl fun a w S => ?_
  refine leafL (leafT (hK19 _ _ ?_))
  obtain ⟨t31, h, g32⟩ := bindSome h
  refine sCut (fun a w => ∃ o25, ∃ o28, .inl (o25, o28) = t31 ∧ ∃ ad26, ∃ cp27, ∃ ad29, ∃ cp30, St [] E [] w0 143 a w [(2, .pointer (some ⟨b6, 0, none⟩)), (4, .pointer (some ⟨b7, 0, none⟩)), (6, .pointer (some ⟨b24, 0, none⟩))] [eBox b6 40 [iv p0.Start, .slice ad3 p0.Rows.length cp4], eBox b7 30 [.slice none 0 0, .slice none 0 0], eBox b24 30 [.slice ad26 o25.length cp27, .slice ad29 o28.length cp30], eRow (rI .i64) 3 (.slice ad26 o25.length cp27) o25, eRow (rI .i64) 3 (.slice ad29 o28.length cp30) o28] [fRep (rL r_api_Row) (.slice ad3 p0.Rows.length cp4) p0.Rows]) ?_ (fun a w hI => ?_)
  rotate_left
  · obtain ⟨o25, o28, rfl, ad26, cp27, ad29, cp30, S⟩ := hI
    have h := g32
    clear g32
    try dsimp only at h
    refine sSeq (fun K139 hK139 => ?_)
    refine sRegion ?_
    refine sLoadN (p := b24) (off := 0) (T := 30) (vs := [.slice ad26 o25.length cp27, .slice ad29 o28.length cp30]) 2 [.slice ad26 o25.length cp27, .slice ad29 o28.length cp30] S (wN rfl) rfl rfl rfl rfl rfl rfl rfl (lb rfl) fun a S => ?_
    obtain ⟨r140, hx141, h⟩ := bindSome h
    have S := S.shutR (r := (rI .i64)) (T := 3) (v := .slice ad26 o25.length cp27) (xs := o25) 3 rfl
    have S := S.shutR (r := (rI .i64)) (T := 3) (v := .slice ad29 o28.length cp30) (xs := o28) 3 rfl
    have S := S.learn (fRep r_api_Piece (.agg #[.slice ad26 o25.length cp27, .slice ad29 o28.length cp30]) (api_Piece.mk o25 o28)) ⟨_, _, rfl, S.mem.know (i := 1) (e := fRep (rL (rI .i64)) (.slice ad26 o25.length cp27) o25) rfl, S.mem.know (i := 0) (e := fRep (rL (rI .i64)) (.slice ad29 o28.length cp30) o28) rfl⟩
    refine sCall (X := Value) (f := 17) (vs := [.agg #[.slice ad26 o25.length cp27, .slice ad29 o28.length cp30]]) (val := c_piece_Chart_val r140) (B' := fun _ => []) (D' := c_piece_Chart_D r140) [] [eBox b6 40 [iv p0.Start, .slice ad3 p0.Rows.length cp4], eBox b7 30 [.slice none 0 0, .slice none 0 0], eBox b24 30 [.slice ad26 o25.length cp27, .slice ad29 o28.length cp30]] [fRep r_api_Piece (.agg #[.slice ad26 o25.length cp27, .slice ad29 o28.length cp30]) (api_Piece.mk o25 o28)] [0, 1, 2] [0] S (wN rfl) rfl callee17 rfl (by decide) rfl rfl (fun E1 w1 S1 => c_piece_Chart E1 w1 (api_Piece.mk o25 o28) (.agg #[.slice ad26 o25.length cp27, .slice ad29 o28.length cp30]) r140 hx141 S1) rfl (lb rfl) fun u142 a w S => ?_
    obtain ⟨u143, rfl, hu144⟩ := S.mem.know (i := 0) (e := fRep r_api_Chart (u142) r140.1) rfl
    have S := S.learn (fRep (rL r_api_Row) u143 r140.1.Rows) hu144
    obtain ⟨ad145, cp146, _, rfl, _⟩ := hu144
    refine sMove (.tuple #[.agg #[iv r140.1.Start, .slice ad145 r140.1.Rows.length cp146], iv r140.2]) S (wN rfl) (.inl rfl) rfl rfl (lb rfl) fun a S => ?_
    refine sExtract (vs := [.agg #[iv r140.1.Start, .slice ad145 r140.1.Rows.length cp146], iv r140.2]) (.agg #[iv r140.1.Start, .slice ad145 r140.1.Rows.length cp146]) S (wN rfl) rfl rfl rfl rfl (lb rfl) fun a S => ?_
    refine sExtract (vs := [.agg #[iv r140.1.Start, .slice ad145 r140.1.Rows.length cp146], iv r140.2]) (iv r140.2) S (wN rfl) rfl rfl rfl rfl (lb rfl) fun a S => ?_
    refine sAlloc (.agg #[iv 0, .slice none 0 0]) S (wN rfl) rfl rfl [iv 0, .slice none 0 0] rfl rfl (lb rfl) fun a b147 w S => ?_
    refine sStore (p := b147) (off := 0) (T := 40) (vs := [iv 0, .slice none 0 0]) (v := .agg #[iv r140.1.Start, .slice ad145 r140.1.Rows.length cp146]) 0 [iv r140.1.Start, .slice ad145 r140.1.Rows.length cp146] S (wN rfl) rfl rfl rfl rfl rfl rfl rfl (by simp) rfl fun a w S => ?_
    refine sMove (iv r140.2) S (wN rfl) (.inr rfl) rfl rfl (lb rfl) fun a S => ?_
    refine leafL (leafT (hK139 _ _ ?_))
    refine sSeq (fun K148 hK148 => ?_)
    refine sSeq (fun K149 hK149 => ?_)
    refine sRegion ?_
    refine sMove (iv r140.2) S (wN rfl) (.inl rfl) rfl rfl (lb rfl) fun a S => ?_
    refine sBin (.bool (r140.2 != 0)) S (wN rfl) rfl rfl rfl (bNe _ _ _ _ .i64 r140.2 0) rfl (lb rfl) fun a S => ?_
    refine leafL (leafT (hK149 _ _ ?_))
    rcases iteSome h with ⟨hc150, h⟩ | ⟨hc150, h⟩
    · refine sCondT S rfl hc150 ?_
      refine sSeq (fun K151 hK151 => ?_)
      refine sRegion ?_
      refine sBuild [] [.slice none 0 0, .slice none 0 0] S (wN rfl) rfl rfl rfl rfl (lb rfl) fun a S => ?_
      refine sStore (p := b7) (off := 0) (T := 30) (vs := [.slice none 0 0, .slice none 0 0]) (v := .agg #[.slice none 0 0, .slice none 0 0]) 2 [.slice none 0 0, .slice none 0 0] S (wN rfl) rfl rfl rfl rfl rfl rfl rfl (by simp) rfl fun a w S => ?_
      refine sMove (iv 8) S (wN rfl) (.inr rfl) rfl rfl (lb rfl) fun a S => ?_
      refine leafL (leafT (hK151 _ _ ?_))
      obtain rfl := Option.some.inj h
      have S := S.learn (fRep (rL (rI .i64)) (.slice none 0 0) ([] : (List Int))) (rL_nil _ _ _)
      have S := S.learn (fRep r_api_Piece (.agg #[.slice none 0 0, .slice none 0 0]) (api_Piece.mk ([] : (List Int)) ([] : (List Int)))) ⟨_, _, rfl, S.mem.know (i := 0) (e := fRep (rL (rI .i64)) (.slice none 0 0) ([] : (List Int))) rfl, S.mem.know (i := 0) (e := fRep (rL (rI .i64)) (.slice none 0 0) ([] : (List Int))) rfl⟩
      exact wp_ret (rThen (sRet (.tuple #[.agg #[.slice none 0 0, .slice none 0 0], iv 8]) S (rsl2 rfl (rvN (c := 4) (t := 30) (T := 30) (p := b7) 0 [.slice none 0 0, .slice none 0 0] S rfl rfl rfl rfl) (rvT (t := 5) (v := iv 8) S rfl)) ⟨(.agg #[.slice none 0 0, .slice none 0 0]), rfl, S.mem.sel [] [0] (by decide) rfl rfl⟩))
    refine sCondF S rfl hc150 ?_
    refine wp_skip (leafT (hK148 _ _ ?_))
    obtain ⟨t152, h, g153⟩ := bindSome h
    refine sCut (fun a w => .inl () = t152 ∧ St [] E [] w0 143 a w [(4, .pointer (some ⟨b7, 0, none⟩)), (6, .pointer (some ⟨b24, 0, none⟩))] [eBox b7 30 [.slice none 0 0, .slice none 0 0], eBox b24 30 [.slice ad26 o25.length cp27, .slice ad29 o28.length cp30]] [fRep (rL (rI .i64)) (.slice ad26 o25.length cp27) o25, fRep (rL (rI .i64)) (.slice ad29 o28.length cp30) o28]) ?_ (fun a w hI => ?_)
    rotate_left
    · obtain ⟨rfl, S⟩ := hI
      have h := g153
      clear g153
      try dsimp only at h
      refine sSeq (fun K213 hK213 => ?_)
      refine sRegion ?_
      refine sLoadN (p := b24) (off := 0) (T := 30) (vs := [.slice ad26 o25.length cp27, .slice ad29 o28.length cp30]) 1 [.slice ad26 o25.length cp27, .slice ad29 o28.length cp30] S (wN rfl) rfl rfl rfl rfl rfl rfl rfl (lb rfl) fun a S => ?_
      refine sStore (p := b7) (off := 0) (T := 30) (vs := [.slice none 0 0, .slice none 0 0]) (v := .agg #[.slice ad26 o25.length cp27, .slice ad29 o28.length cp30]) 0 [.slice ad26 o25.length cp27, .slice ad29 o28.length cp30] S (wN rfl) rfl rfl rfl rfl rfl rfl rfl (by simp) rfl fun a w S => ?_
      refine sMove (iv 0) S (wN rfl) (.inr rfl) rfl rfl (lb rfl) fun a S => ?_
      refine leafL (leafT (hK213 _ _ ?_))
      obtain rfl := Option.some.inj h
      have S := S.learn (fRep r_api_Piece (.agg #[.slice ad26 o25.length cp27, .slice ad29 o28.length cp30]) (api_Piece.mk o25 o28)) ⟨_, _, rfl, S.mem.know (i := 0) (e := fRep (rL (rI .i64)) (.slice ad26 o25.length cp27) o25) rfl, S.mem.know (i := 1) (e := fRep (rL (rI .i64)) (.slice ad29 o28.length cp30) o28) rfl⟩
      exact wp_ret (sRet (.tuple #[.agg #[.slice ad26 o25.length cp27, .slice ad29 o28.length cp30], iv 0]) S (rsl2 rfl (rvN (c := 4) (t := 30) (T := 30) (p := b7) 0 [.slice ad26 o25.length cp27, .slice ad29 o28.length cp30] S rfl rfl rfl rfl) (rvT (t := 5) (v := iv 0) S rfl)) ⟨(.agg #[.slice ad26 o25.length cp27, .slice ad29 o28.length cp30]), rfl, S.mem.sel [] [0] (by decide) rfl rfl⟩)
    refine sSeq (fun K154 hK154 => ?_)
    refine sRegion ?_
    refine sField (b := b6) (off := 0) 1 1 S (wN rfl) rfl rfl rfl rfl rfl (lb rfl) fun a S => ?_
    refine sLoad1 (p := b6) (off := 1) (T := 40) (vs := [iv p0.Start, .slice ad3 p0.Rows.length cp4]) 1 (.slice ad3 p0.Rows.length cp4) S (wN rfl) rfl rfl rfl rfl rfl rfl (lb rfl) fun a S => ?_
    refine sLen (ad := ad3) (m := p0.Rows.length) (c := cp4) S (wN rfl) rfl Tryd.underlying38 rfl rfl (lb rfl) fun a S => ?_
    refine sMove (iv 0) S (wN rfl) (.inl rfl) rfl rfl (lb rfl) fun a S => ?_
    refine leafL (leafT (hK154 _ _ ?_))
    refine wp_block ?_
    obtain ⟨t158, hl, g157⟩ := bindSome h
    refine sLoop hl (fun s0 a w => match s0 with | s155 => St [] E [] w0 143 a w [(4, .pointer (some ⟨b7, 0, none⟩)), (6, .pointer (some ⟨b24, 0, none⟩)), (12, .pointer (some ⟨b147, 0, none⟩)), (112, .slice ad3 p0.Rows.length cp4), (113, iv (p0.Rows.length : Int)), (114, iv s155)] [eBox b7 30 [.slice none 0 0, .slice none 0 0], eBox b24 30 [.slice ad26 o25.length cp27, .slice ad29 o28.length cp30], eBox b147 40 [iv r140.1.Start, .slice ad145 r140.1.Rows.length cp146]] [fRep (rL r_api_Row) (.slice ad3 p0.Rows.length cp4) p0.Rows, fRep (rL (rI .i64)) (.slice ad26 o25.length cp27) o25, fRep (rL (rI .i64)) (.slice ad29 o28.length cp30) o28, fRep (rL r_api_Row) (.slice ad145 r140.1.Rows.length cp146) r140.1.Rows]) (S.fix [2, 3, 0] [5, 4, 3, 0] (by decide) rfl rfl rfl) ?_
    clear hl h
    intro s155 a w c0 hI h hu156
    unfold piece_Read_l2 at h
    dsimp only at h hI
    have S := hI
    refine sSeq (fun K159 hK159 => ?_)
    refine sRegion ?_
    refine sBin (.bool (decide (s155 < (p0.Rows.length : Int)))) S (wN rfl) rfl rfl rfl (bLt _ _ _ _ .i64 s155 (p0.Rows.length : Int)) rfl (lb rfl) fun a S => ?_
    refine leafL (leafT (hK159 _ _ ?_))
    refine sSeq (fun K160 hK160 => ?_)
    rcases iteSome h with ⟨hc161, h⟩ | ⟨hc161, h⟩
    rotate_left
    · refine sCondF S rfl hc161 ?_
      obtain rfl := Option.some.inj h
      obtain rfl := hu156 _ rfl
      have h := g157
      clear g157
      try dsimp only at h
      exact wp_exit (xThen (xThen (xHit (leafT (⟨Option.some.inj h, S.fix [0, 1] [1, 2] (by decide) rfl rfl rfl⟩)))))
    refine sCondT S rfl hc161 ?_
    refine wp_skip (leafT (hK160 _ _ ?_))
    refine sSeq (fun K162 hK162 => ?_)
    refine wp_block ?_
    refine sSeq (fun K163 hK163 => ?_)
    refine sRegion ?_
    refine sMove (iv s155) S (wN rfl) (.inl rfl) rfl rfl (lb rfl) fun a S => ?_
    obtain ⟨x164, hx165, h⟩ := bindSome h
    obtain ⟨q166, hq167, S⟩ := pIdx (P := Tryd.prog) (r := r_api_Row) (v := .slice ad3 p0.Rows.length cp4) (xs := p0.Rows) (j := s155) 38 54 0 S Tryd.underlying38 rfl rfl hx165
    refine sIdxV (v := .slice ad3 p0.Rows.length cp4) (k := .i64) (j := s155) S (wN rfl) rfl rfl rfl hq167 rfl (lb rfl) fun a S => ?_
    obtain ⟨u168, S⟩ := pLoad (r := r_api_Row) (q := q166) (x := x164) 0 S rfl
    obtain ⟨u169, rfl, hu170⟩ := S.mem.know (i := 1) (e := fRep r_api_Row (u168) x164) rfl
    have S := S.learn (fRep (rL r_api_Stitch) u169 x164.Cells) hu170
    obtain ⟨ad171, cp172, _, rfl, _⟩ := hu170
    refine sLoadVN (vq := q166) 1 [.bool x164.Back, .slice ad171 x164.Cells.length cp172] S (wN rfl) rfl rfl rfl rfl rfl rfl (lb rfl) fun a S => ?_
    refine sAlloc (.agg #[.bool false, .slice none 0 0]) S (wN rfl) rfl rfl [.bool false, .slice none 0 0] rfl rfl (lb rfl) fun a b173 w S => ?_
    refine sMove (iv s155) S (wN rfl) (.inr rfl) rfl rfl (lb rfl) fun a S => ?_
    refine sStore (p := b173) (off := 0) (T := 54) (vs := [.bool false, .slice none 0 0]) (v := .agg #[.bool x164.Back, .slice ad171 x164.Cells.length cp172]) 0 [.bool x164.Back, .slice ad171 x164.Cells.length cp172] S (wN rfl) rfl rfl rfl rfl rfl rfl rfl (by simp) rfl fun a w S => ?_
    refine leafL (leafT (hK163 _ _ ?_))
    obtain ⟨t175, h, g176⟩ := bindSome h
    refine sCut (fun a w => ∃ o174, o174 = t175 ∧ St [] E [] w0 143 a w [(4, .pointer (some ⟨b7, 0, none⟩)), (6, .pointer (some ⟨b24, 0, none⟩)), (12, .pointer (some ⟨b147, 0, none⟩)), (112, .slice ad3 p0.Rows.length cp4), (113, iv (p0.Rows.length : Int)), (114, iv s155), (139, .bool o174)] [eBox b7 30 [.slice none 0 0, .slice none 0 0], eBox b24 30 [.slice ad26 o25.length cp27, .slice ad29 o28.length cp30], eBox b147 40 [iv r140.1.Start, .slice ad145 r140.1.Rows.length cp146]] [fRep (rL r_api_Row) (.slice ad3 p0.Rows.length cp4) p0.Rows, fRep (rL (rI .i64)) (.slice ad26 o25.length cp27) o25, fRep (rL (rI .i64)) (.slice ad29 o28.length cp30) o28, fRep (rL r_api_Row) (.slice ad145 r140.1.Rows.length cp146) r140.1.Rows]) ?_ (fun a w hI => ?_)
    rotate_left
    · obtain ⟨o174, rfl, S⟩ := hI
      have h := g176
      clear g176
      try dsimp only at h
      rcases iteSome h with ⟨hc211, h⟩ | ⟨hc211, h⟩
      rotate_left
      · refine sCondF S rfl hc211 ?_
        refine wp_skip (leafB (leafT (hK162 _ _ ?_)))
        refine sRegion ?_
        refine sBin (iv (w64 (s155 + 1))) S (wN rfl) rfl rfl rfl (bAdd _ _ _ _ s155 1) rfl (lb rfl) fun a S => ?_
        refine sMove (iv (w64 (s155 + 1))) S (wN rfl) (.inl rfl) rfl rfl (lb rfl) fun a S => ?_
        exact leafL (leafT (⟨w64 (s155 + 1), (Option.some.inj h).symm, (S.fix [0, 1, 2] [0, 1, 2, 3] (by decide) rfl rfl rfl)⟩))
      refine sCondT S rfl hc211 ?_
      refine sSeq (fun K212 hK212 => ?_)
      refine sRegion ?_
      refine sBuild [] [.slice none 0 0, .slice none 0 0] S (wN rfl) rfl rfl rfl rfl (lb rfl) fun a S => ?_
      refine sStore (p := b7) (off := 0) (T := 30) (vs := [.slice none 0 0, .slice none 0 0]) (v := .agg #[.slice none 0 0, .slice none 0 0]) 0 [.slice none 0 0, .slice none 0 0] S (wN rfl) rfl rfl rfl rfl rfl rfl rfl (by simp) rfl fun a w S => ?_
      refine sMove (iv 8) S (wN rfl) (.inr rfl) rfl rfl (lb rfl) fun a S => ?_
      refine leafL (leafT (hK212 _ _ ?_))
      obtain rfl := Option.some.inj h
      obtain rfl := hu156 _ rfl
      have h := g157
      clear g157
      try dsimp only at h
      obtain rfl := Option.some.inj h
      have h := g153
      clear g153
      try dsimp only at h
      obtain rfl := Option.some.inj h
      have S := S.learn (fRep (rL (rI .i64)) (.slice none 0 0) ([] : (List Int))) (rL_nil _ _ _)
      have S := S.learn (fRep r_api_Piece (.agg #[.slice none 0 0, .slice none 0 0]) (api_Piece.mk ([] : (List Int)) ([] : (List Int)))) ⟨_, _, rfl, S.mem.know (i := 0) (e := fRep (rL (rI .i64)) (.slice none 0 0) ([] : (List Int))) rfl, S.mem.know (i := 0) (e := fRep (rL (rI .i64)) (.slice none 0 0) ([] : (List Int))) rfl⟩
      exact wp_ret (rBlock (rThen (rThen (rBlock (rThen (sRet (.tuple #[.agg #[.slice none 0 0, .slice none 0 0], iv 8]) S (rsl2 rfl (rvN (c := 4) (t := 30) (T := 30) (p := b7) 0 [.slice none 0 0, .slice none 0 0] S rfl rfl rfl rfl) (rvT (t := 5) (v := iv 8) S rfl)) ⟨(.agg #[.slice none 0 0, .slice none 0 0]), rfl, S.mem.sel [] [0] (by decide) rfl rfl⟩))))))
    obtain ⟨x177, hx178, h⟩ := bindSome h
    rcases iteSome h with ⟨hc184, h⟩ | ⟨hc184, h⟩
    · obtain ⟨q185, hq186, S⟩ := pIdx (P := Tryd.prog) (r := r_api_Row) (v := .slice ad145 r140.1.Rows.length cp146) (xs := r140.1.Rows) (j := s155) 38 54 7 S Tryd.underlying38 rfl rfl hx178
      obtain ⟨q187, hq188, S⟩ := pFld (P := Tryd.prog) (r := r_api_Row) (s2 := rB) (g := (·.Back)) (q := q185) (z := x177) 54 0 0 0 S rfl rfl comp_api_Row_Back
      obtain ⟨u189, S⟩ := pLoad (r := rB) (q := q187) (x := x177.Back) 0 S rfl
      obtain rfl : u189 = .bool x177.Back := S.mem.know (i := 1) (e := fRep rB (u189) x177.Back) rfl
      refine sDraw (nf := []) (W := [(0, 119, .pointer (some ⟨b173, 0, none⟩)), (1, 120, .bool x164.Back), (2, 121, .pointer (some ⟨b147, 1, none⟩)), (3, 122, .slice ad145 r140.1.Rows.length cp146), (4, 123, iv s155), (5, 124, q185), (6, 125, q187), (7, 126, .bool x177.Back), (8, 127, .bool (x164.Back != x177.Back)), (9, 128, .bool (x164.Back != x177.Back)), (10, 129, undef), (11, 130, undef), (12, 131, undef), (13, 132, undef), (14, 133, undef), (15, 134, undef), (16, 135, undef), (17, 136, undef), (18, 137, undef), (19, 138, undef), (20, 139, .bool true)]) rfl S ?_
      refine node_by (A := anc_piece_Read_2) (nf := []) (Y := []) (W := [(0, 119, .pointer (some ⟨b173, 0, none⟩)), (1, 120, .bool x164.Back), (2, 121, .pointer (some ⟨b147, 1, none⟩)), (3, 122, .slice ad145 r140.1.Rows.length cp146), (4, 123, iv s155), (5, 124, q185), (6, 125, q187), (7, 126, .bool x177.Back), (8, 127, .bool (x164.Back != x177.Back)), (9, 128, .bool (x164.Back != x177.Back)), (10, 129, undef), (11, 130, undef), (12, 131, undef), (13, 132, undef), (14, 133, undef), (15, 134, undef), (16, 135, undef), (17, 136, undef), (18, 137, undef), (19, 138, undef), (20, 139, .bool true)]) 21 (by kernel_rfl) (by kernel_rfl) (by kernel_rfl) (by kernel_rfl) (by kernel_rfl) [0, 1, 2, 3, 4, 5, 6, 7, 8, 9, 10, 11, 12, 13, 14, 15, 16, 17, 18, 19, 20] (by kernel_rfl) (by decide) (by decide) (aF 0 20 (by decide) ?_ (aF 1 19 (by decide) ?_ (aF 2 18 (by decide) ?_ (aF 3 17 (by decide) ?_ (aF 4 16 (by decide) ?_ (aF 5 15 (by decide) ?_ (aF 6 14 (by decide) ?_ (aF 7 13 (by decide) ?_ (aF 8 12 (by decide) ?_ (aF 9 11 (by decide) ?_ (aF 10 10 (by decide) ?_ (aF 11 9 (by decide) ?_ (aF 12 8 (by decide) ?_ (aF 13 7 (by decide) ?_ (aF 14 6 (by decide) ?_ (aF 15 5 (by decide) ?_ (aF 16 4 (by decide) ?_ (aF 17 3 (by decide) ?_ (aF 18 2 (by decide) ?_ (aF 19 1 (by decide) ?_ (aF 20 0 (by decide) ?_ (trivial)))))))))))))))))))))) [(4, .pointer (some ⟨b7, 0, none⟩)), (6, .pointer (some ⟨b24, 0, none⟩)), (12, .pointer (some ⟨b147, 0, none⟩)), (112, .slice ad3 p0.Rows.length cp4), (113, iv (p0.Rows.length : Int)), (114, iv s155), (129, undef), (130, undef), (131, undef), (132, undef), (133, undef), (134, undef), (135, undef), (136, undef), (137, undef), (138, undef), (139, .bool true)] (fin_of [none, none, none, none, none, none, some 10, some 11, some 12, some 13, some 14, some 15, some 16, some 17, some 18, some 19, some 20] rfl (by kernel_rfl) (by kernel_rfl)) (fun _ a w S => ?_)
      · refine fI 119 (.pointer (some ⟨b173, 0, none⟩)) [(15, .pointer (some ⟨b173, 0, none⟩))] 0 [none] rfl rfl rfl rfl rfl rfl fun G a w S => ?_
        refine sField (b := b173) (off := 0) 0 0 S (wN rfl) rfl rfl rfl rfl rfl (lb rfl) fun a S => ?_
        exact leafL ⟨rfl, S⟩
      · refine fI 120 (.bool x164.Back) [(119, .pointer (some ⟨b173, 0, none⟩))] 1 [some 0] rfl rfl rfl rfl rfl rfl fun G a w S => ?_
        refine sLoad1 (p := b173) (off := 0) (T := 54) (vs := [.bool x164.Back, .slice ad171 x164.Cells.length cp172]) 0 (.bool x164.Back) S (wN rfl) rfl rfl rfl rfl rfl rfl (lb rfl) fun a S => ?_
        exact leafL ⟨rfl, S⟩
      · refine fI 121 (.pointer (some ⟨b147, 1, none⟩)) [(12, .pointer (some ⟨b147, 0, none⟩))] 2 [none] rfl rfl rfl rfl rfl rfl fun G a w S => ?_
        refine sField (b := b147) (off := 0) 1 1 S (wN rfl) rfl rfl rfl rfl rfl (lb rfl) fun a S => ?_
        exact leafL ⟨rfl, S⟩
      · refine fI 122 (.slice ad145 r140.1.Rows.length cp146) [(121, .pointer (some ⟨b147, 1, none⟩))] 3 [some 2] rfl rfl rfl rfl rfl rfl fun G a w S => ?_
        refine sLoad1 (p := b147) (off := 1) (T := 40) (vs := [iv r140.1.Start, .slice ad145 r140.1.Rows.length cp146]) 3 (.slice ad145 r140.1.Rows.length cp146) S (wN rfl) rfl rfl rfl rfl rfl rfl (lb rfl) fun a S => ?_
        exact leafL ⟨rfl, S⟩
      · refine fI 123 (iv s155) [(14, iv s155)] 4 [none] rfl rfl rfl rfl rfl rfl fun G a w S => ?_
        refine sMove (iv s155) S (wN rfl) (.inl rfl) rfl rfl (lb rfl) fun a S => ?_
        exact leafL ⟨rfl, S⟩
      · refine fI 124 q185 [(122, .slice ad145 r140.1.Rows.length cp146), (123, iv s155)] 5 [some 3, some 4] rfl rfl rfl rfl rfl rfl fun G a w S => ?_
        refine sIdxV (v := .slice ad145 r140.1.Rows.length cp146) (k := .i64) (j := s155) S (wN rfl) rfl rfl rfl hq186 rfl (lb rfl) fun a S => ?_
        exact leafL ⟨rfl, S⟩
      · refine fI 125 q187 [(124, q185)] 6 [some 5] rfl rfl rfl rfl rfl rfl fun G a w S => ?_
        refine sFldV (q := q185) S (wN rfl) rfl rfl hq188 rfl (lb rfl) fun a S => ?_
        exact leafL ⟨rfl, S⟩
      · refine fI 126 (.bool x177.Back) [(125, q187)] 7 [some 6] rfl rfl rfl rfl rfl rfl fun G a w S => ?_
        refine sLoadV1 (vq := q187) 0 (.bool x177.Back) S (wN rfl) rfl rfl rfl rfl rfl (lb rfl) fun a S => ?_
        exact leafL ⟨rfl, S⟩
      · refine fI 127 (.bool (x164.Back != x177.Back)) [(120, .bool x164.Back), (126, .bool x177.Back)] 8 [some 1, some 7] rfl rfl rfl rfl rfl rfl fun G a w S => ?_
        refine sBin (.bool (x164.Back != x177.Back)) S (wN rfl) rfl rfl rfl (bNeB _ _ _ _ Tryd.underlying4 x164.Back x177.Back) rfl (lb rfl) fun a S => ?_
        exact leafL ⟨rfl, S⟩
      · refine fI 128 (.bool (x164.Back != x177.Back)) [(127, .bool (x164.Back != x177.Back))] 9 [some 8] rfl rfl rfl rfl rfl rfl fun G a w S => ?_
        refine sMove (.bool (x164.Back != x177.Back)) S (wN rfl) (.inl rfl) rfl rfl (lb rfl) fun a S => ?_
        exact leafL ⟨rfl, S⟩
      · refine fI 129 undef [(15, .pointer (some ⟨b173, 0, none⟩)), (128, .bool (x164.Back != x177.Back))] 10 [none, some 9] rfl rfl rfl rfl rfl rfl fun G a w S => ?_
        refine sSkip 9 false 128 129 S rfl rfl rfl hc184 rfl (lb rfl) fun a S => ?_
        exact leafL ⟨rfl, S⟩
      · refine fI 130 undef [(129, undef), (128, .bool (x164.Back != x177.Back))] 11 [some 10, some 9] rfl rfl rfl rfl rfl rfl fun G a w S => ?_
        refine sSkip 9 false 128 130 S rfl rfl rfl hc184 rfl (lb rfl) fun a S => ?_
        exact leafL ⟨rfl, S⟩
      · refine fI 131 undef [(12, .pointer (some ⟨b147, 0, none⟩)), (128, .bool (x164.Back != x177.Back))] 12 [none, some 9] rfl rfl rfl rfl rfl rfl fun G a w S => ?_
        refine sSkip 9 false 128 131 S rfl rfl rfl hc184 rfl (lb rfl) fun a S => ?_
        exact leafL ⟨rfl, S⟩
      · refine fI 132 undef [(131, undef), (128, .bool (x164.Back != x177.Back))] 13 [some 12, some 9] rfl rfl rfl rfl rfl rfl fun G a w S => ?_
        refine sSkip 9 false 128 132 S rfl rfl rfl hc184 rfl (lb rfl) fun a S => ?_
        exact leafL ⟨rfl, S⟩
      · refine fI 133 undef [(14, iv s155), (128, .bool (x164.Back != x177.Back))] 14 [none, some 9] rfl rfl rfl rfl rfl rfl fun G a w S => ?_
        refine sSkip 9 false 128 133 S rfl rfl rfl hc184 rfl (lb rfl) fun a S => ?_
        exact leafL ⟨rfl, S⟩
      · refine fI 134 undef [(132, undef), (133, undef), (128, .bool (x164.Back != x177.Back))] 15 [some 13, some 14, some 9] rfl rfl rfl rfl rfl rfl fun G a w S => ?_
        refine sSkip 9 false 128 134 S rfl rfl rfl hc184 rfl (lb rfl) fun a S => ?_
        exact leafL ⟨rfl, S⟩
      · refine fI 135 undef [(134, undef), (128, .bool (x164.Back != x177.Back))] 16 [some 15, some 9] rfl rfl rfl rfl rfl rfl fun G a w S => ?_
        refine sSkip 9 false 128 135 S rfl rfl rfl hc184 rfl (lb rfl) fun a S => ?_
        exact leafL ⟨rfl, S⟩
      · refine fI 136 undef [(135, undef), (128, .bool (x164.Back != x177.Back))] 17 [some 16, some 9] rfl rfl rfl rfl rfl rfl fun G a w S => ?_
        refine sSkip 9 false 128 136 S rfl rfl rfl hc184 rfl (lb rfl) fun a S => ?_
        exact leafL ⟨rfl, S⟩
      · refine fI 137 undef [(130, undef), (136, undef), (128, .bool (x164.Back != x177.Back))] 18 [some 11, some 17, some 9] rfl rfl rfl rfl rfl rfl fun G a w S => ?_
        refine sSkip 9 false 128 137 S rfl rfl rfl hc184 rfl (lb rfl) fun a S => ?_
        exact leafL ⟨rfl, S⟩
      · refine fI 138 undef [(137, undef), (128, .bool (x164.Back != x177.Back))] 19 [some 18, some 9] rfl rfl rfl rfl rfl rfl fun G a w S => ?_
        refine sSkip 9 false 128 138 S rfl rfl rfl hc184 rfl (lb rfl) fun a S => ?_
        exact leafL ⟨rfl, S⟩
      · refine fI 139 (.bool true) [(128, .bool (x164.Back != x177.Back)), (138, undef)] 20 [some 9, some 19] rfl rfl rfl rfl rfl rfl fun G a w S => ?_
        refine sPickT (.bool true) S (wN rfl) rfl rfl hc184 rfl rfl (lb rfl) fun a S => ?_
        exact leafL ⟨rfl, S⟩
      exact leafT (⟨true, Option.some.inj h, S.fix [1, 2, 3] [8, 9, 10, 11] (by decide) rfl rfl rfl⟩)
    obtain ⟨r197, hx198, h⟩ := bindSome h
    obtain ⟨q199, hq200, S⟩ := pIdx (P := Tryd.prog) (r := r_api_Row) (v := .slice ad145 r140.1.Rows.length cp146) (xs := r140.1.Rows) (j := s155) 38 54 7 S Tryd.underlying38 rfl rfl hx178
    obtain ⟨q201, hq202, S⟩ := pFld (P := Tryd.prog) (r := r_api_Row) (s2 := rB) (g := (·.Back)) (q := q199) (z := x177) 54 0 0 0 S rfl rfl comp_api_Row_Back
    obtain ⟨u203, S⟩ := pLoad (r := rB) (q := q201) (x := x177.Back) 0 S rfl
    obtain rfl : u203 = .bool x177.Back := S.mem.know (i := 1) (e := fRep rB (u203) x177.Back) rfl
    obtain ⟨q204, hq205, S⟩ := pIdx (P := Tryd.prog) (r := r_api_Row) (v := .slice ad145 r140.1.Rows.length cp146) (xs := r140.1.Rows) (j := s155) 38 54 11 S Tryd.underlying38 rfl rfl hx178
    obtain ⟨q206, hq207, S⟩ := pFld (P := Tryd.prog) (r := r_api_Row) (s2 := (rL r_api_Stitch)) (g := (·.Cells)) (q := q204) (z := x177) 54 1 0 1 S rfl rfl comp_api_Row_Cells
    obtain ⟨u208, S⟩ := pLoad (r := (rL r_api_Stitch)) (q := q206) (x := x177.Cells) 0 S rfl
    obtain ⟨ad209, cp210, _, rfl, _⟩ := S.mem.know (i := 1) (e := fRep (rL r_api_Stitch) (u208) x177.Cells) rfl
    refine sDraw (nf := []) (W := [(0, 119, .pointer (some ⟨b173, 0, none⟩)), (1, 120, .bool x164.Back), (2, 121, .pointer (some ⟨b147, 1, none⟩)), (3, 122, .slice ad145 r140.1.Rows.length cp146), (4, 123, iv s155), (5, 124, q199), (6, 125, q201), (7, 126, .bool x177.Back), (8, 127, .bool (x164.Back != x177.Back)), (9, 128, .bool (x164.Back != x177.Back)), (10, 129, .pointer (some ⟨b173, 1, none⟩)), (11, 130, .slice ad171 x164.Cells.length cp172), (12, 131, .pointer (some ⟨b147, 1, none⟩)), (13, 132, .slice ad145 r140.1.Rows.length cp146), (14, 133, iv s155), (15, 134, q204), (16, 135, q206), (17, 136, .slice ad209 x177.Cells.length cp210), (18, 137, .bool r197), (19, 138, .bool (!r197)), (20, 139, .bool (!r197))]) rfl S ?_
    refine node_by (A := anc_piece_Read_2) (nf := []) (Y := []) (W := [(0, 119, .pointer (some ⟨b173, 0, none⟩)), (1, 120, .bool x164.Back), (2, 121, .pointer (some ⟨b147, 1, none⟩)), (3, 122, .slice ad145 r140.1.Rows.length cp146), (4, 123, iv s155), (5, 124, q199), (6, 125, q201), (7, 126, .bool x177.Back), (8, 127, .bool (x164.Back != x177.Back)), (9, 128, .bool (x164.Back != x177.Back)), (10, 129, .pointer (some ⟨b173, 1, none⟩)), (11, 130, .slice ad171 x164.Cells.length cp172), (12, 131, .pointer (some ⟨b147, 1, none⟩)), (13, 132, .slice ad145 r140.1.Rows.length cp146), (14, 133, iv s155), (15, 134, q204), (16, 135, q206), (17, 136, .slice ad209 x177.Cells.length cp210), (18, 137, .bool r197), (19, 138, .bool (!r197)), (20, 139, .bool (!r197))]) 21 (by kernel_rfl) (by kernel_rfl) (by kernel_rfl) (by kernel_rfl) (by kernel_rfl) [0, 1, 2, 3, 4, 5, 6, 7, 8, 9, 10, 11, 12, 13, 14, 15, 16, 17, 18, 19, 20] (by kernel_rfl) (by decide) (by decide) (aF 0 20 (by decide) ?_ (aF 1 19 (by decide) ?_ (aF 2 18 (by decide) ?_ (aF 3 17 (by decide) ?_ (aF 4 16 (by decide) ?_ (aF 5 15 (by decide) ?_ (aF 6 14 (by decide) ?_ (aF 7 13 (by decide) ?_ (aF 8 12 (by decide) ?_ (aF 9 11 (by decide) ?_ (aF 10 10 (by decide) ?_ (aF 11 9 (by decide) ?_ (aF 12 8 (by decide) ?_ (aF 13 7 (by decide) ?_ (aF 14 6 (by decide) ?_ (aF 15 5 (by decide) ?_ (aF 16 4 (by decide) ?_ (aF 17 3 (by decide) ?_ (aF 18 2 (by decide) ?_ (aF 19 1 (by decide) ?_ (aF 20 0 (by decide) ?_ (trivial)))))))))))))))))))))) [(4, .pointer (some ⟨b7, 0, none⟩)), (6, .pointer (some ⟨b24, 0, none⟩)), (12, .pointer (some ⟨b147, 0, none⟩)), (112, .slice ad3 p0.Rows.length cp4), (113, iv (p0.Rows.length : Int)), (114, iv s155), (129, .pointer (some ⟨b173, 1, none⟩)), (130, .slice ad171 x164.Cells.length cp172), (131, .pointer (some ⟨b147, 1, none⟩)), (132, .slice ad145 r140.1.Rows.length cp146), (133, iv s155), (134, q204), (135, q206), (136, .slice ad209 x177.Cells.length cp210), (137, .bool r197), (138, .bool (!r197)), (139, .bool (!r197))] (fin_of [none, none, none, none, none, none, some 10, some 11, some 12, some 13, some 14, some 15, some 16, some 17, some 18, some 19, some 20] rfl (by kernel_rfl) (by kernel_rfl)) (fun _ a w S => ?_)
    · refine fI 119 (.pointer (some ⟨b173, 0, none⟩)) [(15, .pointer (some ⟨b173, 0, none⟩))] 0 [none] rfl rfl rfl rfl rfl rfl fun G a w S => ?_
      refine sField (b := b173) (off := 0) 0 0 S (wN rfl) rfl rfl rfl rfl rfl (lb rfl) fun a S => ?_
      exact leafL ⟨rfl, S⟩
    · refine fI 120 (.bool x164.Back) [(119, .pointer (some ⟨b173, 0, none⟩))] 1 [some 0] rfl rfl rfl rfl rfl rfl fun G a w S => ?_
      refine sLoad1 (p := b173) (off := 0) (T := 54) (vs := [.bool x164.Back, .slice ad171 x164.Cells.length cp172]) 0 (.bool x164.Back) S (wN rfl) rfl rfl rfl rfl rfl rfl (lb rfl) fun a S => ?_
      exact leafL ⟨rfl, S⟩
    · refine fI 121 (.pointer (some ⟨b147, 1, none⟩)) [(12, .pointer (some ⟨b147, 0, none⟩))] 2 [none] rfl rfl rfl rfl rfl rfl fun G a w S => ?_
      refine sField (b := b147) (off := 0) 1 1 S (wN rfl) rfl rfl rfl rfl rfl (lb rfl) fun a S => ?_
      exact leafL ⟨rfl, S⟩
    · refine fI 122 (.slice ad145 r140.1.Rows.length cp146) [(121, .pointer (some ⟨b147, 1, none⟩))] 3 [some 2] rfl rfl rfl rfl rfl rfl fun G a w S => ?_
      refine sLoad1 (p := b147) (off := 1) (T := 40) (vs := [iv r140.1.Start, .slice ad145 r140.1.Rows.length cp146]) 3 (.slice ad145 r140.1.Rows.length cp146) S (wN rfl) rfl rfl rfl rfl rfl rfl (lb rfl) fun a S => ?_
      exact leafL ⟨rfl, S⟩
    · refine fI 123 (iv s155) [(14, iv s155)] 4 [none] rfl rfl rfl rfl rfl rfl fun G a w S => ?_
      refine sMove (iv s155) S (wN rfl) (.inl rfl) rfl rfl (lb rfl) fun a S => ?_
      exact leafL ⟨rfl, S⟩
    · refine fI 124 q199 [(122, .slice ad145 r140.1.Rows.length cp146), (123, iv s155)] 5 [some 3, some 4] rfl rfl rfl rfl rfl rfl fun G a w S => ?_
      refine sIdxV (v := .slice ad145 r140.1.Rows.length cp146) (k := .i64) (j := s155) S (wN rfl) rfl rfl rfl hq200 rfl (lb rfl) fun a S => ?_
      exact leafL ⟨rfl, S⟩
    · refine fI 125 q201 [(124, q199)] 6 [some 5] rfl rfl rfl rfl rfl rfl fun G a w S => ?_
      refine sFldV (q := q199) S (wN rfl) rfl rfl hq202 rfl (lb rfl) fun a S => ?_
      exact leafL ⟨rfl, S⟩
    · refine fI 126 (.bool x177.Back) [(125, q201)] 7 [some 6] rfl rfl rfl rfl rfl rfl fun G a w S => ?_
      refine sLoadV1 (vq := q201) 4 (.bool x177.Back) S (wN rfl) rfl rfl rfl rfl rfl (lb rfl) fun a S => ?_
      exact leafL ⟨rfl, S⟩
    · refine fI 127 (.bool (x164.Back != x177.Back)) [(120, .bool x164.Back), (126, .bool x177.Back)] 8 [some 1, some 7] rfl rfl rfl rfl rfl rfl fun G a w S => ?_
      refine sBin (.bool (x164.Back != x177.Back)) S (wN rfl) rfl rfl rfl (bNeB _ _ _ _ Tryd.underlying4 x164.Back x177.Back) rfl (lb rfl) fun a S => ?_
      exact leafL ⟨rfl, S⟩
    · refine fI 128 (.bool (x164.Back != x177.Back)) [(127, .bool (x164.Back != x177.Back))] 9 [some 8] rfl rfl rfl rfl rfl rfl fun G a w S => ?_
      refine sMove (.bool (x164.Back != x177.Back)) S (wN rfl) (.inl rfl) rfl rfl (lb rfl) fun a S => ?_
      exact leafL ⟨rfl, S⟩
    · refine fI 129 (.pointer (some ⟨b173, 1, none⟩)) [(15, .pointer (some ⟨b173, 0, none⟩)), (128, .bool (x164.Back != x177.Back))] 10 [none, some 9] rfl rfl rfl rfl rfl rfl fun G a w S => ?_
      refine sField (b := b173) (off := 0) 1 1 S (wG 9 false 128 rfl rfl rfl hc184) rfl rfl rfl rfl rfl (lb rfl) fun a S => ?_
      exact leafL ⟨rfl, S⟩
    · refine fI 130 (.slice ad171 x164.Cells.length cp172) [(129, .pointer (some ⟨b173, 1, none⟩)), (128, .bool (x164.Back != x177.Back))] 11 [some 10, some 9] rfl rfl rfl rfl rfl rfl fun G a w S => ?_
      refine sLoad1 (p := b173) (off := 1) (T := 54) (vs := [.bool x164.Back, .slice ad171 x164.Cells.length cp172]) 0 (.slice ad171 x164.Cells.length cp172) S (wG 9 false 128 rfl rfl rfl hc184) rfl rfl rfl rfl rfl rfl (lb rfl) fun a S => ?_
      exact leafL ⟨rfl, S⟩
    · refine fI 131 (.pointer (some ⟨b147, 1, none⟩)) [(12, .pointer (some ⟨b147, 0, none⟩)), (128, .bool (x164.Back != x177.Back))] 12 [none, some 9] rfl rfl rfl rfl rfl rfl fun G a w S => ?_
      refine sField (b := b147) (off := 0) 1 1 S (wG 9 false 128 rfl rfl rfl hc184) rfl rfl rfl rfl rfl (lb rfl) fun a S => ?_
      exact leafL ⟨rfl, S⟩
    · refine fI 132 (.slice ad145 r140.1.Rows.length cp146) [(131, .pointer (some ⟨b147, 1, none⟩)), (128, .bool (x164.Back != x177.Back))] 13 [some 12, some 9] rfl rfl rfl rfl rfl rfl fun G a w S => ?_
      refine sLoad1 (p := b147) (off := 1) (T := 40) (vs := [iv r140.1.Start, .slice ad145 r140.1.Rows.length cp146]) 3 (.slice ad145 r140.1.Rows.length cp146) S (wG 9 false 128 rfl rfl rfl hc184) rfl rfl rfl rfl rfl rfl (lb rfl) fun a S => ?_
      exact leafL ⟨rfl, S⟩
    · refine fI 133 (iv s155) [(14, iv s155), (128, .bool (x164.Back != x177.Back))] 14 [none, some 9] rfl rfl rfl rfl rfl rfl fun G a w S => ?_
      refine sMove (iv s155) S (wG 9 false 128 rfl rfl rfl hc184) (.inl rfl) rfl rfl (lb rfl) fun a S => ?_
      exact leafL ⟨rfl, S⟩
    · refine fI 134 q204 [(132, .slice ad145 r140.1.Rows.length cp146), (133, iv s155), (128, .bool (x164.Back != x177.Back))] 15 [some 13, some 14, some 9] rfl rfl rfl rfl rfl rfl fun G a w S => ?_
      refine sIdxV (v := .slice ad145 r140.1.Rows.length cp146) (k := .i64) (j := s155) S (wG 9 false 128 rfl rfl rfl hc184) rfl rfl rfl hq205 rfl (lb rfl) fun a S => ?_
      exact leafL ⟨rfl, S⟩
    · refine fI 135 q206 [(134, q204), (128, .bool (x164.Back != x177.Back))] 16 [some 15, some 9] rfl rfl rfl rfl rfl rfl fun G a w S => ?_
      refine sFldV (q := q204) S (wG 9 false 128 rfl rfl rfl hc184) rfl rfl hq207 rfl (lb rfl) fun a S => ?_
      exact leafL ⟨rfl, S⟩
    · refine fI 136 (.slice ad209 x177.Cells.length cp210) [(135, q206), (128, .bool (x164.Back != x177.Back))] 17 [some 16, some 9] rfl rfl rfl rfl rfl rfl fun G a w S => ?_
      refine sLoadV1 (vq := q206) 0 (.slice ad209 x177.Cells.length cp210) S (wG 9 false 128 rfl rfl rfl hc184) rfl rfl rfl rfl rfl (lb rfl) fun a S => ?_
      exact leafL ⟨rfl, S⟩
    · refine fI 137 (.bool r197) [(130, .slice ad171 x164.Cells.length cp172), (136, .slice ad209 x177.Cells.length cp210), (128, .bool (x164.Back != x177.Back))] 18 [some 11, some 17, some 9] rfl rfl rfl rfl rfl rfl fun G a w S => ?_
      have S1 := S.mem
      refine sCallQ (X := Unit) (f := 42) (vs := [.slice ad171 x164.Cells.length cp172, .slice ad209 x177.Cells.length cp210]) (val := fun _ => .bool r197) S (wG 9 false 128 rfl rfl rfl hc184) rfl callee42 rfl (S1.quiet [8, 1] rfl) (fun E1 w1 S1 => c_stitch_Same E1 w1 x164.Cells (.slice ad171 x164.Cells.length cp172) x177.Cells (.slice ad209 x177.Cells.length cp210) r197 hx198 S1) rfl (lb rfl) fun _ a w S => ?_
      exact leafL ⟨rfl, S⟩
    · refine fI 138 (.bool (!r197)) [(137, .bool r197), (128, .bool (x164.Back != x177.Back))] 19 [some 18, some 9] rfl rfl rfl rfl rfl rfl fun G a w S => ?_
      refine sNot (b := r197) S (wG 9 false 128 rfl rfl rfl hc184) rfl rfl rfl (lb rfl) fun a S => ?_
      exact leafL ⟨rfl, S⟩
    · refine fI 139 (.bool (!r197)) [(128, .bool (x164.Back != x177.Back)), (138, .bool (!r197))] 20 [some 9, some 19] rfl rfl rfl rfl rfl rfl fun G a w S => ?_
      refine sPickF (.bool (!r197)) S (wN rfl) rfl rfl hc184 rfl rfl (lb rfl) fun a S => ?_
      exact leafL ⟨rfl, S⟩
    exact leafT (⟨!r197, Option.some.inj h, S.fix [1, 2, 3] [12, 13, 14, 15] (by decide) rfl rfl rfl⟩)
  refine sSeq (fun K33 hK33 => ?_)
  refine sRegion ?_
  refine sField (b := b6) (off := 0) 1 1 S (wN rfl) rfl rfl rfl rfl rfl (lb rfl) fun a S => ?_
  refine sLoad1 (p := b6) (off := 1) (T := 40) (vs := [iv p0.Start, .slice ad3 p0.Rows.length cp4]) 3 (.slice ad3 p0.Rows.length cp4) S (wN rfl) rfl rfl rfl rfl rfl rfl (lb rfl) fun a S => ?_
  refine sLen (ad := ad3) (m := p0.Rows.length) (c := cp4) S (wN rfl) rfl Tryd.underlying38 rfl rfl (lb rfl) fun a S => ?_
  refine sMove (iv 0) S (wN rfl) (.inl rfl) rfl rfl (lb rfl) fun a S => ?_
  refine leafL (leafT (hK33 _ _ ?_))
  refine wp_block ?_
  obtain ⟨t43, hl, g42⟩ := bindSome h
  refine sLoop hl (fun s0 a w => match s0 with | (s34, s35, s38) => ∃ ad36, ∃ cp37, ∃ ad39, ∃ cp40, St [] E [] w0 143 a w [(2, .pointer (some ⟨b6, 0, none⟩)), (4, .pointer (some ⟨b7, 0, none⟩)), (6, .pointer (some ⟨b24, 0, none⟩)), (45, .slice ad3 p0.Rows.length cp4), (46, iv (p0.Rows.length : Int)), (47, iv s34)] [eBox b6 40 [iv p0.Start, .slice ad3 p0.Rows.length cp4], eBox b7 30 [.slice none 0 0, .slice none 0 0], eBox b24 30 [.slice ad36 s35.length cp37, .slice ad39 s38.length cp40], eRow (rI .i64) 3 (.slice ad36 s35.length cp37) s35, eRow (rI .i64) 3 (.slice ad39 s38.length cp40) s38] [fRep (rL r_api_Row) (.slice ad3 p0.Rows.length cp4) p0.Rows]) ⟨ad20, cp21, ad22, cp23, S.fix [3, 4, 0, 2, 1] [0] (by decide) rfl rfl rfl⟩ ?_
  clear hl h
  intro s0 a w c0 hI h hu41
  obtain ⟨s34, s35, s38⟩ := s0
  unfold piece_Read_l1 at h
  dsimp only at h hI
  obtain ⟨ad36, cp37, ad39, cp40, S⟩ := hI
  refine sSeq (fun K50 hK50 => ?_)
  refine sRegion ?_
  refine sBin (.bool (decide (s34 < (p0.Rows.length : Int)))) S (wN rfl) rfl rfl rfl (bLt _ _ _ _ .i64 s34 (p0.Rows.length : Int)) rfl (lb rfl) fun a S => ?_
  refine leafL (leafT (hK50 _ _ ?_))
  refine sSeq (fun K51 hK51 => ?_)
  rcases iteSome h with ⟨hc52, h⟩ | ⟨hc52, h⟩
  rotate_left
  · refine sCondF S rfl hc52 ?_
    obtain rfl := Option.some.inj h
    obtain rfl := hu41 _ rfl
    have h := g42
    clear g42
    try dsimp only at h
    exact wp_exit (xThen (xThen (xHit (leafT (⟨s35, s38, Option.some.inj h, ad36, cp37, ad39, cp40, S.fix [0, 1, 2, 3, 4] [0] (by decide) rfl rfl rfl⟩)))))
  refine sCondT S rfl hc52 ?_
  refine wp_skip (leafT (hK51 _ _ ?_))
  refine sSeq (fun K53 hK53 => ?_)
  refine wp_block ?_
  refine sSeq (fun K54 hK54 => ?_)
  refine sRegion ?_
  refine sMove (iv s34) S (wN rfl) (.inl rfl) rfl rfl (lb rfl) fun a S => ?_
  obtain ⟨x55, hx56, h⟩ := bindSome h
  obtain ⟨q57, hq58, S⟩ := pIdx (P := Tryd.prog) (r := r_api_Row) (v := .slice ad3 p0.Rows.length cp4) (xs := p0.Rows) (j := s34) 38 54 0 S Tryd.underlying38 rfl rfl hx56
  refine sIdxV (v := .slice ad3 p0.Rows.length cp4) (k := .i64) (j := s34) S (wN rfl) rfl rfl rfl hq58 rfl (lb rfl) fun a S => ?_
  obtain ⟨u59, S⟩ := pLoad (r := r_api_Row) (q := q57) (x := x55) 0 S rfl
  obtain ⟨u60, rfl, hu61⟩ := S.mem.know (i := 1) (e := fRep r_api_Row (u59) x55) rfl
  have S := S.learn (fRep (rL r_api_Stitch) u60 x55.Cells) hu61
  obtain ⟨ad62, cp63, _, rfl, _⟩ := hu61
  refine sLoadVN (vq := q57) 1 [.bool x55.Back, .slice ad62 x55.Cells.length cp63] S (wN rfl) rfl rfl rfl rfl rfl rfl (lb rfl) fun a S => ?_
  refine sAlloc (.agg #[.bool false, .slice none 0 0]) S (wN rfl) rfl rfl [.bool false, .slice none 0 0] rfl rfl (lb rfl) fun a b64 w S => ?_
  refine sMove (iv s34) S (wN rfl) (.inr rfl) rfl rfl (lb rfl) fun a S => ?_
  refine sStore (p := b64) (off := 0) (T := 54) (vs := [.bool false, .slice none 0 0]) (v := .agg #[.bool x55.Back, .slice ad62 x55.Cells.length cp63]) 0 [.bool x55.Back, .slice ad62 x55.Cells.length cp63] S (wN rfl) rfl rfl rfl rfl rfl rfl rfl (by simp) rfl fun a w S => ?_
  refine leafL (leafT (hK54 _ _ ?_))
  refine sSeq (fun K65 hK65 => ?_)
  refine sRegion ?_
  refine sField (b := b64) (off := 0) 1 1 S (wN rfl) rfl rfl rfl rfl rfl (lb rfl) fun a S => ?_
  refine sLoad1 (p := b64) (off := 1) (T := 54) (vs := [.bool x55.Back, .slice ad62 x55.Cells.length cp63]) 0 (.slice ad62 x55.Cells.length cp63) S (wN rfl) rfl rfl rfl rfl rfl rfl (lb rfl) fun a S => ?_
  refine sMove (.slice ad62 x55.Cells.length cp63) S (wN rfl) (.inr rfl) rfl rfl (lb rfl) fun a S => ?_
  refine leafL (leafT (hK65 _ _ ?_))
  refine sSeq (fun K66 hK66 => ?_)
  obtain ⟨t68, h, g69⟩ := bindSome h
  refine sCut (fun a w => ∃ o67, o67 = t68 ∧ St [] E [] w0 143 a w [(2, .pointer (some ⟨b6, 0, none⟩)), (4, .pointer (some ⟨b7, 0, none⟩)), (6, .pointer (some ⟨b24, 0, none⟩)), (7, iv s34), (8, .pointer (some ⟨b64, 0, none⟩)), (9, .slice ad62 x55.Cells.length cp63), (45, .slice ad3 p0.Rows.length cp4), (46, iv (p0.Rows.length : Int)), (47, iv s34), (61, .bool o67)] [eBox b6 40 [iv p0.Start, .slice ad3 p0.Rows.length cp4], eBox b7 30 [.slice none 0 0, .slice none 0 0], eBox b24 30 [.slice ad36 s35.length cp37, .slice ad39 s38.length cp40], eBox b64 54 [.bool x55.Back, .slice ad62 x55.Cells.length cp63], eRow (rI .i64) 3 (.slice ad36 s35.length cp37) s35, eRow (rI .i64) 3 (.slice ad39 s38.length cp40) s38] [fRep (rL r_api_Stitch) (.slice ad62 x55.Cells.length cp63) x55.Cells, fRep (rL r_api_Row) (.slice ad3 p0.Rows.length cp4) p0.Rows]) ?_ (fun a w hI => ?_)
  · refine sRegion ?_
    refine sMove (.slice ad62 x55.Cells.length cp63) S (wN rfl) (.inl rfl) rfl rfl (lb rfl) fun a S => ?_
    refine sLen (ad := ad62) (m := x55.Cells.length) (c := cp63) S (wN rfl) rfl Tryd.underlying52 rfl rfl (lb rfl) fun a S => ?_
    refine sBin (.bool ((x55.Cells.length : Int) == 0)) S (wN rfl) rfl rfl rfl (bEq _ _ _ _ .i64 (x55.Cells.length : Int) 0) rfl (lb rfl) fun a S => ?_
    refine sMove (.bool ((x55.Cells.length : Int) == 0)) S (wN rfl) (.inl rfl) rfl rfl (lb rfl) fun a S => ?_
    rcases iteSome h with ⟨hc70, h⟩ | ⟨hc70, h⟩
    · refine sSkip 3 false 57 58 S rfl rfl rfl hc70 rfl (lb rfl) fun a S => ?_
      refine sSkip 3 false 57 59 S rfl rfl rfl hc70 rfl (lb rfl) fun a S => ?_
      refine sSkip 3 false 57 60 S rfl rfl rfl hc70 rfl (lb rfl) fun a S => ?_
      refine sPickT (.bool true) S (wN rfl) rfl rfl hc70 rfl rfl (lb rfl) fun a S => ?_
      exact leafL (leafT (⟨true, Option.some.inj h, S.fix [1, 2, 3, 0, 4, 5] [0, 4] (by decide) rfl rfl rfl⟩))
    refine sMove (.slice ad62 x55.Cells.length cp63) S (wG 3 false 57 rfl rfl rfl hc70) (.inl rfl) rfl rfl (lb rfl) fun a S => ?_
    obtain ⟨r71, hx72, h⟩ := bindSome h
    have S1 := S.mem
    refine sCallQ (X := Unit) (f := 40) (vs := [.slice ad62 x55.Cells.length cp63]) (val := fun _ => iv r71) S (wG 3 false 57 rfl rfl rfl hc70) rfl callee40 rfl (S1.quiet [0] rfl) (fun E1 w1 S1 => c_stitch_All E1 w1 x55.Cells (.slice ad62 x55.Cells.length cp63) r71 hx72 S1) rfl (lb rfl) fun _ a w S => ?_
    refine sBin (.bool (r71 != 0)) S (wG 3 false 57 rfl rfl rfl hc70) rfl rfl rfl (bNe _ _ _ _ .i64 r71 0) rfl (lb rfl) fun a S => ?_
    refine sPickF (.bool (r71 != 0)) S (wN rfl) rfl rfl hc70 rfl rfl (lb rfl) fun a S => ?_
    exact leafL (leafT (⟨r71 != 0, Option.some.inj h, S.fix [1, 2, 3, 0, 4, 5] [0, 4] (by decide) rfl rfl rfl⟩))
  obtain ⟨o67, rfl, S⟩ := hI
  have h := g69
  clear g69
  try dsimp only at h
  rcases iteSome h with ⟨hc73, h⟩ | ⟨hc73, h⟩
  · refine sCondT S rfl hc73 ?_
    refine sSeq (fun K74 hK74 => ?_)
    refine sRegion ?_
    refine sBuild [] [.slice none 0 0, .slice none 0 0] S (wN rfl) rfl rfl rfl rfl (lb rfl) fun a S => ?_
    refine sStore (p := b7) (off := 0) (T := 30) (vs := [.slice none 0 0, .slice none 0 0]) (v := .agg #[.slice none 0 0, .slice none 0 0]) 1 [.slice none 0 0, .slice none 0 0] S (wN rfl) rfl rfl rfl rfl rfl rfl rfl (by simp) rfl fun a w S => ?_
    refine sMove (iv 8) S (wN rfl) (.inr rfl) rfl rfl (lb rfl) fun a S => ?_
    refine leafL (leafT (hK74 _ _ ?_))
    obtain rfl := Option.some.inj h
    obtain rfl := hu41 _ rfl
    have h := g42
    clear g42
    try dsimp only at h
    obtain rfl := Option.some.inj h
    have h := g32
    clear g32
    try dsimp only at h
    obtain rfl := Option.some.inj h
    have S := S.learn (fRep (rL (rI .i64)) (.slice none 0 0) ([] : (List Int))) (rL_nil _ _ _)
    have S := S.learn (fRep r_api_Piece (.agg #[.slice none 0 0, .slice none 0 0]) (api_Piece.mk ([] : (List Int)) ([] : (List Int)))) ⟨_, _, rfl, S.mem.know (i := 0) (e := fRep (rL (rI .i64)) (.slice none 0 0) ([] : (List Int))) rfl, S.mem.know (i := 0) (e := fRep (rL (rI .i64)) (.slice none 0 0) ([] : (List Int))) rfl⟩
    exact wp_ret (rThen (rBlock (rThen (rThen (rBlock (rThen (sRet (.tuple #[.agg #[.slice none 0 0, .slice none 0 0], iv 8]) S (rsl2 rfl (rvN (c := 4) (t := 30) (T := 30) (p := b7) 0 [.slice none 0 0, .slice none 0 0] S rfl rfl rfl rfl) (rvT (t := 5) (v := iv 8) S rfl)) ⟨(.agg #[.slice none 0 0, .slice none 0 0]), rfl, S.mem.sel [] [0] (by decide) rfl rfl⟩)))))))
  refine sCondF S rfl hc73 ?_
  refine wp_skip (leafT (hK66 _ _ ?_))
  refine sSeq (fun K75 hK75 => ?_)
  obtain ⟨x76, hx77, h⟩ := bindSome h
  obtain ⟨r81, hx82, h⟩ := bindSome h
  obtain ⟨x83, hx84, h⟩ := bindSome h
  obtain ⟨r88, hx89, h⟩ := bindSome h
  obtain ⟨q90, hq91, S⟩ := pIdx (P := Tryd.prog) (r := r_api_Stitch) (v := .slice ad62 x55.Cells.length cp63) (xs := x55.Cells) (j := 0) 52 56 0 S Tryd.underlying52 rfl rfl hx77
  obtain ⟨u92, S⟩ := pLoad (r := r_api_Stitch) (q := q90) (x := x76) 0 S rfl
  obtain rfl : u92 = .agg #[.int .u8 x76.Kind, .bool x76.Purl, iv x76.A, iv x76.B] := S.mem.know (i := 1) (e := fRep r_api_Stitch (u92) x76) rfl
  obtain ⟨q93, hq94, S⟩ := pIdx (P := Tryd.prog) (r := r_api_Stitch) (v := .slice ad62 x55.Cells.length cp63) (xs := x55.Cells) (j := w64 ((x55.Cells.length : Int) - 1)) 52 56 3 S Tryd.underlying52 rfl rfl hx84
  obtain ⟨u95, S⟩ := pLoad (r := r_api_Stitch) (q := q93) (x := x83) 0 S rfl
  obtain rfl : u95 = .agg #[.int .u8 x83.Kind, .bool x83.Purl, iv x83.A, iv x83.B] := S.mem.know (i := 1) (e := fRep r_api_Stitch (u95) x83) rfl
  refine sDraw (nf := []) (W := [(0, 63, .slice ad62 x55.Cells.length cp63), (1, 64, q90), (2, 65, .agg #[.int .u8 x76.Kind, .bool x76.Purl, iv x76.A, iv x76.B]), (3, 66, iv r81), (4, 67, .slice ad62 x55.Cells.length cp63), (5, 68, .slice ad62 x55.Cells.length cp63), (6, 69, iv (x55.Cells.length : Int)), (7, 70, iv (w64 ((x55.Cells.length : Int) - 1))), (8, 71, q93), (9, 72, .agg #[.int .u8 x83.Kind, .bool x83.Purl, iv x83.A, iv x83.B]), (10, 73, iv r88), (11, 10, iv r81), (12, 11, iv r88)]) rfl S ?_
  refine node_by (A := anc_piece_Read_0) (nf := []) (Y := []) (W := [(0, 63, .slice ad62 x55.Cells.length cp63), (1, 64, q90), (2, 65, .agg #[.int .u8 x76.Kind, .bool x76.Purl, iv x76.A, iv x76.B]), (3, 66, iv r81), (4, 67, .slice ad62 x55.Cells.length cp63), (5, 68, .slice ad62 x55.Cells.length cp63), (6, 69, iv (x55.Cells.length : Int)), (7, 70, iv (w64 ((x55.Cells.length : Int) - 1))), (8, 71, q93), (9, 72, .agg #[.int .u8 x83.Kind, .bool x83.Purl, iv x83.A, iv x83.B]), (10, 73, iv r88), (11, 10, iv r81), (12, 11, iv r88)]) 13 (by kernel_rfl) (by kernel_rfl) (by kernel_rfl) (by kernel_rfl) (by kernel_rfl) [0, 1, 2, 3, 4, 5, 6, 7, 8, 9, 10, 11, 12] (by kernel_rfl) (by decide) (by decide) (aF 0 12 (by decide) ?_ (aF 1 11 (by decide) ?_ (aF 2 10 (by decide) ?_ (aF 3 9 (by decide) ?_ (aF 4 8 (by decide) ?_ (aF 5 7 (by decide) ?_ (aF 6 6 (by decide) ?_ (aF 7 5 (by decide) ?_ (aF 8 4 (by decide) ?_ (aF 9 3 (by decide) ?_ (aF 10 2 (by decide) ?_ (aF 11 1 (by decide) ?_ (aF 12 0 (by decide) ?_ (trivial)))))))))))))) [(2, .pointer (some ⟨b6, 0, none⟩)), (4, .pointer (some ⟨b7, 0, none⟩)), (6, .pointer (some ⟨b24, 0, none⟩)), (7, iv s34), (8, .pointer (some ⟨b64, 0, none⟩)), (10, iv r81), (11, iv r88), (45, .slice ad3 p0.Rows.length cp4), (46, iv (p0.Rows.length : Int)), (47, iv s34)] (fin_of [none, none, none, none, none, some 11, some 12, none, none, none] rfl (by kernel_rfl) (by kernel_rfl)) (fun _ a w S => ?_)
  · refine fI 63 (.slice ad62 x55.Cells.length cp63) [(9, .slice ad62 x55.Cells.length cp63)] 0 [none] rfl rfl rfl rfl rfl rfl fun G a w S => ?_
    refine sMove (.slice ad62 x55.Cells.length cp63) S (wN rfl) (.inl rfl) rfl rfl (lb rfl) fun a S => ?_
    exact leafL ⟨rfl, S⟩
  · refine fI 64 q90 [(63, .slice ad62 x55.Cells.length cp63)] 1 [some 0] rfl rfl rfl rfl rfl rfl fun G a w S => ?_
    refine sIdxV (v := .slice ad62 x55.Cells.length cp63) (k := .i64) (j := 0) S (wN rfl) rfl rfl rfl hq91 rfl (lb rfl) fun a S => ?_
    exact leafL ⟨rfl, S⟩
  · refine fI 65 (.agg #[.int .u8 x76.Kind, .bool x76.Purl, iv x76.A, iv x76.B]) [(64, q90)] 2 [some 1] rfl rfl rfl rfl rfl rfl fun G a w S => ?_
    refine sLoadVN (vq := q90) 3 [.int .u8 x76.Kind, .bool x76.Purl, iv x76.A, iv x76.B] S (wN rfl) rfl rfl rfl rfl rfl rfl (lb rfl) fun a S => ?_
    exact leafL ⟨rfl, S⟩
  · refine fI 66 (iv r81) [(65, .agg #[.int .u8 x76.Kind, .bool x76.Purl, iv x76.A, iv x76.B])] 3 [some 2] rfl rfl rfl rfl rfl rfl fun G a w S => ?_
    have S1 := S.mem
    refine sCallQ (X := Unit) (f := 41) (vs := [.agg #[.int .u8 x76.Kind, .bool x76.Purl, iv x76.A, iv x76.B]]) (val := fun _ => iv r81) S (wN rfl) rfl callee41 rfl (S1.quiet [4] rfl) (fun E1 w1 S1 => c_piece_grows E1 w1 x76 (.agg #[.int .u8 x76.Kind, .bool x76.Purl, iv x76.A, iv x76.B]) r81 hx82 S1) rfl (lb rfl) fun _ a w S => ?_
    exact leafL ⟨rfl, S⟩
  · refine fI 67 (.slice ad62 x55.Cells.length cp63) [(9, .slice ad62 x55.Cells.length cp63)] 4 [none] rfl rfl rfl rfl rfl rfl fun G a w S => ?_
    refine sMove (.slice ad62 x55.Cells.length cp63) S (wN rfl) (.inl rfl) rfl rfl (lb rfl) fun a S => ?_
    exact leafL ⟨rfl, S⟩
  · refine fI 68 (.slice ad62 x55.Cells.length cp63) [(9, .slice ad62 x55.Cells.length cp63)] 5 [none] rfl rfl rfl rfl rfl rfl fun G a w S => ?_
    refine sMove (.slice ad62 x55.Cells.length cp63) S (wN rfl) (.inl rfl) rfl rfl (lb rfl) fun a S => ?_
    exact leafL ⟨rfl, S⟩
  · refine fI 69 (iv (x55.Cells.length : Int)) [(68, .slice ad62 x55.Cells.length cp63)] 6 [some 5] rfl rfl rfl rfl rfl rfl fun G a w S => ?_
    refine sLen (ad := ad62) (m := x55.Cells.length) (c := cp63) S (wN rfl) rfl Tryd.underlying52 rfl rfl (lb rfl) fun a S => ?_
    exact leafL ⟨rfl, S⟩
  · refine fI 70 (iv (w64 ((x55.Cells.length : Int) - 1))) [(69, iv (x55.Cells.length : Int))] 7 [some 6] rfl rfl rfl rfl rfl rfl fun G a w S => ?_
    refine sBin (iv (w64 ((x55.Cells.length : Int) - 1))) S (wN rfl) rfl rfl rfl (bSub _ _ _ _ (x55.Cells.length : Int) 1) rfl (lb rfl) fun a S => ?_
    exact leafL ⟨rfl, S⟩
  · refine fI 71 q93 [(67, .slice ad62 x55.Cells.length cp63), (70, iv (w64 ((x55.Cells.length : Int) - 1)))] 8 [some 4, some 7] rfl rfl rfl rfl rfl rfl fun G a w S => ?_
    refine sIdxV (v := .slice ad62 x55.Cells.length cp63) (k := .i64) (j := w64 ((x55.Cells.length : Int) - 1)) S (wN rfl) rfl rfl rfl hq94 rfl (lb rfl) fun a S => ?_
    exact leafL ⟨rfl, S⟩
  · refine fI 72 (.agg #[.int .u8 x83.Kind, .bool x83.Purl, iv x83.A, iv x83.B]) [(71, q93)] 9 [some 8] rfl rfl rfl rfl rfl rfl fun G a w S => ?_
    refine sLoadVN (vq := q93) 0 [.int .u8 x83.Kind, .bool x83.Purl, iv x83.A, iv x83.B] S (wN rfl) rfl rfl rfl rfl rfl rfl (lb rfl) fun a S => ?_
    exact leafL ⟨rfl, S⟩
  · refine fI 73 (iv r88) [(72, .agg #[.int .u8 x83.Kind, .bool x83.Purl, iv x83.A, iv x83.B])] 10 [some 9] rfl rfl rfl rfl rfl rfl fun G a w S => ?_
    have S1 := S.mem
    refine sCallQ (X := Unit) (f := 41) (vs := [.agg #[.int .u8 x83.Kind, .bool x83.Purl, iv x83.A, iv x83.B]]) (val := fun _ => iv r88) S (wN rfl) rfl callee41 rfl (S1.quiet [1] rfl) (fun E1 w1 S1 => c_piece_grows E1 w1 x83 (.agg #[.int .u8 x83.Kind, .bool x83.Purl, iv x83.A, iv x83.B]) r88 hx89 S1) rfl (lb rfl) fun _ a w S => ?_
    exact leafL ⟨rfl, S⟩
  · refine fI 10 (iv r81) [(66, iv r81)] 11 [some 3] rfl rfl rfl rfl rfl rfl fun G a w S => ?_
    refine sMove (iv r81) S (wN rfl) (.inr rfl) rfl rfl (lb rfl) fun a S => ?_
    exact leafL ⟨rfl, S⟩
  · refine fI 11 (iv r88) [(73, iv r88)] 12 [some 10] rfl rfl rfl rfl rfl rfl fun G a w S => ?_
    refine sMove (iv r88) S (wN rfl) (.inr rfl) rfl rfl (lb rfl) fun a S => ?_
    exact leafL ⟨rfl, S⟩
  refine leafT (hK75 _ _ ?_)
  obtain ⟨t98, h, g99⟩ := bindSome h
  refine sCut (fun a w => ∃ o96, ∃ o97, (o96, o97) = t98 ∧ St [] E [] w0 143 a w [(2, .pointer (some ⟨b6, 0, none⟩)), (4, .pointer (some ⟨b7, 0, none⟩)), (6, .pointer (some ⟨b24, 0, none⟩)), (7, iv s34), (10, iv o96), (11, iv o97), (45, .slice ad3 p0.Rows.length cp4), (46, iv (p0.Rows.length : Int)), (47, iv s34)] [eBox b6 40 [iv p0.Start, .slice ad3 p0.Rows.length cp4], eBox b7 30 [.slice none 0 0, .slice none 0 0], eBox b24 30 [.slice ad36 s35.length cp37, .slice ad39 s38.length cp40], eRow (rI .i64) 3 (.slice ad36 s35.length cp37) s35, eRow (rI .i64) 3 (.slice ad39 s38.length cp40) s38] [fRep (rL r_api_Row) (.slice ad3 p0.Rows.length cp4) p0.Rows]) ?_ (fun a w hI => ?_)
  · refine sSeq (fun K100 hK100 => ?_)
    refine sRegion ?_
    refine sField (b := b64) (off := 0) 0 0 S (wN rfl) rfl rfl rfl rfl rfl (lb rfl) fun a S => ?_
    refine sLoad1 (p := b64) (off := 0) (T := 54) (vs := [.bool x55.Back, .slice ad62 x55.Cells.length cp63]) 3 (.bool x55.Back) S (wN rfl) rfl rfl rfl rfl rfl rfl (lb rfl) fun a S => ?_
    refine leafL (leafT (hK100 _ _ ?_))
    rcases iteSome h with ⟨hc101, h⟩ | ⟨hc101, h⟩
    rotate_left
    · refine sCondF S rfl hc101 ?_
      exact wp_skip (leafT (⟨r81, r88, Option.some.inj h, S.fix [0, 1, 2, 4, 5] [7] (by decide) rfl rfl rfl⟩))
    refine sCondT S rfl hc101 ?_
    refine sRegion ?_
    refine sMove (iv r88) S (wN rfl) (.inl rfl) rfl rfl (lb rfl) fun a S => ?_
    refine sMove (iv r81) S (wN rfl) (.inl rfl) rfl rfl (lb rfl) fun a S => ?_
    refine sMove (iv r88) S (wN rfl) (.inr rfl) rfl rfl (lb rfl) fun a S => ?_
    refine sMove (iv r81) S (wN rfl) (.inr rfl) rfl rfl (lb rfl) fun a S => ?_
    exact leafL (leafT (⟨r88, r81, Option.some.inj h, S.fix [0, 1, 2, 4, 5] [7] (by decide) rfl rfl rfl⟩))
  obtain ⟨o96, o97, rfl, S⟩ := hI
  have h := g99
  clear g99
  try dsimp only at h
  refine sSeq (fun K102 hK102 => ?_)
  obtain ⟨x103, hx104, h⟩ := bindSome h
  obtain ⟨l110, hx111, h⟩ := bindSome h
  obtain ⟨q114, hq115, hp116⟩ := pIdxR (P := Tryd.prog) (r := (rI .i64)) (T := 3) (v := .slice ad36 s35.length cp37) (xs := s35) (j := s34) 28 3 3 S Tryd.underlying28 rfl rfl hx104
  refine sDraw (nf := [9, 10, 12]) (W := [(0, 78, .pointer (some ⟨b24, 0, none⟩)), (1, 79, .slice ad36 s35.length cp37), (2, 80, .pointer (some ⟨b24, 0, none⟩)), (3, 81, .slice ad36 s35.length cp37), (4, 82, iv s34), (5, 83, q114), (6, 84, iv x103), (7, 85, iv o97), (8, 86, iv (w64 (x103 - o97)))]) rfl S ?_
  refine node_by (A := anc_piece_Read_1) (nf := [9, 10, 12]) (Y := []) (W := [(0, 78, .pointer (some ⟨b24, 0, none⟩)), (1, 79, .slice ad36 s35.length cp37), (2, 80, .pointer (some ⟨b24, 0, none⟩)), (3, 81, .slice ad36 s35.length cp37), (4, 82, iv s34), (5, 83, q114), (6, 84, iv x103), (7, 85, iv o97), (8, 86, iv (w64 (x103 - o97)))]) 13 (by kernel_rfl) (by kernel_rfl) (by kernel_rfl) (by kernel_rfl) (by kernel_rfl) [0, 1, 2, 3, 4, 5, 6, 7, 8] (by kernel_rfl) (by decide) (by decide) (aF 0 12 (by decide) ?_ (aF 1 11 (by decide) ?_ (aF 2 10 (by decide) ?_ (aF 3 9 (by decide) ?_ (aF 4 8 (by decide) ?_ (aF 5 7 (by decide) ?_ (aF 6 6 (by decide) ?_ (aF 7 5 (by decide) ?_ (aF 8 4 (by decide) ?_ (aN 9 3 (by decide) ?_ (aB 10 2 9 (by decide) (aE 11 1 9 (by decide) (aB 12 0 9 (by decide) (trivial)))))))))))))) [] (fun q hq => by cases hq) (fun hY => absurd (hY 9 (by decide)) (by decide))
  · refine fI 78 (.pointer (some ⟨b24, 0, none⟩)) [(6, .pointer (some ⟨b24, 0, none⟩))] 0 [none] rfl rfl rfl rfl rfl rfl fun G a w S => ?_
    refine sField (b := b24) (off := 0) 0 0 S (wN rfl) rfl rfl rfl rfl rfl (lb rfl) fun a S => ?_
    exact leafL ⟨rfl, S⟩
  · refine fI 79 (.slice ad36 s35.length cp37) [(78, .pointer (some ⟨b24, 0, none⟩))] 1 [some 0] rfl rfl rfl rfl rfl rfl fun G a w S => ?_
    refine sLoad1 (p := b24) (off := 0) (T := 30) (vs := [.slice ad36 s35.length cp37, .slice ad39 s38.length cp40]) 2 (.slice ad36 s35.length cp37) S (wN rfl) rfl rfl rfl rfl rfl rfl (lb rfl) fun a S => ?_
    exact leafL ⟨rfl, S⟩
  · refine fI 80 (.pointer (some ⟨b24, 0, none⟩)) [(6, .pointer (some ⟨b24, 0, none⟩))] 2 [none] rfl rfl rfl rfl rfl rfl fun G a w S => ?_
    refine sField (b := b24) (off := 0) 0 0 S (wN rfl) rfl rfl rfl rfl rfl (lb rfl) fun a S => ?_
    exact leafL ⟨rfl, S⟩
  · refine fI 81 (.slice ad36 s35.length cp37) [(80, .pointer (some ⟨b24, 0, none⟩))] 3 [some 2] rfl rfl rfl rfl rfl rfl fun G a w S => ?_
    refine sLoad1 (p := b24) (off := 0) (T := 30) (vs := [.slice ad36 s35.length cp37, .slice ad39 s38.length cp40]) 2 (.slice ad36 s35.length cp37) S (wN rfl) rfl rfl rfl rfl rfl rfl (lb rfl) fun a S => ?_
    exact leafL ⟨rfl, S⟩
  · refine fI 82 (iv s34) [(7, iv s34)] 4 [none] rfl rfl rfl rfl rfl rfl fun G a w S => ?_
    refine sMove (iv s34) S (wN rfl) (.inl rfl) rfl rfl (lb rfl) fun a S => ?_
    exact leafL ⟨rfl, S⟩
  · refine fI 83 q114 [(81, .slice ad36 s35.length cp37), (82, iv s34)] 5 [some 3, some 4] rfl rfl rfl rfl rfl rfl fun G a w S => ?_
    refine sIdxV (v := .slice ad36 s35.length cp37) (k := .i64) (j := s34) S (wN rfl) rfl rfl rfl hq115 rfl (lb rfl) fun a S => ?_
    exact leafL ⟨rfl, S⟩
  · refine fI 84 (iv x103) [(83, q114)] 6 [some 5] rfl rfl rfl rfl rfl rfl fun G a w S => ?_
    refine sLoadR (r := (rI .i64)) (T := 3) (xs := s35) (x := x103) (v := .slice ad36 s35.length cp37) (vq := q114) (j := s34) 3 (iv x103) S hp116 (wN rfl) rfl rfl rfl hx104 (fun _ _ _ h => h) (scal_I _) rfl rfl (lb rfl) fun a S => ?_
    exact leafL ⟨rfl, S⟩
  · refine fI 85 (iv o97) [(11, iv o97)] 7 [none] rfl rfl rfl rfl rfl rfl fun G a w S => ?_
    refine sMove (iv o97) S (wN rfl) (.inl rfl) rfl rfl (lb rfl) fun a S => ?_
    exact leafL ⟨rfl, S⟩
  · refine fI 86 (iv (w64 (x103 - o97))) [(84, iv x103), (85, iv o97)] 8 [some 6, some 7] rfl rfl rfl rfl rfl rfl fun G a w S => ?_
    refine sBin (iv (w64 (x103 - o97))) S (wN rfl) rfl rfl rfl (bSub _ _ _ _ x103 o97) rfl (lb rfl) fun a S => ?_
    exact leafL ⟨rfl, S⟩
  refine ⟨_, [(86, iv (w64 (x103 - o97)))], rfl, (srcs_of [some 8] rfl rfl rfl), fun G a w S => ?_⟩
  refine sLit (r := (rI .i64)) (T := 3) (xs := ([w64 (x103 - o97)] : List Int)) [(0, iv (w64 (x103 - o97)))] 1 [iv (w64 (x103 - o97))] [iv (w64 (x103 - o97))] (iv 0) 8 S (wN rfl) rfl rfl Tryd.underlying28 rfl (by decide) (by decide) (by kernel_rfl) rfl (fun E1 w1 hE => All.cons rfl (All.nil _ _ _)) rfl rfl (lb rfl) fun a w ad117 cp118 S => ?_
  refine leafL ⟨rfl, _, _, .inl ⟨87, (.slice ad117 ([w64 (x103 - o97)] : List Int).length cp118), [], rfl, S, hz_of rfl, ?_⟩⟩
  refine node_by (A := anc_piece_Read_1) (nf := [9, 10, 12]) (Y := [9]) 13 (by kernel_rfl) (by kernel_rfl) (by kernel_rfl) (by kernel_rfl) (by kernel_rfl) [9, 0, 1, 2, 3, 4, 5, 6, 7, 8] (by kernel_rfl) (by decide) (by decide) (aF 0 12 (by decide) ?_ (aF 1 11 (by decide) ?_ (aD 2 10 9 (by decide) (aD 3 9 9 (by decide) (aD 4 8 9 (by decide) (aD 5 7 9 (by decide) (aD 6 6 9 (by decide) (aD 7 5 9 (by decide) (aD 8 4 9 (by decide) (aY 9 3 (by decide) (aN 10 2 (by decide) ?_ (aE 11 1 10 (by decide) (aB 12 0 10 (by decide) (trivial)))))))))))))) [] (fun q hq => by cases hq) (fun hY => absurd (hY 10 (by decide)) (by decide))
  · refine fI 78 (.pointer (some ⟨b24, 0, none⟩)) [(6, .pointer (some ⟨b24, 0, none⟩))] 1 [none] rfl rfl rfl rfl rfl rfl fun G a w S => ?_
    refine sField (b := b24) (off := 0) 0 0 S (wN rfl) rfl rfl rfl rfl rfl (lb rfl) fun a S => ?_
    exact leafL ⟨rfl, S⟩
  · refine fI 79 (.slice ad36 s35.length cp37) [(78, .pointer (some ⟨b24, 0, none⟩))] 2 [some 1] rfl rfl rfl rfl rfl rfl fun G a w S => ?_
    refine sLoad1 (p := b24) (off := 0) (T := 30) (vs := [.slice ad36 s35.length cp37, .slice ad39 s38.length cp40]) 3 (.slice ad36 s35.length cp37) S (wN rfl) rfl rfl rfl rfl rfl rfl (lb rfl) fun a S => ?_
    exact leafL ⟨rfl, S⟩
  refine ⟨_, [(79, .slice ad36 s35.length cp37), (87, .slice ad117 ([w64 (x103 - o97)] : List Int).length cp118)], rfl, (srcs_of [some 2, some 0] rfl rfl rfl), fun G a w S => ?_⟩
  refine sApp (r := (rI .i64)) (T := 3) (xs := s35) (ys := ([w64 (x103 - o97)] : List Int)) (v := .slice ad36 s35.length cp37) (u := .slice ad117 ([w64 (x103 - o97)] : List Int).length cp118) 4 (iv 0) 8 S (wN rfl) rfl Tryd.underlying28 rfl rfl (by decide) rfl rfl rfl (src_R (T := 3) 0 S.mem rfl) hx111 rfl (lb rfl) fun a w ad119 cp120 S => ?_
  refine leafL ⟨rfl, _, _, .inl ⟨88, (.slice ad119 l110.length cp120), [(11, 89, .pointer (some ⟨b24, 0, none⟩))], rfl, S, hz_of rfl, ?_⟩⟩
  refine node_by (A := anc_piece_Read_1) (nf := [9, 10, 12]) (Y := [10, 9]) 13 (by kernel_rfl) (by kernel_rfl) (by kernel_rfl) (by kernel_rfl) (by kernel_rfl) [11, 10, 9, 0, 1, 2, 3, 4, 5, 6, 7, 8] (by kernel_rfl) (by decide) (by decide) (aD 0 12 10 (by decide) (aD 1 11 10 (by decide) (aD 2 10 10 (by decide) (aD 3 9 10 (by decide) (aD 4 8 10 (by decide) (aD 5 7 10 (by decide) (aD 6 6 10 (by decide) (aD 7 5 10 (by decide) (aD 8 4 10 (by decide) (aY 9 3 (by decide) (aY 10 2 (by decide) (aF 11 1 (by decide) ?_ (aN 12 0 (by decide) ?_ (trivial)))))))))))))) [] (fun q hq => by cases hq) (fun hY => absurd (hY 12 (by decide)) (by decide))
  · refine fI 89 (.pointer (some ⟨b24, 0, none⟩)) [(6, .pointer (some ⟨b24, 0, none⟩))] 0 [none] rfl rfl rfl rfl rfl rfl fun G a w S => ?_
    refine sField (b := b24) (off := 0) 0 0 S (wN rfl) rfl rfl rfl rfl rfl (lb rfl) fun a S => ?_
    exact leafL ⟨rfl, S⟩
  refine ⟨_, [(88, .slice ad119 l110.length cp120), (89, .pointer (some ⟨b24, 0, none⟩))], rfl, (srcs_of [some 1, some 0] rfl rfl rfl), fun G a w S => ?_⟩
  refine sStore (p := b24) (off := 0) (T := 30) (vs := [.slice ad36 s35.length cp37, .slice ad39 s38.length cp40]) (v := .slice ad119 l110.length cp120) 4 [.slice ad119 l110.length cp120] S (wN rfl) rfl rfl rfl rfl rfl rfl rfl (by simp) rfl fun a w S => ?_
  refine leafL ⟨rfl, _, _, .inr ⟨[], rfl, S, hz_of rfl, ?_⟩⟩
  refine node_by (A := anc_piece_Read_1) (nf := [9, 10, 12]) (Y := [12, 10, 9]) 13 (by kernel_rfl) (by kernel_rfl) (by kernel_rfl) (by kernel_rfl) (by kernel_rfl) [11, 10, 9, 0, 1, 2, 3, 4, 5, 6, 7, 8] (by kernel_rfl) (by decide) (by decide) (aD 0 12 12 (by decide) (aD 1 11 12 (by decide) (aD 2 10 12 (by decide) (aD 3 9 12 (by decide) (aD 4 8 12 (by decide) (aD 5 7 12 (by decide) (aD 6 6 12 (by decide) (aD 7 5 12 (by decide) (aD 8 4 12 (by decide) (aY 9 3 (by decide) (aY 10 2 (by decide) (aD 11 1 12 (by decide) (aY 12 0 (by decide) (trivial)))))))))))))) [(2, .pointer (some ⟨b6, 0, none⟩)), (4, .pointer (some ⟨b7, 0, none⟩)), (6, .pointer (some ⟨b24, 0, none⟩)), (7, iv s34), (10, iv o96), (45, .slice ad3 p0.Rows.length cp4), (46, iv (p0.Rows.length : Int)), (47, iv s34)] (fin_of [none, none, none, none, none, none, none, none] rfl (by kernel_rfl) (by kernel_rfl)) (fun _ a w S => ?_)
  refine leafT (hK102 _ _ ?_)
  obtain ⟨x121, hx122, h⟩ := bindSome h
  obtain ⟨l128, hx129, h⟩ := bindSome h
  obtain ⟨q132, hq133, hp134⟩ := pIdxR (P := Tryd.prog) (r := (rI .i64)) (T := 3) (v := .slice ad39 s38.length cp40) (xs := s38) (j := s34) 28 3 5 S Tryd.underlying28 rfl rfl hx122
  refine sDraw (nf := [9, 10, 12]) (W := [(0, 90, .pointer (some ⟨b24, 1, none⟩)), (1, 91, .slice ad39 s38.length cp40), (2, 92, .pointer (some ⟨b24, 1, none⟩)), (3, 93, .slice ad39 s38.length cp40), (4, 94, iv s34), (5, 95, q132), (6, 96, iv x121), (7, 97, iv o96), (8, 98, iv (w64 (x121 + o96)))]) rfl S ?_
  refine node_by (A := anc_piece_Read_1) (nf := [9, 10, 12]) (Y := []) (W := [(0, 90, .pointer (some ⟨b24, 1, none⟩)), (1, 91, .slice ad39 s38.length cp40), (2, 92, .pointer (some ⟨b24, 1, none⟩)), (3, 93, .slice ad39 s38.length cp40), (4, 94, iv s34), (5, 95, q132), (6, 96, iv x121), (7, 97, iv o96), (8, 98, iv (w64 (x121 + o96)))]) 13 (by kernel_rfl) (by kernel_rfl) (by kernel_rfl) (by kernel_rfl) (by kernel_rfl) [0, 1, 2, 3, 4, 5, 6, 7, 8] (by kernel_rfl) (by decide) (by decide) (aF 0 12 (by decide) ?_ (aF 1 11 (by decide) ?_ (aF 2 10 (by decide) ?_ (aF 3 9 (by decide) ?_ (aF 4 8 (by decide) ?_ (aF 5 7 (by decide) ?_ (aF 6 6 (by decide) ?_ (aF 7 5 (by decide) ?_ (aF 8 4 (by decide) ?_ (aN 9 3 (by decide) ?_ (aB 10 2 9 (by decide) (aE 11 1 9 (by decide) (aB 12 0 9 (by decide) (trivial)))))))))))))) [] (fun q hq => by cases hq) (fun hY => absurd (hY 9 (by decide)) (by decide))
  · refine fI 90 (.pointer (some ⟨b24, 1, none⟩)) [(6, .pointer (some ⟨b24, 0, none⟩))] 0 [none] rfl rfl rfl rfl rfl rfl fun G a w S => ?_
    refine sField (b := b24) (off := 0) 1 1 S (wN rfl) rfl rfl rfl rfl rfl (lb rfl) fun a S => ?_
    exact leafL ⟨rfl, S⟩
  · refine fI 91 (.slice ad39 s38.length cp40) [(90, .pointer (some ⟨b24, 1, none⟩))] 1 [some 0] rfl rfl rfl rfl rfl rfl fun G a w S => ?_
    refine sLoad1 (p := b24) (off := 1) (T := 30) (vs := [.slice ad119 l110.length cp120, .slice ad39 s38.length cp40]) 0 (.slice ad39 s38.length cp40) S (wN rfl) rfl rfl rfl rfl rfl rfl (lb rfl) fun a S => ?_
    exact leafL ⟨rfl, S⟩
  · refine fI 92 (.pointer (some ⟨b24, 1, none⟩)) [(6, .pointer (some ⟨b24, 0, none⟩))] 2 [none] rfl rfl rfl rfl rfl rfl fun G a w S => ?_
    refine sField (b := b24) (off := 0) 1 1 S (wN rfl) rfl rfl rfl rfl rfl (lb rfl) fun a S => ?_
    exact leafL ⟨rfl, S⟩
  · refine fI 93 (.slice ad39 s38.length cp40) [(92, .pointer (some ⟨b24, 1, none⟩))] 3 [some 2] rfl rfl rfl rfl rfl rfl fun G a w S => ?_
    refine sLoad1 (p := b24) (off := 1) (T := 30) (vs := [.slice ad119 l110.length cp120, .slice ad39 s38.length cp40]) 0 (.slice ad39 s38.length cp40) S (wN rfl) rfl rfl rfl rfl rfl rfl (lb rfl) fun a S => ?_
    exact leafL ⟨rfl, S⟩
  · refine fI 94 (iv s34) [(7, iv s34)] 4 [none] rfl rfl rfl rfl rfl rfl fun G a w S => ?_
    refine sMove (iv s34) S (wN rfl) (.inl rfl) rfl rfl (lb rfl) fun a S => ?_
    exact leafL ⟨rfl, S⟩
  · refine fI 95 q132 [(93, .slice ad39 s38.length cp40), (94, iv s34)] 5 [some 3, some 4] rfl rfl rfl rfl rfl rfl fun G a w S => ?_
    refine sIdxV (v := .slice ad39 s38.length cp40) (k := .i64) (j := s34) S (wN rfl) rfl rfl rfl hq133 rfl (lb rfl) fun a S => ?_
    exact leafL ⟨rfl, S⟩
  · refine fI 96 (iv x121) [(95, q132)] 6 [some 5] rfl rfl rfl rfl rfl rfl fun G a w S => ?_
    refine sLoadR (r := (rI .i64)) (T := 3) (xs := s38) (x := x121) (v := .slice ad39 s38.length cp40) (vq := q132) (j := s34) 5 (iv x121) S hp134 (wN rfl) rfl rfl rfl hx122 (fun _ _ _ h => h) (scal_I _) rfl rfl (lb rfl) fun a S => ?_
    exact leafL ⟨rfl, S⟩
  · refine fI 97 (iv o96) [(10, iv o96)] 7 [none] rfl rfl rfl rfl rfl rfl fun G a w S => ?_
    refine sMove (iv o96) S (wN rfl) (.inl rfl) rfl rfl (lb rfl) fun a S => ?_
    exact leafL ⟨rfl, S⟩
  · refine fI 98 (iv (w64 (x121 + o96))) [(96, iv x121), (97, iv o96)] 8 [some 6, some 7] rfl rfl rfl rfl rfl rfl fun G a w S => ?_
    refine sBin (iv (w64 (x121 + o96))) S (wN rfl) rfl rfl rfl (bAdd _ _ _ _ x121 o96) rfl (lb rfl) fun a S => ?_
    exact leafL ⟨rfl, S⟩
  refine ⟨_, [(98, iv (w64 (x121 + o96)))], rfl, (srcs_of [some 8] rfl rfl rfl), fun G a w S => ?_⟩
  refine sLit (r := (rI .i64)) (T := 3) (xs := ([w64 (x121 + o96)] : List Int)) [(0, iv (w64 (x121 + o96)))] 1 [iv (w64 (x121 + o96))] [iv (w64 (x121 + o96))] (iv 0) 8 S (wN rfl) rfl rfl Tryd.underlying28 rfl (by decide) (by decide) (by kernel_rfl) rfl (fun E1 w1 hE => All.cons rfl (All.nil _ _ _)) rfl rfl (lb rfl) fun a w ad135 cp136 S => ?_
  refine leafL ⟨rfl, _, _, .inl ⟨99, (.slice ad135 ([w64 (x121 + o96)] : List Int).length cp136), [], rfl, S, hz_of rfl, ?_⟩⟩
  refine node_by (A := anc_piece_Read_1) (nf := [9, 10, 12]) (Y := [9]) 13 (by kernel_rfl) (by kernel_rfl) (by kernel_rfl) (by kernel_rfl) (by kernel_rfl) [9, 0, 1, 2, 3, 4, 5, 6, 7, 8] (by kernel_rfl) (by decide) (by decide) (aF 0 12 (by decide) ?_ (aF 1 11 (by decide) ?_ (aD 2 10 9 (by decide) (aD 3 9 9 (by decide) (aD 4 8 9 (by decide) (aD 5 7 9 (by decide) (aD 6 6 9 (by decide) (aD 7 5 9 (by decide) (aD 8 4 9 (by decide) (aY 9 3 (by decide) (aN 10 2 (by decide) ?_ (aE 11 1 10 (by decide) (aB 12 0 10 (by decide) (trivial)))))))))))))) [] (fun q hq => by cases hq) (fun hY => absurd (hY 10 (by decide)) (by decide))
  · refine fI 90 (.pointer (some ⟨b24, 1, none⟩)) [(6, .pointer (some ⟨b24, 0, none⟩))] 1 [none] rfl rfl rfl rfl rfl rfl fun G a w S => ?_
    refine sField (b := b24) (off := 0) 1 1 S (wN rfl) rfl rfl rfl rfl rfl (lb rfl) fun a S => ?_
    exact leafL ⟨rfl, S⟩
  · refine fI 91 (.slice ad39 s38.length cp40) [(90, .pointer (some ⟨b24, 1, none⟩))] 2 [some 1] rfl rfl rfl rfl rfl rfl fun G a w S => ?_
    refine sLoad1 (p := b24) (off := 1) (T := 30) (vs := [.slice ad119 l110.length cp120, .slice ad39 s38.length cp40]) 1 (.slice ad39 s38.length cp40) S (wN rfl) rfl rfl rfl rfl rfl rfl (lb rfl) fun a S => ?_
    exact leafL ⟨rfl, S⟩
  refine ⟨_, [(91, .slice ad39 s38.length cp40), (99, .slice ad135 ([w64 (x121 + o96)] : List Int).length cp136)], rfl, (srcs_of [some 2, some 0] rfl rfl rfl), fun G a w S => ?_⟩
  refine sApp (r := (rI .i64)) (T := 3) (xs := s38) (ys := ([w64 (x121 + o96)] : List Int)) (v := .slice ad39 s38.length cp40) (u := .slice ad135 ([w64 (x121 + o96)] : List Int).length cp136) 6 (iv 0) 8 S (wN rfl) rfl Tryd.underlying28 rfl rfl (by decide) rfl rfl rfl (src_R (T := 3) 0 S.mem rfl) hx129 rfl (lb rfl) fun a w ad137 cp138 S => ?_
  refine leafL ⟨rfl, _, _, .inl ⟨100, (.slice ad137 l128.length cp138), [(11, 101, .pointer (some ⟨b24, 1, none⟩))], rfl, S, hz_of rfl, ?_⟩⟩
  refine node_by (A := anc_piece_Read_1) (nf := [9, 10, 12]) (Y := [10, 9]) 13 (by kernel_rfl) (by kernel_rfl) (by kernel_rfl) (by kernel_rfl) (by kernel_rfl) [11, 10, 9, 0, 1, 2, 3, 4, 5, 6, 7, 8] (by kernel_rfl) (by decide) (by decide) (aD 0 12 10 (by decide) (aD 1 11 10 (by decide) (aD 2 10 10 (by decide) (aD 3 9 10 (by decide) (aD 4 8 10 (by decide) (aD 5 7 10 (by decide) (aD 6 6 10 (by decide) (aD 7 5 10 (by decide) (aD 8 4 10 (by decide) (aY 9 3 (by decide) (aY 10 2 (by decide) (aF 11 1 (by decide) ?_ (aN 12 0 (by decide) ?_ (trivial)))))))))))))) [] (fun q hq => by cases hq) (fun hY => absurd (hY 12 (by decide)) (by decide))
  · refine fI 101 (.pointer (some ⟨b24, 1, none⟩)) [(6, .pointer (some ⟨b24, 0, none⟩))] 0 [none] rfl rfl rfl rfl rfl rfl fun G a w S => ?_
    refine sField (b := b24) (off := 0) 1 1 S (wN rfl) rfl rfl rfl rfl rfl (lb rfl) fun a S => ?_
    exact leafL ⟨rfl, S⟩
  refine ⟨_, [(100, .slice ad137 l128.length cp138), (101, .pointer (some ⟨b24, 1, none⟩))], rfl, (srcs_of [some 1, some 0] rfl rfl rfl), fun G a w S => ?_⟩
  refine sStore (p := b24) (off := 1) (T := 30) (vs := [.slice ad119 l110.length cp120, .slice ad39 s38.length cp40]) (v := .slice ad137 l128.length cp138) 2 [.slice ad137 l128.length cp138] S (wN rfl) rfl rfl rfl rfl rfl rfl rfl (by simp) rfl fun a w S => ?_
  refine leafL ⟨rfl, _, _, .inr ⟨[], rfl, S, hz_of rfl, ?_⟩⟩
  refine node_by (A := anc_piece_Read_1) (nf := [9, 10, 12]) (Y := [12, 10, 9]) 13 (by kernel_rfl) (by kernel_rfl) (by kernel_rfl) (by kernel_rfl) (by kernel_rfl) [11, 10, 9, 0, 1, 2, 3, 4, 5, 6, 7, 8] (by kernel_rfl) (by decide) (by decide) (aD 0 12 12 (by decide) (aD 1 11 12 (by decide) (aD 2 10 12 (by decide) (aD 3 9 12 (by decide) (aD 4 8 12 (by decide) (aD 5 7 12 (by decide) (aD 6 6 12 (by decide) (aD 7 5 12 (by decide) (aD 8 4 12 (by decide) (aY 9 3 (by decide) (aY 10 2 (by decide) (aD 11 1 12 (by decide) (aY 12 0 (by decide) (trivial)))))))))))))) [(2, .pointer (some ⟨b6, 0, none⟩)), (4, .pointer (some ⟨b7, 0, none⟩)), (6, .pointer (some ⟨b24, 0, none⟩)), (45, .slice ad3 p0.Rows.length cp4), (46, iv (p0.Rows.length : Int)), (47, iv s34)] (fin_of [none, none, none, none, none, none] rfl (by kernel_rfl) (by kernel_rfl)) (fun _ a w S => ?_)
  refine leafB (leafT (hK53 _ _ ?_))
  refine sRegion ?_
  refine sBin (iv (w64 (s34 + 1))) S (wN rfl) rfl rfl rfl (bAdd _ _ _ _ s34 1) rfl (lb rfl) fun a S => ?_
  refine sMove (iv (w64 (s34 + 1))) S (wN rfl) (.inl rfl) rfl rfl (lb rfl) fun a S => ?_
  exact leafL (leafT (⟨(w64 (s34 + 1), l110, l128), (Option.some.inj h).symm, ⟨ad119, cp120, ad137, cp138, S.fix [5, 6, 0, 3, 1] [0] (by decide) rfl rfl rfl⟩⟩))

end Go.Proofs.YtmedbnjhgkcndaaDoor
namespace Go.Proofs.YtmedbnjhgkcndaaDoor
open Go.RowKit
set_option linter.unusedVariables false

def anc_raddleref36_Same_0 : List (List Nat) := [[], [], [0, 1], [0, 1, 2], [], [], [4, 5], [4, 5, 6], [0, 1, 2, 3, 4, 5, 6, 7]]
noncomputable def raddleref36_Same_l1 (p0 : (List Int)) (p1 : (List Int)) : Int → Option (Int ⊕ (Bool ⊕ Unit)) := fun s0 => match s0 with
  | s13 =>
    if decide (s13 < (p0.length : Int)) then
      Option.bind (idxO p0 s13) fun x22 =>
      Option.bind (idxO p1 s13) fun x27 =>
      if x22 != x27 then
        some (.inr (.inl false))
      else
        some (.inl (w64 (s13 + 1)))
    else
      some (.inr (.inr ()))
noncomputable def F_raddleref36_Same (p0 : (List Int)) (p1 : (List Int)) : Option Bool :=
  if (p0.length : Int) != (p1.length : Int) then
    some false
  else
    Option.bind (α := Unit ⊕ Bool) (
      Option.bind (whileO (raddleref36_Same_l1 p0 p1) 0) fun z0 => match z0 with
        | .inl z =>
          some (.inr z)
        | .inr _ =>
          some (.inl ())) fun z0 => match z0 with
      | .inl _ =>
        some true
      | .inr z =>
        some z
set_option maxHeartbeats 4000000 in
set_option maxRecDepth 100000 in
theorem c_raddleref36_Same (E : Nat → Prop) (w0 : World) (p0 : (List Int)) (v0 : Value) (p1 : (List Int)) (v1 : Value) (r : Bool) (h : F_raddleref36_Same p0 p1 = some r) (S : St0 E [] w0 w0 [] [fRep (rL (rI .i64)) (v0) p0, fRep (rL (rI .i64)) (v1) p1]) :
    Calls Tryd.prog 43 #[v0, v1] w0 (Ret (X := Unit) E [] w0 (fun _ => .bool r) (fun _ => []) (fun _ => [])) := by
  unfold F_raddleref36_Same at h
  obtain ⟨ad1, cp2, _, rfl, _⟩ := S.know (i := 0) (e := fRep (rL (rI .i64)) (v0) p0) rfl
  obtain ⟨ad3, cp4, _, rfl, _⟩ := S.know (i := 1) (e := fRep (rL (rI .i64)) (v1) p1) rfl
  refine sEnter (args := [.slice ad1 p0.length cp2, .slice ad3 p1.length cp4]) 26 Tryd.func43 rfl rfl (by simp) S (fun a S => ?_)
  refine sSeq (fun K5 hK5 => ?_)
  refine sRegion ?_
  refine sMove (.bool false) S (wN rfl) (.inr rfl) rfl rfl (lb rfl) fun a S => ?_
  refine leafL (leafT (hK5 _ _ ?_))
  refine sSeq (fun K6 hK6 => ?_)
  refine sSeq (fun K7 hK7 => ?_)
  refine sRegion ?_
  refine sMove (.slice ad1 p0.length cp2) S (wN rfl) (.inl rfl) rfl rfl (lb rfl) fun a S => ?_
  refine sLen (ad := ad1) (m := p0.length) (c := cp2) S (wN rfl) rfl Tryd.underlying28 rfl rfl (lb rfl) fun a S => ?_
  refine sMove (.slice ad3 p1.length cp4) S (wN rfl) (.inl rfl) rfl rfl (lb rfl) fun a S => ?_
  refine sLen (ad := ad3) (m := p1.length) (c := cp4) S (wN rfl) rfl Tryd.underlying28 rfl rfl (lb rfl) fun a S => ?_
  refine sBin (.bool ((p0.length : Int) != (p1.length : Int))) S (wN rfl) rfl rfl rfl (bNe _ _ _ _ .i64 (p0.length : Int) (p1.length : Int)) rfl (lb rfl) fun a S => ?_
  refine leafL (leafT (hK7 _ _ ?_))
  rcases iteSome h with ⟨hc8, h⟩ | ⟨hc8, h⟩
  · refine sCondT S rfl hc8 ?_
    refine sSeq (fun K9 hK9 => ?_)
    refine sRegion ?_
    refine sMove (.bool false) S (wN rfl) (.inr rfl) rfl rfl (lb rfl) fun a S => ?_
    refine leafL (leafT (hK9 _ _ ?_))
    obtain rfl := Option.some.inj h
    exact wp_ret (rThen (sRet (.bool false) S (rsl1 rfl (rvT (t := 4) (v := .bool false) S rfl)) ⟨(), rfl, S.mem.sel [] [] (by decide) rfl rfl⟩))
  refine sCondF S rfl hc8 ?_
  refine wp_skip (leafT (hK6 _ _ ?_))
  obtain ⟨t10, h, g11⟩ := bindSome h
  refine sCut (fun a w => .inl () = t10 ∧ St [] E [] w0 26 a w [] [] []) ?_ (fun a w hI => ?_)
  rotate_left
  · obtain ⟨rfl, S⟩ := hI
    have h := g11
    clear g11
    try dsimp only at h
    refine sSeq (fun K40 hK40 => ?_)
    refine sRegion ?_
    refine sMove (.bool true) S (wN rfl) (.inr rfl) rfl rfl (lb rfl) fun a S => ?_
    refine leafL (leafT (hK40 _ _ ?_))
    obtain rfl := Option.some.inj h
    exact wp_ret (sRet (.bool true) S (rsl1 rfl (rvT (t := 4) (v := .bool true) S rfl)) ⟨(), rfl, S.mem.sel [] [] (by decide) rfl rfl⟩)
  refine sSeq (fun K12 hK12 => ?_)
  refine sRegion ?_
  refine sMove (iv 0) S (wN rfl) (.inr rfl) rfl rfl (lb rfl) fun a S => ?_
  refine leafL (leafT (hK12 _ _ ?_))
  refine wp_block ?_
  obtain ⟨t16, hl, g15⟩ := bindSome h
  refine sLoop hl (fun s0 a w => match s0 with | s13 => St [] E [] w0 26 a w [(0, .slice ad1 p0.length cp2), (1, .slice ad3 p1.length cp4), (5, iv s13)] [] [fRep (rL (rI .i64)) (.slice ad1 p0.length cp2) p0, fRep (rL (rI .i64)) (.slice ad3 p1.length cp4) p1]) (S.fix [] [0, 1] (by decide) rfl rfl rfl) ?_
  clear hl h
  intro s13 a w c0 hI h hu14
  unfold raddleref36_Same_l1 at h
  dsimp only at h hI
  have S := hI
  refine sSeq (fun K17 hK17 => ?_)
  refine sSeq (fun K18 hK18 => ?_)
  refine sRegion ?_
  refine sMove (iv s13) S (wN rfl) (.inl rfl) rfl rfl (lb rfl) fun a S => ?_
  refine sMove (.slice ad1 p0.length cp2) S (wN rfl) (.inl rfl) rfl rfl (lb rfl) fun a S => ?_
  refine sLen (ad := ad1) (m := p0.length) (c := cp2) S (wN rfl) rfl Tryd.underlying28 rfl rfl (lb rfl) fun a S => ?_
  refine sBin (.bool (decide (s13 < (p0.length : Int)))) S (wN rfl) rfl rfl rfl (bLt _ _ _ _ .i64 s13 (p0.length : Int)) rfl (lb rfl) fun a S => ?_
  refine leafL (leafT (hK18 _ _ ?_))
  rcases iteSome h with ⟨hc19, h⟩ | ⟨hc19, h⟩
  rotate_left
  · refine sCondF S rfl hc19 ?_
    obtain rfl := Option.some.inj h
    obtain rfl := hu14 _ rfl
    have h := g15
    clear g15
    try dsimp only at h
    exact wp_exit (xThen (xThen (xHit (leafT (⟨Option.some.inj h, S.fix [] [] (by decide) rfl rfl rfl⟩)))))
  refine sCondT S rfl hc19 ?_
  refine wp_skip (leafT (hK17 _ _ ?_))
  refine sSeq (fun K20 hK20 => ?_)
  refine wp_block ?_
  refine sSeq (fun K21 hK21 => ?_)
  obtain ⟨x22, hx23, h⟩ := bindSome h
  obtain ⟨x27, hx28, h⟩ := bindSome h
  obtain ⟨q32, hq33, S⟩ := pIdx (P := Tryd.prog) (r := (rI .i64)) (v := .slice ad1 p0.length cp2) (xs := p0) (j := s13) 28 3 0 S Tryd.underlying28 rfl rfl hx23
  obtain ⟨u34, S⟩ := pLoad (r := (rI .i64)) (q := q32) (x := x22) 0 S rfl
  obtain rfl : u34 = iv x22 := S.mem.know (i := 1) (e := fRep (rI .i64) (u34) x22) rfl
  obtain ⟨q35, hq36, S⟩ := pIdx (P := Tryd.prog) (r := (rI .i64)) (v := .slice ad3 p1.length cp4) (xs := p1) (j := s13) 28 3 4 S Tryd.underlying28 rfl rfl hx28
  obtain ⟨u37, S⟩ := pLoad (r := (rI .i64)) (q := q35) (x := x27) 0 S rfl
  obtain rfl : u37 = iv x27 := S.mem.know (i := 1) (e := fRep (rI .i64) (u37) x27) rfl
  refine sDraw (nf := []) (W := [(0, 17, .slice ad1 p0.length cp2), (1, 18, iv s13), (2, 19, q32), (3, 20, iv x22), (4, 21, .slice ad3 p1.length cp4), (5, 22, iv s13), (6, 23, q35), (7, 24, iv x27), (8, 25, .bool (x22 != x27))]) rfl S ?_
  refine node_by (A := anc_raddleref36_Same_0) (nf := []) (Y := []) (W := [(0, 17, .slice ad1 p0.length cp2), (1, 18, iv s13), (2, 19, q32), (3, 20, iv x22), (4, 21, .slice ad3 p1.length cp4), (5, 22, iv s13), (6, 23, q35), (7, 24, iv x27), (8, 25, .bool (x22 != x27))]) 9 (by kernel_rfl) (by kernel_rfl) (by kernel_rfl) (by kernel_rfl) (by kernel_rfl) [0, 1, 2, 3, 4, 5, 6, 7, 8] (by kernel_rfl) (by decide) (by decide) (aF 0 8 (by decide) ?_ (aF 1 7 (by decide) ?_ (aF 2 6 (by decide) ?_ (aF 3 5 (by decide) ?_ (aF 4 4 (by decide) ?_ (aF 5 3 (by decide) ?_ (aF 6 2 (by decide) ?_ (aF 7 1 (by decide) ?_ (aF 8 0 (by decide) ?_ (trivial)))))))))) [(0, .slice ad1 p0.length cp2), (1, .slice ad3 p1.length cp4), (5, iv s13), (25, .bool (x22 != x27))] (fin_of [none, none, none, some 8] rfl (by kernel_rfl) (by kernel_rfl)) (fun _ a w S => ?_)
  · refine fI 17 (.slice ad1 p0.length cp2) [(0, .slice ad1 p0.length cp2)] 0 [none] rfl rfl rfl rfl rfl rfl fun G a w S => ?_
    refine sMove (.slice ad1 p0.length cp2) S (wN rfl) (.inl rfl) rfl rfl (lb rfl) fun a S => ?_
    exact leafL ⟨rfl, S⟩
  · refine fI 18 (iv s13) [(5, iv s13)] 1 [none] rfl rfl rfl rfl rfl rfl fun G a w S => ?_
    refine sMove (iv s13) S (wN rfl) (.inl rfl) rfl rfl (lb rfl) fun a S => ?_
    exact leafL ⟨rfl, S⟩
  · refine fI 19 q32 [(17, .slice ad1 p0.length cp2), (18, iv s13)] 2 [some 0, some 1] rfl rfl rfl rfl rfl rfl fun G a w S => ?_
    refine sIdxV (v := .slice ad1 p0.length cp2) (k := .i64) (j := s13) S (wN rfl) rfl rfl rfl hq33 rfl (lb rfl) fun a S => ?_
    exact leafL ⟨rfl, S⟩
  · refine fI 20 (iv x22) [(19, q32)] 3 [some 2] rfl rfl rfl rfl rfl rfl fun G a w S => ?_
    refine sLoadV1 (vq := q32) 3 (iv x22) S (wN rfl) rfl rfl rfl rfl rfl (lb rfl) fun a S => ?_
    exact leafL ⟨rfl, S⟩
  · refine fI 21 (.slice ad3 p1.length cp4) [(1, .slice ad3 p1.length cp4)] 4 [none] rfl rfl rfl rfl rfl rfl fun G a w S => ?_
    refine sMove (.slice ad3 p1.length cp4) S (wN rfl) (.inl rfl) rfl rfl (lb rfl) fun a S => ?_
    exact leafL ⟨rfl, S⟩
  · refine fI 22 (iv s13) [(5, iv s13)] 5 [none] rfl rfl rfl rfl rfl rfl fun G a w S => ?_
    refine sMove (iv s13) S (wN rfl) (.inl rfl) rfl rfl (lb rfl) fun a S => ?_
    exact leafL ⟨rfl, S⟩
  · refine fI 23 q35 [(21, .slice ad3 p1.length cp4), (22, iv s13)] 6 [some 4, some 5] rfl rfl rfl rfl rfl rfl fun G a w S => ?_
    refine sIdxV (v := .slice ad3 p1.length cp4) (k := .i64) (j := s13) S (wN rfl) rfl rfl rfl hq36 rfl (lb rfl) fun a S => ?_
    exact leafL ⟨rfl, S⟩
  · refine fI 24 (iv x27) [(23, q35)] 7 [some 6] rfl rfl rfl rfl rfl rfl fun G a w S => ?_
    refine sLoadV1 (vq := q35) 0 (iv x27) S (wN rfl) rfl rfl rfl rfl rfl (lb rfl) fun a S => ?_
    exact leafL ⟨rfl, S⟩
  · refine fI 25 (.bool (x22 != x27)) [(20, iv x22), (24, iv x27)] 8 [some 3, some 7] rfl rfl rfl rfl rfl rfl fun G a w S => ?_
    refine sBin (.bool (x22 != x27)) S (wN rfl) rfl rfl rfl (bNe _ _ _ _ .i64 x22 x27) rfl (lb rfl) fun a S => ?_
    exact leafL ⟨rfl, S⟩
  refine leafT (hK21 _ _ ?_)
  rcases iteSome h with ⟨hc38, h⟩ | ⟨hc38, h⟩
  rotate_left
  · refine sCondF S rfl hc38 ?_
    refine wp_skip (leafB (leafT (hK20 _ _ ?_)))
    refine sRegion ?_
    refine sMove (iv s13) S (wN rfl) (.inl rfl) rfl rfl (lb rfl) fun a S => ?_
    refine sBin (iv (w64 (s13 + 1))) S (wN rfl) rfl rfl rfl (bAdd _ _ _ _ s13 1) rfl (lb rfl) fun a S => ?_
    refine sMove (iv (w64 (s13 + 1))) S (wN rfl) (.inr rfl) rfl rfl (lb rfl) fun a S => ?_
    exact leafL (leafT (⟨w64 (s13 + 1), (Option.some.inj h).symm, (S.fix [] [6, 7] (by decide) rfl rfl rfl)⟩))
  refine sCondT S rfl hc38 ?_
  refine sSeq (fun K39 hK39 => ?_)
  refine sRegion ?_
  refine sMove (.bool false) S (wN rfl) (.inr rfl) rfl rfl (lb rfl) fun a S => ?_
  refine leafL (leafT (hK39 _ _ ?_))
  obtain rfl := Option.some.inj h
  obtain rfl := hu14 _ rfl
  have h := g15
  clear g15
  try dsimp only at h
  obtain rfl := Option.some.inj h
  have h := g11
  clear g11
  try dsimp only at h
  obtain rfl := Option.some.inj h
  exact wp_ret (rBlock (rThen (rThen (rBlock (rThen (sRet (.bool false) S (rsl1 rfl (rvT (t := 4) (v := .bool false) S rfl)) ⟨(), rfl, S.mem.sel [] [] (by decide) rfl rfl⟩))))))

end Go.Proofs.YtmedbnjhgkcndaaDoor
namespace Go.Proofs.YtmedbnjhgkcndaaDoor
open Go.RowKit
set_option linter.unusedVariables false

noncomputable def F_raddleref37_Same (p0 : api_Piece) (p1 : api_Piece) : Option Bool :=
  Option.bind (α := Bool) (
    Option.bind (F_raddleref36_Same p0.Left p1.Left) fun r23 =>
    if r23 then
      Option.bind (F_raddleref36_Same p0.Right p1.Right) fun r26 =>
      some r26
    else
      some false) fun o20 =>
  some o20
set_option maxHeartbeats 4000000 in
set_option maxRecDepth 100000 in
theorem c_raddleref37_Same (E : Nat → Prop) (w0 : World) (p0 : api_Piece) (v0 : Value) (p1 : api_Piece) (v1 : Value) (r : Bool) (h : F_raddleref37_Same p0 p1 = some r) (S : St0 E [] w0 w0 [] [fRep r_api_Piece (v0) p0, fRep r_api_Piece (v1) p1]) :
    Calls Tryd.prog 19 #[v0, v1] w0 (Ret (X := Unit) E [] w0 (fun _ => .bool r) (fun _ => []) (fun _ => [])) := by
  unfold F_raddleref37_Same at h
  obtain ⟨u1, u2, rfl, hu3, hu4⟩ := S.know (i := 0) (e := fRep r_api_Piece (v0) p0) rfl
  have S := S.learn (fRep (rL (rI .i64)) u1 p0.Left) hu3
  obtain ⟨ad5, cp6, _, rfl, _⟩ := hu3
  have S := S.learn (fRep (rL (rI .i64)) u2 p0.Right) hu4
  obtain ⟨ad7, cp8, _, rfl, _⟩ := hu4
  obtain ⟨u9, u10, rfl, hu11, hu12⟩ := S.know (i := 3) (e := fRep r_api_Piece (v1) p1) rfl
  have S := S.learn (fRep (rL (rI .i64)) u9 p1.Left) hu11
  obtain ⟨ad13, cp14, _, rfl, _⟩ := hu11
  have S := S.learn (fRep (rL (rI .i64)) u10 p1.Right) hu12
  obtain ⟨ad15, cp16, _, rfl, _⟩ := hu12
  refine sEnter (args := [.agg #[.slice ad5 p0.Left.length cp6, .slice ad7 p0.Right.length cp8], .agg #[.slice ad13 p1.Left.length cp14, .slice ad15 p1.Right.length cp16]]) 17 Tryd.func19 rfl rfl (by simp) S (fun a S => ?_)
  refine sSeq (fun K17 hK17 => ?_)
  refine sRegion ?_
  refine sBox (v := .agg #[.slice ad5 p0.Left.length cp6, .slice ad7 p0.Right.length cp8]) S (wN rfl) rfl rfl [.slice ad5 p0.Left.length cp6, .slice ad7 p0.Right.length cp8] rfl rfl (lb rfl) fun a b18 w S => ?_
  refine sBox (v := .agg #[.slice ad13 p1.Left.length cp14, .slice ad15 p1.Right.length cp16]) S (wN rfl) rfl rfl [.slice ad13 p1.Left.length cp14, .slice ad15 p1.Right.length cp16] rfl rfl (lb rfl) fun a b19 w S => ?_
  refine sMove (.bool false) S (wN rfl) (.inr rfl) rfl rfl (lb rfl) fun a S => ?_
  refine leafL (leafT (hK17 _ _ ?_))
  obtain ⟨t21, h, g22⟩ := bindSome h
  refine sCut (fun a w => ∃ o20, o20 = t21 ∧ St [] E [] w0 17 a w [(4, .bool o20)] [] []) ?_ (fun a w hI => ?_)
  rotate_left
  · obtain ⟨o20, rfl, S⟩ := hI
    have h := g22
    clear g22
    try dsimp only at h
    obtain rfl := Option.some.inj h
    exact wp_ret (sRet (.bool o20) S (rsl1 rfl (rvT (t := 4) (v := .bool o20) S rfl)) ⟨(), rfl, S.mem.sel [] [] (by decide) rfl rfl⟩)
  refine sRegion ?_
  refine sField (b := b18) (off := 0) 0 0 S (wN rfl) rfl rfl rfl rfl rfl (lb rfl) fun a S => ?_
  refine sLoad1 (p := b18) (off := 0) (T := 30) (vs := [.slice ad5 p0.Left.length cp6, .slice ad7 p0.Right.length cp8]) 1 (.slice ad5 p0.Left.length cp6) S (wN rfl) rfl rfl rfl rfl rfl rfl (lb rfl) fun a S => ?_
  refine sField (b := b19) (off := 0) 0 0 S (wN rfl) rfl rfl rfl rfl rfl (lb rfl) fun a S => ?_
  refine sLoad1 (p := b19) (off := 0) (T := 30) (vs := [.slice ad13 p1.Left.length cp14, .slice ad15 p1.Right.length cp16]) 0 (.slice ad13 p1.Left.length cp14) S (wN rfl) rfl rfl rfl rfl rfl rfl (lb rfl) fun a S => ?_
  obtain ⟨r23, hx24, h⟩ := bindSome h
  have S1 := S.mem
  refine sCallQ (X := Unit) (f := 43) (vs := [.slice ad5 p0.Left.length cp6, .slice ad13 p1.Left.length cp14]) (val := fun _ => .bool r23) S (wN rfl) rfl callee43 rfl (S1.quiet [3, 1] rfl) (fun E1 w1 S1 => c_raddleref36_Same E1 w1 p0.Left (.slice ad5 p0.Left.length cp6) p1.Left (.slice ad13 p1.Left.length cp14) r23 hx24 S1) rfl (lb rfl) fun _ a w S => ?_
  refine sMove (.bool r23) S (wN rfl) (.inl rfl) rfl rfl (lb rfl) fun a S => ?_
  rcases iteSome h with ⟨hc25, h⟩ | ⟨hc25, h⟩
  rotate_left
  · refine sSkip 5 true 10 11 S rfl rfl rfl hc25 rfl (lb rfl) fun a S => ?_
    refine sSkip 5 true 10 12 S rfl rfl rfl hc25 rfl (lb rfl) fun a S => ?_
    refine sSkip 5 true 10 13 S rfl rfl rfl hc25 rfl (lb rfl) fun a S => ?_
    refine sSkip 5 true 10 14 S rfl rfl rfl hc25 rfl (lb rfl) fun a S => ?_
    refine sSkip 5 true 10 15 S rfl rfl rfl hc25 rfl (lb rfl) fun a S => ?_
    refine sPickF (.bool false) S (wN rfl) rfl rfl hc25 rfl rfl (lb rfl) fun a S => ?_
    refine sMove (.bool false) S (wN rfl) (.inr rfl) rfl rfl (lb rfl) fun a S => ?_
    exact leafL (leafT (⟨false, Option.some.inj h, S.fix [] [] (by decide) rfl rfl rfl⟩))
  refine sField (b := b18) (off := 0) 1 1 S (wG 5 true 10 rfl rfl rfl hc25) rfl rfl rfl rfl rfl (lb rfl) fun a S => ?_
  refine sLoad1 (p := b18) (off := 1) (T := 30) (vs := [.slice ad5 p0.Left.length cp6, .slice ad7 p0.Right.length cp8]) 1 (.slice ad7 p0.Right.length cp8) S (wG 5 true 10 rfl rfl rfl hc25) rfl rfl rfl rfl rfl rfl (lb rfl) fun a S => ?_
  refine sField (b := b19) (off := 0) 1 1 S (wG 5 true 10 rfl rfl rfl hc25) rfl rfl rfl rfl rfl (lb rfl) fun a S => ?_
  refine sLoad1 (p := b19) (off := 1) (T := 30) (vs := [.slice ad13 p1.Left.length cp14, .slice ad15 p1.Right.length cp16]) 0 (.slice ad15 p1.Right.length cp16) S (wG 5 true 10 rfl rfl rfl hc25) rfl rfl rfl rfl rfl rfl (lb rfl) fun a S => ?_
  obtain ⟨r26, hx27, h⟩ := bindSome h
  have S1 := S.mem
  refine sCallQ (X := Unit) (f := 43) (vs := [.slice ad7 p0.Right.length cp8, .slice ad15 p1.Right.length cp16]) (val := fun _ => .bool r26) S (wG 5 true 10 rfl rfl rfl hc25) rfl callee43 rfl (S1.quiet [2, 0] rfl) (fun E1 w1 S1 => c_raddleref36_Same E1 w1 p0.Right (.slice ad7 p0.Right.length cp8) p1.Right (.slice ad15 p1.Right.length cp16) r26 hx27 S1) rfl (lb rfl) fun _ a w S => ?_
  refine sPickT (.bool r26) S (wN rfl) rfl rfl hc25 rfl rfl (lb rfl) fun a S => ?_
  refine sMove (.bool r26) S (wN rfl) (.inr rfl) rfl rfl (lb rfl) fun a S => ?_
  exact leafL (leafT (⟨r26, Option.some.inj h, S.fix [] [] (by decide) rfl rfl rfl⟩))

end Go.Proofs.YtmedbnjhgkcndaaDoor
namespace Go.Proofs.YtmedbnjhgkcndaaDoor
open Go.RowKit
set_option linter.unusedVariables false

noncomputable def F_raddlelaw37_made  : Option api_Piece :=
  some (api_Piece.mk ([0, 1, 1, 2, 2] : List Int) ([10, 10, 9, 9, 8] : List Int))
def c_raddlelaw37_made_val (r : api_Piece) (x : Value) : Value := x
def c_raddlelaw37_made_D (r : api_Piece) (x : Value) : List Fact := [fRep r_api_Piece x r]
set_option maxHeartbeats 4000000 in
set_option maxRecDepth 100000 in
theorem c_raddlelaw37_made (E : Nat → Prop) (w0 : World)  (r : api_Piece) (h : F_raddlelaw37_made  = some r) (S : St0 E [] w0 w0 [] []) :
    Calls Tryd.prog 29 #[] w0 (Ret (X := Value) E [] w0 (c_raddlelaw37_made_val r) (fun _ => []) (c_raddlelaw37_made_D r)) := by
  unfold F_raddlelaw37_made at h
  refine sEnter (args := []) 4 Tryd.func29 rfl rfl (by simp) S (fun a S => ?_)
  refine sSeq (fun K1 hK1 => ?_)
  refine sRegion ?_
  refine sAlloc (.agg #[.slice none 0 0, .slice none 0 0]) S (wN rfl) rfl rfl [.slice none 0 0, .slice none 0 0] rfl rfl (lb rfl) fun a b2 w S => ?_
  refine leafL (leafT (hK1 _ _ ?_))
  refine sSeq (fun K3 hK3 => ?_)
  refine sRegion ?_
  refine sLit (r := (rI .i64)) (T := 3) (xs := ([0, 1, 1, 2, 2] : List Int)) [(0, iv 0), (1, iv 1), (2, iv 1), (3, iv 2), (4, iv 2)] 5 [iv 0, iv 1, iv 1, iv 2, iv 2] [iv 0, iv 1, iv 1, iv 2, iv 2] (iv 0) 8 S (wN rfl) rfl rfl Tryd.underlying28 rfl (by decide) (by decide) (by kernel_rfl) rfl (fun E1 w1 hE => All.cons rfl (All.cons rfl (All.cons rfl (All.cons rfl (All.cons rfl (All.nil _ _ _)))))) rfl rfl (lb rfl) fun a w ad4 cp5 S => ?_
  refine sLit (r := (rI .i64)) (T := 3) (xs := ([10, 10, 9, 9, 8] : List Int)) [(0, iv 10), (1, iv 10), (2, iv 9), (3, iv 9), (4, iv 8)] 5 [iv 10, iv 10, iv 9, iv 9, iv 8] [iv 10, iv 10, iv 9, iv 9, iv 8] (iv 0) 8 S (wN rfl) rfl rfl Tryd.underlying28 rfl (by decide) (by decide) (by kernel_rfl) rfl (fun E1 w1 hE => All.cons rfl (All.cons rfl (All.cons rfl (All.cons rfl (All.cons rfl (All.nil _ _ _)))))) rfl rfl (lb rfl) fun a w ad6 cp7 S => ?_
  refine sBuild [(0, .slice ad4 ([0, 1, 1, 2, 2] : List Int).length cp5), (1, .slice ad6 ([10, 10, 9, 9, 8] : List Int).length cp7)] [.slice ad4 ([0, 1, 1, 2, 2] : List Int).length cp5, .slice ad6 ([10, 10, 9, 9, 8] : List Int).length cp7] S (wN rfl) rfl rfl rfl rfl (lb rfl) fun a S => ?_
  refine sStore (p := b2) (off := 0) (T := 30) (vs := [.slice none 0 0, .slice none 0 0]) (v := .agg #[.slice ad4 ([0, 1, 1, 2, 2] : List Int).length cp5, .slice ad6 ([10, 10, 9, 9, 8] : List Int).length cp7]) 2 [.slice ad4 ([0, 1, 1, 2, 2] : List Int).length cp5, .slice ad6 ([10, 10, 9, 9, 8] : List Int).length cp7] S (wN rfl) rfl rfl rfl rfl rfl rfl rfl (by simp) rfl fun a w S => ?_
  refine leafL (leafT (hK3 _ _ ?_))
  obtain rfl := Option.some.inj h
  have S := S.shutR (r := (rI .i64)) (T := 3) (v := .slice ad4 ([0, 1, 1, 2, 2] : List Int).length cp5) (xs := ([0, 1, 1, 2, 2] : List Int)) 2 rfl
  have S := S.shutR (r := (rI .i64)) (T := 3) (v := .slice ad6 ([10, 10, 9, 9, 8] : List Int).length cp7) (xs := ([10, 10, 9, 9, 8] : List Int)) 1 rfl
  have S := S.learn (fRep r_api_Piece (.agg #[.slice ad4 ([0, 1, 1, 2, 2] : List Int).length cp5, .slice ad6 ([10, 10, 9, 9, 8] : List Int).length cp7]) (api_Piece.mk ([0, 1, 1, 2, 2] : List Int) ([10, 10, 9, 9, 8] : List Int))) ⟨_, _, rfl, S.mem.know (i := 1) (e := fRep (rL (rI .i64)) (.slice ad4 ([0, 1, 1, 2, 2] : List Int).length cp5) ([0, 1, 1, 2, 2] : List Int)) rfl, S.mem.know (i := 0) (e := fRep (rL (rI .i64)) (.slice ad6 ([10, 10, 9, 9, 8] : List Int).length cp7) ([10, 10, 9, 9, 8] : List Int)) rfl⟩
  exact wp_ret (sRet (.agg #[.slice ad4 ([0, 1, 1, 2, 2] : List Int).length cp5, .slice ad6 ([10, 10, 9, 9, 8] : List Int).length cp7]) S (rsl1 rfl (rvN (c := 0) (t := 30) (T := 30) (p := b2) 0 [.slice ad4 ([0, 1, 1, 2, 2] : List Int).length cp5, .slice ad6 ([10, 10, 9, 9, 8] : List Int).length cp7] S rfl rfl rfl rfl)) ⟨(.agg #[.slice ad4 ([0, 1, 1, 2, 2] : List Int).length cp5, .slice ad6 ([10, 10, 9, 9, 8] : List Int).length cp7]), rfl, S.mem.sel [] [0] (by decide) rfl rfl⟩)

end Go.Proofs.YtmedbnjhgkcndaaDoor
namespace Go.Proofs.YtmedbnjhgkcndaaDoor
open Go.RowKit
set_option linter.unusedVariables false

noncomputable def F_raddlelaw37_given  : Option api_Shape :=
  some (api_Shape.mk [(api_Point.mk 0 0), (api_Point.mk 2 4)] [(api_Point.mk 10 0), (api_Point.mk 8 4)])
def c_raddlelaw37_given_val (r : api_Shape) (x : Value) : Value := x
def c_raddlelaw37_given_D (r : api_Shape) (x : Value) : List Fact := [fRep r_api_Shape x r]
set_option maxHeartbeats 4000000 in
set_option maxRecDepth 100000 in
theorem c_raddlelaw37_given (E : Nat → Prop) (w0 : World)  (r : api_Shape) (h : F_raddlelaw37_given  = some r) (S : St0 E [] w0 w0 [] []) :
    Calls Tryd.prog 32 #[] w0 (Ret (X := Value) E [] w0 (c_raddlelaw37_given_val r) (fun _ => []) (c_raddlelaw37_given_D r)) := by
  unfold F_raddlelaw37_given at h
  refine sEnter (args := []) 8 Tryd.func32 rfl rfl (by simp) S (fun a S => ?_)
  refine sSeq (fun K1 hK1 => ?_)
  refine sRegion ?_
  refine sAlloc (.agg #[.slice none 0 0, .slice none 0 0]) S (wN rfl) rfl rfl [.slice none 0 0, .slice none 0 0] rfl rfl (lb rfl) fun a b2 w S => ?_
  refine leafL (leafT (hK1 _ _ ?_))
  refine sSeq (fun K3 hK3 => ?_)
  refine sRegion ?_
  refine sBuild [] [iv 0, iv 0] S (wN rfl) rfl rfl rfl rfl (lb rfl) fun a S => ?_
  refine sBuild [(0, iv 2), (1, iv 4)] [iv 2, iv 4] S (wN rfl) rfl rfl rfl rfl (lb rfl) fun a S => ?_
  have S := S.learn (fRep r_api_Point (.agg #[iv 0, iv 0]) (api_Point.mk 0 0)) rfl
  have S := S.learn (fRep r_api_Point (.agg #[iv 2, iv 4]) (api_Point.mk 2 4)) rfl
  refine sLit (r := r_api_Point) (T := 35) (xs := [(api_Point.mk 0 0), (api_Point.mk 2 4)]) [(0, .agg #[iv 0, iv 0]), (1, .agg #[iv 2, iv 4])] 2 [.agg #[iv 0, iv 0], .agg #[iv 2, iv 4]] [iv 0, iv 0, iv 2, iv 4] (.agg #[iv 0, iv 0]) 16 S (wN rfl) rfl rfl Tryd.underlying22 rfl (by decide) (by decide) (by kernel_rfl) rfl (fun E1 w1 hE => All.cons (r_api_Point.mono hE (S.mem.know (i := 1) (e := fRep r_api_Point (.agg #[iv 0, iv 0]) (api_Point.mk 0 0)) rfl)) (All.cons (r_api_Point.mono hE (S.mem.know (i := 0) (e := fRep r_api_Point (.agg #[iv 2, iv 4]) (api_Point.mk 2 4)) rfl)) (All.nil _ _ _))) rfl rfl (lb rfl) fun a w ad4 cp5 S => ?_
  refine sBuild [(0, iv 10)] [iv 10, iv 0] S (wN rfl) rfl rfl rfl rfl (lb rfl) fun a S => ?_
  refine sBuild [(0, iv 8), (1, iv 4)] [iv 8, iv 4] S (wN rfl) rfl rfl rfl rfl (lb rfl) fun a S => ?_
  have S := S.learn (fRep r_api_Point (.agg #[iv 10, iv 0]) (api_Point.mk 10 0)) rfl
  have S := S.learn (fRep r_api_Point (.agg #[iv 8, iv 4]) (api_Point.mk 8 4)) rfl
  refine sLit (r := r_api_Point) (T := 35) (xs := [(api_Point.mk 10 0), (api_Point.mk 8 4)]) [(0, .agg #[iv 10, iv 0]), (1, .agg #[iv 8, iv 4])] 2 [.agg #[iv 10, iv 0], .agg #[iv 8, iv 4]] [iv 10, iv 0, iv 8, iv 4] (.agg #[iv 0, iv 0]) 16 S (wN rfl) rfl rfl Tryd.underlying22 rfl (by decide) (by decide) (by kernel_rfl) rfl (fun E1 w1 hE => All.cons (r_api_Point.mono hE (S.mem.know (i := 1) (e := fRep r_api_Point (.agg #[iv 10, iv 0]) (api_Point.mk 10 0)) rfl)) (All.cons (r_api_Point.mono hE (S.mem.know (i := 0) (e := fRep r_api_Point (.agg #[iv 8, iv 4]) (api_Point.mk 8 4)) rfl)) (All.nil _ _ _))) rfl rfl (lb rfl) fun a w ad6 cp7 S => ?_
  refine sBuild [(0, .slice ad4 [(api_Point.mk 0 0), (api_Point.mk 2 4)].length cp5), (1, .slice ad6 [(api_Point.mk 10 0), (api_Point.mk 8 4)].length cp7)] [.slice ad4 [(api_Point.mk 0 0), (api_Point.mk 2 4)].length cp5, .slice ad6 [(api_Point.mk 10 0), (api_Point.mk 8 4)].length cp7] S (wN rfl) rfl rfl rfl rfl (lb rfl) fun a S => ?_
  refine sStore (p := b2) (off := 0) (T := 24) (vs := [.slice none 0 0, .slice none 0 0]) (v := .agg #[.slice ad4 [(api_Point.mk 0 0), (api_Point.mk 2 4)].length cp5, .slice ad6 [(api_Point.mk 10 0), (api_Point.mk 8 4)].length cp7]) 2 [.slice ad4 [(api_Point.mk 0 0), (api_Point.mk 2 4)].length cp5, .slice ad6 [(api_Point.mk 10 0), (api_Point.mk 8 4)].length cp7] S (wN rfl) rfl rfl rfl rfl rfl rfl rfl (by simp) rfl fun a w S => ?_
  refine leafL (leafT (hK3 _ _ ?_))
  obtain rfl := Option.some.inj h
  have S := S.shutR (r := r_api_Point) (T := 35) (v := .slice ad4 [(api_Point.mk 0 0), (api_Point.mk 2 4)].length cp5) (xs := [(api_Point.mk 0 0), (api_Point.mk 2 4)]) 2 rfl
  have S := S.shutR (r := r_api_Point) (T := 35) (v := .slice ad6 [(api_Point.mk 10 0), (api_Point.mk 8 4)].length cp7) (xs := [(api_Point.mk 10 0), (api_Point.mk 8 4)]) 1 rfl
  have S := S.learn (fRep r_api_Shape (.agg #[.slice ad4 [(api_Point.mk 0 0), (api_Point.mk 2 4)].length cp5, .slice ad6 [(api_Point.mk 10 0), (api_Point.mk 8 4)].length cp7]) (api_Shape.mk [(api_Point.mk 0 0), (api_Point.mk 2 4)] [(api_Point.mk 10 0), (api_Point.mk 8 4)])) ⟨_, _, rfl, S.mem.know (i := 1) (e := fRep (rL r_api_Point) (.slice ad4 [(api_Point.mk 0 0), (api_Point.mk 2 4)].length cp5) [(api_Point.mk 0 0), (api_Point.mk 2 4)]) rfl, S.mem.know (i := 0) (e := fRep (rL r_api_Point) (.slice ad6 [(api_Point.mk 10 0), (api_Point.mk 8 4)].length cp7) [(api_Point.mk 10 0), (api_Point.mk 8 4)]) rfl⟩
  exact wp_ret (sRet (.agg #[.slice ad4 [(api_Point.mk 0 0), (api_Point.mk 2 4)].length cp5, .slice ad6 [(api_Point.mk 10 0), (api_Point.mk 8 4)].length cp7]) S (rsl1 rfl (rvN (c := 0) (t := 24) (T := 24) (p := b2) 0 [.slice ad4 [(api_Point.mk 0 0), (api_Point.mk 2 4)].length cp5, .slice ad6 [(api_Point.mk 10 0), (api_Point.mk 8 4)].length cp7] S rfl rfl rfl rfl)) ⟨(.agg #[.slice ad4 [(api_Point.mk 0 0), (api_Point.mk 2 4)].length cp5, .slice ad6 [(api_Point.mk 10 0), (api_Point.mk 8 4)].length cp7]), rfl, S.mem.sel [] [0] (by decide) rfl rfl⟩)

end Go.Proofs.YtmedbnjhgkcndaaDoor
namespace Go.Proofs.YtmedbnjhgkcndaaDoor
open Go.RowKit
set_option linter.unusedVariables false

noncomputable def F_internal_strconv_small (p0 : Int) : Option ByteArray :=
  if decide (p0 < 10) then
    Option.bind (sliceS (⟨#[48, 49, 50, 51, 52, 53, 54, 55, 56, 57, 97, 98, 99, 100, 101, 102, 103, 104, 105, 106, 107, 108, 109, 110, 111, 112, 113, 114, 115, 116, 117, 118, 119, 120, 121, 122]⟩ : ByteArray) p0 (w64 (p0 + 1))) fun y6 =>
    some y6
  else
    Option.bind (sliceS (⟨#[48, 48, 48, 49, 48, 50, 48, 51, 48, 52, 48, 53, 48, 54, 48, 55, 48, 56, 48, 57, 49, 48, 49, 49, 49, 50, 49, 51, 49, 52, 49, 53, 49, 54, 49, 55, 49, 56, 49, 57, 50, 48, 50, 49, 50, 50, 50, 51, 50, 52, 50, 53, 50, 54, 50, 55, 50, 56, 50, 57, 51, 48, 51, 49, 51, 50, 51, 51, 51, 52, 51, 53, 51, 54, 51, 55, 51, 56, 51, 57, 52, 48, 52, 49, 52, 50, 52, 51, 52, 52, 52, 53, 52, 54, 52, 55, 52, 56, 52, 57, 53, 48, 53, 49, 53, 50, 53, 51, 53, 52, 53, 53, 53, 54, 53, 55, 53, 56, 53, 57, 54, 48, 54, 49, 54, 50, 54, 51, 54, 52, 54, 53, 54, 54, 54, 55, 54, 56, 54, 57, 55, 48, 55, 49, 55, 50, 55, 51, 55, 52, 55, 53, 55, 54, 55, 55, 55, 56, 55, 57, 56, 48, 56, 49, 56, 50, 56, 51, 56, 52, 56, 53, 56, 54, 56, 55, 56, 56, 56, 57, 57, 48, 57, 49, 57, 50, 57, 51, 57, 52, 57, 53, 57, 54, 57, 55, 57, 56, 57, 57]⟩ : ByteArray) (w64 (p0 * 2)) (w64 ((w64 (p0 * 2)) + 2))) fun y9 =>
    some y9
set_option maxHeartbeats 4000000 in
set_option maxRecDepth 100000 in
theorem c_internal_strconv_small (E : Nat → Prop) (w0 : World) (p0 : Int) (r : ByteArray) (h : F_internal_strconv_small p0 = some r) (S : St0 E [] w0 w0 [] []) :
    Calls Tryd.prog 82 #[iv p0] w0 (Ret (X := Unit) E [] w0 (fun _ => .string r) (fun _ => []) (fun _ => [])) := by
  unfold F_internal_strconv_small at h
  refine sEnter (args := [iv p0]) 15 Tryd.func82 rfl rfl (by simp) S (fun a S => ?_)
  refine sSeq (fun K1 hK1 => ?_)
  refine sRegion ?_
  refine sMove (.string (⟨#[]⟩ : ByteArray)) S (wN rfl) (.inr rfl) rfl rfl (lb rfl) fun a S => ?_
  refine leafL (leafT (hK1 _ _ ?_))
  refine sSeq (fun K2 hK2 => ?_)
  refine sSeq (fun K3 hK3 => ?_)
  refine sRegion ?_
  refine sMove (iv p0) S (wN rfl) (.inl rfl) rfl rfl (lb rfl) fun a S => ?_
  refine sBin (.bool (decide (p0 < 10))) S (wN rfl) rfl rfl rfl (bLt _ _ _ _ .i64 p0 10) rfl (lb rfl) fun a S => ?_
  refine leafL (leafT (hK3 _ _ ?_))
  rcases iteSome h with ⟨hc4, h⟩ | ⟨hc4, h⟩
  · refine sCondT S rfl hc4 ?_
    refine sSeq (fun K5 hK5 => ?_)
    refine sRegion ?_
    refine sMove (iv p0) S (wN rfl) (.inl rfl) rfl rfl (lb rfl) fun a S => ?_
    refine sMove (iv p0) S (wN rfl) (.inl rfl) rfl rfl (lb rfl) fun a S => ?_
    refine sBin (iv (w64 (p0 + 1))) S (wN rfl) rfl rfl rfl (bAdd _ _ _ _ p0 1) rfl (lb rfl) fun a S => ?_
    obtain ⟨y6, hx7, h⟩ := bindSome h
    refine sSliceS (v := (⟨#[48, 49, 50, 51, 52, 53, 54, 55, 56, 57, 97, 98, 99, 100, 101, 102, 103, 104, 105, 106, 107, 108, 109, 110, 111, 112, 113, 114, 115, 116, 117, 118, 119, 120, 121, 122]⟩ : ByteArray)) (u := y6) (vlo := (some (.int .i64 p0))) (vhi := (some (.int .i64 (w64 (p0 + 1))))) (lo' := p0) (hi' := w64 (p0 + 1)) S (wN rfl) rfl Tryd.underlying9 rfl rfl rfl (.inl rfl) (.inl rfl) hx7 rfl (lb rfl) fun a S => ?_
    refine sMove (.string y6) S (wN rfl) (.inr rfl) rfl rfl (lb rfl) fun a S => ?_
    refine leafL (leafT (hK5 _ _ ?_))
    obtain rfl := Option.some.inj h
    exact wp_ret (rThen (sRet (.string y6) S (rsl1 rfl (rvT (t := 2) (v := .string y6) S rfl)) ⟨(), rfl, S.mem.sel [] [] (by decide) rfl rfl⟩))
  refine sCondF S rfl hc4 ?_
  refine wp_skip (leafT (hK2 _ _ ?_))
  refine sSeq (fun K8 hK8 => ?_)
  refine sRegion ?_
  refine sMove (iv p0) S (wN rfl) (.inl rfl) rfl rfl (lb rfl) fun a S => ?_
  refine sBin (iv (w64 (p0 * 2))) S (wN rfl) rfl rfl rfl (bMul _ _ _ _ p0 2) rfl (lb rfl) fun a S => ?_
  refine sMove (iv p0) S (wN rfl) (.inl rfl) rfl rfl (lb rfl) fun a S => ?_
  refine sBin (iv (w64 (p0 * 2))) S (wN rfl) rfl rfl rfl (bMul _ _ _ _ p0 2) rfl (lb rfl) fun a S => ?_
  refine sBin (iv (w64 ((w64 (p0 * 2)) + 2))) S (wN rfl) rfl rfl rfl (bAdd _ _ _ _ (w64 (p0 * 2)) 2) rfl (lb rfl) fun a S => ?_
  obtain ⟨y9, hx10, h⟩ := bindSome h
  refine sSliceS (v := (⟨#[48, 48, 48, 49, 48, 50, 48, 51, 48, 52, 48, 53, 48, 54, 48, 55, 48, 56, 48, 57, 49, 48, 49, 49, 49, 50, 49, 51, 49, 52, 49, 53, 49, 54, 49, 55, 49, 56, 49, 57, 50, 48, 50, 49, 50, 50, 50, 51, 50, 52, 50, 53, 50, 54, 50, 55, 50, 56, 50, 57, 51, 48, 51, 49, 51, 50, 51, 51, 51, 52, 51, 53, 51, 54, 51, 55, 51, 56, 51, 57, 52, 48, 52, 49, 52, 50, 52, 51, 52, 52, 52, 53, 52, 54, 52, 55, 52, 56, 52, 57, 53, 48, 53, 49, 53, 50, 53, 51, 53, 52, 53, 53, 53, 54, 53, 55, 53, 56, 53, 57, 54, 48, 54, 49, 54, 50, 54, 51, 54, 52, 54, 53, 54, 54, 54, 55, 54, 56, 54, 57, 55, 48, 55, 49, 55, 50, 55, 51, 55, 52, 55, 53, 55, 54, 55, 55, 55, 56, 55, 57, 56, 48, 56, 49, 56, 50, 56, 51, 56, 52, 56, 53, 56, 54, 56, 55, 56, 56, 56, 57, 57, 48, 57, 49, 57, 50, 57, 51, 57, 52, 57, 53, 57, 54, 57, 55, 57, 56, 57, 57]⟩ : ByteArray)) (u := y9) (vlo := (some (.int .i64 (w64 (p0 * 2))))) (vhi := (some (.int .i64 (w64 ((w64 (p0 * 2)) + 2))))) (lo' := w64 (p0 * 2)) (hi' := w64 ((w64 (p0 * 2)) + 2)) S (wN rfl) rfl Tryd.underlying9 rfl rfl rfl (.inl rfl) (.inl rfl) hx10 rfl (lb rfl) fun a S => ?_
  refine sMove (.string y9) S (wN rfl) (.inr rfl) rfl rfl (lb rfl) fun a S => ?_
  refine leafL (leafT (hK8 _ _ ?_))
  obtain rfl := Option.some.inj h
  exact wp_ret (sRet (.string y9) S (rsl1 rfl (rvT (t := 2) (v := .string y9) S rfl)) ⟨(), rfl, S.mem.sel [] [] (by decide) rfl rfl⟩)

end Go.Proofs.YtmedbnjhgkcndaaDoor
namespace Go.Proofs.YtmedbnjhgkcndaaDoor
open Go.RowKit
set_option linter.unusedVariables false

noncomputable def F_internal_strconv_log10Pow2 (p0 : Int) : Option Int :=
  Option.bind (shrI .i64 (w64 (p0 * 78913)) 18) fun z3 =>
  some z3
set_option maxHeartbeats 4000000 in
set_option maxRecDepth 100000 in
theorem c_internal_strconv_log10Pow2 (E : Nat → Prop) (w0 : World) (p0 : Int) (r : Int) (h : F_internal_strconv_log10Pow2 p0 = some r) (S : St0 E [] w0 w0 [] []) :
    Calls Tryd.prog 88 #[iv p0] w0 (Ret (X := Unit) E [] w0 (fun _ => .int .i64 r) (fun _ => []) (fun _ => [])) := by
  unfold F_internal_strconv_log10Pow2 at h
  refine sEnter (args := [iv p0]) 6 Tryd.func88 rfl rfl (by simp) S (fun a S => ?_)
  refine sSeq (fun K1 hK1 => ?_)
  refine sRegion ?_
  refine sMove (iv 0) S (wN rfl) (.inr rfl) rfl rfl (lb rfl) fun a S => ?_
  refine leafL (leafT (hK1 _ _ ?_))
  refine sSeq (fun K2 hK2 => ?_)
  refine sRegion ?_
  refine sMove (iv p0) S (wN rfl) (.inl rfl) rfl rfl (lb rfl) fun a S => ?_
  refine sBin (iv (w64 (p0 * 78913))) S (wN rfl) rfl rfl rfl (bMul _ _ _ _ p0 78913) rfl (lb rfl) fun a S => ?_
  obtain ⟨z3, hx4, h⟩ := bindSome h
  refine sBin (iv z3) S (wN rfl) rfl rfl rfl (bShrK _ _ _ _ (k := .i64) (k' := .u64) (x := w64 (p0 * 78913)) (y := 18) hx4) rfl (lb rfl) fun a S => ?_
  refine sMove (iv z3) S (wN rfl) (.inr rfl) rfl rfl (lb rfl) fun a S => ?_
  refine leafL (leafT (hK2 _ _ ?_))
  obtain rfl := Option.some.inj h
  exact wp_ret (sRet (iv z3) S (rsl1 rfl (rvT (t := 2) (v := iv z3) S rfl)) ⟨(), rfl, S.mem.sel [] [] (by decide) rfl rfl⟩)

end Go.Proofs.YtmedbnjhgkcndaaDoor
namespace Go.Proofs.YtmedbnjhgkcndaaDoor
open Go.RowKit
set_option linter.unusedVariables false

noncomputable def F_math_bits_Len64 (p0 : Int) : Option Int :=
  Option.bind (α := (Int × Int)) (
    if decide (4294967296 ≤ p0) then
      Option.bind (shrI .u64 p0 32) fun z9 =>
      some (z9, 32)
    else
      some (p0, 0)) fun (o2, o3) =>
  Option.bind (α := (Int × Int)) (
    if decide (65536 ≤ o2) then
      Option.bind (shrI .u64 o2 16) fun z18 =>
      some (z18, w64 (o3 + 16))
    else
      some (o2, o3)) fun (o11, o12) =>
  Option.bind (α := (Int × Int)) (
    if decide (256 ≤ o11) then
      Option.bind (shrI .u64 o11 8) fun z27 =>
      some (z27, w64 (o12 + 8))
    else
      some (o11, o12)) fun (o20, o21) =>
  Option.bind (idxS (⟨#[0, 1, 2, 2, 3, 3, 3, 3, 4, 4, 4, 4, 4, 4, 4, 4, 5, 5, 5, 5, 5, 5, 5, 5, 5, 5, 5, 5, 5, 5, 5, 5, 6, 6, 6, 6, 6, 6, 6, 6, 6, 6, 6, 6, 6, 6, 6, 6, 6, 6, 6, 6, 6, 6, 6, 6, 6, 6, 6, 6, 6, 6, 6, 6, 7, 7, 7, 7, 7, 7, 7, 7, 7, 7, 7, 7, 7, 7, 7, 7, 7, 7, 7, 7, 7, 7, 7, 7, 7, 7, 7, 7, 7, 7, 7, 7, 7, 7, 7, 7, 7, 7, 7, 7, 7, 7, 7, 7, 7, 7, 7, 7, 7, 7, 7, 7, 7, 7, 7, 7, 7, 7, 7, 7, 7, 7, 7, 7, 8, 8, 8, 8, 8, 8, 8, 8, 8, 8, 8, 8, 8, 8, 8, 8, 8, 8, 8, 8, 8, 8, 8, 8, 8, 8, 8, 8, 8, 8, 8, 8, 8, 8, 8, 8, 8, 8, 8, 8, 8, 8, 8, 8, 8, 8, 8, 8, 8, 8, 8, 8, 8, 8, 8, 8, 8, 8, 8, 8, 8, 8, 8, 8, 8, 8, 8, 8, 8, 8, 8, 8, 8, 8, 8, 8, 8, 8, 8, 8, 8, 8, 8, 8, 8, 8, 8, 8, 8, 8, 8, 8, 8, 8, 8, 8, 8, 8, 8, 8, 8, 8, 8, 8, 8, 8, 8, 8, 8, 8, 8, 8, 8, 8, 8, 8, 8, 8, 8, 8, 8, 8, 8, 8, 8, 8, 8, 8]⟩ : ByteArray) (IntKind.u8.wrap o20)) fun x30 =>
  some (w64 (o21 + (IntKind.i64.wrap x30)))
set_option maxHeartbeats 4000000 in
set_option maxRecDepth 100000 in
theorem c_math_bits_Len64 (E : Nat → Prop) (w0 : World) (p0 : Int) (r : Int) (h : F_math_bits_Len64 p0 = some r) (S : St0 E [] w0 w0 [] []) :
    Calls Tryd.prog 89 #[.int .u64 p0] w0 (Ret (X := Unit) E [] w0 (fun _ => .int .i64 r) (fun _ => []) (fun _ => [])) := by
  unfold F_math_bits_Len64 at h
  refine sEnter (args := [.int .u64 p0]) 25 Tryd.func89 rfl rfl (by simp) S (fun a S => ?_)
  refine sSeq (fun K1 hK1 => ?_)
  refine sRegion ?_
  refine sMove (iv 0) S (wN rfl) (.inr rfl) rfl rfl (lb rfl) fun a S => ?_
  refine leafL (leafT (hK1 _ _ ?_))
  obtain ⟨t4, h, g5⟩ := bindSome h
  refine sCut (fun a w => ∃ o2, ∃ o3, (o2, o3) = t4 ∧ St [] E [] w0 25 a w [(0, .int .u64 o2), (2, iv o3)] [] []) ?_ (fun a w hI => ?_)
  · refine sSeq (fun K6 hK6 => ?_)
    refine sRegion ?_
    refine sMove (.int .u64 p0) S (wN rfl) (.inl rfl) rfl rfl (lb rfl) fun a S => ?_
    refine sBin (.bool (decide (4294967296 ≤ p0))) S (wN rfl) rfl rfl rfl (bGe _ _ _ _ .u64 p0 4294967296) rfl (lb rfl) fun a S => ?_
    refine leafL (leafT (hK6 _ _ ?_))
    rcases iteSome h with ⟨hc7, h⟩ | ⟨hc7, h⟩
    rotate_left
    · refine sCondF S rfl hc7 ?_
      exact wp_skip (leafT (⟨p0, 0, Option.some.inj h, S.fix [] [] (by decide) rfl rfl rfl⟩))
    refine sCondT S rfl hc7 ?_
    refine sSeq (fun K8 hK8 => ?_)
    refine sRegion ?_
    refine sMove (.int .u64 p0) S (wN rfl) (.inl rfl) rfl rfl (lb rfl) fun a S => ?_
    obtain ⟨z9, hx10, h⟩ := bindSome h
    refine sBin (.int .u64 z9) S (wN rfl) rfl rfl rfl (bShrK _ _ _ _ (k := .u64) (k' := .u64) (x := p0) (y := 32) hx10) rfl (lb rfl) fun a S => ?_
    refine sMove (.int .u64 z9) S (wN rfl) (.inr rfl) rfl rfl (lb rfl) fun a S => ?_
    refine leafL (leafT (hK8 _ _ ?_))
    refine sRegion ?_
    refine sMove (iv 32) S (wN rfl) (.inr rfl) rfl rfl (lb rfl) fun a S => ?_
    exact leafL (leafT (⟨z9, 32, Option.some.inj h, S.fix [] [] (by decide) rfl rfl rfl⟩))
  obtain ⟨o2, o3, rfl, S⟩ := hI
  have h := g5
  clear g5
  try dsimp only at h
  obtain ⟨t13, h, g14⟩ := bindSome h
  refine sCut (fun a w => ∃ o11, ∃ o12, (o11, o12) = t13 ∧ St [] E [] w0 25 a w [(0, .int .u64 o11), (2, iv o12)] [] []) ?_ (fun a w hI => ?_)
  · refine sSeq (fun K15 hK15 => ?_)
    refine sRegion ?_
    refine sMove (.int .u64 o2) S (wN rfl) (.inl rfl) rfl rfl (lb rfl) fun a S => ?_
    refine sBin (.bool (decide (65536 ≤ o2))) S (wN rfl) rfl rfl rfl (bGe _ _ _ _ .u64 o2 65536) rfl (lb rfl) fun a S => ?_
    refine leafL (leafT (hK15 _ _ ?_))
    rcases iteSome h with ⟨hc16, h⟩ | ⟨hc16, h⟩
    rotate_left
    · refine sCondF S rfl hc16 ?_
      exact wp_skip (leafT (⟨o2, o3, Option.some.inj h, S.fix [] [] (by decide) rfl rfl rfl⟩))
    refine sCondT S rfl hc16 ?_
    refine sSeq (fun K17 hK17 => ?_)
    refine sRegion ?_
    refine sMove (.int .u64 o2) S (wN rfl) (.inl rfl) rfl rfl (lb rfl) fun a S => ?_
    obtain ⟨z18, hx19, h⟩ := bindSome h
    refine sBin (.int .u64 z18) S (wN rfl) rfl rfl rfl (bShrK _ _ _ _ (k := .u64) (k' := .u64) (x := o2) (y := 16) hx19) rfl (lb rfl) fun a S => ?_
    refine sMove (.int .u64 z18) S (wN rfl) (.inr rfl) rfl rfl (lb rfl) fun a S => ?_
    refine leafL (leafT (hK17 _ _ ?_))
    refine sRegion ?_
    refine sMove (iv o3) S (wN rfl) (.inl rfl) rfl rfl (lb rfl) fun a S => ?_
    refine sBin (iv (w64 (o3 + 16))) S (wN rfl) rfl rfl rfl (bAdd _ _ _ _ o3 16) rfl (lb rfl) fun a S => ?_
    refine sMove (iv (w64 (o3 + 16))) S (wN rfl) (.inr rfl) rfl rfl (lb rfl) fun a S => ?_
    exact leafL (leafT (⟨z18, w64 (o3 + 16), Option.some.inj h, S.fix [] [] (by decide) rfl rfl rfl⟩))
  obtain ⟨o11, o12, rfl, S⟩ := hI
  have h := g14
  clear g14
  try dsimp only at h
  obtain ⟨t22, h, g23⟩ := bindSome h
  refine sCut (fun a w => ∃ o20, ∃ o21, (o20, o21) = t22 ∧ St [] E [] w0 25 a w [(0, .int .u64 o20), (2, iv o21)] [] []) ?_ (fun a w hI => ?_)
  · refine sSeq (fun K24 hK24 => ?_)
    refine sRegion ?_
    refine sMove (.int .u64 o11) S (wN rfl) (.inl rfl) rfl rfl (lb rfl) fun a S => ?_
    refine sBin (.bool (decide (256 ≤ o11))) S (wN rfl) rfl rfl rfl (bGe _ _ _ _ .u64 o11 256) rfl (lb rfl) fun a S => ?_
    refine leafL (leafT (hK24 _ _ ?_))
    rcases iteSome h with ⟨hc25, h⟩ | ⟨hc25, h⟩
    rotate_left
    · refine sCondF S rfl hc25 ?_
      exact wp_skip (leafT (⟨o11, o12, Option.some.inj h, S.fix [] [] (by decide) rfl rfl rfl⟩))
    refine sCondT S rfl hc25 ?_
    refine sSeq (fun K26 hK26 => ?_)
    refine sRegion ?_
    refine sMove (.int .u64 o11) S (wN rfl) (.inl rfl) rfl rfl (lb rfl) fun a S => ?_
    obtain ⟨z27, hx28, h⟩ := bindSome h
    refine sBin (.int .u64 z27) S (wN rfl) rfl rfl rfl (bShrK _ _ _ _ (k := .u64) (k' := .u64) (x := o11) (y := 8) hx28) rfl (lb rfl) fun a S => ?_
    refine sMove (.int .u64 z27) S (wN rfl) (.inr rfl) rfl rfl (lb rfl) fun a S => ?_
    refine leafL (leafT (hK26 _ _ ?_))
    refine sRegion ?_
    refine sMove (iv o12) S (wN rfl) (.inl rfl) rfl rfl (lb rfl) fun a S => ?_
    refine sBin (iv (w64 (o12 + 8))) S (wN rfl) rfl rfl rfl (bAdd _ _ _ _ o12 8) rfl (lb rfl) fun a S => ?_
    refine sMove (iv (w64 (o12 + 8))) S (wN rfl) (.inr rfl) rfl rfl (lb rfl) fun a S => ?_
    exact leafL (leafT (⟨z27, w64 (o12 + 8), Option.some.inj h, S.fix [] [] (by decide) rfl rfl rfl⟩))
  obtain ⟨o20, o21, rfl, S⟩ := hI
  have h := g23
  clear g23
  try dsimp only at h
  refine sSeq (fun K29 hK29 => ?_)
  refine sRegion ?_
  refine sMove (iv o21) S (wN rfl) (.inl rfl) rfl rfl (lb rfl) fun a S => ?_
  refine sMove (.int .u64 o20) S (wN rfl) (.inl rfl) rfl rfl (lb rfl) fun a S => ?_
  refine sConv (k := .u64) (k2 := .u8) (b := o20) S (wN rfl) rfl Tryd.underlying139 Tryd.underlying5 rfl rfl (lb rfl) fun a S => ?_
  obtain ⟨x30, hx31, h⟩ := bindSome h
  refine sIndexS (v := (⟨#[0, 1, 2, 2, 3, 3, 3, 3, 4, 4, 4, 4, 4, 4, 4, 4, 5, 5, 5, 5, 5, 5, 5, 5, 5, 5, 5, 5, 5, 5, 5, 5, 6, 6, 6, 6, 6, 6, 6, 6, 6, 6, 6, 6, 6, 6, 6, 6, 6, 6, 6, 6, 6, 6, 6, 6, 6, 6, 6, 6, 6, 6, 6, 6, 7, 7, 7, 7, 7, 7, 7, 7, 7, 7, 7, 7, 7, 7, 7, 7, 7, 7, 7, 7, 7, 7, 7, 7, 7, 7, 7, 7, 7, 7, 7, 7, 7, 7, 7, 7, 7, 7, 7, 7, 7, 7, 7, 7, 7, 7, 7, 7, 7, 7, 7, 7, 7, 7, 7, 7, 7, 7, 7, 7, 7, 7, 7, 7, 8, 8, 8, 8, 8, 8, 8, 8, 8, 8, 8, 8, 8, 8, 8, 8, 8, 8, 8, 8, 8, 8, 8, 8, 8, 8, 8, 8, 8, 8, 8, 8, 8, 8, 8, 8, 8, 8, 8, 8, 8, 8, 8, 8, 8, 8, 8, 8, 8, 8, 8, 8, 8, 8, 8, 8, 8, 8, 8, 8, 8, 8, 8, 8, 8, 8, 8, 8, 8, 8, 8, 8, 8, 8, 8, 8, 8, 8, 8, 8, 8, 8, 8, 8, 8, 8, 8, 8, 8, 8, 8, 8, 8, 8, 8, 8, 8, 8, 8, 8, 8, 8, 8, 8, 8, 8, 8, 8, 8, 8, 8, 8, 8, 8, 8, 8, 8, 8, 8, 8, 8, 8, 8, 8, 8, 8, 8, 8]⟩ : ByteArray)) (j := IntKind.u8.wrap o20) (k := .u8) S (wN rfl) rfl Tryd.underlying9 rfl rfl hx31 rfl (lb rfl) fun a S => ?_
  refine sConv (k := .u8) (k2 := .i64) (b := x30) S (wN rfl) rfl Tryd.underlying5 Tryd.underlying3 rfl rfl (lb rfl) fun a S => ?_
  refine sBin (iv (w64 (o21 + (IntKind.i64.wrap x30)))) S (wN rfl) rfl rfl rfl (bAdd _ _ _ _ o21 (IntKind.i64.wrap x30)) rfl (lb rfl) fun a S => ?_
  refine sMove (iv (w64 (o21 + (IntKind.i64.wrap x30)))) S (wN rfl) (.inr rfl) rfl rfl (lb rfl) fun a S => ?_
  refine leafL (leafT (hK29 _ _ ?_))
  obtain rfl := Option.some.inj h
  exact wp_ret (sRet (iv (w64 (o21 + (IntKind.i64.wrap x30)))) S (rsl1 rfl (rvT (t := 2) (v := iv (w64 (o21 + (IntKind.i64.wrap x30)))) S rfl)) ⟨(), rfl, S.mem.sel [] [] (by decide) rfl rfl⟩)

end Go.Proofs.YtmedbnjhgkcndaaDoor
namespace Go.Proofs.YtmedbnjhgkcndaaDoor
open Go.RowKit
set_option linter.unusedVariables false

noncomputable def F_internal_strconv_numDigits (p0 : Int) : Option Int :=
  Option.bind (F_math_bits_Len64 p0) fun r3 =>
  Option.bind (F_internal_strconv_log10Pow2 r3) fun r5 =>
  none
set_option maxHeartbeats 4000000 in
set_option maxRecDepth 100000 in
theorem c_internal_strconv_numDigits (E : Nat → Prop) (w0 : World) (p0 : Int) (r : Int) (h : F_internal_strconv_numDigits p0 = some r) (S : St0 E [] w0 w0 [] []) :
    Calls Tryd.prog 83 #[.int .u64 p0] w0 (Ret (X := Unit) E [] w0 (fun _ => .int .i64 r) (fun _ => []) (fun _ => [])) := by
  unfold F_internal_strconv_numDigits at h
  refine sEnter (args := [.int .u64 p0]) 15 Tryd.func83 rfl rfl (by simp) S (fun a S => ?_)
  refine sSeq (fun K1 hK1 => ?_)
  refine sRegion ?_
  refine sMove (iv 0) S (wN rfl) (.inr rfl) rfl rfl (lb rfl) fun a S => ?_
  refine leafL (leafT (hK1 _ _ ?_))
  refine sSeq (fun K2 hK2 => ?_)
  refine sRegion ?_
  refine sMove (.int .u64 p0) S (wN rfl) (.inl rfl) rfl rfl (lb rfl) fun a S => ?_
  obtain ⟨r3, hx4, h⟩ := bindSome h
  have S1 := S.mem
  refine sCallQ (X := Unit) (f := 89) (vs := [.int .u64 p0]) (val := fun _ => iv r3) S (wN rfl) rfl callee89 rfl (S1.quiet [] rfl) (fun E1 w1 S1 => c_math_bits_Len64 E1 w1 p0 r3 hx4 S1) rfl (lb rfl) fun _ a w S => ?_
  obtain ⟨r5, hx6, h⟩ := bindSome h
  have S1 := S.mem
  refine sCallQ (X := Unit) (f := 88) (vs := [iv r3]) (val := fun _ => iv r5) S (wN rfl) rfl callee88 rfl (S1.quiet [] rfl) (fun E1 w1 S1 => c_internal_strconv_log10Pow2 E1 w1 r3 r5 hx6 S1) rfl (lb rfl) fun _ a w S => ?_
  refine sMove (iv r5) S (wN rfl) (.inr rfl) rfl rfl (lb rfl) fun a S => ?_
  refine leafL (leafT (hK2 _ _ ?_))
  refine sSeq (fun K7 hK7 => ?_)
  refine sRegion ?_
  refine sMove (iv r5) S (wN rfl) (.inl rfl) rfl rfl (lb rfl) fun a S => ?_
  refine sMove (.int .u64 p0) S (wN rfl) (.inl rfl) rfl rfl (lb rfl) fun a S => ?_
  refine sMove (iv r5) S (wN rfl) (.inl rfl) rfl rfl (lb rfl) fun a S => ?_
  cases h

end Go.Proofs.YtmedbnjhgkcndaaDoor
namespace Go.Proofs.YtmedbnjhgkcndaaDoor
open Go.RowKit
set_option linter.unusedVariables false

noncomputable def F_internal_strconv_FormatInt (p0 : Int) (p1 : Int) : Option ByteArray :=
  if p1 == 10 then
    Option.bind (α := Bool) (
      if decide (0 ≤ p0) then
        some (decide (p0 < 100))
      else
        some false) fun o6 =>
    if o6 then
      Option.bind (F_internal_strconv_small p0) fun r12 =>
      some r12
    else
      Option.bind (α := Int) (
        if decide (p0 < 0) then
          some (IntKind.u64.wrap (0 - (IntKind.u64.wrap p0)))
        else
          some (IntKind.u64.wrap p0)) fun o17 =>
      Option.bind (F_internal_strconv_numDigits o17) fun r23 =>
      none
  else
    none
set_option maxHeartbeats 4000000 in
set_option maxRecDepth 100000 in
theorem c_internal_strconv_FormatInt (E : Nat → Prop) (w0 : World) (p0 : Int) (p1 : Int) (r : ByteArray) (h : F_internal_strconv_FormatInt p0 p1 = some r) (S : St0 E [] w0 w0 [] []) :
    Calls Tryd.prog 79 #[iv p0, iv p1] w0 (Ret (X := Unit) E [] w0 (fun _ => .string r) (fun _ => []) (fun _ => [])) := by
  unfold F_internal_strconv_FormatInt at h
  refine sEnter (args := [iv p0, iv p1]) 54 Tryd.func79 rfl rfl (by simp) S (fun a S => ?_)
  refine sSeq (fun K1 hK1 => ?_)
  refine sRegion ?_
  refine sMove (.string (⟨#[]⟩ : ByteArray)) S (wN rfl) (.inr rfl) rfl rfl (lb rfl) fun a S => ?_
  refine leafL (leafT (hK1 _ _ ?_))
  refine sSeq (fun K2 hK2 => ?_)
  refine sSeq (fun K3 hK3 => ?_)
  refine sRegion ?_
  refine sMove (iv p1) S (wN rfl) (.inl rfl) rfl rfl (lb rfl) fun a S => ?_
  refine sBin (.bool (p1 == 10)) S (wN rfl) rfl rfl rfl (bEq _ _ _ _ .i64 p1 10) rfl (lb rfl) fun a S => ?_
  refine leafL (leafT (hK3 _ _ ?_))
  rcases iteSome h with ⟨hc4, h⟩ | ⟨hc4, h⟩
  rotate_left
  · refine sCondF S rfl hc4 ?_
    refine wp_skip (leafT (hK2 _ _ ?_))
    refine sSeq (fun K26 hK26 => ?_)
    refine sRegion ?_
    refine sMove (iv p0) S (wN rfl) (.inl rfl) rfl rfl (lb rfl) fun a S => ?_
    refine sConv (k := .i64) (k2 := .u64) (b := p0) S (wN rfl) rfl Tryd.underlying2 Tryd.underlying139 rfl rfl (lb rfl) fun a S => ?_
    refine sMove (iv p1) S (wN rfl) (.inl rfl) rfl rfl (lb rfl) fun a S => ?_
    refine sMove (iv p0) S (wN rfl) (.inl rfl) rfl rfl (lb rfl) fun a S => ?_
    refine sBin (.bool (decide (p0 < 0))) S (wN rfl) rfl rfl rfl (bLt _ _ _ _ .i64 p0 0) rfl (lb rfl) fun a S => ?_
    cases h
  refine sCondT S rfl hc4 ?_
  refine sSeq (fun K5 hK5 => ?_)
  obtain ⟨t7, h, g8⟩ := bindSome h
  refine sCut (fun a w => ∃ o6, o6 = t7 ∧ St [] E [] w0 54 a w [(0, iv p0), (17, .bool o6)] [] []) ?_ (fun a w hI => ?_)
  · refine sRegion ?_
    refine sMove (iv p0) S (wN rfl) (.inl rfl) rfl rfl (lb rfl) fun a S => ?_
    refine sBin (.bool (decide (0 ≤ p0))) S (wN rfl) rfl rfl rfl (bLe _ _ _ _ .i64 0 p0) rfl (lb rfl) fun a S => ?_
    refine sMove (.bool (decide (0 ≤ p0))) S (wN rfl) (.inl rfl) rfl rfl (lb rfl) fun a S => ?_
    rcases iteSome h with ⟨hc9, h⟩ | ⟨hc9, h⟩
    rotate_left
    · refine sSkip 2 true 14 15 S rfl rfl rfl hc9 rfl (lb rfl) fun a S => ?_
      refine sSkip 2 true 14 16 S rfl rfl rfl hc9 rfl (lb rfl) fun a S => ?_
      refine sPickF (.bool false) S (wN rfl) rfl rfl hc9 rfl rfl (lb rfl) fun a S => ?_
      exact leafL (leafT (⟨false, Option.some.inj h, S.fix [] [] (by decide) rfl rfl rfl⟩))
    refine sMove (iv p0) S (wG 2 true 14 rfl rfl rfl hc9) (.inl rfl) rfl rfl (lb rfl) fun a S => ?_
    refine sBin (.bool (decide (p0 < 100))) S (wG 2 true 14 rfl rfl rfl hc9) rfl rfl rfl (bLt _ _ _ _ .i64 p0 100) rfl (lb rfl) fun a S => ?_
    refine sPickT (.bool (decide (p0 < 100))) S (wN rfl) rfl rfl hc9 rfl rfl (lb rfl) fun a S => ?_
    exact leafL (leafT (⟨decide (p0 < 100), Option.some.inj h, S.fix [] [] (by decide) rfl rfl rfl⟩))
  obtain ⟨o6, rfl, S⟩ := hI
  have h := g8
  clear g8
  try dsimp only at h
  rcases iteSome h with ⟨hc10, h⟩ | ⟨hc10, h⟩
  · refine sCondT S rfl hc10 ?_
    refine sSeq (fun K11 hK11 => ?_)
    refine sRegion ?_
    refine sMove (iv p0) S (wN rfl) (.inl rfl) rfl rfl (lb rfl) fun a S => ?_
    obtain ⟨r12, hx13, h⟩ := bindSome h
    have S1 := S.mem
    refine sCallQ (X := Unit) (f := 82) (vs := [iv p0]) (val := fun _ => .string r12) S (wN rfl) rfl callee82 rfl (S1.quiet [] rfl) (fun E1 w1 S1 => c_internal_strconv_small E1 w1 p0 r12 hx13 S1) rfl (lb rfl) fun _ a w S => ?_
    refine sMove (.string r12) S (wN rfl) (.inr rfl) rfl rfl (lb rfl) fun a S => ?_
    refine leafL (leafT (hK11 _ _ ?_))
    obtain rfl := Option.some.inj h
    exact wp_ret (rThen (rThen (sRet (.string r12) S (rsl1 rfl (rvT (t := 4) (v := .string r12) S rfl)) ⟨(), rfl, S.mem.sel [] [] (by decide) rfl rfl⟩)))
  refine sCondF S rfl hc10 ?_
  refine wp_skip (leafT (hK5 _ _ ?_))
  refine sSeq (fun K14 hK14 => ?_)
  refine sRegion ?_
  refine sAlloc (gv_A24_Int (0, 0, 0, 0, 0, 0, 0, 0, 0, 0, 0, 0, 0, 0, 0, 0, 0, 0, 0, 0, 0, 0, 0, 0)) S (wN rfl) rfl rfl (gl_A24_Int (0, 0, 0, 0, 0, 0, 0, 0, 0, 0, 0, 0, 0, 0, 0, 0, 0, 0, 0, 0, 0, 0, 0, 0)) rfl rfl (lb rfl) fun a b15 w S => ?_
  refine leafL (leafT (hK14 _ _ ?_))
  refine sSeq (fun K16 hK16 => ?_)
  refine sRegion ?_
  refine sMove (iv p0) S (wN rfl) (.inl rfl) rfl rfl (lb rfl) fun a S => ?_
  refine sConv (k := .i64) (k2 := .u64) (b := p0) S (wN rfl) rfl Tryd.underlying2 Tryd.underlying139 rfl rfl (lb rfl) fun a S => ?_
  refine sMove (.int .u64 (IntKind.u64.wrap p0)) S (wN rfl) (.inr rfl) rfl rfl (lb rfl) fun a S => ?_
  refine leafL (leafT (hK16 _ _ ?_))
  obtain ⟨t18, h, g19⟩ := bindSome h
  refine sCut (fun a w => ∃ o17, o17 = t18 ∧ St [] E [] w0 54 a w [(0, iv p0), (5, .pointer (some ⟨b15, 0, none⟩)), (6, .int .u64 o17)] [eBox b15 138 (gl_A24_Int (0, 0, 0, 0, 0, 0, 0, 0, 0, 0, 0, 0, 0, 0, 0, 0, 0, 0, 0, 0, 0, 0, 0, 0))] []) ?_ (fun a w hI => ?_)
  rotate_left
  · obtain ⟨o17, rfl, S⟩ := hI
    have h := g19
    clear g19
    try dsimp only at h
    refine sSeq (fun K22 hK22 => ?_)
    refine sRegion ?_
    refine sMove (.int .u64 o17) S (wN rfl) (.inl rfl) rfl rfl (lb rfl) fun a S => ?_
    obtain ⟨r23, hx24, h⟩ := bindSome h
    have S1 := S.mem
    refine sCallQ (X := Unit) (f := 83) (vs := [.int .u64 o17]) (val := fun _ => iv r23) S (wN rfl) rfl callee83 rfl (S1.quiet [] rfl) (fun E1 w1 S1 => c_internal_strconv_numDigits E1 w1 o17 r23 hx24 S1) rfl (lb rfl) fun _ a w S => ?_
    refine sMove (iv r23) S (wN rfl) (.inr rfl) rfl rfl (lb rfl) fun a S => ?_
    refine leafL (leafT (hK22 _ _ ?_))
    refine sSeq (fun K25 hK25 => ?_)
    refine sRegion ?_
    refine sMove (iv r23) S (wN rfl) (.inl rfl) rfl rfl (lb rfl) fun a S => ?_
    refine sBin (iv (w64 (1 + r23))) S (wN rfl) rfl rfl rfl (bAdd _ _ _ _ 1 r23) rfl (lb rfl) fun a S => ?_
    cases h
  refine sSeq (fun K20 hK20 => ?_)
  refine sRegion ?_
  refine sMove (iv p0) S (wN rfl) (.inl rfl) rfl rfl (lb rfl) fun a S => ?_
  refine sBin (.bool (decide (p0 < 0))) S (wN rfl) rfl rfl rfl (bLt _ _ _ _ .i64 p0 0) rfl (lb rfl) fun a S => ?_
  refine leafL (leafT (hK20 _ _ ?_))
  rcases iteSome h with ⟨hc21, h⟩ | ⟨hc21, h⟩
  rotate_left
  · refine sCondF S rfl hc21 ?_
    exact wp_skip (leafT (⟨IntKind.u64.wrap p0, Option.some.inj h, S.fix [0] [] (by decide) rfl rfl rfl⟩))
  refine sCondT S rfl hc21 ?_
  refine sRegion ?_
  refine sMove (.int .u64 (IntKind.u64.wrap p0)) S (wN rfl) (.inl rfl) rfl rfl (lb rfl) fun a S => ?_
  refine sNegK (k := .u64) (b := IntKind.u64.wrap p0) S (wN rfl) rfl rfl rfl (lb rfl) fun a S => ?_
  refine sMove (.int .u64 (IntKind.u64.wrap (0 - (IntKind.u64.wrap p0)))) S (wN rfl) (.inr rfl) rfl rfl (lb rfl) fun a S => ?_
  exact leafL (leafT (⟨IntKind.u64.wrap (0 - (IntKind.u64.wrap p0)), Option.some.inj h, S.fix [0] [] (by decide) rfl rfl rfl⟩))

end Go.Proofs.YtmedbnjhgkcndaaDoor
namespace Go.Proofs.YtmedbnjhgkcndaaDoor
open Go.RowKit
set_option linter.unusedVariables false

noncomputable def F_internal_strconv_Itoa (p0 : Int) : Option ByteArray :=
  Option.bind (F_internal_strconv_FormatInt p0 10) fun r3 =>
  some r3
set_option maxHeartbeats 4000000 in
set_option maxRecDepth 100000 in
theorem c_internal_strconv_Itoa (E : Nat → Prop) (w0 : World) (p0 : Int) (r : ByteArray) (h : F_internal_strconv_Itoa p0 = some r) (S : St0 E [] w0 w0 [] []) :
    Calls Tryd.prog 71 #[iv p0] w0 (Ret (X := Unit) E [] w0 (fun _ => .string r) (fun _ => []) (fun _ => [])) := by
  unfold F_internal_strconv_Itoa at h
  refine sEnter (args := [iv p0]) 5 Tryd.func71 rfl rfl (by simp) S (fun a S => ?_)
  refine sSeq (fun K1 hK1 => ?_)
  refine sRegion ?_
  refine sMove (.string (⟨#[]⟩ : ByteArray)) S (wN rfl) (.inr rfl) rfl rfl (lb rfl) fun a S => ?_
  refine leafL (leafT (hK1 _ _ ?_))
  refine sSeq (fun K2 hK2 => ?_)
  refine sRegion ?_
  refine sMove (iv p0) S (wN rfl) (.inl rfl) rfl rfl (lb rfl) fun a S => ?_
  obtain ⟨r3, hx4, h⟩ := bindSome h
  have S1 := S.mem
  refine sCallQ (X := Unit) (f := 79) (vs := [iv p0, iv 10]) (val := fun _ => .string r3) S (wN rfl) rfl callee79 rfl (S1.quiet [] rfl) (fun E1 w1 S1 => c_internal_strconv_FormatInt E1 w1 p0 10 r3 hx4 S1) rfl (lb rfl) fun _ a w S => ?_
  refine sMove (.string r3) S (wN rfl) (.inr rfl) rfl rfl (lb rfl) fun a S => ?_
  refine leafL (leafT (hK2 _ _ ?_))
  obtain rfl := Option.some.inj h
  exact wp_ret (sRet (.string r3) S (rsl1 rfl (rvT (t := 2) (v := .string r3) S rfl)) ⟨(), rfl, S.mem.sel [] [] (by decide) rfl rfl⟩)

end Go.Proofs.YtmedbnjhgkcndaaDoor
namespace Go.Proofs.YtmedbnjhgkcndaaDoor
open Go.RowKit
set_option linter.unusedVariables false

noncomputable def F_strconv_Itoa (p0 : Int) : Option ByteArray :=
  Option.bind (F_internal_strconv_Itoa p0) fun r3 =>
  some r3
set_option maxHeartbeats 4000000 in
set_option maxRecDepth 100000 in
theorem c_strconv_Itoa (E : Nat → Prop) (w0 : World) (p0 : Int) (r : ByteArray) (h : F_strconv_Itoa p0 = some r) (S : St0 E [] w0 w0 [] []) :
    Calls Tryd.prog 61 #[iv p0] w0 (Ret (X := Unit) E [] w0 (fun _ => .string r) (fun _ => []) (fun _ => [])) := by
  unfold F_strconv_Itoa at h
  refine sEnter (args := [iv p0]) 5 Tryd.func61 rfl rfl (by simp) S (fun a S => ?_)
  refine sSeq (fun K1 hK1 => ?_)
  refine sRegion ?_
  refine sMove (.string (⟨#[]⟩ : ByteArray)) S (wN rfl) (.inr rfl) rfl rfl (lb rfl) fun a S => ?_
  refine leafL (leafT (hK1 _ _ ?_))
  refine sSeq (fun K2 hK2 => ?_)
  refine sRegion ?_
  refine sMove (iv p0) S (wN rfl) (.inl rfl) rfl rfl (lb rfl) fun a S => ?_
  obtain ⟨r3, hx4, h⟩ := bindSome h
  have S1 := S.mem
  refine sCallQ (X := Unit) (f := 71) (vs := [iv p0]) (val := fun _ => .string r3) S (wN rfl) rfl callee71 rfl (S1.quiet [] rfl) (fun E1 w1 S1 => c_internal_strconv_Itoa E1 w1 p0 r3 hx4 S1) rfl (lb rfl) fun _ a w S => ?_
  refine sMove (.string r3) S (wN rfl) (.inr rfl) rfl rfl (lb rfl) fun a S => ?_
  refine leafL (leafT (hK2 _ _ ?_))
  obtain rfl := Option.some.inj h
  exact wp_ret (sRet (.string r3) S (rsl1 rfl (rvT (t := 2) (v := .string r3) S rfl)) ⟨(), rfl, S.mem.sel [] [] (by decide) rfl rfl⟩)

end Go.Proofs.YtmedbnjhgkcndaaDoor
namespace Go.Proofs.YtmedbnjhgkcndaaDoor
open Go.RowKit
set_option linter.unusedVariables false

noncomputable def F_stitch_word (p0 : api_Stitch) : Option ByteArray :=
  if p0.Kind == 2 then
    some (⟨#[121, 111]⟩ : ByteArray)
  else
    if p0.Kind == 9 then
      Option.bind (F_strconv_Itoa p0.A) fun r11 =>
      Option.bind (addS (⟨#[111, 110]⟩ : ByteArray) r11) fun z13 =>
      some z13
    else
      Option.bind (F_stitch_forms p0.Kind) fun r16 =>
      Option.bind (α := ByteArray) (
        if p0.Purl then
          some (⟨#[112]⟩ : ByteArray)
        else
          some (⟨#[107]⟩ : ByteArray)) fun o21 =>
      Option.bind (addS o21 r16.1.letter) fun z27 =>
      Option.bind (α := ByteArray) (
        if decide (0 < r16.1.a.2) then
          Option.bind (F_strconv_Itoa p0.A) fun r34 =>
          Option.bind (addS z27 r34) fun z36 =>
          some z36
        else
          some z27) fun o29 =>
      Option.bind (α := ByteArray) (
        if decide (0 < r16.1.b.2) then
          Option.bind (F_strconv_Itoa p0.B) fun r43 =>
          Option.bind (addS (⟨#[47]⟩ : ByteArray) r43) fun z45 =>
          Option.bind (addS o29 z45) fun z47 =>
          some z47
        else
          some o29) fun o38 =>
      some o38
set_option maxHeartbeats 4000000 in
set_option maxRecDepth 100000 in
theorem c_stitch_word (E : Nat → Prop) (w0 : World) (p0 : api_Stitch) (v0 : Value) (r : ByteArray) (h : F_stitch_word p0 = some r) (S : St0 E [] w0 w0 [] [fRep r_api_Stitch (v0) p0]) :
    Calls Tryd.prog 60 #[v0] w0 (Ret (X := Unit) E [] w0 (fun _ => .string r) (fun _ => []) (fun _ => [])) := by
  unfold F_stitch_word at h
  obtain rfl : v0 = .agg #[.int .u8 p0.Kind, .bool p0.Purl, iv p0.A, iv p0.B] := S.know (i := 0) (e := fRep r_api_Stitch (v0) p0) rfl
  refine sEnter (args := [.agg #[.int .u8 p0.Kind, .bool p0.Purl, iv p0.A, iv p0.B]]) 48 Tryd.func60 rfl rfl (by simp) S (fun a S => ?_)
  refine sSeq (fun K1 hK1 => ?_)
  refine sRegion ?_
  refine sBox (v := .agg #[.int .u8 p0.Kind, .bool p0.Purl, iv p0.A, iv p0.B]) S (wN rfl) rfl rfl [.int .u8 p0.Kind, .bool p0.Purl, iv p0.A, iv p0.B] rfl rfl (lb rfl) fun a b2 w S => ?_
  refine sMove (.string (⟨#[]⟩ : ByteArray)) S (wN rfl) (.inr rfl) rfl rfl (lb rfl) fun a S => ?_
  refine leafL (leafT (hK1 _ _ ?_))
  refine sSeq (fun K3 hK3 => ?_)
  refine sSeq (fun K4 hK4 => ?_)
  refine sRegion ?_
  refine sField (b := b2) (off := 0) 0 0 S (wN rfl) rfl rfl rfl rfl rfl (lb rfl) fun a S => ?_
  refine sLoad1 (p := b2) (off := 0) (T := 56) (vs := [.int .u8 p0.Kind, .bool p0.Purl, iv p0.A, iv p0.B]) 0 (.int .u8 p0.Kind) S (wN rfl) rfl rfl rfl rfl rfl rfl (lb rfl) fun a S => ?_
  refine leafL (leafT (hK4 _ _ ?_))
  refine wp_block ?_
  refine sSeq (fun K5 hK5 => ?_)
  refine sRegion ?_
  refine sBin (.bool (p0.Kind == 2)) S (wN rfl) rfl rfl rfl (bEq _ _ _ _ .u8 p0.Kind 2) rfl (lb rfl) fun a S => ?_
  refine sMove (.bool (p0.Kind == 2)) S (wN rfl) (.inr rfl) rfl rfl (lb rfl) fun a S => ?_
  refine leafL (leafT (hK5 _ _ ?_))
  rcases iteSome h with ⟨hc6, h⟩ | ⟨hc6, h⟩
  · refine sCondT S rfl hc6 ?_
    refine sSeq (fun K7 hK7 => ?_)
    refine sRegion ?_
    refine sMove (.string (⟨#[121, 111]⟩ : ByteArray)) S (wN rfl) (.inr rfl) rfl rfl (lb rfl) fun a S => ?_
    refine leafL (leafT (hK7 _ _ ?_))
    obtain rfl := Option.some.inj h
    exact wp_ret (rBlock (rThen (sRet (.string (⟨#[121, 111]⟩ : ByteArray)) S (rsl1 rfl (rvT (t := 2) (v := .string (⟨#[121, 111]⟩ : ByteArray)) S rfl)) ⟨(), rfl, S.mem.sel [] [] (by decide) rfl rfl⟩)))
  refine sCondF S rfl hc6 ?_
  refine sSeq (fun K8 hK8 => ?_)
  refine sRegion ?_
  refine sBin (.bool (p0.Kind == 9)) S (wN rfl) rfl rfl rfl (bEq _ _ _ _ .u8 p0.Kind 9) rfl (lb rfl) fun a S => ?_
  refine sMove (.bool (p0.Kind == 9)) S (wN rfl) (.inr rfl) rfl rfl (lb rfl) fun a S => ?_
  refine leafL (leafT (hK8 _ _ ?_))
  rcases iteSome h with ⟨hc9, h⟩ | ⟨hc9, h⟩
  · refine sCondT S rfl hc9 ?_
    refine sSeq (fun K10 hK10 => ?_)
    refine sRegion ?_
    refine sField (b := b2) (off := 0) 2 2 S (wN rfl) rfl rfl rfl rfl rfl (lb rfl) fun a S => ?_
    refine sLoad1 (p := b2) (off := 2) (T := 56) (vs := [.int .u8 p0.Kind, .bool p0.Purl, iv p0.A, iv p0.B]) 0 (iv p0.A) S (wN rfl) rfl rfl rfl rfl rfl rfl (lb rfl) fun a S => ?_
    obtain ⟨r11, hx12, h⟩ := bindSome h
    have S1 := S.mem
    refine sCallQ (X := Unit) (f := 61) (vs := [iv p0.A]) (val := fun _ => .string r11) S (wN rfl) rfl callee61 rfl (S1.quiet [] rfl) (fun E1 w1 S1 => c_strconv_Itoa E1 w1 p0.A r11 hx12 S1) rfl (lb rfl) fun _ a w S => ?_
    obtain ⟨z13, hx14, h⟩ := bindSome h
    refine sBin (.string z13) S (wN rfl) rfl rfl rfl (bAddS _ _ _ _ (x := (⟨#[111, 110]⟩ : ByteArray)) (y := r11) hx14) rfl (lb rfl) fun a S => ?_
    refine sMove (.string z13) S (wN rfl) (.inr rfl) rfl rfl (lb rfl) fun a S => ?_
    refine leafL (leafT (hK10 _ _ ?_))
    obtain rfl := Option.some.inj h
    exact wp_ret (rBlock (rThen (sRet (.string z13) S (rsl1 rfl (rvT (t := 2) (v := .string z13) S rfl)) ⟨(), rfl, S.mem.sel [] [] (by decide) rfl rfl⟩)))
  refine sCondF S rfl hc9 ?_
  refine wp_skip (leafB (leafT (hK3 _ _ ?_)))
  refine sSeq (fun K15 hK15 => ?_)
  refine sRegion ?_
  refine sField (b := b2) (off := 0) 0 0 S (wN rfl) rfl rfl rfl rfl rfl (lb rfl) fun a S => ?_
  refine sLoad1 (p := b2) (off := 0) (T := 56) (vs := [.int .u8 p0.Kind, .bool p0.Purl, iv p0.A, iv p0.B]) 0 (.int .u8 p0.Kind) S (wN rfl) rfl rfl rfl rfl rfl rfl (lb rfl) fun a S => ?_
  obtain ⟨r16, hx17, h⟩ := bindSome h
  refine sCall (X := Value) (f := 52) (vs := [.int .u8 p0.Kind]) (val := c_stitch_forms_val r16) (B' := fun _ => []) (D' := c_stitch_forms_D r16) [] [eBox b2 56 [.int .u8 p0.Kind, .bool p0.Purl, iv p0.A, iv p0.B]] [] [0] [] S (wN rfl) rfl callee52 rfl (by decide) rfl rfl (fun E1 w1 S1 => c_stitch_forms E1 w1 p0.Kind r16 hx17 S1) rfl (lb rfl) fun u18 a w S => ?_
  obtain rfl : u18 = gv_stitch_form r16.1 := S.mem.know (i := 0) (e := fRep r_stitch_form (u18) r16.1) rfl
  refine sMove (.tuple #[gv_stitch_form r16.1, .bool r16.2]) S (wN rfl) (.inl rfl) rfl rfl (lb rfl) fun a S => ?_
  refine sExtract (vs := [gv_stitch_form r16.1, .bool r16.2]) (gv_stitch_form r16.1) S (wN rfl) rfl rfl rfl rfl (lb rfl) fun a S => ?_
  refine sExtract (vs := [gv_stitch_form r16.1, .bool r16.2]) (.bool r16.2) S (wN rfl) rfl rfl rfl rfl (lb rfl) fun a S => ?_
  refine sAlloc (gv_stitch_form (stitch_form.mk (⟨#[]⟩ : ByteArray) (0, 0) (0, 0) false 0 0)) S (wN rfl) rfl rfl (gl_stitch_form (stitch_form.mk (⟨#[]⟩ : ByteArray) (0, 0) (0, 0) false 0 0)) rfl rfl (lb rfl) fun a b19 w S => ?_
  refine sStore (p := b19) (off := 0) (T := 100) (vs := [.string (⟨#[]⟩ : ByteArray), iv 0, iv 0, iv 0, iv 0, .bool false, iv 0, iv 0]) (v := gv_stitch_form r16.1) 0 [.string r16.1.letter, iv r16.1.a.1, iv r16.1.a.2, iv r16.1.b.1, iv r16.1.b.2, .bool r16.1.sided, iv r16.1.uses, iv r16.1.made] S (wN rfl) rfl rfl rfl rfl rfl rfl rfl (by simp) rfl fun a w S => ?_
  refine sMove (.bool r16.2) S (wN rfl) (.inr rfl) rfl rfl (lb rfl) fun a S => ?_
  refine leafL (leafT (hK15 _ _ ?_))
  refine sSeq (fun K20 hK20 => ?_)
  refine sRegion ?_
  refine sMove (.string (⟨#[107]⟩ : ByteArray)) S (wN rfl) (.inr rfl) rfl rfl (lb rfl) fun a S => ?_
  refine leafL (leafT (hK20 _ _ ?_))
  obtain ⟨t22, h, g23⟩ := bindSome h
  refine sCut (fun a w => ∃ o21, o21 = t22 ∧ St [] E [] w0 48 a w [(1, .pointer (some ⟨b2, 0, none⟩)), (3, .pointer (some ⟨b19, 0, none⟩)), (5, .string o21)] [eBox b2 56 [.int .u8 p0.Kind, .bool p0.Purl, iv p0.A, iv p0.B], eBox b19 100 (gl_stitch_form r16.1)] []) ?_ (fun a w hI => ?_)
  · refine sSeq (fun K24 hK24 => ?_)
    refine sRegion ?_
    refine sField (b := b2) (off := 0) 1 1 S (wN rfl) rfl rfl rfl rfl rfl (lb rfl) fun a S => ?_
    refine sLoad1 (p := b2) (off := 1) (T := 56) (vs := [.int .u8 p0.Kind, .bool p0.Purl, iv p0.A, iv p0.B]) 1 (.bool p0.Purl) S (wN rfl) rfl rfl rfl rfl rfl rfl (lb rfl) fun a S => ?_
    refine leafL (leafT (hK24 _ _ ?_))
    rcases iteSome h with ⟨hc25, h⟩ | ⟨hc25, h⟩
    rotate_left
    · refine sCondF S rfl hc25 ?_
      exact wp_skip (leafT (⟨(⟨#[107]⟩ : ByteArray), Option.some.inj h, S.fix [1, 0] [] (by decide) rfl rfl rfl⟩))
    refine sCondT S rfl hc25 ?_
    refine sRegion ?_
    refine sMove (.string (⟨#[112]⟩ : ByteArray)) S (wN rfl) (.inr rfl) rfl rfl (lb rfl) fun a S => ?_
    exact leafL (leafT (⟨(⟨#[112]⟩ : ByteArray), Option.some.inj h, S.fix [1, 0] [] (by decide) rfl rfl rfl⟩))
  obtain ⟨o21, rfl, S⟩ := hI
  have h := g23
  clear g23
  try dsimp only at h
  refine sSeq (fun K26 hK26 => ?_)
  refine sRegion ?_
  refine sMove (.string o21) S (wN rfl) (.inl rfl) rfl rfl (lb rfl) fun a S => ?_
  refine sField (b := b19) (off := 0) 0 0 S (wN rfl) rfl rfl rfl rfl rfl (lb rfl) fun a S => ?_
  refine sLoad1 (p := b19) (off := 0) (T := 100) (vs := (gl_stitch_form r16.1)) 1 (.string r16.1.letter) S (wN rfl) rfl rfl rfl rfl rfl rfl (lb rfl) fun a S => ?_
  obtain ⟨z27, hx28, h⟩ := bindSome h
  refine sBin (.string z27) S (wN rfl) rfl rfl rfl (bAddS _ _ _ _ (x := o21) (y := r16.1.letter) hx28) rfl (lb rfl) fun a S => ?_
  refine sMove (.string z27) S (wN rfl) (.inr rfl) rfl rfl (lb rfl) fun a S => ?_
  refine leafL (leafT (hK26 _ _ ?_))
  obtain ⟨t30, h, g31⟩ := bindSome h
  refine sCut (fun a w => ∃ o29, o29 = t30 ∧ St [] E [] w0 48 a w [(1, .pointer (some ⟨b2, 0, none⟩)), (3, .pointer (some ⟨b19, 0, none⟩)), (5, .string o29)] [eBox b2 56 [.int .u8 p0.Kind, .bool p0.Purl, iv p0.A, iv p0.B], eBox b19 100 (gl_stitch_form r16.1)] []) ?_ (fun a w hI => ?_)
  · refine sSeq (fun K32 hK32 => ?_)
    refine sRegion ?_
    refine sField (b := b19) (off := 0) 1 1 S (wN rfl) rfl rfl rfl rfl rfl (lb rfl) fun a S => ?_
    refine sIdxV (v := .pointer (some ⟨b19, 1, none⟩)) (k := .i64) (j := 1) (q := .pointer (some ⟨b19, 2, none⟩)) S (wN rfl) rfl rfl rfl (idxV_arr (m := 2) (sz := 1) Tryd.underlying61 rfl (by decide) (by decide) 1) rfl (lb rfl) fun a S => ?_
    refine sLoad1 (p := b19) (off := 2) (T := 100) (vs := (gl_stitch_form r16.1)) 1 (iv r16.1.a.2) S (wN rfl) rfl rfl rfl rfl rfl rfl (lb rfl) fun a S => ?_
    refine sBin (.bool (decide (0 < r16.1.a.2))) S (wN rfl) rfl rfl rfl (bGt _ _ _ _ .i64 r16.1.a.2 0) rfl (lb rfl) fun a S => ?_
    refine leafL (leafT (hK32 _ _ ?_))
    rcases iteSome h with ⟨hc33, h⟩ | ⟨hc33, h⟩
    rotate_left
    · refine sCondF S rfl hc33 ?_
      exact wp_skip (leafT (⟨z27, Option.some.inj h, S.fix [0, 1] [] (by decide) rfl rfl rfl⟩))
    refine sCondT S rfl hc33 ?_
    refine sRegion ?_
    refine sMove (.string z27) S (wN rfl) (.inl rfl) rfl rfl (lb rfl) fun a S => ?_
    refine sField (b := b2) (off := 0) 2 2 S (wN rfl) rfl rfl rfl rfl rfl (lb rfl) fun a S => ?_
    refine sLoad1 (p := b2) (off := 2) (T := 56) (vs := [.int .u8 p0.Kind, .bool p0.Purl, iv p0.A, iv p0.B]) 0 (iv p0.A) S (wN rfl) rfl rfl rfl rfl rfl rfl (lb rfl) fun a S => ?_
    obtain ⟨r34, hx35, h⟩ := bindSome h
    have S1 := S.mem
    refine sCallQ (X := Unit) (f := 61) (vs := [iv p0.A]) (val := fun _ => .string r34) S (wN rfl) rfl callee61 rfl (S1.quiet [] rfl) (fun E1 w1 S1 => c_strconv_Itoa E1 w1 p0.A r34 hx35 S1) rfl (lb rfl) fun _ a w S => ?_
    obtain ⟨z36, hx37, h⟩ := bindSome h
    refine sBin (.string z36) S (wN rfl) rfl rfl rfl (bAddS _ _ _ _ (x := z27) (y := r34) hx37) rfl (lb rfl) fun a S => ?_
    refine sMove (.string z36) S (wN rfl) (.inr rfl) rfl rfl (lb rfl) fun a S => ?_
    exact leafL (leafT (⟨z36, Option.some.inj h, S.fix [0, 1] [] (by decide) rfl rfl rfl⟩))
  obtain ⟨o29, rfl, S⟩ := hI
  have h := g31
  clear g31
  try dsimp only at h
  obtain ⟨t39, h, g40⟩ := bindSome h
  refine sCut (fun a w => ∃ o38, o38 = t39 ∧ St [] E [] w0 48 a w [(5, .string o38)] [] []) ?_ (fun a w hI => ?_)
  rotate_left
  · obtain ⟨o38, rfl, S⟩ := hI
    have h := g40
    clear g40
    try dsimp only at h
    refine sSeq (fun K49 hK49 => ?_)
    refine sRegion ?_
    refine sMove (.string o38) S (wN rfl) (.inl rfl) rfl rfl (lb rfl) fun a S => ?_
    refine sMove (.string o38) S (wN rfl) (.inr rfl) rfl rfl (lb rfl) fun a S => ?_
    refine leafL (leafT (hK49 _ _ ?_))
    obtain rfl := Option.some.inj h
    exact wp_ret (sRet (.string o38) S (rsl1 rfl (rvT (t := 2) (v := .string o38) S rfl)) ⟨(), rfl, S.mem.sel [] [] (by decide) rfl rfl⟩)
  refine sSeq (fun K41 hK41 => ?_)
  refine sRegion ?_
  refine sField (b := b19) (off := 0) 3 3 S (wN rfl) rfl rfl rfl rfl rfl (lb rfl) fun a S => ?_
  refine sIdxV (v := .pointer (some ⟨b19, 3, none⟩)) (k := .i64) (j := 1) (q := .pointer (some ⟨b19, 4, none⟩)) S (wN rfl) rfl rfl rfl (idxV_arr (m := 2) (sz := 1) Tryd.underlying61 rfl (by decide) (by decide) 3) rfl (lb rfl) fun a S => ?_
  refine sLoad1 (p := b19) (off := 4) (T := 100) (vs := (gl_stitch_form r16.1)) 1 (iv r16.1.b.2) S (wN rfl) rfl rfl rfl rfl rfl rfl (lb rfl) fun a S => ?_
  refine sBin (.bool (decide (0 < r16.1.b.2))) S (wN rfl) rfl rfl rfl (bGt _ _ _ _ .i64 r16.1.b.2 0) rfl (lb rfl) fun a S => ?_
  refine leafL (leafT (hK41 _ _ ?_))
  rcases iteSome h with ⟨hc42, h⟩ | ⟨hc42, h⟩
  rotate_left
  · refine sCondF S rfl hc42 ?_
    exact wp_skip (leafT (⟨o29, Option.some.inj h, S.fix [] [] (by decide) rfl rfl rfl⟩))
  refine sCondT S rfl hc42 ?_
  refine sRegion ?_
  refine sMove (.string o29) S (wN rfl) (.inl rfl) rfl rfl (lb rfl) fun a S => ?_
  refine sField (b := b2) (off := 0) 3 3 S (wN rfl) rfl rfl rfl rfl rfl (lb rfl) fun a S => ?_
  refine sLoad1 (p := b2) (off := 3) (T := 56) (vs := [.int .u8 p0.Kind, .bool p0.Purl, iv p0.A, iv p0.B]) 0 (iv p0.B) S (wN rfl) rfl rfl rfl rfl rfl rfl (lb rfl) fun a S => ?_
  obtain ⟨r43, hx44, h⟩ := bindSome h
  have S1 := S.mem
  refine sCallQ (X := Unit) (f := 61) (vs := [iv p0.B]) (val := fun _ => .string r43) S (wN rfl) rfl callee61 rfl (S1.quiet [] rfl) (fun E1 w1 S1 => c_strconv_Itoa E1 w1 p0.B r43 hx44 S1) rfl (lb rfl) fun _ a w S => ?_
  obtain ⟨z45, hx46, h⟩ := bindSome h
  refine sBin (.string z45) S (wN rfl) rfl rfl rfl (bAddS _ _ _ _ (x := (⟨#[47]⟩ : ByteArray)) (y := r43) hx46) rfl (lb rfl) fun a S => ?_
  obtain ⟨z47, hx48, h⟩ := bindSome h
  refine sBin (.string z47) S (wN rfl) rfl rfl rfl (bAddS _ _ _ _ (x := o29) (y := z45) hx48) rfl (lb rfl) fun a S => ?_
  refine sMove (.string z47) S (wN rfl) (.inr rfl) rfl rfl (lb rfl) fun a S => ?_
  exact leafL (leafT (⟨z47, Option.some.inj h, S.fix [] [] (by decide) rfl rfl rfl⟩))

end Go.Proofs.YtmedbnjhgkcndaaDoor
namespace Go.Proofs
open Go.Shelf
def Tryd.lays156_ren : Go.Shelf.Ren := ⟨fun | 156 => 62 | 165 => 72 | 166 => 73 | 169 => 74 | 240 => 80 | 241 => 81 | 276 => 86 | 277 => 87 | n => n, fun | 31 => 108 | 9 => 9 | 3 => 3 | 4 => 4 | 0 => 0 | 20 => 20 | 72 => 127 | 76 => 131 | 70 => 124 | 37 => 125 | 75 => 130 | 127 => 137 | 164 => 144 | 5 => 5 | 80 => 133 | n => n, fun | n => n⟩
theorem Tryd.lays156 : Go.Proofs.Lays.n156 Tryd.prog Tryd.lays156_ren := {
  mixed := by kernel_rfl
  f156 := Tryd.func62.trans (congrArg some (by kernel_rfl))
  f165 := Tryd.func72.trans (congrArg some (by kernel_rfl))
  f166 := Tryd.func73.trans (congrArg some (by kernel_rfl))
  f169 := Tryd.func74.trans (congrArg some (by kernel_rfl))
  f240 := Tryd.func80.trans (congrArg some (by kernel_rfl))
  f241 := Tryd.func81.trans (congrArg some (by kernel_rfl))
  f276 := Tryd.func86.trans (congrArg some (by kernel_rfl))
  f277 := Tryd.func87.trans (congrArg some (by kernel_rfl))
  t0 := Tryd.underlying0
  a0 := Tryd.isAgg0
  z0 := Tryd.sizeOf0
  v0 := Tryd.zeroValue0
  t3 := Tryd.underlying3
  a3 := Tryd.isAgg3
  z3 := Tryd.sizeOf3
  v3 := Tryd.zeroValue3
  t4 := Tryd.underlying4
  a4 := Tryd.isAgg4
  z4 := Tryd.sizeOf4
  v4 := Tryd.zeroValue4
  t9 := Tryd.underlying9
  a9 := Tryd.isAgg9
  z9 := Tryd.sizeOf9
  v9 := Tryd.zeroValue9
  t20 := Tryd.underlying20
  a20 := Tryd.isAgg20
  z20 := Tryd.sizeOf20
  v20 := Tryd.zeroValue20
  t31 := Tryd.underlying108
  a31 := Tryd.isAgg108
  z31 := Tryd.sizeOf108
  v31 := Tryd.zeroValue108
  t37 := Tryd.underlying125
  a37 := Tryd.isAgg125
  z37 := Tryd.sizeOf125
  v37 := Tryd.zeroValue125
  t70 := Tryd.underlying124
  a70 := Tryd.isAgg124
  z70 := Tryd.sizeOf124
  v70 := Tryd.zeroValue124
  t72 := Tryd.underlying127
  a72 := Tryd.isAgg127
  z72 := Tryd.sizeOf127
  v72 := Tryd.zeroValue127
  t75 := Tryd.underlying130
  a75 := Tryd.isAgg130
  z75 := Tryd.sizeOf130
  v75 := Tryd.zeroValue130
  t76 := Tryd.underlying131
  a76 := Tryd.isAgg131
  z76 := Tryd.sizeOf131
  v76 := Tryd.zeroValue131
  t127 := Tryd.underlying137
  a127 := Tryd.isAgg137
  z127 := Tryd.sizeOf137
  v127 := Tryd.zeroValue137
  t164 := Tryd.underlying144
  a164 := Tryd.isAgg144
  z164 := Tryd.sizeOf144
  v164 := Tryd.zeroValue144 }
theorem Tryd.Builder_Extra_156 : Builder.Extra Tryd.prog Tryd.lays156_ren := {
  sizeBuilder := by kernel_rfl
  liesBuilder := by kernel_rfl
  t5 := Tryd.underlying5
  a5 := Tryd.isAgg5
  z5 := Tryd.sizeOf5
  v5 := Tryd.zeroValue5
  infoByte := by kernel_rfl
  cellsByte := by kernel_rfl
  sizeByte := by kernel_rfl
  neB5 := by decide }
open Go.RowKit in
theorem Tryd.strings_Join_none (a : Option Addr) (c : Nat) (sep : ByteArray) (w : World) :
    Calls Tryd.prog 62 #[.slice a 0 c, .string sep] w fun e w' => e = .returned (.string ⟨#[]⟩) ∧ w' = w := Any.strings_Join_none Tryd.lays156 Tryd.Builder_Extra_156 a c sep w
open Go.RowKit in
theorem Tryd.strings_Join (bk o c : Nat) (xs : List ByteArray) (sep : ByteArray) (w : World) (hcells : ∀ (j : Nat) x, xs[j]? = some x → w.cell? ⟨bk, o + j, none⟩ = some (.string x)) (hbk : bk < w.heap.size) (hN : xs.length ≤ 140737488355328) (hcap : xs.length ≤ c) (hlen : (Lib.join (xs.map (·.data.toList)) sep.data.toList).length ≤ 140737488355328) :
    Calls Tryd.prog 62 #[.slice (some ⟨bk, o, none⟩) xs.length c, .string sep] w fun e w' => e = .returned (.string ⟨(Lib.join (xs.map (·.data.toList)) sep.data.toList).toArray⟩) ∧ Below w.heap.size w w' := Any.strings_Join Tryd.lays156 Tryd.Builder_Extra_156 bk o c xs sep w hcells hbk hN hcap hlen
end Go.Proofs
namespace Go.Proofs.YtmedbnjhgkcndaaDoor
open Go.RowKit
set_option linter.unusedVariables false

noncomputable def F_strings_Join (p0 : List ByteArray) (p1 : ByteArray) : Option ByteArray :=
  if decide (p0.length ≤ 140737488355328 ∧ (Lib.join (p0.map (·.data.toList)) p1.data.toList).length ≤ 140737488355328) then
    some ⟨(Lib.join (p0.map (·.data.toList)) p1.data.toList).toArray⟩
  else
    none
theorem all_str {E : Nat → Prop} {w : World} {us : List Value} {ys : List ByteArray} (h : All rS E w us ys) : us = ys.map Value.string := by
  apply List.ext_getElem?
  intro j
  by_cases hj : j < ys.length
  · have hu : j < us.length := by rw [h.1]; exact hj
    have := h.2 j us[j] ys[j] (List.getElem?_eq_getElem hu) (List.getElem?_eq_getElem hj)
    rw [List.getElem?_eq_getElem hu, List.getElem?_map, List.getElem?_eq_getElem hj]
    exact congrArg some this
  · rw [List.getElem?_eq_none (by rw [h.1]; omega), List.getElem?_eq_none (by simp; omega)]
theorem flat_str (ys : List ByteArray) : flat (ys.map Value.string) = ys.map Value.string := by
  induction ys with
  | nil => rfl
  | cons y ys ih => simp only [flat, List.map_cons, List.flatten_cons] at ih ⊢; rw [ih]; rfl
theorem c_strings_Join (E : Nat → Prop) (w0 : World) (p0 : List ByteArray) (v0 : Value) (p1 : ByteArray) (r : ByteArray) (h : F_strings_Join p0 p1 = some r) (S : St0 E [] w0 w0 [] [fRep (rL rS) v0 p0]) :
    Calls Tryd.prog 62 #[v0, .string p1] w0 (Ret (X := Unit) E [] w0 (fun _ => .string r) (fun _ => []) (fun _ => [])) := by
  unfold F_strings_Join at h
  rcases iteSome h with ⟨hc, h⟩ | ⟨hc, h⟩
  · have hc := of_decide_eq_true hc
    obtain rfl := Option.some.inj h
    obtain ⟨ad, c, vs, rfl, hcap, hm, hvs, hcell⟩ := S.know (i := 0) (e := fRep (rL rS) v0 p0) rfl
    have hv := all_str hvs
    subst hv
    rw [flat_str] at hcell
    have fin : ∀ w', Chg [] w0 w' → St0 E [] w0 w' [] [] := fun w' hg => (S.calm hg).sub (fun e he => (by cases he)) (by simp [keysL]) (fun d hd => (by cases hd))
    cases p0 with
    | nil =>
      refine (Tryd.strings_Join_none ad c p1 w0).mono ?_
      rintro e w' ⟨rfl, rfl⟩
      exact ⟨(), rfl, fin _ (Chg.refl _ _)⟩
    | cons x xs =>
      obtain ⟨b, off, rfl, _, hlt, _⟩ := hcell 0 _ rfl
      refine (Tryd.strings_Join b off c (x :: xs) p1 w0 ?_ hlt hc.1 hcap hc.2).mono ?_
      · intro j y hy
        obtain ⟨b', off', h1, _, _, h4⟩ := hcell j (.string y) (by rw [List.getElem?_map, hy]; rfl)
        cases h1
        exact h4
      · rintro e w' ⟨rfl, hb⟩
        exact ⟨(), rfl, fin _ ⟨hb.os, hb.tape, hb.output, hb.size, fun k hk _ => hb.block k hk⟩⟩
  · cases h

end Go.Proofs.YtmedbnjhgkcndaaDoor
namespace Go.Proofs.YtmedbnjhgkcndaaDoor
open Go.RowKit
set_option linter.unusedVariables false

def anc_stitch_text_0 : List (List Nat) := [[], [], [0, 1], [0, 1, 2], [0, 1, 2, 3], [0, 1, 2, 3, 4], [0, 1, 2, 3, 4, 5], [0, 1, 2, 3, 4, 5, 6], [0, 1, 2, 3, 4, 5, 6], [0, 1, 2, 3, 4, 5, 6, 7, 8], [0, 1, 2, 3, 4, 5, 6], [0, 1, 2, 3, 4, 5, 6, 10], [0, 1, 2, 3, 4, 5, 6, 7, 8, 9, 10, 11], [0, 1, 2, 3, 4, 5, 6, 7, 8, 9, 10, 11, 12], [0, 1, 2, 3, 4, 5, 6, 7, 8, 9, 10, 11, 12, 13], [0, 1, 2, 3, 4, 5, 6, 7, 8, 9, 10, 11, 12, 13, 14], [0, 1, 2, 3, 4, 5, 6, 7, 8, 9, 10, 11, 12, 13, 14], [0, 1, 2, 3, 4, 5, 6, 7, 8, 9, 10, 11, 12, 13, 14], [0, 1, 2, 3, 4, 5, 6, 7, 8, 9, 10, 11, 12, 13, 14, 16, 17], [0, 1, 2, 3, 4, 5, 6, 7, 8, 9, 10, 11, 12, 13, 14, 15, 16, 17, 18], [0, 1, 2, 3, 4, 5, 6, 7, 8, 9, 10, 11, 12, 13, 14, 15, 16, 17, 18, 19], [0, 1, 2, 3, 4, 5, 6, 7, 8, 9, 10, 11, 12, 13, 14], [0, 1, 2, 3, 4, 5, 6, 7, 8, 9, 10, 11, 12, 13, 14], [0, 1, 2, 3, 4, 5, 6, 7, 8, 9, 10, 11, 12, 13, 14, 21, 22], [0, 1, 2, 3, 4, 5, 6, 7, 8, 9, 10, 11, 12, 13, 14, 21, 22, 23], [0, 1, 2, 3, 4, 5, 6, 7, 8, 9, 10, 11, 12, 13, 14, 15, 16, 17, 18, 19, 20, 21, 22, 23, 24], [0, 1, 2, 3, 4, 5, 6, 7, 8, 9, 10, 11, 12, 13, 14, 15, 16, 17, 18, 19, 20, 21, 22, 23, 24, 25]]
noncomputable def stitch_text_l1 (p0 : (List api_Stitch)) (s14 : Int) : Int → Option (Int ⊕ Int) := fun s0 => match s0 with
  | s28 =>
    Option.bind (α := Bool) (
      Option.bind (idxO p0 s14) fun x37 =>
      if x37.Kind == 1 then
        if decide ((w64 (s14 + s28)) < (p0.length : Int)) then
          Option.bind (idxO p0 (w64 (s14 + s28))) fun x46 =>
          some ((x46.Kind == x37.Kind) && ((x46.Purl == x37.Purl) && ((x46.A == x37.A) && ((x46.B == x37.B) && true))))
        else
          some false
      else
        some false) fun o34 =>
    if o34 then
      some (.inl (w64 (s28 + 1)))
    else
      some (.inr s28)
noncomputable def stitch_text_l2 (p0 : (List api_Stitch)) : (List ByteArray × Int) → Option ((List ByteArray × Int) ⊕ List ByteArray) := fun s0 => match s0 with
  | (s11, s14) =>
    if decide (s14 < (p0.length : Int)) then
      Option.bind (α := Int) (
        Option.bind (whileO (stitch_text_l1 p0 s14) 1) fun e32 =>
          some e32) fun o25 =>
      Option.bind (idxO p0 s14) fun x77 =>
      Option.bind (F_stitch_word x77) fun r82 =>
      Option.bind (α := ByteArray) (
        if decide (1 < o25) then
          Option.bind (F_strconv_Itoa o25) fun r89 =>
          Option.bind (addS r82 r89) fun z91 =>
          some z91
        else
          some r82) fun o84 =>
      Option.bind (appO s11 [o84]) fun l96 =>
      some (.inl (l96, w64 (s14 + o25)))
    else
      some (.inr s11)
noncomputable def F_stitch_text (p0 : (List api_Stitch)) : Option ByteArray :=
  Option.bind (α := List ByteArray) (
    Option.bind (whileO (stitch_text_l2 p0) (([] : List ByteArray), 0)) fun e18 =>
      some e18) fun o5 =>
  Option.bind (F_strings_Join o5 (⟨#[32]⟩ : ByteArray)) fun r101 =>
  some r101
set_option maxHeartbeats 4000000 in
set_option maxRecDepth 100000 in
theorem c_stitch_text (E : Nat → Prop) (w0 : World) (p0 : (List api_Stitch)) (v0 : Value) (r : ByteArray) (h : F_stitch_text p0 = some r) (S : St0 E [] w0 w0 [] [fRep (rL r_api_Stitch) (v0) p0]) :
    Calls Tryd.prog 48 #[v0] w0 (Ret (X := Unit) E [] w0 (fun _ => .string r) (fun _ => []) (fun _ => [])) := by
  unfold F_stitch_text at h
  obtain ⟨ad1, cp2, _, rfl, _⟩ := S.know (i := 0) (e := fRep (rL r_api_Stitch) (v0) p0) rfl
  refine sEnter (args := [.slice ad1 p0.length cp2]) 60 Tryd.func48 rfl rfl (by simp) S (fun a S => ?_)
  refine sSeq (fun K3 hK3 => ?_)
  refine sRegion ?_
  refine sMove (.string (⟨#[]⟩ : ByteArray)) S (wN rfl) (.inr rfl) rfl rfl (lb rfl) fun a S => ?_
  refine leafL (leafT (hK3 _ _ ?_))
  refine sSeq (fun K4 hK4 => ?_)
  refine sRegion ?_
  refine sMove (.slice none 0 0) S (wN rfl) (.inr rfl) rfl rfl (lb rfl) fun a S => ?_
  refine leafL (leafT (hK4 _ _ ?_))
  obtain ⟨t8, h, g9⟩ := bindSome h
  refine sCut (fun a w => ∃ o5, o5 = t8 ∧ ∃ ad6, ∃ cp7, St [] E [] w0 60 a w [(3, .slice ad6 o5.length cp7)] [eRow rS 9 (.slice ad6 o5.length cp7) o5] []) ?_ (fun a w hI => ?_)
  rotate_left
  · obtain ⟨o5, rfl, ad6, cp7, S⟩ := hI
    have h := g9
    clear g9
    try dsimp only at h
    refine sSeq (fun K100 hK100 => ?_)
    refine sRegion ?_
    refine sMove (.slice ad6 o5.length cp7) S (wN rfl) (.inl rfl) rfl rfl (lb rfl) fun a S => ?_
    obtain ⟨r101, hx102, h⟩ := bindSome h
    have S1 := S.mem
    have S1 := S1.shutR (r := rS) (T := 9) (v := .slice ad6 o5.length cp7) (xs := o5) 0 rfl
    refine sCallQ (X := Unit) (f := 62) (vs := [.slice ad6 o5.length cp7, .string (⟨#[32]⟩ : ByteArray)]) (val := fun _ => .string r101) S (wN rfl) rfl callee62 rfl (S1.quiet [0] rfl) (fun E1 w1 S1 => c_strings_Join E1 w1 o5 (.slice ad6 o5.length cp7) (⟨#[32]⟩ : ByteArray) r101 hx102 S1) rfl (lb rfl) fun _ a w S => ?_
    refine sMove (.string r101) S (wN rfl) (.inr rfl) rfl rfl (lb rfl) fun a S => ?_
    refine leafL (leafT (hK100 _ _ ?_))
    obtain rfl := Option.some.inj h
    exact wp_ret (sRet (.string r101) S (rsl1 rfl (rvT (t := 2) (v := .string r101) S rfl)) ⟨(), rfl, S.mem.sel [] [] (by decide) rfl rfl⟩)
  refine sSeq (fun K10 hK10 => ?_)
  refine sRegion ?_
  refine sMove (iv 0) S (wN rfl) (.inr rfl) rfl rfl (lb rfl) fun a S => ?_
  refine leafL (leafT (hK10 _ _ ?_))
  refine wp_block ?_
  have S := S.nilRow rS 9 (α := ByteArray)
  obtain ⟨t17, hl, g16⟩ := bindSome h
  refine sLoop hl (fun s0 a w => match s0 with | (s11, s14) => ∃ ad12, ∃ cp13, St [] E [] w0 60 a w [(0, .slice ad1 p0.length cp2), (3, .slice ad12 s11.length cp13), (4, iv s14)] [eRow rS 9 (.slice ad12 s11.length cp13) s11] [fRep (rL r_api_Stitch) (.slice ad1 p0.length cp2) p0]) ⟨none, 0, S.fix [0] [0] (by decide) rfl rfl rfl⟩ ?_
  clear hl h
  intro s0 a w c0 hI h hu15
  obtain ⟨s11, s14⟩ := s0
  unfold stitch_text_l2 at h
  dsimp only at h hI
  obtain ⟨ad12, cp13, S⟩ := hI
  refine sSeq (fun K21 hK21 => ?_)
  refine sSeq (fun K22 hK22 => ?_)
  refine sRegion ?_
  refine sMove (iv s14) S (wN rfl) (.inl rfl) rfl rfl (lb rfl) fun a S => ?_
  refine sMove (.slice ad1 p0.length cp2) S (wN rfl) (.inl rfl) rfl rfl (lb rfl) fun a S => ?_
  refine sLen (ad := ad1) (m := p0.length) (c := cp2) S (wN rfl) rfl Tryd.underlying52 rfl rfl (lb rfl) fun a S => ?_
  refine sBin (.bool (decide (s14 < (p0.length : Int)))) S (wN rfl) rfl rfl rfl (bLt _ _ _ _ .i64 s14 (p0.length : Int)) rfl (lb rfl) fun a S => ?_
  refine leafL (leafT (hK22 _ _ ?_))
  rcases iteSome h with ⟨hc23, h⟩ | ⟨hc23, h⟩
  rotate_left
  · refine sCondF S rfl hc23 ?_
    obtain rfl := Option.some.inj h
    obtain rfl := hu15 _ rfl
    have h := g16
    clear g16
    try dsimp only at h
    exact wp_exit (xThen (xThen (xHit (leafT (⟨s11, Option.some.inj h, ad12, cp13, S.fix [0] [] (by decide) rfl rfl rfl⟩)))))
  refine sCondT S rfl hc23 ?_
  refine wp_skip (leafT (hK21 _ _ ?_))
  refine wp_block ?_
  refine sSeq (fun K24 hK24 => ?_)
  refine sRegion ?_
  refine sMove (iv 1) S (wN rfl) (.inr rfl) rfl rfl (lb rfl) fun a S => ?_
  refine leafL (leafT (hK24 _ _ ?_))
  obtain ⟨t26, h, g27⟩ := bindSome h
  refine sCut (fun a w => ∃ o25, o25 = t26 ∧ St [] E [] w0 60 a w [(0, .slice ad1 p0.length cp2), (3, .slice ad12 s11.length cp13), (4, iv s14), (5, iv o25)] [eRow rS 9 (.slice ad12 s11.length cp13) s11] [fRep (rL r_api_Stitch) (.slice ad1 p0.length cp2) p0]) ?_ (fun a w hI => ?_)
  rotate_left
  · obtain ⟨o25, rfl, S⟩ := hI
    have h := g27
    clear g27
    try dsimp only at h
    refine sSeq (fun K76 hK76 => ?_)
    refine sRegion ?_
    refine sMove (.slice ad1 p0.length cp2) S (wN rfl) (.inl rfl) rfl rfl (lb rfl) fun a S => ?_
    refine sMove (iv s14) S (wN rfl) (.inl rfl) rfl rfl (lb rfl) fun a S => ?_
    obtain ⟨x77, hx78, h⟩ := bindSome h
    obtain ⟨q79, hq80, S⟩ := pIdx (P := Tryd.prog) (r := r_api_Stitch) (v := .slice ad1 p0.length cp2) (xs := p0) (j := s14) 52 56 0 S Tryd.underlying52 rfl rfl hx78
    refine sIdxV (v := .slice ad1 p0.length cp2) (k := .i64) (j := s14) S (wN rfl) rfl rfl rfl hq80 rfl (lb rfl) fun a S => ?_
    obtain ⟨u81, S⟩ := pLoad (r := r_api_Stitch) (q := q79) (x := x77) 0 S rfl
    obtain rfl : u81 = .agg #[.int .u8 x77.Kind, .bool x77.Purl, iv x77.A, iv x77.B] := S.mem.know (i := 1) (e := fRep r_api_Stitch (u81) x77) rfl
    refine sLoadVN (vq := q79) 0 [.int .u8 x77.Kind, .bool x77.Purl, iv x77.A, iv x77.B] S (wN rfl) rfl rfl rfl rfl rfl rfl (lb rfl) fun a S => ?_
    obtain ⟨r82, hx83, h⟩ := bindSome h
    have S1 := S.mem
    refine sCallQ (X := Unit) (f := 60) (vs := [.agg #[.int .u8 x77.Kind, .bool x77.Purl, iv x77.A, iv x77.B]]) (val := fun _ => .string r82) S (wN rfl) rfl callee60 rfl (S1.quiet [1] rfl) (fun E1 w1 S1 => c_stitch_word E1 w1 x77 (.agg #[.int .u8 x77.Kind, .bool x77.Purl, iv x77.A, iv x77.B]) r82 hx83 S1) rfl (lb rfl) fun _ a w S => ?_
    refine sMove (.string r82) S (wN rfl) (.inr rfl) rfl rfl (lb rfl) fun a S => ?_
    refine leafL (leafT (hK76 _ _ ?_))
    obtain ⟨t85, h, g86⟩ := bindSome h
    refine sCut (fun a w => ∃ o84, o84 = t85 ∧ St [] E [] w0 60 a w [(0, .slice ad1 p0.length cp2), (3, .slice ad12 s11.length cp13), (4, iv s14), (5, iv o25), (6, .string o84)] [eRow rS 9 (.slice ad12 s11.length cp13) s11] [fRep (rL r_api_Stitch) (.slice ad1 p0.length cp2) p0]) ?_ (fun a w hI => ?_)
    · refine sSeq (fun K87 hK87 => ?_)
      refine sRegion ?_
      refine sMove (iv o25) S (wN rfl) (.inl rfl) rfl rfl (lb rfl) fun a S => ?_
      refine sBin (.bool (decide (1 < o25))) S (wN rfl) rfl rfl rfl (bGt _ _ _ _ .i64 o25 1) rfl (lb rfl) fun a S => ?_
      refine leafL (leafT (hK87 _ _ ?_))
      rcases iteSome h with ⟨hc88, h⟩ | ⟨hc88, h⟩
      rotate_left
      · refine sCondF S rfl hc88 ?_
        exact wp_skip (leafT (⟨r82, Option.some.inj h, S.fix [0] [3] (by decide) rfl rfl rfl⟩))
      refine sCondT S rfl hc88 ?_
      refine sRegion ?_
      refine sMove (.string r82) S (wN rfl) (.inl rfl) rfl rfl (lb rfl) fun a S => ?_
      refine sMove (iv o25) S (wN rfl) (.inl rfl) rfl rfl (lb rfl) fun a S => ?_
      obtain ⟨r89, hx90, h⟩ := bindSome h
      have S1 := S.mem
      refine sCallQ (X := Unit) (f := 61) (vs := [iv o25]) (val := fun _ => .string r89) S (wN rfl) rfl callee61 rfl (S1.quiet [] rfl) (fun E1 w1 S1 => c_strconv_Itoa E1 w1 o25 r89 hx90 S1) rfl (lb rfl) fun _ a w S => ?_
      obtain ⟨z91, hx92, h⟩ := bindSome h
      refine sBin (.string z91) S (wN rfl) rfl rfl rfl (bAddS _ _ _ _ (x := r82) (y := r89) hx92) rfl (lb rfl) fun a S => ?_
      refine sMove (.string z91) S (wN rfl) (.inr rfl) rfl rfl (lb rfl) fun a S => ?_
      exact leafL (leafT (⟨z91, Option.some.inj h, S.fix [0] [3] (by decide) rfl rfl rfl⟩))
    obtain ⟨o84, rfl, S⟩ := hI
    have h := g86
    clear g86
    try dsimp only at h
    refine sSeq (fun K93 hK93 => ?_)
    refine sRegion ?_
    refine sMove (.slice ad12 s11.length cp13) S (wN rfl) (.inl rfl) rfl rfl (lb rfl) fun a S => ?_
    refine sMove (.string o84) S (wN rfl) (.inl rfl) rfl rfl (lb rfl) fun a S => ?_
    refine sLit (r := rS) (T := 9) (xs := [o84]) [(0, .string o84)] 1 [.string o84] [.string o84] (.string (⟨#[]⟩ : ByteArray)) 16 S (wN rfl) rfl rfl Tryd.underlying108 rfl (by decide) (by decide) (by kernel_rfl) rfl (fun E1 w1 hE => All.cons rfl (All.nil _ _ _)) rfl rfl (lb rfl) fun a w ad94 cp95 S => ?_
    obtain ⟨l96, hx97, h⟩ := bindSome h
    refine sApp (r := rS) (T := 9) (xs := s11) (ys := [o84]) (v := .slice ad12 s11.length cp13) (u := .slice ad94 [o84].length cp95) 1 (.string (⟨#[]⟩ : ByteArray)) 16 S (wN rfl) rfl Tryd.underlying108 rfl rfl (by decide) rfl rfl rfl (src_R (T := 9) 0 S.mem rfl) hx97 rfl (lb rfl) fun a w ad98 cp99 S => ?_
    refine sMove (.slice ad98 l96.length cp99) S (wN rfl) (.inr rfl) rfl rfl (lb rfl) fun a S => ?_
    refine leafL (leafT (hK93 _ _ ?_))
    refine sRegion ?_
    refine sMove (iv s14) S (wN rfl) (.inl rfl) rfl rfl (lb rfl) fun a S => ?_
    refine sMove (iv o25) S (wN rfl) (.inl rfl) rfl rfl (lb rfl) fun a S => ?_
    refine sBin (iv (w64 (s14 + o25))) S (wN rfl) rfl rfl rfl (bAdd _ _ _ _ s14 o25) rfl (lb rfl) fun a S => ?_
    refine sMove (iv (w64 (s14 + o25))) S (wN rfl) (.inr rfl) rfl rfl (lb rfl) fun a S => ?_
    exact leafL (leafB (leafT (⟨(l96, w64 (s14 + o25)), (Option.some.inj h).symm, ⟨ad98, cp99, S.fix [0] [0] (by decide) rfl rfl rfl⟩⟩)))
  refine wp_block ?_
  obtain ⟨t31, hl, g30⟩ := bindSome h
  refine sLoop hl (fun s0 a w => match s0 with | s28 => St [] E [] w0 60 a w [(0, .slice ad1 p0.length cp2), (3, .slice ad12 s11.length cp13), (4, iv s14), (5, iv s28)] [eRow rS 9 (.slice ad12 s11.length cp13) s11] [fRep (rL r_api_Stitch) (.slice ad1 p0.length cp2) p0]) (S.fix [0] [0] (by decide) rfl rfl rfl) ?_
  clear hl h
  intro s28 a w c0 hI h hu29
  unfold stitch_text_l1 at h
  dsimp only at h hI
  have S := hI
  refine sSeq (fun K33 hK33 => ?_)
  obtain ⟨t35, h, g36⟩ := bindSome h
  refine sCut (fun a w => ∃ o34, o34 = t35 ∧ St [] E [] w0 60 a w [(0, .slice ad1 p0.length cp2), (3, .slice ad12 s11.length cp13), (4, iv s14), (5, iv s28), (37, .bool o34)] [eRow rS 9 (.slice ad12 s11.length cp13) s11] [fRep (rL r_api_Stitch) (.slice ad1 p0.length cp2) p0]) ?_ (fun a w hI => ?_)
  rotate_left
  · obtain ⟨o34, rfl, S⟩ := hI
    have h := g36
    clear g36
    try dsimp only at h
    rcases iteSome h with ⟨hc75, h⟩ | ⟨hc75, h⟩
    rotate_left
    · refine sCondF S rfl hc75 ?_
      obtain rfl := Option.some.inj h
      obtain rfl := hu29 _ rfl
      have h := g30
      clear g30
      try dsimp only at h
      exact wp_exit (xThen (xThen (xHit (leafT (⟨s28, Option.some.inj h, S.fix [0] [0] (by decide) rfl rfl rfl⟩)))))
    refine sCondT S rfl hc75 ?_
    refine wp_skip (leafT (hK33 _ _ ?_))
    refine wp_block ?_
    refine sRegion ?_
    refine sMove (iv s28) S (wN rfl) (.inl rfl) rfl rfl (lb rfl) fun a S => ?_
    refine sBin (iv (w64 (s28 + 1))) S (wN rfl) rfl rfl rfl (bAdd _ _ _ _ s28 1) rfl (lb rfl) fun a S => ?_
    refine sMove (iv (w64 (s28 + 1))) S (wN rfl) (.inr rfl) rfl rfl (lb rfl) fun a S => ?_
    exact leafL (leafB (leafT (⟨w64 (s28 + 1), (Option.some.inj h).symm, (S.fix [0] [0] (by decide) rfl rfl rfl)⟩)))
  obtain ⟨x37, hx38, h⟩ := bindSome h
  rcases iteSome h with ⟨hc44, h⟩ | ⟨hc44, h⟩
  rotate_left
  · obtain ⟨q70, hq71, S⟩ := pIdx (P := Tryd.prog) (r := r_api_Stitch) (v := .slice ad1 p0.length cp2) (xs := p0) (j := s14) 52 56 0 S Tryd.underlying52 rfl rfl hx38
    obtain ⟨q72, hq73, S⟩ := pFld (P := Tryd.prog) (r := r_api_Stitch) (s2 := (rI .u8)) (g := (·.Kind)) (q := q70) (z := x37) 56 0 0 0 S rfl rfl comp_api_Stitch_Kind
    obtain ⟨u74, S⟩ := pLoad (r := (rI .u8)) (q := q72) (x := x37.Kind) 0 S rfl
    obtain rfl : u74 = .int .u8 x37.Kind := S.mem.know (i := 1) (e := fRep (rI .u8) (u74) x37.Kind) rfl
    refine sDraw (nf := []) (W := [(0, 11, .slice ad1 p0.length cp2), (1, 12, iv s14), (2, 13, q70), (3, 14, q72), (4, 15, .int .u8 x37.Kind), (5, 16, .bool (x37.Kind == 1)), (6, 17, .bool (x37.Kind == 1)), (7, 18, undef), (8, 19, undef), (9, 20, undef), (10, 21, undef), (11, 22, undef), (12, 23, undef), (13, 24, .bool false), (14, 25, .bool false), (15, 26, undef), (16, 27, undef), (17, 28, undef), (18, 29, undef), (19, 30, undef), (20, 31, undef), (21, 32, undef), (22, 33, undef), (23, 34, undef), (24, 35, undef), (25, 36, undef), (26, 37, .bool false)]) rfl S ?_
    refine node_by (A := anc_stitch_text_0) (nf := []) (Y := []) (W := [(0, 11, .slice ad1 p0.length cp2), (1, 12, iv s14), (2, 13, q70), (3, 14, q72), (4, 15, .int .u8 x37.Kind), (5, 16, .bool (x37.Kind == 1)), (6, 17, .bool (x37.Kind == 1)), (7, 18, undef), (8, 19, undef), (9, 20, undef), (10, 21, undef), (11, 22, undef), (12, 23, undef), (13, 24, .bool false), (14, 25, .bool false), (15, 26, undef), (16, 27, undef), (17, 28, undef), (18, 29, undef), (19, 30, undef), (20, 31, undef), (21, 32, undef), (22, 33, undef), (23, 34, undef), (24, 35, undef), (25, 36, undef), (26, 37, .bool false)]) 27 (by kernel_rfl) (by kernel_rfl) (by kernel_rfl) (by kernel_rfl) (by kernel_rfl) [0, 1, 2, 3, 4, 5, 6, 7, 8, 9, 10, 11, 12, 13, 14, 15, 16, 17, 18, 19, 20, 21, 22, 23, 24, 25, 26] (by kernel_rfl) (by decide) (by decide) (aF 0 26 (by decide) ?_ (aF 1 25 (by decide) ?_ (aF 2 24 (by decide) ?_ (aF 3 23 (by decide) ?_ (aF 4 22 (by decide) ?_ (aF 5 21 (by decide) ?_ (aF 6 20 (by decide) ?_ (aF 7 19 (by decide) ?_ (aF 8 18 (by decide) ?_ (aF 9 17 (by decide) ?_ (aF 10 16 (by decide) ?_ (aF 11 15 (by decide) ?_ (aF 12 14 (by decide) ?_ (aF 13 13 (by decide) ?_ (aF 14 12 (by decide) ?_ (aF 15 11 (by decide) ?_ (aF 16 10 (by decide) ?_ (aF 17 9 (by decide) ?_ (aF 18 8 (by decide) ?_ (aF 19 7 (by decide) ?_ (aF 20 6 (by decide) ?_ (aF 21 5 (by decide) ?_ (aF 22 4 (by decide) ?_ (aF 23 3 (by decide) ?_ (aF 24 2 (by decide) ?_ (aF 25 1 (by decide) ?_ (aF 26 0 (by decide) ?_ (trivial)))))))))))))))))))))))))))) [(0, .slice ad1 p0.length cp2), (3, .slice ad12 s11.length cp13), (4, iv s14), (5, iv s28), (18, undef), (19, undef), (20, undef), (21, undef), (22, undef), (23, undef), (26, undef), (27, undef), (28, undef), (29, undef), (30, undef), (31, undef), (32, undef), (33, undef), (34, undef), (35, undef), (36, undef), (37, .bool false)] (fin_of [none, none, none, none, some 7, some 8, some 9, some 10, some 11, some 12, some 15, some 16, some 17, some 18, some 19, some 20, some 21, some 22, some 23, some 24, some 25, some 26] rfl (by kernel_rfl) (by kernel_rfl)) (fun _ a w S => ?_)
    · refine fI 11 (.slice ad1 p0.length cp2) [(0, .slice ad1 p0.length cp2)] 0 [none] rfl rfl rfl rfl rfl rfl fun G a w S => ?_
      refine sMove (.slice ad1 p0.length cp2) S (wN rfl) (.inl rfl) rfl rfl (lb rfl) fun a S => ?_
      exact leafL ⟨rfl, S⟩
    · refine fI 12 (iv s14) [(4, iv s14)] 1 [none] rfl rfl rfl rfl rfl rfl fun G a w S => ?_
      refine sMove (iv s14) S (wN rfl) (.inl rfl) rfl rfl (lb rfl) fun a S => ?_
      exact leafL ⟨rfl, S⟩
    · refine fI 13 q70 [(11, .slice ad1 p0.length cp2), (12, iv s14)] 2 [some 0, some 1] rfl rfl rfl rfl rfl rfl fun G a w S => ?_
      refine sIdxV (v := .slice ad1 p0.length cp2) (k := .i64) (j := s14) S (wN rfl) rfl rfl rfl hq71 rfl (lb rfl) fun a S => ?_
      exact leafL ⟨rfl, S⟩
    · refine fI 14 q72 [(13, q70)] 3 [some 2] rfl rfl rfl rfl rfl rfl fun G a w S => ?_
      refine sFldV (q := q70) S (wN rfl) rfl rfl hq73 rfl (lb rfl) fun a S => ?_
      exact leafL ⟨rfl, S⟩
    · refine fI 15 (.int .u8 x37.Kind) [(14, q72)] 4 [some 3] rfl rfl rfl rfl rfl rfl fun G a w S => ?_
      refine sLoadV1 (vq := q72) 0 (.int .u8 x37.Kind) S (wN rfl) rfl rfl rfl rfl rfl (lb rfl) fun a S => ?_
      exact leafL ⟨rfl, S⟩
    · refine fI 16 (.bool (x37.Kind == 1)) [(15, .int .u8 x37.Kind)] 5 [some 4] rfl rfl rfl rfl rfl rfl fun G a w S => ?_
      refine sBin (.bool (x37.Kind == 1)) S (wN rfl) rfl rfl rfl (bEq _ _ _ _ .u8 x37.Kind 1) rfl (lb rfl) fun a S => ?_
      exact leafL ⟨rfl, S⟩
    · refine fI 17 (.bool (x37.Kind == 1)) [(16, .bool (x37.Kind == 1))] 6 [some 5] rfl rfl rfl rfl rfl rfl fun G a w S => ?_
      refine sMove (.bool (x37.Kind == 1)) S (wN rfl) (.inl rfl) rfl rfl (lb rfl) fun a S => ?_
      exact leafL ⟨rfl, S⟩
    · refine fI 18 undef [(4, iv s14), (17, .bool (x37.Kind == 1))] 7 [none, some 6] rfl rfl rfl rfl rfl rfl fun G a w S => ?_
      refine sSkip 6 true 17 18 S rfl rfl rfl hc44 rfl (lb rfl) fun a S => ?_
      exact leafL ⟨rfl, S⟩
    · refine fI 19 undef [(5, iv s28), (17, .bool (x37.Kind == 1))] 8 [none, some 6] rfl rfl rfl rfl rfl rfl fun G a w S => ?_
      refine sSkip 6 true 17 19 S rfl rfl rfl hc44 rfl (lb rfl) fun a S => ?_
      exact leafL ⟨rfl, S⟩
    · refine fI 20 undef [(18, undef), (19, undef), (17, .bool (x37.Kind == 1))] 9 [some 7, some 8, some 6] rfl rfl rfl rfl rfl rfl fun G a w S => ?_
      refine sSkip 6 true 17 20 S rfl rfl rfl hc44 rfl (lb rfl) fun a S => ?_
      exact leafL ⟨rfl, S⟩
    · refine fI 21 undef [(0, .slice ad1 p0.length cp2), (17, .bool (x37.Kind == 1))] 10 [none, some 6] rfl rfl rfl rfl rfl rfl fun G a w S => ?_
      refine sSkip 6 true 17 21 S rfl rfl rfl hc44 rfl (lb rfl) fun a S => ?_
      exact leafL ⟨rfl, S⟩
    · refine fI 22 undef [(21, undef), (17, .bool (x37.Kind == 1))] 11 [some 10, some 6] rfl rfl rfl rfl rfl rfl fun G a w S => ?_
      refine sSkip 6 true 17 22 S rfl rfl rfl hc44 rfl (lb rfl) fun a S => ?_
      exact leafL ⟨rfl, S⟩
    · refine fI 23 undef [(20, undef), (22, undef), (17, .bool (x37.Kind == 1))] 12 [some 9, some 11, some 6] rfl rfl rfl rfl rfl rfl fun G a w S => ?_
      refine sSkip 6 true 17 23 S rfl rfl rfl hc44 rfl (lb rfl) fun a S => ?_
      exact leafL ⟨rfl, S⟩
    · refine fI 24 (.bool false) [(17, .bool (x37.Kind == 1)), (23, undef)] 13 [some 6, some 12] rfl rfl rfl rfl rfl rfl fun G a w S => ?_
      refine sPickF (.bool false) S (wN rfl) rfl rfl hc44 rfl rfl (lb rfl) fun a S => ?_
      exact leafL ⟨rfl, S⟩
    · refine fI 25 (.bool false) [(24, .bool false)] 14 [some 13] rfl rfl rfl rfl rfl rfl fun G a w S => ?_
      refine sMove (.bool false) S (wN rfl) (.inl rfl) rfl rfl (lb rfl) fun a S => ?_
      exact leafL ⟨rfl, S⟩
    · refine fI 26 undef [(0, .slice ad1 p0.length cp2), (25, .bool false)] 15 [none, some 14] rfl rfl rfl rfl rfl rfl fun G a w S => ?_
      refine sSkip 14 true 25 26 S rfl rfl rfl rfl rfl (lb rfl) fun a S => ?_
      exact leafL ⟨rfl, S⟩
    · refine fI 27 undef [(4, iv s14), (25, .bool false)] 16 [none, some 14] rfl rfl rfl rfl rfl rfl fun G a w S => ?_
      refine sSkip 14 true 25 27 S rfl rfl rfl rfl rfl (lb rfl) fun a S => ?_
      exact leafL ⟨rfl, S⟩
    · refine fI 28 undef [(5, iv s28), (25, .bool false)] 17 [none, some 14] rfl rfl rfl rfl rfl rfl fun G a w S => ?_
      refine sSkip 14 true 25 28 S rfl rfl rfl rfl rfl (lb rfl) fun a S => ?_
      exact leafL ⟨rfl, S⟩
    · refine fI 29 undef [(27, undef), (28, undef), (25, .bool false)] 18 [some 16, some 17, some 14] rfl rfl rfl rfl rfl rfl fun G a w S => ?_
      refine sSkip 14 true 25 29 S rfl rfl rfl rfl rfl (lb rfl) fun a S => ?_
      exact leafL ⟨rfl, S⟩
    · refine fI 30 undef [(26, undef), (29, undef), (25, .bool false)] 19 [some 15, some 18, some 14] rfl rfl rfl rfl rfl rfl fun G a w S => ?_
      refine sSkip 14 true 25 30 S rfl rfl rfl rfl rfl (lb rfl) fun a S => ?_
      exact leafL ⟨rfl, S⟩
    · refine fI 31 undef [(30, undef), (25, .bool false)] 20 [some 19, some 14] rfl rfl rfl rfl rfl rfl fun G a w S => ?_
      refine sSkip 14 true 25 31 S rfl rfl rfl rfl rfl (lb rfl) fun a S => ?_
      exact leafL ⟨rfl, S⟩
    · refine fI 32 undef [(0, .slice ad1 p0.length cp2), (25, .bool false)] 21 [none, some 14] rfl rfl rfl rfl rfl rfl fun G a w S => ?_
      refine sSkip 14 true 25 32 S rfl rfl rfl rfl rfl (lb rfl) fun a S => ?_
      exact leafL ⟨rfl, S⟩
    · refine fI 33 undef [(4, iv s14), (25, .bool false)] 22 [none, some 14] rfl rfl rfl rfl rfl rfl fun G a w S => ?_
      refine sSkip 14 true 25 33 S rfl rfl rfl rfl rfl (lb rfl) fun a S => ?_
      exact leafL ⟨rfl, S⟩
    · refine fI 34 undef [(32, undef), (33, undef), (25, .bool false)] 23 [some 21, some 22, some 14] rfl rfl rfl rfl rfl rfl fun G a w S => ?_
      refine sSkip 14 true 25 34 S rfl rfl rfl rfl rfl (lb rfl) fun a S => ?_
      exact leafL ⟨rfl, S⟩
    · refine fI 35 undef [(34, undef), (25, .bool false)] 24 [some 23, some 14] rfl rfl rfl rfl rfl rfl fun G a w S => ?_
      refine sSkip 14 true 25 35 S rfl rfl rfl rfl rfl (lb rfl) fun a S => ?_
      exact leafL ⟨rfl, S⟩
    · refine fI 36 undef [(31, undef), (35, undef), (25, .bool false)] 25 [some 20, some 24, some 14] rfl rfl rfl rfl rfl rfl fun G a w S => ?_
      refine sSkip 14 true 25 36 S rfl rfl rfl rfl rfl (lb rfl) fun a S => ?_
      exact leafL ⟨rfl, S⟩
    · refine fI 37 (.bool false) [(25, .bool false), (36, undef)] 26 [some 14, some 25] rfl rfl rfl rfl rfl rfl fun G a w S => ?_
      refine sPickF (.bool false) S (wN rfl) rfl rfl rfl rfl rfl (lb rfl) fun a S => ?_
      exact leafL ⟨rfl, S⟩
    exact leafT (⟨false, Option.some.inj h, S.fix [0] [4] (by decide) rfl rfl rfl⟩)
  rcases iteSome h with ⟨hc45, h⟩ | ⟨hc45, h⟩
  rotate_left
  · obtain ⟨q65, hq66, S⟩ := pIdx (P := Tryd.prog) (r := r_api_Stitch) (v := .slice ad1 p0.length cp2) (xs := p0) (j := s14) 52 56 0 S Tryd.underlying52 rfl rfl hx38
    obtain ⟨q67, hq68, S⟩ := pFld (P := Tryd.prog) (r := r_api_Stitch) (s2 := (rI .u8)) (g := (·.Kind)) (q := q65) (z := x37) 56 0 0 0 S rfl rfl comp_api_Stitch_Kind
    obtain ⟨u69, S⟩ := pLoad (r := (rI .u8)) (q := q67) (x := x37.Kind) 0 S rfl
    obtain rfl : u69 = .int .u8 x37.Kind := S.mem.know (i := 1) (e := fRep (rI .u8) (u69) x37.Kind) rfl
    refine sDraw (nf := []) (W := [(0, 11, .slice ad1 p0.length cp2), (1, 12, iv s14), (2, 13, q65), (3, 14, q67), (4, 15, .int .u8 x37.Kind), (5, 16, .bool (x37.Kind == 1)), (6, 17, .bool (x37.Kind == 1)), (7, 18, iv s14), (8, 19, iv s28), (9, 20, iv (w64 (s14 + s28))), (10, 21, .slice ad1 p0.length cp2), (11, 22, iv (p0.length : Int)), (12, 23, .bool (decide ((w64 (s14 + s28)) < (p0.length : Int)))), (13, 24, .bool (decide ((w64 (s14 + s28)) < (p0.length : Int)))), (14, 25, .bool (decide ((w64 (s14 + s28)) < (p0.length : Int)))), (15, 26, undef), (16, 27, undef), (17, 28, undef), (18, 29, undef), (19, 30, undef), (20, 31, undef), (21, 32, undef), (22, 33, undef), (23, 34, undef), (24, 35, undef), (25, 36, undef), (26, 37, .bool false)]) rfl S ?_
    refine node_by (A := anc_stitch_text_0) (nf := []) (Y := []) (W := [(0, 11, .slice ad1 p0.length cp2), (1, 12, iv s14), (2, 13, q65), (3, 14, q67), (4, 15, .int .u8 x37.Kind), (5, 16, .bool (x37.Kind == 1)), (6, 17, .bool (x37.Kind == 1)), (7, 18, iv s14), (8, 19, iv s28), (9, 20, iv (w64 (s14 + s28))), (10, 21, .slice ad1 p0.length cp2), (11, 22, iv (p0.length : Int)), (12, 23, .bool (decide ((w64 (s14 + s28)) < (p0.length : Int)))), (13, 24, .bool (decide ((w64 (s14 + s28)) < (p0.length : Int)))), (14, 25, .bool (decide ((w64 (s14 + s28)) < (p0.length : Int)))), (15, 26, undef), (16, 27, undef), (17, 28, undef), (18, 29, undef), (19, 30, undef), (20, 31, undef), (21, 32, undef), (22, 33, undef), (23, 34, undef), (24, 35, undef), (25, 36, undef), (26, 37, .bool false)]) 27 (by kernel_rfl) (by kernel_rfl) (by kernel_rfl) (by kernel_rfl) (by kernel_rfl) [0, 1, 2, 3, 4, 5, 6, 7, 8, 9, 10, 11, 12, 13, 14, 15, 16, 17, 18, 19, 20, 21, 22, 23, 24, 25, 26] (by kernel_rfl) (by decide) (by decide) (aF 0 26 (by decide) ?_ (aF 1 25 (by decide) ?_ (aF 2 24 (by decide) ?_ (aF 3 23 (by decide) ?_ (aF 4 22 (by decide) ?_ (aF 5 21 (by decide) ?_ (aF 6 20 (by decide) ?_ (aF 7 19 (by decide) ?_ (aF 8 18 (by decide) ?_ (aF 9 17 (by decide) ?_ (aF 10 16 (by decide) ?_ (aF 11 15 (by decide) ?_ (aF 12 14 (by decide) ?_ (aF 13 13 (by decide) ?_ (aF 14 12 (by decide) ?_ (aF 15 11 (by decide) ?_ (aF 16 10 (by decide) ?_ (aF 17 9 (by decide) ?_ (aF 18 8 (by decide) ?_ (aF 19 7 (by decide) ?_ (aF 20 6 (by decide) ?_ (aF 21 5 (by decide) ?_ (aF 22 4 (by decide) ?_ (aF 23 3 (by decide) ?_ (aF 24 2 (by decide) ?_ (aF 25 1 (by decide) ?_ (aF 26 0 (by decide) ?_ (trivial)))))))))))))))))))))))))))) [(0, .slice ad1 p0.length cp2), (3, .slice ad12 s11.length cp13), (4, iv s14), (5, iv s28), (18, iv s14), (19, iv s28), (20, iv (w64 (s14 + s28))), (21, .slice ad1 p0.length cp2), (22, iv (p0.length : Int)), (23, .bool (decide ((w64 (s14 + s28)) < (p0.length : Int)))), (26, undef), (27, undef), (28, undef), (29, undef), (30, undef), (31, undef), (32, undef), (33, undef), (34, undef), (35, undef), (36, undef), (37, .bool false)] (fin_of [none, none, none, none, some 7, some 8, some 9, some 10, some 11, some 12, some 15, some 16, some 17, some 18, some 19, some 20, some 21, some 22, some 23, some 24, some 25, some 26] rfl (by kernel_rfl) (by kernel_rfl)) (fun _ a w S => ?_)
    · refine fI 11 (.slice ad1 p0.length cp2) [(0, .slice ad1 p0.length cp2)] 0 [none] rfl rfl rfl rfl rfl rfl fun G a w S => ?_
      refine sMove (.slice ad1 p0.length cp2) S (wN rfl) (.inl rfl) rfl rfl (lb rfl) fun a S => ?_
      exact leafL ⟨rfl, S⟩
    · refine fI 12 (iv s14) [(4, iv s14)] 1 [none] rfl rfl rfl rfl rfl rfl fun G a w S => ?_
      refine sMove (iv s14) S (wN rfl) (.inl rfl) rfl rfl (lb rfl) fun a S => ?_
      exact leafL ⟨rfl, S⟩
    · refine fI 13 q65 [(11, .slice ad1 p0.length cp2), (12, iv s14)] 2 [some 0, some 1] rfl rfl rfl rfl rfl rfl fun G a w S => ?_
      refine sIdxV (v := .slice ad1 p0.length cp2) (k := .i64) (j := s14) S (wN rfl) rfl rfl rfl hq66 rfl (lb rfl) fun a S => ?_
      exact leafL ⟨rfl, S⟩
    · refine fI 14 q67 [(13, q65)] 3 [some 2] rfl rfl rfl rfl rfl rfl fun G a w S => ?_
      refine sFldV (q := q65) S (wN rfl) rfl rfl hq68 rfl (lb rfl) fun a S => ?_
      exact leafL ⟨rfl, S⟩
    · refine fI 15 (.int .u8 x37.Kind) [(14, q67)] 4 [some 3] rfl rfl rfl rfl rfl rfl fun G a w S => ?_
      refine sLoadV1 (vq := q67) 0 (.int .u8 x37.Kind) S (wN rfl) rfl rfl rfl rfl rfl (lb rfl) fun a S => ?_
      exact leafL ⟨rfl, S⟩
    · refine fI 16 (.bool (x37.Kind == 1)) [(15, .int .u8 x37.Kind)] 5 [some 4] rfl rfl rfl rfl rfl rfl fun G a w S => ?_
      refine sBin (.bool (x37.Kind == 1)) S (wN rfl) rfl rfl rfl (bEq _ _ _ _ .u8 x37.Kind 1) rfl (lb rfl) fun a S => ?_
      exact leafL ⟨rfl, S⟩
    · refine fI 17 (.bool (x37.Kind == 1)) [(16, .bool (x37.Kind == 1))] 6 [some 5] rfl rfl rfl rfl rfl rfl fun G a w S => ?_
      refine sMove (.bool (x37.Kind == 1)) S (wN rfl) (.inl rfl) rfl rfl (lb rfl) fun a S => ?_
      exact leafL ⟨rfl, S⟩
    · refine fI 18 (iv s14) [(4, iv s14), (17, .bool (x37.Kind == 1))] 7 [none, some 6] rfl rfl rfl rfl rfl rfl fun G a w S => ?_
      refine sMove (iv s14) S (wG 6 true 17 rfl rfl rfl hc44) (.inl rfl) rfl rfl (lb rfl) fun a S => ?_
      exact leafL ⟨rfl, S⟩
    · refine fI 19 (iv s28) [(5, iv s28), (17, .bool (x37.Kind == 1))] 8 [none, some 6] rfl rfl rfl rfl rfl rfl fun G a w S => ?_
      refine sMove (iv s28) S (wG 6 true 17 rfl rfl rfl hc44) (.inl rfl) rfl rfl (lb rfl) fun a S => ?_
      exact leafL ⟨rfl, S⟩
    · refine fI 20 (iv (w64 (s14 + s28))) [(18, iv s14), (19, iv s28), (17, .bool (x37.Kind == 1))] 9 [some 7, some 8, some 6] rfl rfl rfl rfl rfl rfl fun G a w S => ?_
      refine sBin (iv (w64 (s14 + s28))) S (wG 6 true 17 rfl rfl rfl hc44) rfl rfl rfl (bAdd _ _ _ _ s14 s28) rfl (lb rfl) fun a S => ?_
      exact leafL ⟨rfl, S⟩
    · refine fI 21 (.slice ad1 p0.length cp2) [(0, .slice ad1 p0.length cp2), (17, .bool (x37.Kind == 1))] 10 [none, some 6] rfl rfl rfl rfl rfl rfl fun G a w S => ?_
      refine sMove (.slice ad1 p0.length cp2) S (wG 6 true 17 rfl rfl rfl hc44) (.inl rfl) rfl rfl (lb rfl) fun a S => ?_
      exact leafL ⟨rfl, S⟩
    · refine fI 22 (iv (p0.length : Int)) [(21, .slice ad1 p0.length cp2), (17, .bool (x37.Kind == 1))] 11 [some 10, some 6] rfl rfl rfl rfl rfl rfl fun G a w S => ?_
      refine sLen (ad := ad1) (m := p0.length) (c := cp2) S (wG 6 true 17 rfl rfl rfl hc44) rfl Tryd.underlying52 rfl rfl (lb rfl) fun a S => ?_
      exact leafL ⟨rfl, S⟩
    · refine fI 23 (.bool (decide ((w64 (s14 + s28)) < (p0.length : Int)))) [(20, iv (w64 (s14 + s28))), (22, iv (p0.length : Int)), (17, .bool (x37.Kind == 1))] 12 [some 9, some 11, some 6] rfl rfl rfl rfl rfl rfl fun G a w S => ?_
      refine sBin (.bool (decide ((w64 (s14 + s28)) < (p0.length : Int)))) S (wG 6 true 17 rfl rfl rfl hc44) rfl rfl rfl (bLt _ _ _ _ .i64 (w64 (s14 + s28)) (p0.length : Int)) rfl (lb rfl) fun a S => ?_
      exact leafL ⟨rfl, S⟩
    · refine fI 24 (.bool (decide ((w64 (s14 + s28)) < (p0.length : Int)))) [(17, .bool (x37.Kind == 1)), (23, .bool (decide ((w64 (s14 + s28)) < (p0.length : Int))))] 13 [some 6, some 12] rfl rfl rfl rfl rfl rfl fun G a w S => ?_
      refine sPickT (.bool (decide ((w64 (s14 + s28)) < (p0.length : Int)))) S (wN rfl) rfl rfl hc44 rfl rfl (lb rfl) fun a S => ?_
      exact leafL ⟨rfl, S⟩
    · refine fI 25 (.bool (decide ((w64 (s14 + s28)) < (p0.length : Int)))) [(24, .bool (decide ((w64 (s14 + s28)) < (p0.length : Int))))] 14 [some 13] rfl rfl rfl rfl rfl rfl fun G a w S => ?_
      refine sMove (.bool (decide ((w64 (s14 + s28)) < (p0.length : Int)))) S (wN rfl) (.inl rfl) rfl rfl (lb rfl) fun a S => ?_
      exact leafL ⟨rfl, S⟩
    · refine fI 26 undef [(0, .slice ad1 p0.length cp2), (25, .bool (decide ((w64 (s14 + s28)) < (p0.length : Int))))] 15 [none, some 14] rfl rfl rfl rfl rfl rfl fun G a w S => ?_
      refine sSkip 14 true 25 26 S rfl rfl rfl hc45 rfl (lb rfl) fun a S => ?_
      exact leafL ⟨rfl, S⟩
    · refine fI 27 undef [(4, iv s14), (25, .bool (decide ((w64 (s14 + s28)) < (p0.length : Int))))] 16 [none, some 14] rfl rfl rfl rfl rfl rfl fun G a w S => ?_
      refine sSkip 14 true 25 27 S rfl rfl rfl hc45 rfl (lb rfl) fun a S => ?_
      exact leafL ⟨rfl, S⟩
    · refine fI 28 undef [(5, iv s28), (25, .bool (decide ((w64 (s14 + s28)) < (p0.length : Int))))] 17 [none, some 14] rfl rfl rfl rfl rfl rfl fun G a w S => ?_
      refine sSkip 14 true 25 28 S rfl rfl rfl hc45 rfl (lb rfl) fun a S => ?_
      exact leafL ⟨rfl, S⟩
    · refine fI 29 undef [(27, undef), (28, undef), (25, .bool (decide ((w64 (s14 + s28)) < (p0.length : Int))))] 18 [some 16, some 17, some 14] rfl rfl rfl rfl rfl rfl fun G a w S => ?_
      refine sSkip 14 true 25 29 S rfl rfl rfl hc45 rfl (lb rfl) fun a S => ?_
      exact leafL ⟨rfl, S⟩
    · refine fI 30 undef [(26, undef), (29, undef), (25, .bool (decide ((w64 (s14 + s28)) < (p0.length : Int))))] 19 [some 15, some 18, some 14] rfl rfl rfl rfl rfl rfl fun G a w S => ?_
      refine sSkip 14 true 25 30 S rfl rfl rfl hc45 rfl (lb rfl) fun a S => ?_
      exact leafL ⟨rfl, S⟩
    · refine fI 31 undef [(30, undef), (25, .bool (decide ((w64 (s14 + s28)) < (p0.length : Int))))] 20 [some 19, some 14] rfl rfl rfl rfl rfl rfl fun G a w S => ?_
      refine sSkip 14 true 25 31 S rfl rfl rfl hc45 rfl (lb rfl) fun a S => ?_
      exact leafL ⟨rfl, S⟩
    · refine fI 32 undef [(0, .slice ad1 p0.length cp2), (25, .bool (decide ((w64 (s14 + s28)) < (p0.length : Int))))] 21 [none, some 14] rfl rfl rfl rfl rfl rfl fun G a w S => ?_
      refine sSkip 14 true 25 32 S rfl rfl rfl hc45 rfl (lb rfl) fun a S => ?_
      exact leafL ⟨rfl, S⟩
    · refine fI 33 undef [(4, iv s14), (25, .bool (decide ((w64 (s14 + s28)) < (p0.length : Int))))] 22 [none, some 14] rfl rfl rfl rfl rfl rfl fun G a w S => ?_
      refine sSkip 14 true 25 33 S rfl rfl rfl hc45 rfl (lb rfl) fun a S => ?_
      exact leafL ⟨rfl, S⟩
    · refine fI 34 undef [(32, undef), (33, undef), (25, .bool (decide ((w64 (s14 + s28)) < (p0.length : Int))))] 23 [some 21, some 22, some 14] rfl rfl rfl rfl rfl rfl fun G a w S => ?_
      refine sSkip 14 true 25 34 S rfl rfl rfl hc45 rfl (lb rfl) fun a S => ?_
      exact leafL ⟨rfl, S⟩
    · refine fI 35 undef [(34, undef), (25, .bool (decide ((w64 (s14 + s28)) < (p0.length : Int))))] 24 [some 23, some 14] rfl rfl rfl rfl rfl rfl fun G a w S => ?_
      refine sSkip 14 true 25 35 S rfl rfl rfl hc45 rfl (lb rfl) fun a S => ?_
      exact leafL ⟨rfl, S⟩
    · refine fI 36 undef [(31, undef), (35, undef), (25, .bool (decide ((w64 (s14 + s28)) < (p0.length : Int))))] 25 [some 20, some 24, some 14] rfl rfl rfl rfl rfl rfl fun G a w S => ?_
      refine sSkip 14 true 25 36 S rfl rfl rfl hc45 rfl (lb rfl) fun a S => ?_
      exact leafL ⟨rfl, S⟩
    · refine fI 37 (.bool false) [(25, .bool (decide ((w64 (s14 + s28)) < (p0.length : Int)))), (36, undef)] 26 [some 14, some 25] rfl rfl rfl rfl rfl rfl fun G a w S => ?_
      refine sPickF (.bool false) S (wN rfl) rfl rfl hc45 rfl rfl (lb rfl) fun a S => ?_
      exact leafL ⟨rfl, S⟩
    exact leafT (⟨false, Option.some.inj h, S.fix [0] [4] (by decide) rfl rfl rfl⟩)
  obtain ⟨x46, hx47, h⟩ := bindSome h
  obtain ⟨q54, hq55, S⟩ := pIdx (P := Tryd.prog) (r := r_api_Stitch) (v := .slice ad1 p0.length cp2) (xs := p0) (j := s14) 52 56 0 S Tryd.underlying52 rfl rfl hx38
  obtain ⟨q56, hq57, S⟩ := pFld (P := Tryd.prog) (r := r_api_Stitch) (s2 := (rI .u8)) (g := (·.Kind)) (q := q54) (z := x37) 56 0 0 0 S rfl rfl comp_api_Stitch_Kind
  obtain ⟨u58, S⟩ := pLoad (r := (rI .u8)) (q := q56) (x := x37.Kind) 0 S rfl
  obtain rfl : u58 = .int .u8 x37.Kind := S.mem.know (i := 1) (e := fRep (rI .u8) (u58) x37.Kind) rfl
  obtain ⟨q59, hq60, S⟩ := pIdx (P := Tryd.prog) (r := r_api_Stitch) (v := .slice ad1 p0.length cp2) (xs := p0) (j := w64 (s14 + s28)) 52 56 4 S Tryd.underlying52 rfl rfl hx47
  obtain ⟨u61, S⟩ := pLoad (r := r_api_Stitch) (q := q59) (x := x46) 0 S rfl
  obtain rfl : u61 = .agg #[.int .u8 x46.Kind, .bool x46.Purl, iv x46.A, iv x46.B] := S.mem.know (i := 1) (e := fRep r_api_Stitch (u61) x46) rfl
  obtain ⟨q62, hq63, S⟩ := pIdx (P := Tryd.prog) (r := r_api_Stitch) (v := .slice ad1 p0.length cp2) (xs := p0) (j := s14) 52 56 7 S Tryd.underlying52 rfl rfl hx38
  obtain ⟨u64, S⟩ := pLoad (r := r_api_Stitch) (q := q62) (x := x37) 0 S rfl
  obtain rfl : u64 = .agg #[.int .u8 x37.Kind, .bool x37.Purl, iv x37.A, iv x37.B] := S.mem.know (i := 1) (e := fRep r_api_Stitch (u64) x37) rfl
  refine sDraw (nf := []) (W := [(0, 11, .slice ad1 p0.length cp2), (1, 12, iv s14), (2, 13, q54), (3, 14, q56), (4, 15, .int .u8 x37.Kind), (5, 16, .bool (x37.Kind == 1)), (6, 17, .bool (x37.Kind == 1)), (7, 18, iv s14), (8, 19, iv s28), (9, 20, iv (w64 (s14 + s28))), (10, 21, .slice ad1 p0.length cp2), (11, 22, iv (p0.length : Int)), (12, 23, .bool (decide ((w64 (s14 + s28)) < (p0.length : Int)))), (13, 24, .bool (decide ((w64 (s14 + s28)) < (p0.length : Int)))), (14, 25, .bool (decide ((w64 (s14 + s28)) < (p0.length : Int)))), (15, 26, .slice ad1 p0.length cp2), (16, 27, iv s14), (17, 28, iv s28), (18, 29, iv (w64 (s14 + s28))), (19, 30, q59), (20, 31, .agg #[.int .u8 x46.Kind, .bool x46.Purl, iv x46.A, iv x46.B]), (21, 32, .slice ad1 p0.length cp2), (22, 33, iv s14), (23, 34, q62), (24, 35, .agg #[.int .u8 x37.Kind, .bool x37.Purl, iv x37.A, iv x37.B]), (25, 36, .bool ((x46.Kind == x37.Kind) && ((x46.Purl == x37.Purl) && ((x46.A == x37.A) && ((x46.B == x37.B) && true))))), (26, 37, .bool ((x46.Kind == x37.Kind) && ((x46.Purl == x37.Purl) && ((x46.A == x37.A) && ((x46.B == x37.B) && true)))))]) rfl S ?_
  refine node_by (A := anc_stitch_text_0) (nf := []) (Y := []) (W := [(0, 11, .slice ad1 p0.length cp2), (1, 12, iv s14), (2, 13, q54), (3, 14, q56), (4, 15, .int .u8 x37.Kind), (5, 16, .bool (x37.Kind == 1)), (6, 17, .bool (x37.Kind == 1)), (7, 18, iv s14), (8, 19, iv s28), (9, 20, iv (w64 (s14 + s28))), (10, 21, .slice ad1 p0.length cp2), (11, 22, iv (p0.length : Int)), (12, 23, .bool (decide ((w64 (s14 + s28)) < (p0.length : Int)))), (13, 24, .bool (decide ((w64 (s14 + s28)) < (p0.length : Int)))), (14, 25, .bool (decide ((w64 (s14 + s28)) < (p0.length : Int)))), (15, 26, .slice ad1 p0.length cp2), (16, 27, iv s14), (17, 28, iv s28), (18, 29, iv (w64 (s14 + s28))), (19, 30, q59), (20, 31, .agg #[.int .u8 x46.Kind, .bool x46.Purl, iv x46.A, iv x46.B]), (21, 32, .slice ad1 p0.length cp2), (22, 33, iv s14), (23, 34, q62), (24, 35, .agg #[.int .u8 x37.Kind, .bool x37.Purl, iv x37.A, iv x37.B]), (25, 36, .bool ((x46.Kind == x37.Kind) && ((x46.Purl == x37.Purl) && ((x46.A == x37.A) && ((x46.B == x37.B) && true))))), (26, 37, .bool ((x46.Kind == x37.Kind) && ((x46.Purl == x37.Purl) && ((x46.A == x37.A) && ((x46.B == x37.B) && true)))))]) 27 (by kernel_rfl) (by kernel_rfl) (by kernel_rfl) (by kernel_rfl) (by kernel_rfl) [0, 1, 2, 3, 4, 5, 6, 7, 8, 9, 10, 11, 12, 13, 14, 15, 16, 17, 18, 19, 20, 21, 22, 23, 24, 25, 26] (by kernel_rfl) (by decide) (by decide) (aF 0 26 (by decide) ?_ (aF 1 25 (by decide) ?_ (aF 2 24 (by decide) ?_ (aF 3 23 (by decide) ?_ (aF 4 22 (by decide) ?_ (aF 5 21 (by decide) ?_ (aF 6 20 (by decide) ?_ (aF 7 19 (by decide) ?_ (aF 8 18 (by decide) ?_ (aF 9 17 (by decide) ?_ (aF 10 16 (by decide) ?_ (aF 11 15 (by decide) ?_ (aF 12 14 (by decide) ?_ (aF 13 13 (by decide) ?_ (aF 14 12 (by decide) ?_ (aF 15 11 (by decide) ?_ (aF 16 10 (by decide) ?_ (aF 17 9 (by decide) ?_ (aF 18 8 (by decide) ?_ (aF 19 7 (by decide) ?_ (aF 20 6 (by decide) ?_ (aF 21 5 (by decide) ?_ (aF 22 4 (by decide) ?_ (aF 23 3 (by decide) ?_ (aF 24 2 (by decide) ?_ (aF 25 1 (by decide) ?_ (aF 26 0 (by decide) ?_ (trivial)))))))))))))))))))))))))))) [(0, .slice ad1 p0.length cp2), (3, .slice ad12 s11.length cp13), (4, iv s14), (5, iv s28), (18, iv s14), (19, iv s28), (20, iv (w64 (s14 + s28))), (21, .slice ad1 p0.length cp2), (22, iv (p0.length : Int)), (23, .bool (decide ((w64 (s14 + s28)) < (p0.length : Int)))), (26, .slice ad1 p0.length cp2), (27, iv s14), (28, iv s28), (29, iv (w64 (s14 + s28))), (30, q59), (31, .agg #[.int .u8 x46.Kind, .bool x46.Purl, iv x46.A, iv x46.B]), (32, .slice ad1 p0.length cp2), (33, iv s14), (34, q62), (35, .agg #[.int .u8 x37.Kind, .bool x37.Purl, iv x37.A, iv x37.B]), (36, .bool ((x46.Kind == x37.Kind) && ((x46.Purl == x37.Purl) && ((x46.A == x37.A) && ((x46.B == x37.B) && true))))), (37, .bool ((x46.Kind == x37.Kind) && ((x46.Purl == x37.Purl) && ((x46.A == x37.A) && ((x46.B == x37.B) && true)))))] (fin_of [none, none, none, none, some 7, some 8, some 9, some 10, some 11, some 12, some 15, some 16, some 17, some 18, some 19, some 20, some 21, some 22, some 23, some 24, some 25, some 26] rfl (by kernel_rfl) (by kernel_rfl)) (fun _ a w S => ?_)
  · refine fI 11 (.slice ad1 p0.length cp2) [(0, .slice ad1 p0.length cp2)] 0 [none] rfl rfl rfl rfl rfl rfl fun G a w S => ?_
    refine sMove (.slice ad1 p0.length cp2) S (wN rfl) (.inl rfl) rfl rfl (lb rfl) fun a S => ?_
    exact leafL ⟨rfl, S⟩
  · refine fI 12 (iv s14) [(4, iv s14)] 1 [none] rfl rfl rfl rfl rfl rfl fun G a w S => ?_
    refine sMove (iv s14) S (wN rfl) (.inl rfl) rfl rfl (lb rfl) fun a S => ?_
    exact leafL ⟨rfl, S⟩
  · refine fI 13 q54 [(11, .slice ad1 p0.length cp2), (12, iv s14)] 2 [some 0, some 1] rfl rfl rfl rfl rfl rfl fun G a w S => ?_
    refine sIdxV (v := .slice ad1 p0.length cp2) (k := .i64) (j := s14) S (wN rfl) rfl rfl rfl hq55 rfl (lb rfl) fun a S => ?_
    exact leafL ⟨rfl, S⟩
  · refine fI 14 q56 [(13, q54)] 3 [some 2] rfl rfl rfl rfl rfl rfl fun G a w S => ?_
    refine sFldV (q := q54) S (wN rfl) rfl rfl hq57 rfl (lb rfl) fun a S => ?_
    exact leafL ⟨rfl, S⟩
  · refine fI 15 (.int .u8 x37.Kind) [(14, q56)] 4 [some 3] rfl rfl rfl rfl rfl rfl fun G a w S => ?_
    refine sLoadV1 (vq := q56) 6 (.int .u8 x37.Kind) S (wN rfl) rfl rfl rfl rfl rfl (lb rfl) fun a S => ?_
    exact leafL ⟨rfl, S⟩
  · refine fI 16 (.bool (x37.Kind == 1)) [(15, .int .u8 x37.Kind)] 5 [some 4] rfl rfl rfl rfl rfl rfl fun G a w S => ?_
    refine sBin (.bool (x37.Kind == 1)) S (wN rfl) rfl rfl rfl (bEq _ _ _ _ .u8 x37.Kind 1) rfl (lb rfl) fun a S => ?_
    exact leafL ⟨rfl, S⟩
  · refine fI 17 (.bool (x37.Kind == 1)) [(16, .bool (x37.Kind == 1))] 6 [some 5] rfl rfl rfl rfl rfl rfl fun G a w S => ?_
    refine sMove (.bool (x37.Kind == 1)) S (wN rfl) (.inl rfl) rfl rfl (lb rfl) fun a S => ?_
    exact leafL ⟨rfl, S⟩
  · refine fI 18 (iv s14) [(4, iv s14), (17, .bool (x37.Kind == 1))] 7 [none, some 6] rfl rfl rfl rfl rfl rfl fun G a w S => ?_
    refine sMove (iv s14) S (wG 6 true 17 rfl rfl rfl hc44) (.inl rfl) rfl rfl (lb rfl) fun a S => ?_
    exact leafL ⟨rfl, S⟩
  · refine fI 19 (iv s28) [(5, iv s28), (17, .bool (x37.Kind == 1))] 8 [none, some 6] rfl rfl rfl rfl rfl rfl fun G a w S => ?_
    refine sMove (iv s28) S (wG 6 true 17 rfl rfl rfl hc44) (.inl rfl) rfl rfl (lb rfl) fun a S => ?_
    exact leafL ⟨rfl, S⟩
  · refine fI 20 (iv (w64 (s14 + s28))) [(18, iv s14), (19, iv s28), (17, .bool (x37.Kind == 1))] 9 [some 7, some 8, some 6] rfl rfl rfl rfl rfl rfl fun G a w S => ?_
    refine sBin (iv (w64 (s14 + s28))) S (wG 6 true 17 rfl rfl rfl hc44) rfl rfl rfl (bAdd _ _ _ _ s14 s28) rfl (lb rfl) fun a S => ?_
    exact leafL ⟨rfl, S⟩
  · refine fI 21 (.slice ad1 p0.length cp2) [(0, .slice ad1 p0.length cp2), (17, .bool (x37.Kind == 1))] 10 [none, some 6] rfl rfl rfl rfl rfl rfl fun G a w S => ?_
    refine sMove (.slice ad1 p0.length cp2) S (wG 6 true 17 rfl rfl rfl hc44) (.inl rfl) rfl rfl (lb rfl) fun a S => ?_
    exact leafL ⟨rfl, S⟩
  · refine fI 22 (iv (p0.length : Int)) [(21, .slice ad1 p0.length cp2), (17, .bool (x37.Kind == 1))] 11 [some 10, some 6] rfl rfl rfl rfl rfl rfl fun G a w S => ?_
    refine sLen (ad := ad1) (m := p0.length) (c := cp2) S (wG 6 true 17 rfl rfl rfl hc44) rfl Tryd.underlying52 rfl rfl (lb rfl) fun a S => ?_
    exact leafL ⟨rfl, S⟩
  · refine fI 23 (.bool (decide ((w64 (s14 + s28)) < (p0.length : Int)))) [(20, iv (w64 (s14 + s28))), (22, iv (p0.length : Int)), (17, .bool (x37.Kind == 1))] 12 [some 9, some 11, some 6] rfl rfl rfl rfl rfl rfl fun G a w S => ?_
    refine sBin (.bool (decide ((w64 (s14 + s28)) < (p0.length : Int)))) S (wG 6 true 17 rfl rfl rfl hc44) rfl rfl rfl (bLt _ _ _ _ .i64 (w64 (s14 + s28)) (p0.length : Int)) rfl (lb rfl) fun a S => ?_
    exact leafL ⟨rfl, S⟩
  · refine fI 24 (.bool (decide ((w64 (s14 + s28)) < (p0.length : Int)))) [(17, .bool (x37.Kind == 1)), (23, .bool (decide ((w64 (s14 + s28)) < (p0.length : Int))))] 13 [some 6, some 12] rfl rfl rfl rfl rfl rfl fun G a w S => ?_
    refine sPickT (.bool (decide ((w64 (s14 + s28)) < (p0.length : Int)))) S (wN rfl) rfl rfl hc44 rfl rfl (lb rfl) fun a S => ?_
    exact leafL ⟨rfl, S⟩
  · refine fI 25 (.bool (decide ((w64 (s14 + s28)) < (p0.length : Int)))) [(24, .bool (decide ((w64 (s14 + s28)) < (p0.length : Int))))] 14 [some 13] rfl rfl rfl rfl rfl rfl fun G a w S => ?_
    refine sMove (.bool (decide ((w64 (s14 + s28)) < (p0.length : Int)))) S (wN rfl) (.inl rfl) rfl rfl (lb rfl) fun a S => ?_
    exact leafL ⟨rfl, S⟩
  · refine fI 26 (.slice ad1 p0.length cp2) [(0, .slice ad1 p0.length cp2), (25, .bool (decide ((w64 (s14 + s28)) < (p0.length : Int))))] 15 [none, some 14] rfl rfl rfl rfl rfl rfl fun G a w S => ?_
    refine sMove (.slice ad1 p0.length cp2) S (wG 14 true 25 rfl rfl rfl hc45) (.inl rfl) rfl rfl (lb rfl) fun a S => ?_
    exact leafL ⟨rfl, S⟩
  · refine fI 27 (iv s14) [(4, iv s14), (25, .bool (decide ((w64 (s14 + s28)) < (p0.length : Int))))] 16 [none, some 14] rfl rfl rfl rfl rfl rfl fun G a w S => ?_
    refine sMove (iv s14) S (wG 14 true 25 rfl rfl rfl hc45) (.inl rfl) rfl rfl (lb rfl) fun a S => ?_
    exact leafL ⟨rfl, S⟩
  · refine fI 28 (iv s28) [(5, iv s28), (25, .bool (decide ((w64 (s14 + s28)) < (p0.length : Int))))] 17 [none, some 14] rfl rfl rfl rfl rfl rfl fun G a w S => ?_
    refine sMove (iv s28) S (wG 14 true 25 rfl rfl rfl hc45) (.inl rfl) rfl rfl (lb rfl) fun a S => ?_
    exact leafL ⟨rfl, S⟩
  · refine fI 29 (iv (w64 (s14 + s28))) [(27, iv s14), (28, iv s28), (25, .bool (decide ((w64 (s14 + s28)) < (p0.length : Int))))] 18 [some 16, some 17, some 14] rfl rfl rfl rfl rfl rfl fun G a w S => ?_
    refine sBin (iv (w64 (s14 + s28))) S (wG 14 true 25 rfl rfl rfl hc45) rfl rfl rfl (bAdd _ _ _ _ s14 s28) rfl (lb rfl) fun a S => ?_
    exact leafL ⟨rfl, S⟩
  · refine fI 30 q59 [(26, .slice ad1 p0.length cp2), (29, iv (w64 (s14 + s28))), (25, .bool (decide ((w64 (s14 + s28)) < (p0.length : Int))))] 19 [some 15, some 18, some 14] rfl rfl rfl rfl rfl rfl fun G a w S => ?_
    refine sIdxV (v := .slice ad1 p0.length cp2) (k := .i64) (j := w64 (s14 + s28)) S (wG 14 true 25 rfl rfl rfl hc45) rfl rfl rfl hq60 rfl (lb rfl) fun a S => ?_
    exact leafL ⟨rfl, S⟩
  · refine fI 31 (.agg #[.int .u8 x46.Kind, .bool x46.Purl, iv x46.A, iv x46.B]) [(30, q59), (25, .bool (decide ((w64 (s14 + s28)) < (p0.length : Int))))] 20 [some 19, some 14] rfl rfl rfl rfl rfl rfl fun G a w S => ?_
    refine sLoadVN (vq := q59) 3 [.int .u8 x46.Kind, .bool x46.Purl, iv x46.A, iv x46.B] S (wG 14 true 25 rfl rfl rfl hc45) rfl rfl rfl rfl rfl rfl (lb rfl) fun a S => ?_
    exact leafL ⟨rfl, S⟩
  · refine fI 32 (.slice ad1 p0.length cp2) [(0, .slice ad1 p0.length cp2), (25, .bool (decide ((w64 (s14 + s28)) < (p0.length : Int))))] 21 [none, some 14] rfl rfl rfl rfl rfl rfl fun G a w S => ?_
    refine sMove (.slice ad1 p0.length cp2) S (wG 14 true 25 rfl rfl rfl hc45) (.inl rfl) rfl rfl (lb rfl) fun a S => ?_
    exact leafL ⟨rfl, S⟩
  · refine fI 33 (iv s14) [(4, iv s14), (25, .bool (decide ((w64 (s14 + s28)) < (p0.length : Int))))] 22 [none, some 14] rfl rfl rfl rfl rfl rfl fun G a w S => ?_
    refine sMove (iv s14) S (wG 14 true 25 rfl rfl rfl hc45) (.inl rfl) rfl rfl (lb rfl) fun a S => ?_
    exact leafL ⟨rfl, S⟩
  · refine fI 34 q62 [(32, .slice ad1 p0.length cp2), (33, iv s14), (25, .bool (decide ((w64 (s14 + s28)) < (p0.length : Int))))] 23 [some 21, some 22, some 14] rfl rfl rfl rfl rfl rfl fun G a w S => ?_
    refine sIdxV (v := .slice ad1 p0.length cp2) (k := .i64) (j := s14) S (wG 14 true 25 rfl rfl rfl hc45) rfl rfl rfl hq63 rfl (lb rfl) fun a S => ?_
    exact leafL ⟨rfl, S⟩
  · refine fI 35 (.agg #[.int .u8 x37.Kind, .bool x37.Purl, iv x37.A, iv x37.B]) [(34, q62), (25, .bool (decide ((w64 (s14 + s28)) < (p0.length : Int))))] 24 [some 23, some 14] rfl rfl rfl rfl rfl rfl fun G a w S => ?_
    refine sLoadVN (vq := q62) 0 [.int .u8 x37.Kind, .bool x37.Purl, iv x37.A, iv x37.B] S (wG 14 true 25 rfl rfl rfl hc45) rfl rfl rfl rfl rfl rfl (lb rfl) fun a S => ?_
    exact leafL ⟨rfl, S⟩
  · refine fI 36 (.bool ((x46.Kind == x37.Kind) && ((x46.Purl == x37.Purl) && ((x46.A == x37.A) && ((x46.B == x37.B) && true))))) [(31, .agg #[.int .u8 x46.Kind, .bool x46.Purl, iv x46.A, iv x46.B]), (35, .agg #[.int .u8 x37.Kind, .bool x37.Purl, iv x37.A, iv x37.B]), (25, .bool (decide ((w64 (s14 + s28)) < (p0.length : Int))))] 25 [some 20, some 24, some 14] rfl rfl rfl rfl rfl rfl fun G a w S => ?_
    refine sBin (.bool ((x46.Kind == x37.Kind) && ((x46.Purl == x37.Purl) && ((x46.A == x37.A) && ((x46.B == x37.B) && true))))) S (wG 14 true 25 rfl rfl rfl hc45) rfl rfl rfl (bEqV _ _ _ _ #[.int .u8 x46.Kind, .bool x46.Purl, iv x46.A, iv x46.B] #[.int .u8 x37.Kind, .bool x37.Purl, iv x37.A, iv x37.B] ((x46.Kind == x37.Kind) && ((x46.Purl == x37.Purl) && ((x46.A == x37.A) && ((x46.B == x37.B) && true)))) (by kernel_rfl) (eqlV_of (by kernel_rfl))) rfl (lb rfl) fun a S => ?_
    exact leafL ⟨rfl, S⟩
  · refine fI 37 (.bool ((x46.Kind == x37.Kind) && ((x46.Purl == x37.Purl) && ((x46.A == x37.A) && ((x46.B == x37.B) && true))))) [(25, .bool (decide ((w64 (s14 + s28)) < (p0.length : Int)))), (36, .bool ((x46.Kind == x37.Kind) && ((x46.Purl == x37.Purl) && ((x46.A == x37.A) && ((x46.B == x37.B) && true)))))] 26 [some 14, some 25] rfl rfl rfl rfl rfl rfl fun G a w S => ?_
    refine sPickT (.bool ((x46.Kind == x37.Kind) && ((x46.Purl == x37.Purl) && ((x46.A == x37.A) && ((x46.B == x37.B) && true))))) S (wN rfl) rfl rfl hc45 rfl rfl (lb rfl) fun a S => ?_
    exact leafL ⟨rfl, S⟩
  exact leafT (⟨((x46.Kind == x37.Kind) && ((x46.Purl == x37.Purl) && ((x46.A == x37.A) && ((x46.B == x37.B) && true)))), Option.some.inj h, S.fix [0] [10] (by decide) rfl rfl rfl⟩)

end Go.Proofs.YtmedbnjhgkcndaaDoor
namespace Go.Proofs.YtmedbnjhgkcndaaDoor
open Go.RowKit
set_option linter.unusedVariables false

noncomputable def F_stitch_Text (p0 : (List api_Stitch)) : Option (ByteArray × Int) :=
  Option.bind (F_stitch_All p0) fun r6 =>
  if r6 != 0 then
    some ((⟨#[]⟩ : ByteArray), r6)
  else
    Option.bind (F_stitch_text p0) fun r12 =>
    if decide (3000 < (r12.size : Int)) then
      some ((⟨#[]⟩ : ByteArray), 4)
    else
      some (r12, 0)
set_option maxHeartbeats 4000000 in
set_option maxRecDepth 100000 in
theorem c_stitch_Text (E : Nat → Prop) (w0 : World) (p0 : (List api_Stitch)) (v0 : Value) (r : (ByteArray × Int)) (h : F_stitch_Text p0 = some r) (S : St0 E [] w0 w0 [] [fRep (rL r_api_Stitch) (v0) p0]) :
    Calls Tryd.prog 33 #[v0] w0 (Ret (X := Unit) E [] w0 (fun _ => .tuple #[.string r.1, .int .i64 r.2]) (fun _ => []) (fun _ => [])) := by
  unfold F_stitch_Text at h
  obtain ⟨ad1, cp2, _, rfl, _⟩ := S.know (i := 0) (e := fRep (rL r_api_Stitch) (v0) p0) rfl
  refine sEnter (args := [.slice ad1 p0.length cp2]) 17 Tryd.func33 rfl rfl (by simp) S (fun a S => ?_)
  refine sSeq (fun K3 hK3 => ?_)
  refine sRegion ?_
  refine sMove (.string (⟨#[]⟩ : ByteArray)) S (wN rfl) (.inr rfl) rfl rfl (lb rfl) fun a S => ?_
  refine sMove (iv 0) S (wN rfl) (.inr rfl) rfl rfl (lb rfl) fun a S => ?_
  refine leafL (leafT (hK3 _ _ ?_))
  refine sSeq (fun K4 hK4 => ?_)
  refine sSeq (fun K5 hK5 => ?_)
  refine sRegion ?_
  refine sMove (.slice ad1 p0.length cp2) S (wN rfl) (.inl rfl) rfl rfl (lb rfl) fun a S => ?_
  obtain ⟨r6, hx7, h⟩ := bindSome h
  have S1 := S.mem
  refine sCallQ (X := Unit) (f := 40) (vs := [.slice ad1 p0.length cp2]) (val := fun _ => iv r6) S (wN rfl) rfl callee40 rfl (S1.quiet [0] rfl) (fun E1 w1 S1 => c_stitch_All E1 w1 p0 (.slice ad1 p0.length cp2) r6 hx7 S1) rfl (lb rfl) fun _ a w S => ?_
  refine sMove (iv r6) S (wN rfl) (.inr rfl) rfl rfl (lb rfl) fun a S => ?_
  refine leafL (leafT (hK5 _ _ ?_))
  refine sSeq (fun K8 hK8 => ?_)
  refine sRegion ?_
  refine sMove (iv r6) S (wN rfl) (.inl rfl) rfl rfl (lb rfl) fun a S => ?_
  refine sBin (.bool (r6 != 0)) S (wN rfl) rfl rfl rfl (bNe _ _ _ _ .i64 r6 0) rfl (lb rfl) fun a S => ?_
  refine leafL (leafT (hK8 _ _ ?_))
  rcases iteSome h with ⟨hc9, h⟩ | ⟨hc9, h⟩
  · refine sCondT S rfl hc9 ?_
    refine sSeq (fun K10 hK10 => ?_)
    refine sRegion ?_
    refine sMove (iv r6) S (wN rfl) (.inl rfl) rfl rfl (lb rfl) fun a S => ?_
    refine sMove (.string (⟨#[]⟩ : ByteArray)) S (wN rfl) (.inr rfl) rfl rfl (lb rfl) fun a S => ?_
    refine sMove (iv r6) S (wN rfl) (.inr rfl) rfl rfl (lb rfl) fun a S => ?_
    refine leafL (leafT (hK10 _ _ ?_))
    obtain rfl := Option.some.inj h
    exact wp_ret (rThen (sRet (.tuple #[.string (⟨#[]⟩ : ByteArray), iv r6]) S (rsl2 rfl (rvT (t := 2) (v := .string (⟨#[]⟩ : ByteArray)) S rfl) (rvT (t := 3) (v := iv r6) S rfl)) ⟨(), rfl, S.mem.sel [] [] (by decide) rfl rfl⟩))
  refine sCondF S rfl hc9 ?_
  refine wp_skip (leafT (hK4 _ _ ?_))
  refine sSeq (fun K11 hK11 => ?_)
  refine sRegion ?_
  refine sMove (.slice ad1 p0.length cp2) S (wN rfl) (.inl rfl) rfl rfl (lb rfl) fun a S => ?_
  obtain ⟨r12, hx13, h⟩ := bindSome h
  have S1 := S.mem
  refine sCallQ (X := Unit) (f := 48) (vs := [.slice ad1 p0.length cp2]) (val := fun _ => .string r12) S (wN rfl) rfl callee48 rfl (S1.quiet [0] rfl) (fun E1 w1 S1 => c_stitch_text E1 w1 p0 (.slice ad1 p0.length cp2) r12 hx13 S1) rfl (lb rfl) fun _ a w S => ?_
  refine sMove (.string r12) S (wN rfl) (.inr rfl) rfl rfl (lb rfl) fun a S => ?_
  refine leafL (leafT (hK11 _ _ ?_))
  refine sSeq (fun K14 hK14 => ?_)
  refine sSeq (fun K15 hK15 => ?_)
  refine sRegion ?_
  refine sMove (.string r12) S (wN rfl) (.inl rfl) rfl rfl (lb rfl) fun a S => ?_
  refine sLenS (v := r12) S (wN rfl) rfl Tryd.underlying9 rfl rfl (lb rfl) fun a S => ?_
  refine sBin (.bool (decide (3000 < (r12.size : Int)))) S (wN rfl) rfl rfl rfl (bGt _ _ _ _ .i64 (r12.size : Int) 3000) rfl (lb rfl) fun a S => ?_
  refine leafL (leafT (hK15 _ _ ?_))
  rcases iteSome h with ⟨hc16, h⟩ | ⟨hc16, h⟩
  · refine sCondT S rfl hc16 ?_
    refine sSeq (fun K17 hK17 => ?_)
    refine sRegion ?_
    refine sMove (.string (⟨#[]⟩ : ByteArray)) S (wN rfl) (.inr rfl) rfl rfl (lb rfl) fun a S => ?_
    refine sMove (iv 4) S (wN rfl) (.inr rfl) rfl rfl (lb rfl) fun a S => ?_
    refine leafL (leafT (hK17 _ _ ?_))
    obtain rfl := Option.some.inj h
    exact wp_ret (rThen (sRet (.tuple #[.string (⟨#[]⟩ : ByteArray), iv 4]) S (rsl2 rfl (rvT (t := 2) (v := .string (⟨#[]⟩ : ByteArray)) S rfl) (rvT (t := 3) (v := iv 4) S rfl)) ⟨(), rfl, S.mem.sel [] [] (by decide) rfl rfl⟩))
  refine sCondF S rfl hc16 ?_
  refine wp_skip (leafT (hK14 _ _ ?_))
  refine sSeq (fun K18 hK18 => ?_)
  refine sRegion ?_
  refine sMove (.string r12) S (wN rfl) (.inl rfl) rfl rfl (lb rfl) fun a S => ?_
  refine sMove (.string r12) S (wN rfl) (.inr rfl) rfl rfl (lb rfl) fun a S => ?_
  refine sMove (iv 0) S (wN rfl) (.inr rfl) rfl rfl (lb rfl) fun a S => ?_
  refine leafL (leafT (hK18 _ _ ?_))
  obtain rfl := Option.some.inj h
  exact wp_ret (sRet (.tuple #[.string r12, iv 0]) S (rsl2 rfl (rvT (t := 2) (v := .string r12) S rfl) (rvT (t := 3) (v := iv 0) S rfl)) ⟨(), rfl, S.mem.sel [] [] (by decide) rfl rfl⟩)

end Go.Proofs.YtmedbnjhgkcndaaDoor
