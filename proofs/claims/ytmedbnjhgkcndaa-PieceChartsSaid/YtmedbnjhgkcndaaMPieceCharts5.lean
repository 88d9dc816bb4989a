/- Several texts in one: G24 G21 LPB G54 G37 G23 G43 -/
import Derived.WalkKit
import Derived.Maps.AppendAt
import Derived.Deep.AppendLies
import Derived.KernelRfl
import Derived.Laws.OwnMore
import Derived.Great.BuildSlice
import Derived.Orders
import Derived.Laws.StructEq
import Derived.ChangeKeysEq
import Derived.Defers
import Derived.Laws.BytesString
import Derived.RangeFuncNested
import Derived.RangeFuncBound
import Derived.RangeFuncCalls
import Derived.RangeFuncLeaves
import Derived.OrdersIn
import Derived.LoopNIn
import Derived.Test.YtmedbnjhgkcndaaProg
import Derived.ProofKit
import Derived.OpenShut
import Derived.ChangeOld
import Derived.Deep.Slices
import Derived.Lib.SmallJoins
import Derived.JoinedOf
import Derived.JoinedAt
import Derived.Below
import Derived.Test.YtmedbnjhgkcndaaRows
import Derived.Test.YtmedbnjhgkcndaaMPieceCharts4
namespace Go.Proofs.Ytmedbnjhgkcndaa
open Go.RowKit
set_option linter.unusedVariables false

def anc_piece_Read_0 : List (List Nat) := [[], [0], [0, 1], [0, 1, 2], [], [], [5], [5, 6], [4, 5, 6, 7], [4, 5, 6, 7, 8], [0, 1, 2, 3, 4, 5, 6, 7, 8, 9], [0, 1, 2, 3, 4, 5, 6, 7, 8, 9, 10], [0, 1, 2, 3, 4, 5, 6, 7, 8, 9, 10, 11]]
def anc_piece_Read_1 : List (List Nat) := [[], [0], [], [2], [], [2, 3, 4], [2, 3, 4, 5], [], [2, 3, 4, 5, 6, 7], [2, 3, 4, 5, 6, 7, 8], [0, 1, 2, 3, 4, 5, 6, 7, 8, 9], [0, 1, 2, 3, 4, 5, 6, 7, 8, 9, 10], [0, 1, 2, 3, 4, 5, 6, 7, 8, 9, 10, 11]]
def anc_piece_Read_2 : List (List Nat) := [[], [0], [], [2], [], [2, 3, 4], [2, 3, 4, 5], [2, 3, 4, 5, 6], [0, 1, 2, 3, 4, 5, 6, 7], [0, 1, 2, 3, 4, 5, 6, 7, 8], [0, 1, 2, 3, 4, 5, 6, 7, 8, 9], [0, 1, 2, 3, 4, 5, 6, 7, 8, 9, 10], [0, 1, 2, 3, 4, 5, 6, 7, 8, 9], [0, 1, 2, 3, 4, 5, 6, 7, 8, 9, 12], [0, 1, 2, 3, 4, 5, 6, 7, 8, 9], [0, 1, 2, 3, 4, 5, 6, 7, 8, 9, 12, 13, 14], [0, 1, 2, 3, 4, 5, 6, 7, 8, 9, 12, 13, 14, 15], [0, 1, 2, 3, 4, 5, 6, 7, 8, 9, 12, 13, 14, 15, 16], [0, 1, 2, 3, 4, 5, 6, 7, 8, 9, 10, 11, 12, 13, 14, 15, 16, 17], [0, 1, 2, 3, 4, 5, 6, 7, 8, 9, 10, 11, 12, 13, 14, 15, 16, 17, 18], [0, 1, 2, 3, 4, 5, 6, 7, 8, 9, 10, 11, 12, 13, 14, 15, 16, 17, 18, 19]]
noncomputable def piece_Read_l1 (p0 : api_Chart) : (Int × List Int × List Int) → Option ((Int × List Int × List Int) ⊕ ((api_Piece × Int) ⊕ (List Int × List Int))) := fun s0 => match s0 with
  | (s34, s35, s38) =>
    if decide (s34 < (p0.Rows.length : Int)) then
      Option.bind (idxO p0.Rows s34) fun x55 =>
      Option.bind (α := Bool) (
        if (x55.Cells.length : Int) == 0 then
          some true
        else
          Option.bind (F_stitch_All x55.Cells) fun r71 =>
          some (r71 != 0)) fun o67 =>
      if o67 then
        some (.inr (.inl ((api_Piece.mk ([] : (List Int)) ([] : (List Int))), 8)))
      else
        Option.bind (idxO x55.Cells 0) fun x76 =>
        Option.bind (F_piece_grows x76) fun r81 =>
        Option.bind (idxO x55.Cells (w64 ((x55.Cells.length : Int) - 1))) fun x83 =>
        Option.bind (F_piece_grows x83) fun r88 =>
        Option.bind (α := (Int × Int)) (
          if x55.Back then
            some (r88, r81)
          else
            some (r81, r88)) fun (o96, o97) =>
        Option.bind (idxO s35 s34) fun x103 =>
        Option.bind (appO s35 ([w64 (x103 - o97)] : List Int)) fun l110 =>
        Option.bind (idxO s38 s34) fun x121 =>
        Option.bind (appO s38 ([w64 (x121 + o96)] : List Int)) fun l128 =>
        some (.inl (w64 (s34 + 1), l110, l128))
    else
      some (.inr (.inr (s35, s38)))
noncomputable def piece_Read_l2 (p0 : api_Chart) (r140 : (api_Chart × Int)) : Int → Option (Int ⊕ ((api_Piece × Int) ⊕ Unit)) := fun s0 => match s0 with
  | s155 =>
    if decide (s155 < (p0.Rows.length : Int)) then
      Option.bind (idxO p0.Rows s155) fun x164 =>
      Option.bind (α := Bool) (
        Option.bind (idxO r140.1.Rows s155) fun x177 =>
        if x164.Back != x177.Back then
          some true
        else
          Option.bind (F_stitch_Same x164.Cells x177.Cells) fun r197 =>
          some (!r197)) fun o174 =>
      if o174 then
        some (.inr (.inl ((api_Piece.mk ([] : (List Int)) ([] : (List Int))), 8)))
      else
        some (.inl (w64 (s155 + 1)))
    else
      some (.inr (.inr ()))
noncomputable def F_piece_Read (p0 : api_Chart) (p1 : Int) : Option (api_Piece × Int) :=
  Option.bind (α := Bool) (
    Option.bind (F_piece_column p1) fun r12 =>
    if !r12 then
      some true
    else
      if decide (p0.Start < 1) then
        some true
      else
        if decide (200 < p0.Start) then
          some true
        else
          some (decide (100 ≤ (p0.Rows.length : Int)))) fun o9 =>
  if o9 then
    some ((api_Piece.mk ([] : (List Int)) ([] : (List Int))), 8)
  else
    Option.bind (α := (List Int × List Int) ⊕ (api_Piece × Int)) (
      Option.bind (whileO (piece_Read_l1 p0) (0, ([p1] : List Int), ([w64 (p1 + p0.Start)] : List Int))) fun z0 => match z0 with
        | .inl z =>
          some (.inr z)
        | .inr (e44, e47) =>
          some (.inl (e44, e47))) fun z0 => match z0 with
      | .inl (o25, o28) =>
        Option.bind (F_piece_Chart (api_Piece.mk o25 o28)) fun r140 =>
        if r140.2 != 0 then
          some ((api_Piece.mk ([] : (List Int)) ([] : (List Int))), 8)
        else
          Option.bind (α := Unit ⊕ (api_Piece × Int)) (
            Option.bind (whileO (piece_Read_l2 p0 r140) 0) fun z0 => match z0 with
              | .inl z =>
                some (.inr z)
              | .inr _ =>
                some (.inl ())) fun z0 => match z0 with
            | .inl _ =>
              some ((api_Piece.mk o25 o28), 0)
            | .inr z =>
              some z
      | .inr z =>
        some z
def c_piece_Read_val (r : (api_Piece × Int)) (x : Value) : Value := .tuple #[x, .int .i64 r.2]
def c_piece_Read_D (r : (api_Piece × Int)) (x : Value) : List Fact := [fRep r_api_Piece x r.1]
set_option maxHeartbeats 4000000 in
set_option maxRecDepth 100000 in
theorem c_piece_Read (E : Nat → Prop) (w0 : World) (p0 : api_Chart) (v0 : Value) (p1 : Int) (r : (api_Piece × Int)) (h : F_piece_Read p0 p1 = some r) (S : St0 E [] w0 w0 [] [fRep r_api_Chart (v0) p0]) :
    Calls Try.prog 24 #[v0, iv p1] w0 (Ret (X := Value) E [] w0 (c_piece_Read_val r) (fun _ => []) (c_piece_Read_D r)) := by
  unfold F_piece_Read at h
  obtain ⟨u1, rfl, hu2⟩ := S.know (i := 0) (e := fRep r_api_Chart (v0) p0) rfl
  have S := S.learn (fRep (rL r_api_Row) u1 p0.Rows) hu2
  obtain ⟨ad3, cp4, _, rfl, _⟩ := hu2
  refine sEnter (args := [.agg #[iv p0.Start, .slice ad3 p0.Rows.length cp4], iv p1]) 143 Try.func24 rfl rfl (by simp) S (fun a S => ?_)
  refine sSeq (fun K5 hK5 => ?_)
  refine sRegion ?_
  refine sBox (v := .agg #[iv p0.Start, .slice ad3 p0.Rows.length cp4]) S (wN rfl) rfl rfl [iv p0.Start, .slice ad3 p0.Rows.length cp4] rfl rfl (lb rfl) fun a b6 w S => ?_
  refine sAlloc (.agg #[.slice none 0 0, .slice none 0 0]) S (wN rfl) rfl rfl [.slice none 0 0, .slice none 0 0] rfl rfl (lb rfl) fun a b7 w S => ?_
  refine sMove (iv 0) S (wN rfl) (.inr rfl) rfl rfl (lb rfl) fun a S => ?_
  refine leafL (leafT (hK5 _ _ ?_))
  refine sSeq (fun K8 hK8 => ?_)
  obtain ⟨t10, h, g11⟩ := bindSome h
  refine sCut (fun a w => ∃ o9, o9 = t10 ∧ St [] E [] w0 143 a w [(1, iv p1), (2, .pointer (some ⟨b6, 0, none⟩)), (4, .pointer (some ⟨b7, 0, none⟩)), (34, .bool o9)] [eBox b6 58 [iv p0.Start, .slice ad3 p0.Rows.length cp4], eBox b7 36 [.slice none 0 0, .slice none 0 0]] [fRep (rL r_api_Row) (.slice ad3 p0.Rows.length cp4) p0.Rows]) ?_ (fun a w hI => ?_)
  · refine sRegion ?_
    refine sMove (iv p1) S (wN rfl) (.inl rfl) rfl rfl (lb rfl) fun a S => ?_
    obtain ⟨r12, hx13, h⟩ := bindSome h
    have S1 := S.mem
    refine sCallQ (X := Unit) (f := 33) (vs := [iv p1]) (val := fun _ => .bool r12) S (wN rfl) rfl callee33 rfl (S1.quiet [] rfl) (fun E1 w1 S1 => c_piece_column E1 w1 p1 r12 hx13 S1) rfl (lb rfl) fun _ a w S => ?_
    refine sNot (b := r12) S (wN rfl) rfl rfl rfl (lb rfl) fun a S => ?_
    refine sMove (.bool (!r12)) S (wN rfl) (.inl rfl) rfl rfl (lb rfl) fun a S => ?_
    rcases iteSome h with ⟨hc14, h⟩ | ⟨hc14, h⟩
    · refine sSkip 3 false 19 20 S rfl rfl rfl hc14 rfl (lb rfl) fun a S => ?_
      refine sSkip 3 false 19 21 S rfl rfl rfl hc14 rfl (lb rfl) fun a S => ?_
      refine sSkip 3 false 19 22 S rfl rfl rfl hc14 rfl (lb rfl) fun a S => ?_
      refine sPickT (.bool true) S (wN rfl) rfl rfl hc14 rfl rfl (lb rfl) fun a S => ?_
      refine sMove (.bool true) S (wN rfl) (.inl rfl) rfl rfl (lb rfl) fun a S => ?_
      refine sSkip 8 false 24 25 S rfl rfl rfl rfl rfl (lb rfl) fun a S => ?_
      refine sSkip 8 false 24 26 S rfl rfl rfl rfl rfl (lb rfl) fun a S => ?_
      refine sSkip 8 false 24 27 S rfl rfl rfl rfl rfl (lb rfl) fun a S => ?_
      refine sPickT (.bool true) S (wN rfl) rfl rfl rfl rfl rfl (lb rfl) fun a S => ?_
      refine sMove (.bool true) S (wN rfl) (.inl rfl) rfl rfl (lb rfl) fun a S => ?_
      refine sSkip 13 false 29 30 S rfl rfl rfl rfl rfl (lb rfl) fun a S => ?_
      refine sSkip 13 false 29 31 S rfl rfl rfl rfl rfl (lb rfl) fun a S => ?_
      refine sSkip 13 false 29 32 S rfl rfl rfl rfl rfl (lb rfl) fun a S => ?_
      refine sSkip 13 false 29 33 S rfl rfl rfl rfl rfl (lb rfl) fun a S => ?_
      refine sPickT (.bool true) S (wN rfl) rfl rfl rfl rfl rfl (lb rfl) fun a S => ?_
      exact leafL (leafT (⟨true, Option.some.inj h, S.fix [1, 0] [0] (by decide) rfl rfl rfl⟩))
    refine sField (b := b6) (off := 0) 0 0 S (wG 3 false 19 rfl rfl rfl hc14) rfl rfl rfl rfl rfl (lb rfl) fun a S => ?_
    refine sLoad1 (p := b6) (off := 0) (T := 58) (vs := [iv p0.Start, .slice ad3 p0.Rows.length cp4]) 1 (iv p0.Start) S (wG 3 false 19 rfl rfl rfl hc14) rfl rfl rfl rfl rfl rfl (lb rfl) fun a S => ?_
    refine sBin (.bool (decide (p0.Start < 1))) S (wG 3 false 19 rfl rfl rfl hc14) rfl rfl rfl (bLt _ _ _ _ .i64 p0.Start 1) rfl (lb rfl) fun a S => ?_
    refine sPickF (.bool (decide (p0.Start < 1))) S (wN rfl) rfl rfl hc14 rfl rfl (lb rfl) fun a S => ?_
    refine sMove (.bool (decide (p0.Start < 1))) S (wN rfl) (.inl rfl) rfl rfl (lb rfl) fun a S => ?_
    rcases iteSome h with ⟨hc15, h⟩ | ⟨hc15, h⟩
    · refine sSkip 8 false 24 25 S rfl rfl rfl hc15 rfl (lb rfl) fun a S => ?_
      refine sSkip 8 false 24 26 S rfl rfl rfl hc15 rfl (lb rfl) fun a S => ?_
      refine sSkip 8 false 24 27 S rfl rfl rfl hc15 rfl (lb rfl) fun a S => ?_
      refine sPickT (.bool true) S (wN rfl) rfl rfl hc15 rfl rfl (lb rfl) fun a S => ?_
      refine sMove (.bool true) S (wN rfl) (.inl rfl) rfl rfl (lb rfl) fun a S => ?_
      refine sSkip 13 false 29 30 S rfl rfl rfl rfl rfl (lb rfl) fun a S => ?_
      refine sSkip 13 false 29 31 S rfl rfl rfl rfl rfl (lb rfl) fun a S => ?_
      refine sSkip 13 false 29 32 S rfl rfl rfl rfl rfl (lb rfl) fun a S => ?_
      refine sSkip 13 false 29 33 S rfl rfl rfl rfl rfl (lb rfl) fun a S => ?_
      refine sPickT (.bool true) S (wN rfl) rfl rfl rfl rfl rfl (lb rfl) fun a S => ?_
      exact leafL (leafT (⟨true, Option.some.inj h, S.fix [1, 0] [0] (by decide) rfl rfl rfl⟩))
    refine sField (b := b6) (off := 0) 0 0 S (wG 8 false 24 rfl rfl rfl hc15) rfl rfl rfl rfl rfl (lb rfl) fun a S => ?_
    refine sLoad1 (p := b6) (off := 0) (T := 58) (vs := [iv p0.Start, .slice ad3 p0.Rows.length cp4]) 1 (iv p0.Start) S (wG 8 false 24 rfl rfl rfl hc15) rfl rfl rfl rfl rfl rfl (lb rfl) fun a S => ?_
    refine sBin (.bool (decide (200 < p0.Start))) S (wG 8 false 24 rfl rfl rfl hc15) rfl rfl rfl (bGt _ _ _ _ .i64 p0.Start 200) rfl (lb rfl) fun a S => ?_
    refine sPickF (.bool (decide (200 < p0.Start))) S (wN rfl) rfl rfl hc15 rfl rfl (lb rfl) fun a S => ?_
    refine sMove (.bool (decide (200 < p0.Start))) S (wN rfl) (.inl rfl) rfl rfl (lb rfl) fun a S => ?_
    rcases iteSome h with ⟨hc16, h⟩ | ⟨hc16, h⟩
    · refine sSkip 13 false 29 30 S rfl rfl rfl hc16 rfl (lb rfl) fun a S => ?_
      refine sSkip 13 false 29 31 S rfl rfl rfl hc16 rfl (lb rfl) fun a S => ?_
      refine sSkip 13 false 29 32 S rfl rfl rfl hc16 rfl (lb rfl) fun a S => ?_
      refine sSkip 13 false 29 33 S rfl rfl rfl hc16 rfl (lb rfl) fun a S => ?_
      refine sPickT (.bool true) S (wN rfl) rfl rfl hc16 rfl rfl (lb rfl) fun a S => ?_
      exact leafL (leafT (⟨true, Option.some.inj h, S.fix [1, 0] [0] (by decide) rfl rfl rfl⟩))
    refine sField (b := b6) (off := 0) 1 1 S (wG 13 false 29 rfl rfl rfl hc16) rfl rfl rfl rfl rfl (lb rfl) fun a S => ?_
    refine sLoad1 (p := b6) (off := 1) (T := 58) (vs := [iv p0.Start, .slice ad3 p0.Rows.length cp4]) 1 (.slice ad3 p0.Rows.length cp4) S (wG 13 false 29 rfl rfl rfl hc16) rfl rfl rfl rfl rfl rfl (lb rfl) fun a S => ?_
    refine sLen (ad := ad3) (m := p0.Rows.length) (c := cp4) S (wG 13 false 29 rfl rfl rfl hc16) rfl Try.underlying56 rfl rfl (lb rfl) fun a S => ?_
    refine sBin (.bool (decide (100 ≤ (p0.Rows.length : Int)))) S (wG 13 false 29 rfl rfl rfl hc16) rfl rfl rfl (bGe _ _ _ _ .i64 (p0.Rows.length : Int) 100) rfl (lb rfl) fun a S => ?_
    refine sPickF (.bool (decide (100 ≤ (p0.Rows.length : Int)))) S (wN rfl) rfl rfl hc16 rfl rfl (lb rfl) fun a S => ?_
    exact leafL (leafT (⟨decide (100 ≤ (p0.Rows.length : Int)), Option.some.inj h, S.fix [1, 0] [0] (by decide) rfl rfl rfl⟩))
  obtain ⟨o9, rfl, S⟩ := hI
  have h := g11
  clear g11
  try dsimp only at h
  rcases iteSome h with ⟨hc17, h⟩ | ⟨hc17, h⟩
  · refine sCondT S rfl hc17 ?_
    refine sSeq (fun K18 hK18 => ?_)
    refine sRegion ?_
    refine sBuild [] [.slice none 0 0, .slice none 0 0] S (wN rfl) rfl rfl rfl rfl (lb rfl) fun a S => ?_
    refine sStore (p := b7) (off := 0) (T := 36) (vs := [.slice none 0 0, .slice none 0 0]) (v := .agg #[.slice none 0 0, .slice none 0 0]) 1 [.slice none 0 0, .slice none 0 0] S (wN rfl) rfl rfl rfl rfl rfl rfl rfl (by simp) rfl fun a w S => ?_
    refine sMove (iv 8) S (wN rfl) (.inr rfl) rfl rfl (lb rfl) fun a S => ?_
    refine leafL (leafT (hK18 _ _ ?_))
    obtain rfl := Option.some.inj h
    have S := S.learn (fRep (rL (rI .i64)) (.slice none 0 0) ([] : (List Int))) (rL_nil _ _ _)
    have S := S.learn (fRep r_api_Piece (.agg #[.slice none 0 0, .slice none 0 0]) (api_Piece.mk ([] : (List Int)) ([] : (List Int)))) ⟨_, _, rfl, S.mem.know (i := 0) (e := fRep (rL (rI .i64)) (.slice none 0 0) ([] : (List Int))) rfl, S.mem.know (i := 0) (e := fRep (rL (rI .i64)) (.slice none 0 0) ([] : (List Int))) rfl⟩
    exact wp_ret (rThen (sRet (.tuple #[.agg #[.slice none 0 0, .slice none 0 0], iv 8]) S (rsl2 rfl (rvN (c := 4) (t := 36) (T := 36) (p := b7) 0 [.slice none 0 0, .slice none 0 0] S rfl rfl rfl rfl) (rvT (t := 5) (v := iv 8) S rfl)) ⟨(.agg #[.slice none 0 0, .slice none 0 0]), rfl, S.mem.sel [] [0] (by decide) rfl rfl⟩))
  refine sCondF S rfl hc17 ?_
  refine wp_skip (leafT (hK8 _ _ ?_))
  refine sSeq (fun K19 hK19 => ?_)
  refine sRegion ?_
  refine sMove (iv p1) S (wN rfl) (.inl rfl) rfl rfl (lb rfl) fun a S => ?_
  refine sLit (r := (rI .i64)) (T := 3) (xs := ([p1] : List Int)) [(0, iv p1)] 1 [iv p1] [iv p1] (iv 0) 8 S (wN rfl) rfl rfl Try.underlying34 rfl (by decide) (by decide) (by kernel_rfl) rfl (fun E1 w1 hE => All.cons rfl (All.nil _ _ _)) rfl rfl (lb rfl) fun a w ad20 cp21 S => ?_
  refine sMove (iv p1) S (wN rfl) (.inl rfl) rfl rfl (lb rfl) fun a S => ?_
  refine sField (b := b6) (off := 0) 0 0 S (wN rfl) rfl rfl rfl rfl rfl (lb rfl) fun a S => ?_
  refine sLoad1 (p := b6) (off := 0) (T := 58) (vs := [iv p0.Start, .slice ad3 p0.Rows.length cp4]) 1 (iv p0.Start) S (wN rfl) rfl rfl rfl rfl rfl rfl (lb rfl) fun a S => ?_
  refine sBin (iv (w64 (p1 + p0.Start))) S (wN rfl) rfl rfl rfl (bAdd _ _ _ _ p1 p0.Start) rfl (lb rfl) fun a S => ?_
  refine sLit (r := (rI .i64)) (T := 3) (xs := ([w64 (p1 + p0.Start)] : List Int)) [(0, iv (w64 (p1 + p0.Start)))] 1 [iv (w64 (p1 + p0.Start))] [iv (w64 (p1 + p0.Start))] (iv 0) 8 S (wN rfl) rfl rfl Try.underlying34 rfl (by decide) (by decide) (by kernel_rfl) rfl (fun E1 w1 hE => All.cons rfl (All.nil _ _ _)) rfl rfl (lb rfl) fun a w ad22 cp23 S => ?_
  refine sBuild [(0, .slice ad20 ([p1] : List Int).length cp21), (1, .slice ad22 ([w64 (p1 + p0.Start)] : List Int).length cp23)] [.slice ad20 ([p1] : List Int).length cp21, .slice ad22 ([w64 (p1 + p0.Start)] : List Int).length cp23] S (wN rfl) rfl rfl rfl rfl (lb rfl) fun a S => ?_
  refine sAlloc (.agg #[.slice none 0 0, .slice none 0 0]) S (wN rfl) rfl rfl [.slice none 0 0, .slice none 0 0] rfl rfl (lb rfl) fun a b24 w S => ?_
  refine sStore (p := b24) (off := 0) (T := 36) (vs := [.slice none 0 0, .slice none 0 0]) (v := .agg #[.slice ad20 ([p1] : List Int).length cp21, .slice ad22 ([w64 (p1 + p0.Start)] : List Int).length cp23]) 0 [.slice ad20 ([p1] : List Int).length cp21, .slice ad22 ([w64 (p1 + p0.Start)] : List Int).length cp23] S (wN rfl) rfl rfl rfl rfl rfl rfl rfl (by simp) rfl fun a w S => ?_
  refine leafL (leafT (hK19 _ _ ?_))
  obtain ⟨t31, h, g32⟩ := bindSome h
  refine sCut (fun a w => ∃ o25, ∃ o28, .inl (o25, o28) = t31 ∧ ∃ ad26, ∃ cp27, ∃ ad29, ∃ cp30, St [] E [] w0 143 a w [(2, .pointer (some ⟨b6, 0, none⟩)), (4, .pointer (some ⟨b7, 0, none⟩)), (6, .pointer (some ⟨b24, 0, none⟩))] [eBox b6 58 [iv p0.Start, .slice ad3 p0.Rows.length cp4], eBox b7 36 [.slice none 0 0, .slice none 0 0], eBox b24 36 [.slice ad26 o25.length cp27, .slice ad29 o28.length cp30], eRow (rI .i64) 3 (.slice ad26 o25.length cp27) o25, eRow (rI .i64) 3 (.slice ad29 o28.length cp30) o28] [fRep (rL r_api_Row) (.slice ad3 p0.Rows.length cp4) p0.Rows]) ?_ (fun a w hI => ?_)
  rotate_left
  · obtain ⟨o25, o28, rfl, ad26, cp27, ad29, cp30, S⟩ := hI
    have h := g32
    clear g32
    try dsimp only at h
    refine sSeq (fun K139 hK139 => ?_)
    refine sRegion ?_
    refine sLoadN (p := b24) (off := 0) (T := 36) (vs := [.slice ad26 o25.length cp27, .slice ad29 o28.length cp30]) 2 [.slice ad26 o25.length cp27, .slice ad29 o28.length cp30] S (wN rfl) rfl rfl rfl rfl rfl rfl rfl (lb rfl) fun a S => ?_
    obtain ⟨r140, hx141, h⟩ := bindSome h
    have S := S.shutR (r := (rI .i64)) (T := 3) (v := .slice ad26 o25.length cp27) (xs := o25) 3 rfl
    have S := S.shutR (r := (rI .i64)) (T := 3) (v := .slice ad29 o28.length cp30) (xs := o28) 3 rfl
    have S := S.learn (fRep r_api_Piece (.agg #[.slice ad26 o25.length cp27, .slice ad29 o28.length cp30]) (api_Piece.mk o25 o28)) ⟨_, _, rfl, S.mem.know (i := 1) (e := fRep (rL (rI .i64)) (.slice ad26 o25.length cp27) o25) rfl, S.mem.know (i := 0) (e := fRep (rL (rI .i64)) (.slice ad29 o28.length cp30) o28) rfl⟩
    refine sCall (X := Value) (f := 22) (vs := [.agg #[.slice ad26 o25.length cp27, .slice ad29 o28.length cp30]]) (val := c_piece_Chart_val r140) (B' := fun _ => []) (D' := c_piece_Chart_D r140) [] [eBox b6 58 [iv p0.Start, .slice ad3 p0.Rows.length cp4], eBox b7 36 [.slice none 0 0, .slice none 0 0], eBox b24 36 [.slice ad26 o25.length cp27, .slice ad29 o28.length cp30]] [fRep r_api_Piece (.agg #[.slice ad26 o25.length cp27, .slice ad29 o28.length cp30]) (api_Piece.mk o25 o28)] [0, 1, 2] [0] S (wN rfl) rfl callee22 rfl (by decide) rfl rfl (fun E1 w1 S1 => c_piece_Chart E1 w1 (api_Piece.mk o25 o28) (.agg #[.slice ad26 o25.length cp27, .slice ad29 o28.length cp30]) r140 hx141 S1) rfl (lb rfl) fun u142 a w S => ?_
    obtain ⟨u143, rfl, hu144⟩ := S.mem.know (i := 0) (e := fRep r_api_Chart (u142) r140.1) rfl
    have S := S.learn (fRep (rL r_api_Row) u143 r140.1.Rows) hu144
    obtain ⟨ad145, cp146, _, rfl, _⟩ := hu144
    refine sMove (.tuple #[.agg #[iv r140.1.Start, .slice ad145 r140.1.Rows.length cp146], iv r140.2]) S (wN rfl) (.inl rfl) rfl rfl (lb rfl) fun a S => ?_
    refine sExtract (vs := [.agg #[iv r140.1.Start, .slice ad145 r140.1.Rows.length cp146], iv r140.2]) (.agg #[iv r140.1.Start, .slice ad145 r140.1.Rows.length cp146]) S (wN rfl) rfl rfl rfl rfl (lb rfl) fun a S => ?_
    refine sExtract (vs := [.agg #[iv r140.1.Start, .slice ad145 r140.1.Rows.length cp146], iv r140.2]) (iv r140.2) S (wN rfl) rfl rfl rfl rfl (lb rfl) fun a S => ?_
    refine sAlloc (.agg #[iv 0, .slice none 0 0]) S (wN rfl) rfl rfl [iv 0, .slice none 0 0] rfl rfl (lb rfl) fun a b147 w S => ?_
    refine sStore (p := b147) (off := 0) (T := 58) (vs := [iv 0, .slice none 0 0]) (v := .agg #[iv r140.1.Start, .slice ad145 r140.1.Rows.length cp146]) 0 [iv r140.1.Start, .slice ad145 r140.1.Rows.length cp146] S (wN rfl) rfl rfl rfl rfl rfl rfl rfl (by simp) rfl fun a w S => ?_
    refine sMove (iv r140.2) S (wN rfl) (.inr rfl) rfl rfl (lb rfl) fun a S => ?_
    refine leafL (leafT (hK139 _ _ ?_))
    refine sSeq (fun K148 hK148 => ?_)
    refine sSeq (fun K149 hK149 => ?_)
    refine sRegion ?_
    refine sMove (iv r140.2) S (wN rfl) (.inl rfl) rfl rfl (lb rfl) fun a S => ?_
    refine sBin (.bool (r140.2 != 0)) S (wN rfl) rfl rfl rfl (bNe _ _ _ _ .i64 r140.2 0) rfl (lb rfl) fun a S => ?_
    refine leafL (leafT (hK149 _ _ ?_))
    rcases iteSome h with ⟨hc150, h⟩ | ⟨hc150, h⟩
    · refine sCondT S rfl hc150 ?_
      refine sSeq (fun K151 hK151 => ?_)
      refine sRegion ?_
      refine sBuild [] [.slice none 0 0, .slice none 0 0] S (wN rfl) rfl rfl rfl rfl (lb rfl) fun a S => ?_
      refine sStore (p := b7) (off := 0) (T := 36) (vs := [.slice none 0 0, .slice none 0 0]) (v := .agg #[.slice none 0 0, .slice none 0 0]) 2 [.slice none 0 0, .slice none 0 0] S (wN rfl) rfl rfl rfl rfl rfl rfl rfl (by simp) rfl fun a w S => ?_
      refine sMove (iv 8) S (wN rfl) (.inr rfl) rfl rfl (lb rfl) fun a S => ?_
      refine leafL (leafT (hK151 _ _ ?_))
      obtain rfl := Option.some.inj h
      have S := S.learn (fRep (rL (rI .i64)) (.slice none 0 0) ([] : (List Int))) (rL_nil _ _ _)
      have S := S.learn (fRep r_api_Piece (.agg #[.slice none 0 0, .slice none 0 0]) (api_Piece.mk ([] : (List Int)) ([] : (List Int)))) ⟨_, _, rfl, S.mem.know (i := 0) (e := fRep (rL (rI .i64)) (.slice none 0 0) ([] : (List Int))) rfl, S.mem.know (i := 0) (e := fRep (rL (rI .i64)) (.slice none 0 0) ([] : (List Int))) rfl⟩
      exact wp_ret (rThen (sRet (.tuple #[.agg #[.slice none 0 0, .slice none 0 0], iv 8]) S (rsl2 rfl (rvN (c := 4) (t := 36) (T := 36) (p := b7) 0 [.slice none 0 0, .slice none 0 0] S rfl rfl rfl rfl) (rvT (t := 5) (v := iv 8) S rfl)) ⟨(.agg #[.slice none 0 0, .slice none 0 0]), rfl, S.mem.sel [] [0] (by decide) rfl rfl⟩))
    refine sCondF S rfl hc150 ?_
    refine wp_skip (leafT (hK148 _ _ ?_))
    obtain ⟨t152, h, g153⟩ := bindSome h
    refine sCut (fun a w => .inl () = t152 ∧ St [] E [] w0 143 a w [(4, .pointer (some ⟨b7, 0, none⟩)), (6, .pointer (some ⟨b24, 0, none⟩))] [eBox b7 36 [.slice none 0 0, .slice none 0 0], eBox b24 36 [.slice ad26 o25.length cp27, .slice ad29 o28.length cp30]] [fRep (rL (rI .i64)) (.slice ad26 o25.length cp27) o25, fRep (rL (rI .i64)) (.slice ad29 o28.length cp30) o28]) ?_ (fun a w hI => ?_)
    rotate_left
    · obtain ⟨rfl, S⟩ := hI
      have h := g153
      clear g153
      try dsimp only at h
      refine sSeq (fun K213 hK213 => ?_)
      refine sRegion ?_
      refine sLoadN (p := b24) (off := 0) (T := 36) (vs := [.slice ad26 o25.length cp27, .slice ad29 o28.length cp30]) 1 [.slice ad26 o25.length cp27, .slice ad29 o28.length cp30] S (wN rfl) rfl rfl rfl rfl rfl rfl rfl (lb rfl) fun a S => ?_
      refine sStore (p := b7) (off := 0) (T := 36) (vs := [.slice none 0 0, .slice none 0 0]) (v := .agg #[.slice ad26 o25.length cp27, .slice ad29 o28.length cp30]) 0 [.slice ad26 o25.length cp27, .slice ad29 o28.length cp30] S (wN rfl) rfl rfl rfl rfl rfl rfl rfl (by simp) rfl fun a w S => ?_
      refine sMove (iv 0) S (wN rfl) (.inr rfl) rfl rfl (lb rfl) fun a S => ?_
      refine leafL (leafT (hK213 _ _ ?_))
      obtain rfl := Option.some.inj h
      have S := S.learn (fRep r_api_Piece (.agg #[.slice ad26 o25.length cp27, .slice ad29 o28.length cp30]) (api_Piece.mk o25 o28)) ⟨_, _, rfl, S.mem.know (i := 0) (e := fRep (rL (rI .i64)) (.slice ad26 o25.length cp27) o25) rfl, S.mem.know (i := 1) (e := fRep (rL (rI .i64)) (.slice ad29 o28.length cp30) o28) rfl⟩
      exact wp_ret (sRet (.tuple #[.agg #[.slice ad26 o25.length cp27, .slice ad29 o28.length cp30], iv 0]) S (rsl2 rfl (rvN (c := 4) (t := 36) (T := 36) (p := b7) 0 [.slice ad26 o25.length cp27, .slice ad29 o28.length cp30] S rfl rfl rfl rfl) (rvT (t := 5) (v := iv 0) S rfl)) ⟨(.agg #[.slice ad26 o25.length cp27, .slice ad29 o28.length cp30]), rfl, S.mem.sel [] [0] (by decide) rfl rfl⟩)
    refine sSeq (fun K154 hK154 => ?_)
    refine sRegion ?_
    refine sField (b := b6) (off := 0) 1 1 S (wN rfl) rfl rfl rfl rfl rfl (lb rfl) fun a S => ?_
    refine sLoad1 (p := b6) (off := 1) (T := 58) (vs := [iv p0.Start, .slice ad3 p0.Rows.length cp4]) 1 (.slice ad3 p0.Rows.length cp4) S (wN rfl) rfl rfl rfl rfl rfl rfl (lb rfl) fun a S => ?_
    refine sLen (ad := ad3) (m := p0.Rows.length) (c := cp4) S (wN rfl) rfl Try.underlying56 rfl rfl (lb rfl) fun a S => ?_
    refine sMove (iv 0) S (wN rfl) (.inl rfl) rfl rfl (lb rfl) fun a S => ?_
    refine leafL (leafT (hK154 _ _ ?_))
    refine wp_block ?_
    obtain ⟨t158, hl, g157⟩ := bindSome h
    refine sLoop hl (fun s0 a w => match s0 with | s155 => St [] E [] w0 143 a w [(4, .pointer (some ⟨b7, 0, none⟩)), (6, .pointer (some ⟨b24, 0, none⟩)), (12, .pointer (some ⟨b147, 0, none⟩)), (112, .slice ad3 p0.Rows.length cp4), (113, iv (p0.Rows.length : Int)), (114, iv s155)] [eBox b7 36 [.slice none 0 0, .slice none 0 0], eBox b24 36 [.slice ad26 o25.length cp27, .slice ad29 o28.length cp30], eBox b147 58 [iv r140.1.Start, .slice ad145 r140.1.Rows.length cp146]] [fRep (rL r_api_Row) (.slice ad3 p0.Rows.length cp4) p0.Rows, fRep (rL (rI .i64)) (.slice ad26 o25.length cp27) o25, fRep (rL (rI .i64)) (.slice ad29 o28.length cp30) o28, fRep (rL r_api_Row) (.slice ad145 r140.1.Rows.length cp146) r140.1.Rows]) (S.fix [2, 3, 0] [5, 4, 3, 0] (by decide) rfl rfl rfl) ?_
    clear hl h
    intro s155 a w c0 hI h hu156
    unfold piece_Read_l2 at h
    dsimp only at h hI
    have S := hI
    refine sSeq (fun K159 hK159 => ?_)
    refine sRegion ?_
    refine sBin (.bool (decide (s155 < (p0.Rows.length : Int)))) S (wN rfl) rfl rfl rfl (bLt _ _ _ _ .i64 s155 (p0.Rows.length : Int)) rfl (lb rfl) fun a S => ?_
    refine leafL (leafT (hK159 _ _ ?_))
    refine sSeq (fun K160 hK160 => ?_)
    rcases iteSome h with ⟨hc161, h⟩ | ⟨hc161, h⟩
    rotate_left
    · refine sCondF S rfl hc161 ?_
      obtain rfl := Option.some.inj h
      obtain rfl := hu156 _ rfl
      have h := g157
      clear g157
      try dsimp only at h
      exact wp_exit (xThen (xThen (xHit (leafT (⟨Option.some.inj h, S.fix [0, 1] [1, 2] (by decide) rfl rfl rfl⟩)))))
    refine sCondT S rfl hc161 ?_
    refine wp_skip (leafT (hK160 _ _ ?_))
    refine sSeq (fun K162 hK162 => ?_)
    refine wp_block ?_
    refine sSeq (fun K163 hK163 => ?_)
    refine sRegion ?_
    refine sMove (iv s155) S (wN rfl) (.inl rfl) rfl rfl (lb rfl) fun a S => ?_
    obtain ⟨x164, hx165, h⟩ := bindSome h
    obtain ⟨q166, hq167, S⟩ := pIdx (P := Try.prog) (r := r_api_Row) (v := .slice ad3 p0.Rows.length cp4) (xs := p0.Rows) (j := s155) 56 80 0 S Try.underlying56 rfl rfl hx165
    refine sIdxV (v := .slice ad3 p0.Rows.length cp4) (k := .i64) (j := s155) S (wN rfl) rfl rfl rfl hq167 rfl (lb rfl) fun a S => ?_
    obtain ⟨u168, S⟩ := pLoad (r := r_api_Row) (q := q166) (x := x164) 0 S rfl
    obtain ⟨u169, rfl, hu170⟩ := S.mem.know (i := 1) (e := fRep r_api_Row (u168) x164) rfl
    have S := S.learn (fRep (rL r_api_Stitch) u169 x164.Cells) hu170
    obtain ⟨ad171, cp172, _, rfl, _⟩ := hu170
    refine sLoadVN (vq := q166) 1 [.bool x164.Back, .slice ad171 x164.Cells.length cp172] S (wN rfl) rfl rfl rfl rfl rfl rfl (lb rfl) fun a S => ?_
    refine sAlloc (.agg #[.bool false, .slice none 0 0]) S (wN rfl) rfl rfl [.bool false, .slice none 0 0] rfl rfl (lb rfl) fun a b173 w S => ?_
    refine sMove (iv s155) S (wN rfl) (.inr rfl) rfl rfl (lb rfl) fun a S => ?_
    refine sStore (p := b173) (off := 0) (T := 80) (vs := [.bool false, .slice none 0 0]) (v := .agg #[.bool x164.Back, .slice ad171 x164.Cells.length cp172]) 0 [.bool x164.Back, .slice ad171 x164.Cells.length cp172] S (wN rfl) rfl rfl rfl rfl rfl rfl rfl (by simp) rfl fun a w S => ?_
    refine leafL (leafT (hK163 _ _ ?_))
    obtain ⟨t175, h, g176⟩ := bindSome h
    refine sCut (fun a w => ∃ o174, o174 = t175 ∧ St [] E [] w0 143 a w [(4, .pointer (some ⟨b7, 0, none⟩)), (6, .pointer (some ⟨b24, 0, none⟩)), (12, .pointer (some ⟨b147, 0, none⟩)), (112, .slice ad3 p0.Rows.length cp4), (113, iv (p0.Rows.length : Int)), (114, iv s155), (139, .bool o174)] [eBox b7 36 [.slice none 0 0, .slice none 0 0], eBox b24 36 [.slice ad26 o25.length cp27, .slice ad29 o28.length cp30], eBox b147 58 [iv r140.1.Start, .slice ad145 r140.1.Rows.length cp146]] [fRep (rL r_api_Row) (.slice ad3 p0.Rows.length cp4) p0.Rows, fRep (rL (rI .i64)) (.slice ad26 o25.length cp27) o25, fRep (rL (rI .i64)) (.slice ad29 o28.length cp30) o28, fRep (rL r_api_Row) (.slice ad145 r140.1.Rows.length cp146) r140.1.Rows]) ?_ (fun a w hI => ?_)
    rotate_left
    · obtain ⟨o174, rfl, S⟩ := hI
      have h := g176
      clear g176
      try dsimp only at h
      rcases iteSome h with ⟨hc211, h⟩ | ⟨hc211, h⟩
      rotate_left
      · refine sCondF S rfl hc211 ?_
        refine wp_skip (leafB (leafT (hK162 _ _ ?_)))
        refine sRegion ?_
        refine sBin (iv (w64 (s155 + 1))) S (wN rfl) rfl rfl rfl (bAdd _ _ _ _ s155 1) rfl (lb rfl) fun a S => ?_
        refine sMove (iv (w64 (s155 + 1))) S (wN rfl) (.inl rfl) rfl rfl (lb rfl) fun a S => ?_
        exact leafL (leafT (⟨w64 (s155 + 1), (Option.some.inj h).symm, (S.fix [0, 1, 2] [0, 1, 2, 3] (by decide) rfl rfl rfl)⟩))
      refine sCondT S rfl hc211 ?_
      refine sSeq (fun K212 hK212 => ?_)
      refine sRegion ?_
      refine sBuild [] [.slice none 0 0, .slice none 0 0] S (wN rfl) rfl rfl rfl rfl (lb rfl) fun a S => ?_
      refine sStore (p := b7) (off := 0) (T := 36) (vs := [.slice none 0 0, .slice none 0 0]) (v := .agg #[.slice none 0 0, .slice none 0 0]) 0 [.slice none 0 0, .slice none 0 0] S (wN rfl) rfl rfl rfl rfl rfl rfl rfl (by simp) rfl fun a w S => ?_
      refine sMove (iv 8) S (wN rfl) (.inr rfl) rfl rfl (lb rfl) fun a S => ?_
      refine leafL (leafT (hK212 _ _ ?_))
      obtain rfl := Option.some.inj h
      obtain rfl := hu156 _ rfl
      have h := g157
      clear g157
      try dsimp only at h
      obtain rfl := Option.some.inj h
      have h := g153
      clear g153
      try dsimp only at h
      obtain rfl := Option.some.inj h
      have S := S.learn (fRep (rL (rI .i64)) (.slice none 0 0) ([] : (List Int))) (rL_nil _ _ _)
      have S := S.learn (fRep r_api_Piece (.agg #[.slice none 0 0, .slice none 0 0]) (api_Piece.mk ([] : (List Int)) ([] : (List Int)))) ⟨_, _, rfl, S.mem.know (i := 0) (e := fRep (rL (rI .i64)) (.slice none 0 0) ([] : (List Int))) rfl, S.mem.know (i := 0) (e := fRep (rL (rI .i64)) (.slice none 0 0) ([] : (List Int))) rfl⟩
      exact wp_ret (rBlock (rThen (rThen (rBlock (rThen (sRet (.tuple #[.agg #[.slice none 0 0, .slice none 0 0], iv 8]) S (rsl2 rfl (rvN (c := 4) (t := 36) (T := 36) (p := b7) 0 [.slice none 0 0, .slice none 0 0] S rfl rfl rfl rfl) (rvT (t := 5) (v := iv 8) S rfl)) ⟨(.agg #[.slice none 0 0, .slice none 0 0]), rfl, S.mem.sel [] [0] (by decide) rfl rfl⟩))))))
    obtain ⟨x177, hx178, h⟩ := bindSome h
    rcases iteSome h with ⟨hc184, h⟩ | ⟨hc184, h⟩
    · obtain ⟨q185, hq186, S⟩ := pIdx (P := Try.prog) (r := r_api_Row) (v := .slice ad145 r140.1.Rows.length cp146) (xs := r140.1.Rows) (j := s155) 56 80 7 S Try.underlying56 rfl rfl hx178
      obtain ⟨q187, hq188, S⟩ := pFld (P := Try.prog) (r := r_api_Row) (s2 := rB) (g := (·.Back)) (q := q185) (z := x177) 80 0 0 0 S rfl rfl comp_api_Row_Back
      obtain ⟨u189, S⟩ := pLoad (r := rB) (q := q187) (x := x177.Back) 0 S rfl
      obtain rfl : u189 = .bool x177.Back := S.mem.know (i := 1) (e := fRep rB (u189) x177.Back) rfl
      refine sDraw (nf := []) (W := [(0, 119, .pointer (some ⟨b173, 0, none⟩)), (1, 120, .bool x164.Back), (2, 121, .pointer (some ⟨b147, 1, none⟩)), (3, 122, .slice ad145 r140.1.Rows.length cp146), (4, 123, iv s155), (5, 124, q185), (6, 125, q187), (7, 126, .bool x177.Back), (8, 127, .bool (x164.Back != x177.Back)), (9, 128, .bool (x164.Back != x177.Back)), (10, 129, undef), (11, 130, undef), (12, 131, undef), (13, 132, undef), (14, 133, undef), (15, 134, undef), (16, 135, undef), (17, 136, undef), (18, 137, undef), (19, 138, undef), (20, 139, .bool true)]) rfl S ?_
      refine node_by (A := anc_piece_Read_2) (nf := []) (Y := []) (W := [(0, 119, .pointer (some ⟨b173, 0, none⟩)), (1, 120, .bool x164.Back), (2, 121, .pointer (some ⟨b147, 1, none⟩)), (3, 122, .slice ad145 r140.1.Rows.length cp146), (4, 123, iv s155), (5, 124, q185), (6, 125, q187), (7, 126, .bool x177.Back), (8, 127, .bool (x164.Back != x177.Back)), (9, 128, .bool (x164.Back != x177.Back)), (10, 129, undef), (11, 130, undef), (12, 131, undef), (13, 132, undef), (14, 133, undef), (15, 134, undef), (16, 135, undef), (17, 136, undef), (18, 137, undef), (19, 138, undef), (20, 139, .bool true)]) 21 (by kernel_rfl) (by kernel_rfl) (by kernel_rfl) (by kernel_rfl) (by kernel_rfl) [0, 1, 2, 3, 4, 5, 6, 7, 8, 9, 10, 11, 12, 13, 14, 15, 16, 17, 18, 19, 20] (by kernel_rfl) (by decide) (by decide) (aF 0 20 (by decide) ?_ (aF 1 19 (by decide) ?_ (aF 2 18 (by decide) ?_ (aF 3 17 (by decide) ?_ (aF 4 16 (by decide) ?_ (aF 5 15 (by decide) ?_ (aF 6 14 (by decide) ?_ (aF 7 13 (by decide) ?_ (aF 8 12 (by decide) ?_ (aF 9 11 (by decide) ?_ (aF 10 10 (by decide) ?_ (aF 11 9 (by decide) ?_ (aF 12 8 (by decide) ?_ (aF 13 7 (by decide) ?_ (aF 14 6 (by decide) ?_ (aF 15 5 (by decide) ?_ (aF 16 4 (by decide) ?_ (aF 17 3 (by decide) ?_ (aF 18 2 (by decide) ?_ (aF 19 1 (by decide) ?_ (aF 20 0 (by decide) ?_ (trivial)))))))))))))))))))))) [(4, .pointer (some ⟨b7, 0, none⟩)), (6, .pointer (some ⟨b24, 0, none⟩)), (12, .pointer (some ⟨b147, 0, none⟩)), (112, .slice ad3 p0.Rows.length cp4), (113, iv (p0.Rows.length : Int)), (114, iv s155), (129, undef), (130, undef), (131, undef), (132, undef), (133, undef), (134, undef), (135, undef), (136, undef), (137, undef), (138, undef), (139, .bool true)] (fin_of [none, none, none, none, none, none, some 10, some 11, some 12, some 13, some 14, some 15, some 16, some 17, some 18, some 19, some 20] rfl (by kernel_rfl) (by kernel_rfl)) (fun _ a w S => ?_)
      · refine fI 119 (.pointer (some ⟨b173, 0, none⟩)) [(15, .pointer (some ⟨b173, 0, none⟩))] 0 [none] rfl rfl rfl rfl rfl rfl fun G a w S => ?_
        refine sField (b := b173) (off := 0) 0 0 S (wN rfl) rfl rfl rfl rfl rfl (lb rfl) fun a S => ?_
        exact leafL ⟨rfl, S⟩
      · refine fI 120 (.bool x164.Back) [(119, .pointer (some ⟨b173, 0, none⟩))] 1 [some 0] rfl rfl rfl rfl rfl rfl fun G a w S => ?_
        refine sLoad1 (p := b173) (off := 0) (T := 80) (vs := [.bool x164.Back, .slice ad171 x164.Cells.length cp172]) 0 (.bool x164.Back) S (wN rfl) rfl rfl rfl rfl rfl rfl (lb rfl) fun a S => ?_
        exact leafL ⟨rfl, S⟩
      · refine fI 121 (.pointer (some ⟨b147, 1, none⟩)) [(12, .pointer (some ⟨b147, 0, none⟩))] 2 [none] rfl rfl rfl rfl rfl rfl fun G a w S => ?_
        refine sField (b := b147) (off := 0) 1 1 S (wN rfl) rfl rfl rfl rfl rfl (lb rfl) fun a S => ?_
        exact leafL ⟨rfl, S⟩
      · refine fI 122 (.slice ad145 r140.1.Rows.length cp146) [(121, .pointer (some ⟨b147, 1, none⟩))] 3 [some 2] rfl rfl rfl rfl rfl rfl fun G a w S => ?_
        refine sLoad1 (p := b147) (off := 1) (T := 58) (vs := [iv r140.1.Start, .slice ad145 r140.1.Rows.length cp146]) 3 (.slice ad145 r140.1.Rows.length cp146) S (wN rfl) rfl rfl rfl rfl rfl rfl (lb rfl) fun a S => ?_
        exact leafL ⟨rfl, S⟩
      · refine fI 123 (iv s155) [(14, iv s155)] 4 [none] rfl rfl rfl rfl rfl rfl fun G a w S => ?_
        refine sMove (iv s155) S (wN rfl) (.inl rfl) rfl rfl (lb rfl) fun a S => ?_
        exact leafL ⟨rfl, S⟩
      · refine fI 124 q185 [(122, .slice ad145 r140.1.Rows.length cp146), (123, iv s155)] 5 [some 3, some 4] rfl rfl rfl rfl rfl rfl fun G a w S => ?_
        refine sIdxV (v := .slice ad145 r140.1.Rows.length cp146) (k := .i64) (j := s155) S (wN rfl) rfl rfl rfl hq186 rfl (lb rfl) fun a S => ?_
        exact leafL ⟨rfl, S⟩
      · refine fI 125 q187 [(124, q185)] 6 [some 5] rfl rfl rfl rfl rfl rfl fun G a w S => ?_
        refine sFldV (q := q185) S (wN rfl) rfl rfl hq188 rfl (lb rfl) fun a S => ?_
        exact leafL ⟨rfl, S⟩
      · refine fI 126 (.bool x177.Back) [(125, q187)] 7 [some 6] rfl rfl rfl rfl rfl rfl fun G a w S => ?_
        refine sLoadV1 (vq := q187) 0 (.bool x177.Back) S (wN rfl) rfl rfl rfl rfl rfl (lb rfl) fun a S => ?_
        exact leafL ⟨rfl, S⟩
      · refine fI 127 (.bool (x164.Back != x177.Back)) [(120, .bool x164.Back), (126, .bool x177.Back)] 8 [some 1, some 7] rfl rfl rfl rfl rfl rfl fun G a w S => ?_
        refine sBin (.bool (x164.Back != x177.Back)) S (wN rfl) rfl rfl rfl (bNeB _ _ _ _ Try.underlying4 x164.Back x177.Back) rfl (lb rfl) fun a S => ?_
        exact leafL ⟨rfl, S⟩
      · refine fI 128 (.bool (x164.Back != x177.Back)) [(127, .bool (x164.Back != x177.Back))] 9 [some 8] rfl rfl rfl rfl rfl rfl fun G a w S => ?_
        refine sMove (.bool (x164.Back != x177.Back)) S (wN rfl) (.inl rfl) rfl rfl (lb rfl) fun a S => ?_
        exact leafL ⟨rfl, S⟩
      · refine fI 129 undef [(15, .pointer (some ⟨b173, 0, none⟩)), (128, .bool (x164.Back != x177.Back))] 10 [none, some 9] rfl rfl rfl rfl rfl rfl fun G a w S => ?_
        refine sSkip 9 false 128 129 S rfl rfl rfl hc184 rfl (lb rfl) fun a S => ?_
        exact leafL ⟨rfl, S⟩
      · refine fI 130 undef [(129, undef), (128, .bool (x164.Back != x177.Back))] 11 [some 10, some 9] rfl rfl rfl rfl rfl rfl fun G a w S => ?_
        refine sSkip 9 false 128 130 S rfl rfl rfl hc184 rfl (lb rfl) fun a S => ?_
        exact leafL ⟨rfl, S⟩
      · refine fI 131 undef [(12, .pointer (some ⟨b147, 0, none⟩)), (128, .bool (x164.Back != x177.Back))] 12 [none, some 9] rfl rfl rfl rfl rfl rfl fun G a w S => ?_
        refine sSkip 9 false 128 131 S rfl rfl rfl hc184 rfl (lb rfl) fun a S => ?_
        exact leafL ⟨rfl, S⟩
      · refine fI 132 undef [(131, undef), (128, .bool (x164.Back != x177.Back))] 13 [some 12, some 9] rfl rfl rfl rfl rfl rfl fun G a w S => ?_
        refine sSkip 9 false 128 132 S rfl rfl rfl hc184 rfl (lb rfl) fun a S => ?_
        exact leafL ⟨rfl, S⟩
      · refine fI 133 undef [(14, iv s155), (128, .bool (x164.Back != x177.Back))] 14 [none, some 9] rfl rfl rfl rfl rfl rfl fun G a w S => ?_
        refine sSkip 9 false 128 133 S rfl rfl rfl hc184 rfl (lb rfl) fun a S => ?_
        exact leafL ⟨rfl, S⟩
      · refine fI 134 undef [(132, undef), (133, undef), (128, .bool (x164.Back != x177.Back))] 15 [some 13, some 14, some 9] rfl rfl rfl rfl rfl rfl fun G a w S => ?_
        refine sSkip 9 false 128 134 S rfl rfl rfl hc184 rfl (lb rfl) fun a S => ?_
        exact leafL ⟨rfl, S⟩
      · refine fI 135 undef [(134, undef), (128, .bool (x164.Back != x177.Back))] 16 [some 15, some 9] rfl rfl rfl rfl rfl rfl fun G a w S => ?_
        refine sSkip 9 false 128 135 S rfl rfl rfl hc184 rfl (lb rfl) fun a S => ?_
        exact leafL ⟨rfl, S⟩
      · refine fI 136 undef [(135, undef), (128, .bool (x164.Back != x177.Back))] 17 [some 16, some 9] rfl rfl rfl rfl rfl rfl fun G a w S => ?_
        refine sSkip 9 false 128 136 S rfl rfl rfl hc184 rfl (lb rfl) fun a S => ?_
        exact leafL ⟨rfl, S⟩
      · refine fI 137 undef [(130, undef), (136, undef), (128, .bool (x164.Back != x177.Back))] 18 [some 11, some 17, some 9] rfl rfl rfl rfl rfl rfl fun G a w S => ?_
        refine sSkip 9 false 128 137 S rfl rfl rfl hc184 rfl (lb rfl) fun a S => ?_
        exact leafL ⟨rfl, S⟩
      · refine fI 138 undef [(137, undef), (128, .bool (x164.Back != x177.Back))] 19 [some 18, some 9] rfl rfl rfl rfl rfl rfl fun G a w S => ?_
        refine sSkip 9 false 128 138 S rfl rfl rfl hc184 rfl (lb rfl) fun a S => ?_
        exact leafL ⟨rfl, S⟩
      · refine fI 139 (.bool true) [(128, .bool (x164.Back != x177.Back)), (138, undef)] 20 [some 9, some 19] rfl rfl rfl rfl rfl rfl fun G a w S => ?_
        refine sPickT (.bool true) S (wN rfl) rfl rfl hc184 rfl rfl (lb rfl) fun a S => ?_
        exact leafL ⟨rfl, S⟩
      exact leafT (⟨true, Option.some.inj h, S.fix [1, 2, 3] [8, 9, 10, 11] (by decide) rfl rfl rfl⟩)
    obtain ⟨r197, hx198, h⟩ := bindSome h
    obtain ⟨q199, hq200, S⟩ := pIdx (P := Try.prog) (r := r_api_Row) (v := .slice ad145 r140.1.Rows.length cp146) (xs := r140.1.Rows) (j := s155) 56 80 7 S Try.underlying56 rfl rfl hx178
    obtain ⟨q201, hq202, S⟩ := pFld (P := Try.prog) (r := r_api_Row) (s2 := rB) (g := (·.Back)) (q := q199) (z := x177) 80 0 0 0 S rfl rfl comp_api_Row_Back
    obtain ⟨u203, S⟩ := pLoad (r := rB) (q := q201) (x := x177.Back) 0 S rfl
    obtain rfl : u203 = .bool x177.Back := S.mem.know (i := 1) (e := fRep rB (u203) x177.Back) rfl
    obtain ⟨q204, hq205, S⟩ := pIdx (P := Try.prog) (r := r_api_Row) (v := .slice ad145 r140.1.Rows.length cp146) (xs := r140.1.Rows) (j := s155) 56 80 11 S Try.underlying56 rfl rfl hx178
    obtain ⟨q206, hq207, S⟩ := pFld (P := Try.prog) (r := r_api_Row) (s2 := (rL r_api_Stitch)) (g := (·.Cells)) (q := q204) (z := x177) 80 1 0 1 S rfl rfl comp_api_Row_Cells
    obtain ⟨u208, S⟩ := pLoad (r := (rL r_api_Stitch)) (q := q206) (x := x177.Cells) 0 S rfl
    obtain ⟨ad209, cp210, _, rfl, _⟩ := S.mem.know (i := 1) (e := fRep (rL r_api_Stitch) (u208) x177.Cells) rfl
    refine sDraw (nf := []) (W := [(0, 119, .pointer (some ⟨b173, 0, none⟩)), (1, 120, .bool x164.Back), (2, 121, .pointer (some ⟨b147, 1, none⟩)), (3, 122, .slice ad145 r140.1.Rows.length cp146), (4, 123, iv s155), (5, 124, q199), (6, 125, q201), (7, 126, .bool x177.Back), (8, 127, .bool (x164.Back != x177.Back)), (9, 128, .bool (x164.Back != x177.Back)), (10, 129, .pointer (some ⟨b173, 1, none⟩)), (11, 130, .slice ad171 x164.Cells.length cp172), (12, 131, .pointer (some ⟨b147, 1, none⟩)), (13, 132, .slice ad145 r140.1.Rows.length cp146), (14, 133, iv s155), (15, 134, q204), (16, 135, q206), (17, 136, .slice ad209 x177.Cells.length cp210), (18, 137, .bool r197), (19, 138, .bool (!r197)), (20, 139, .bool (!r197))]) rfl S ?_
    refine node_by (A := anc_piece_Read_2) (nf := []) (Y := []) (W := [(0, 119, .pointer (some ⟨b173, 0, none⟩)), (1, 120, .bool x164.Back), (2, 121, .pointer (some ⟨b147, 1, none⟩)), (3, 122, .slice ad145 r140.1.Rows.length cp146), (4, 123, iv s155), (5, 124, q199), (6, 125, q201), (7, 126, .bool x177.Back), (8, 127, .bool (x164.Back != x177.Back)), (9, 128, .bool (x164.Back != x177.Back)), (10, 129, .pointer (some ⟨b173, 1, none⟩)), (11, 130, .slice ad171 x164.Cells.length cp172), (12, 131, .pointer (some ⟨b147, 1, none⟩)), (13, 132, .slice ad145 r140.1.Rows.length cp146), (14, 133, iv s155), (15, 134, q204), (16, 135, q206), (17, 136, .slice ad209 x177.Cells.length cp210), (18, 137, .bool r197), (19, 138, .bool (!r197)), (20, 139, .bool (!r197))]) 21 (by kernel_rfl) (by kernel_rfl) (by kernel_rfl) (by kernel_rfl) (by kernel_rfl) [0, 1, 2, 3, 4, 5, 6, 7, 8, 9, 10, 11, 12, 13, 14, 15, 16, 17, 18, 19, 20] (by kernel_rfl) (by decide) (by decide) (aF 0 20 (by decide) ?_ (aF 1 19 (by decide) ?_ (aF 2 18 (by decide) ?_ (aF 3 17 (by decide) ?_ (aF 4 16 (by decide) ?_ (aF 5 15 (by decide) ?_ (aF 6 14 (by decide) ?_ (aF 7 13 (by decide) ?_ (aF 8 12 (by decide) ?_ (aF 9 11 (by decide) ?_ (aF 10 10 (by decide) ?_ (aF 11 9 (by decide) ?_ (aF 12 8 (by decide) ?_ (aF 13 7 (by decide) ?_ (aF 14 6 (by decide) ?_ (aF 15 5 (by decide) ?_ (aF 16 4 (by decide) ?_ (aF 17 3 (by decide) ?_ (aF 18 2 (by decide) ?_ (aF 19 1 (by decide) ?_ (aF 20 0 (by decide) ?_ (trivial)))))))))))))))))))))) [(4, .pointer (some ⟨b7, 0, none⟩)), (6, .pointer (some ⟨b24, 0, none⟩)), (12, .pointer (some ⟨b147, 0, none⟩)), (112, .slice ad3 p0.Rows.length cp4), (113, iv (p0.Rows.length : Int)), (114, iv s155), (129, .pointer (some ⟨b173, 1, none⟩)), (130, .slice ad171 x164.Cells.length cp172), (131, .pointer (some ⟨b147, 1, none⟩)), (132, .slice ad145 r140.1.Rows.length cp146), (133, iv s155), (134, q204), (135, q206), (136, .slice ad209 x177.Cells.length cp210), (137, .bool r197), (138, .bool (!r197)), (139, .bool (!r197))] (fin_of [none, none, none, none, none, none, some 10, some 11, some 12, some 13, some 14, some 15, some 16, some 17, some 18, some 19, some 20] rfl (by kernel_rfl) (by kernel_rfl)) (fun _ a w S => ?_)
    · refine fI 119 (.pointer (some ⟨b173, 0, none⟩)) [(15, .pointer (some ⟨b173, 0, none⟩))] 0 [none] rfl rfl rfl rfl rfl rfl fun G a w S => ?_
      refine sField (b := b173) (off := 0) 0 0 S (wN rfl) rfl rfl rfl rfl rfl (lb rfl) fun a S => ?_
      exact leafL ⟨rfl, S⟩
    · refine fI 120 (.bool x164.Back) [(119, .pointer (some ⟨b173, 0, none⟩))] 1 [some 0] rfl rfl rfl rfl rfl rfl fun G a w S => ?_
      refine sLoad1 (p := b173) (off := 0) (T := 80) (vs := [.bool x164.Back, .slice ad171 x164.Cells.length cp172]) 0 (.bool x164.Back) S (wN rfl) rfl rfl rfl rfl rfl rfl (lb rfl) fun a S => ?_
      exact leafL ⟨rfl, S⟩
    · refine fI 121 (.pointer (some ⟨b147, 1, none⟩)) [(12, .pointer (some ⟨b147, 0, none⟩))] 2 [none] rfl rfl rfl rfl rfl rfl fun G a w S => ?_
      refine sField (b := b147) (off := 0) 1 1 S (wN rfl) rfl rfl rfl rfl rfl (lb rfl) fun a S => ?_
      exact leafL ⟨rfl, S⟩
    · refine fI 122 (.slice ad145 r140.1.Rows.length cp146) [(121, .pointer (some ⟨b147, 1, none⟩))] 3 [some 2] rfl rfl rfl rfl rfl rfl fun G a w S => ?_
      refine sLoad1 (p := b147) (off := 1) (T := 58) (vs := [iv r140.1.Start, .slice ad145 r140.1.Rows.length cp146]) 3 (.slice ad145 r140.1.Rows.length cp146) S (wN rfl) rfl rfl rfl rfl rfl rfl (lb rfl) fun a S => ?_
      exact leafL ⟨rfl, S⟩
    · refine fI 123 (iv s155) [(14, iv s155)] 4 [none] rfl rfl rfl rfl rfl rfl fun G a w S => ?_
      refine sMove (iv s155) S (wN rfl) (.inl rfl) rfl rfl (lb rfl) fun a S => ?_
      exact leafL ⟨rfl, S⟩
    · refine fI 124 q199 [(122, .slice ad145 r140.1.Rows.length cp146), (123, iv s155)] 5 [some 3, some 4] rfl rfl rfl rfl rfl rfl fun G a w S => ?_
      refine sIdxV (v := .slice ad145 r140.1.Rows.length cp146) (k := .i64) (j := s155) S (wN rfl) rfl rfl rfl hq200 rfl (lb rfl) fun a S => ?_
      exact leafL ⟨rfl, S⟩
    · refine fI 125 q201 [(124, q199)] 6 [some 5] rfl rfl rfl rfl rfl rfl fun G a w S => ?_
      refine sFldV (q := q199) S (wN rfl) rfl rfl hq202 rfl (lb rfl) fun a S => ?_
      exact leafL ⟨rfl, S⟩
    · refine fI 126 (.bool x177.Back) [(125, q201)] 7 [some 6] rfl rfl rfl rfl rfl rfl fun G a w S => ?_
      refine sLoadV1 (vq := q201) 4 (.bool x177.Back) S (wN rfl) rfl rfl rfl rfl rfl (lb rfl) fun a S => ?_
      exact leafL ⟨rfl, S⟩
    · refine fI 127 (.bool (x164.Back != x177.Back)) [(120, .bool x164.Back), (126, .bool x177.Back)] 8 [some 1, some 7] rfl rfl rfl rfl rfl rfl fun G a w S => ?_
      refine sBin (.bool (x164.Back != x177.Back)) S (wN rfl) rfl rfl rfl (bNeB _ _ _ _ Try.underlying4 x164.Back x177.Back) rfl (lb rfl) fun a S => ?_
      exact leafL ⟨rfl, S⟩
    · refine fI 128 (.bool (x164.Back != x177.Back)) [(127, .bool (x164.Back != x177.Back))] 9 [some 8] rfl rfl rfl rfl rfl rfl fun G a w S => ?_
      refine sMove (.bool (x164.Back != x177.Back)) S (wN rfl) (.inl rfl) rfl rfl (lb rfl) fun a S => ?_
      exact leafL ⟨rfl, S⟩
    · refine fI 129 (.pointer (some ⟨b173, 1, none⟩)) [(15, .pointer (some ⟨b173, 0, none⟩)), (128, .bool (x164.Back != x177.Back))] 10 [none, some 9] rfl rfl rfl rfl rfl rfl fun G a w S => ?_
      refine sField (b := b173) (off := 0) 1 1 S (wG 9 false 128 rfl rfl rfl hc184) rfl rfl rfl rfl rfl (lb rfl) fun a S => ?_
      exact leafL ⟨rfl, S⟩
    · refine fI 130 (.slice ad171 x164.Cells.length cp172) [(129, .pointer (some ⟨b173, 1, none⟩)), (128, .bool (x164.Back != x177.Back))] 11 [some 10, some 9] rfl rfl rfl rfl rfl rfl fun G a w S => ?_
      refine sLoad1 (p := b173) (off := 1) (T := 80) (vs := [.bool x164.Back, .slice ad171 x164.Cells.length cp172]) 0 (.slice ad171 x164.Cells.length cp172) S (wG 9 false 128 rfl rfl rfl hc184) rfl rfl rfl rfl rfl rfl (lb rfl) fun a S => ?_
      exact leafL ⟨rfl, S⟩
    · refine fI 131 (.pointer (some ⟨b147, 1, none⟩)) [(12, .pointer (some ⟨b147, 0, none⟩)), (128, .bool (x164.Back != x177.Back))] 12 [none, some 9] rfl rfl rfl rfl rfl rfl fun G a w S => ?_
      refine sField (b := b147) (off := 0) 1 1 S (wG 9 false 128 rfl rfl rfl hc184) rfl rfl rfl rfl rfl (lb rfl) fun a S => ?_
      exact leafL ⟨rfl, S⟩
    · refine fI 132 (.slice ad145 r140.1.Rows.length cp146) [(131, .pointer (some ⟨b147, 1, none⟩)), (128, .bool (x164.Back != x177.Back))] 13 [some 12, some 9] rfl rfl rfl rfl rfl rfl fun G a w S => ?_
      refine sLoad1 (p := b147) (off := 1) (T := 58) (vs := [iv r140.1.Start, .slice ad145 r140.1.Rows.length cp146]) 3 (.slice ad145 r140.1.Rows.length cp146) S (wG 9 false 128 rfl rfl rfl hc184) rfl rfl rfl rfl rfl rfl (lb rfl) fun a S => ?_
      exact leafL ⟨rfl, S⟩
    · refine fI 133 (iv s155) [(14, iv s155), (128, .bool (x164.Back != x177.Back))] 14 [none, some 9] rfl rfl rfl rfl rfl rfl fun G a w S => ?_
      refine sMove (iv s155) S (wG 9 false 128 rfl rfl rfl hc184) (.inl rfl) rfl rfl (lb rfl) fun a S => ?_
      exact leafL ⟨rfl, S⟩
    · refine fI 134 q204 [(132, .slice ad145 r140.1.Rows.length cp146), (133, iv s155), (128, .bool (x164.Back != x177.Back))] 15 [some 13, some 14, some 9] rfl rfl rfl rfl rfl rfl fun G a w S => ?_
      refine sIdxV (v := .slice ad145 r140.1.Rows.length cp146) (k := .i64) (j := s155) S (wG 9 false 128 rfl rfl rfl hc184) rfl rfl rfl hq205 rfl (lb rfl) fun a S => ?_
      exact leafL ⟨rfl, S⟩
    · refine fI 135 q206 [(134, q204), (128, .bool (x164.Back != x177.Back))] 16 [some 15, some 9] rfl rfl rfl rfl rfl rfl fun G a w S => ?_
      refine sFldV (q := q204) S (wG 9 false 128 rfl rfl rfl hc184) rfl rfl hq207 rfl (lb rfl) fun a S => ?_
      exact leafL ⟨rfl, S⟩
    · refine fI 136 (.slice ad209 x177.Cells.length cp210) [(135, q206), (128, .bool (x164.Back != x177.Back))] 17 [some 16, some 9] rfl rfl rfl rfl rfl rfl fun G a w S => ?_
      refine sLoadV1 (vq := q206) 0 (.slice ad209 x177.Cells.length cp210) S (wG 9 false 128 rfl rfl rfl hc184) rfl rfl rfl rfl rfl (lb rfl) fun a S => ?_
      exact leafL ⟨rfl, S⟩
    · refine fI 137 (.bool r197) [(130, .slice ad171 x164.Cells.length cp172), (136, .slice ad209 x177.Cells.length cp210), (128, .bool (x164.Back != x177.Back))] 18 [some 11, some 17, some 9] rfl rfl rfl rfl rfl rfl fun G a w S => ?_
      have S1 := S.mem
      refine sCallQ (X := Unit) (f := 41) (vs := [.slice ad171 x164.Cells.length cp172, .slice ad209 x177.Cells.length cp210]) (val := fun _ => .bool r197) S (wG 9 false 128 rfl rfl rfl hc184) rfl callee41 rfl (S1.quiet [8, 1] rfl) (fun E1 w1 S1 => c_stitch_Same E1 w1 x164.Cells (.slice ad171 x164.Cells.length cp172) x177.Cells (.slice ad209 x177.Cells.length cp210) r197 hx198 S1) rfl (lb rfl) fun _ a w S => ?_
      exact leafL ⟨rfl, S⟩
    · refine fI 138 (.bool (!r197)) [(137, .bool r197), (128, .bool (x164.Back != x177.Back))] 19 [some 18, some 9] rfl rfl rfl rfl rfl rfl fun G a w S => ?_
      refine sNot (b := r197) S (wG 9 false 128 rfl rfl rfl hc184) rfl rfl rfl (lb rfl) fun a S => ?_
      exact leafL ⟨rfl, S⟩
    · refine fI 139 (.bool (!r197)) [(128, .bool (x164.Back != x177.Back)), (138, .bool (!r197))] 20 [some 9, some 19] rfl rfl rfl rfl rfl rfl fun G a w S => ?_
      refine sPickF (.bool (!r197)) S (wN rfl) rfl rfl hc184 rfl rfl (lb rfl) fun a S => ?_
      exact leafL ⟨rfl, S⟩
    exact leafT (⟨!r197, Option.some.inj h, S.fix [1, 2, 3] [12, 13, 14, 15] (by decide) rfl rfl rfl⟩)
  refine sSeq (fun K33 hK33 => ?_)
  refine sRegion ?_
  refine sField (b := b6) (off := 0) 1 1 S (wN rfl) rfl rfl rfl rfl rfl (lb rfl) fun a S => ?_
  refine sLoad1 (p := b6) (off := 1) (T := 58) (vs := [iv p0.Start, .slice ad3 p0.Rows.length cp4]) 3 (.slice ad3 p0.Rows.length cp4) S (wN rfl) rfl rfl rfl rfl rfl rfl (lb rfl) fun a S => ?_
  refine sLen (ad := ad3) (m := p0.Rows.length) (c := cp4) S (wN rfl) rfl Try.underlying56 rfl rfl (lb rfl) fun a S => ?_
  refine sMove (iv 0) S (wN rfl) (.inl rfl) rfl rfl (lb rfl) fun a S => ?_
  refine leafL (leafT (hK33 _ _ ?_))
  refine wp_block ?_
  obtain ⟨t43, hl, g42⟩ := bindSome h
  refine sLoop hl (fun s0 a w => match s0 with | (s34, s35, s38) => ∃ ad36, ∃ cp37, ∃ ad39, ∃ cp40, St [] E [] w0 143 a w [(2, .pointer (some ⟨b6, 0, none⟩)), (4, .pointer (some ⟨b7, 0, none⟩)), (6, .pointer (some ⟨b24, 0, none⟩)), (45, .slice ad3 p0.Rows.length cp4), (46, iv (p0.Rows.length : Int)), (47, iv s34)] [eBox b6 58 [iv p0.Start, .slice ad3 p0.Rows.length cp4], eBox b7 36 [.slice none 0 0, .slice none 0 0], eBox b24 36 [.slice ad36 s35.length cp37, .slice ad39 s38.length cp40], eRow (rI .i64) 3 (.slice ad36 s35.length cp37) s35, eRow (rI .i64) 3 (.slice ad39 s38.length cp40) s38] [fRep (rL r_api_Row) (.slice ad3 p0.Rows.length cp4) p0.Rows]) ⟨ad20, cp21, ad22, cp23, S.fix [3, 4, 0, 2, 1] [0] (by decide) rfl rfl rfl⟩ ?_
  clear hl h
  intro s0 a w c0 hI h hu41
  obtain ⟨s34, s35, s38⟩ := s0
  unfold piece_Read_l1 at h
  dsimp only at h hI
  obtain ⟨ad36, cp37, ad39, cp40, S⟩ := hI
  refine sSeq (fun K50 hK50 => ?_)
  refine sRegion ?_
  refine sBin (.bool (decide (s34 < (p0.Rows.length : Int)))) S (wN rfl) rfl rfl rfl (bLt _ _ _ _ .i64 s34 (p0.Rows.length : Int)) rfl (lb rfl) fun a S => ?_
  refine leafL (leafT (hK50 _ _ ?_))
  refine sSeq (fun K51 hK51 => ?_)
  rcases iteSome h with ⟨hc52, h⟩ | ⟨hc52, h⟩
  rotate_left
  · refine sCondF S rfl hc52 ?_
    obtain rfl := Option.some.inj h
    obtain rfl := hu41 _ rfl
    have h := g42
    clear g42
    try dsimp only at h
    exact wp_exit (xThen (xThen (xHit (leafT (⟨s35, s38, Option.some.inj h, ad36, cp37, ad39, cp40, S.fix [0, 1, 2, 3, 4] [0] (by decide) rfl rfl rfl⟩)))))
  refine sCondT S rfl hc52 ?_
  refine wp_skip (leafT (hK51 _ _ ?_))
  refine sSeq (fun K53 hK53 => ?_)
  refine wp_block ?_
  refine sSeq (fun K54 hK54 => ?_)
  refine sRegion ?_
  refine sMove (iv s34) S (wN rfl) (.inl rfl) rfl rfl (lb rfl) fun a S => ?_
  obtain ⟨x55, hx56, h⟩ := bindSome h
  obtain ⟨q57, hq58, S⟩ := pIdx (P := Try.prog) (r := r_api_Row) (v := .slice ad3 p0.Rows.length cp4) (xs := p0.Rows) (j := s34) 56 80 0 S Try.underlying56 rfl rfl hx56
  refine sIdxV (v := .slice ad3 p0.Rows.length cp4) (k := .i64) (j := s34) S (wN rfl) rfl rfl rfl hq58 rfl (lb rfl) fun a S => ?_
  obtain ⟨u59, S⟩ := pLoad (r := r_api_Row) (q := q57) (x := x55) 0 S rfl
  obtain ⟨u60, rfl, hu61⟩ := S.mem.know (i := 1) (e := fRep r_api_Row (u59) x55) rfl
  have S := S.learn (fRep (rL r_api_Stitch) u60 x55.Cells) hu61
  obtain ⟨ad62, cp63, _, rfl, _⟩ := hu61
  refine sLoadVN (vq := q57) 1 [.bool x55.Back, .slice ad62 x55.Cells.length cp63] S (wN rfl) rfl rfl rfl rfl rfl rfl (lb rfl) fun a S => ?_
  refine sAlloc (.agg #[.bool false, .slice none 0 0]) S (wN rfl) rfl rfl [.bool false, .slice none 0 0] rfl rfl (lb rfl) fun a b64 w S => ?_
  refine sMove (iv s34) S (wN rfl) (.inr rfl) rfl rfl (lb rfl) fun a S => ?_
  refine sStore (p := b64) (off := 0) (T := 80) (vs := [.bool false, .slice none 0 0]) (v := .agg #[.bool x55.Back, .slice ad62 x55.Cells.length cp63]) 0 [.bool x55.Back, .slice ad62 x55.Cells.length cp63] S (wN rfl) rfl rfl rfl rfl rfl rfl rfl (by simp) rfl fun a w S => ?_
  refine leafL (leafT (hK54 _ _ ?_))
  refine sSeq (fun K65 hK65 => ?_)
  refine sRegion ?_
  refine sField (b := b64) (off := 0) 1 1 S (wN rfl) rfl rfl rfl rfl rfl (lb rfl) fun a S => ?_
  refine sLoad1 (p := b64) (off := 1) (T := 80) (vs := [.bool x55.Back, .slice ad62 x55.Cells.length cp63]) 0 (.slice ad62 x55.Cells.length cp63) S (wN rfl) rfl rfl rfl rfl rfl rfl (lb rfl) fun a S => ?_
  refine sMove (.slice ad62 x55.Cells.length cp63) S (wN rfl) (.inr rfl) rfl rfl (lb rfl) fun a S => ?_
  refine leafL (leafT (hK65 _ _ ?_))
  refine sSeq (fun K66 hK66 => ?_)
  obtain ⟨t68, h, g69⟩ := bindSome h
  refine sCut (fun a w => ∃ o67, o67 = t68 ∧ St [] E [] w0 143 a w [(2, .pointer (some ⟨b6, 0, none⟩)), (4, .pointer (some ⟨b7, 0, none⟩)), (6, .pointer (some ⟨b24, 0, none⟩)), (7, iv s34), (8, .pointer (some ⟨b64, 0, none⟩)), (9, .slice ad62 x55.Cells.length cp63), (45, .slice ad3 p0.Rows.length cp4), (46, iv (p0.Rows.length : Int)), (47, iv s34), (61, .bool o67)] [eBox b6 58 [iv p0.Start, .slice ad3 p0.Rows.length cp4], eBox b7 36 [.slice none 0 0, .slice none 0 0], eBox b24 36 [.slice ad36 s35.length cp37, .slice ad39 s38.length cp40], eBox b64 80 [.bool x55.Back, .slice ad62 x55.Cells.length cp63], eRow (rI .i64) 3 (.slice ad36 s35.length cp37) s35, eRow (rI .i64) 3 (.slice ad39 s38.length cp40) s38] [fRep (rL r_api_Stitch) (.slice ad62 x55.Cells.length cp63) x55.Cells, fRep (rL r_api_Row) (.slice ad3 p0.Rows.length cp4) p0.Rows]) ?_ (fun a w hI => ?_)
  · refine sRegion ?_
    refine sMove (.slice ad62 x55.Cells.length cp63) S (wN rfl) (.inl rfl) rfl rfl (lb rfl) fun a S => ?_
    refine sLen (ad := ad62) (m := x55.Cells.length) (c := cp63) S (wN rfl) rfl Try.underlying78 rfl rfl (lb rfl) fun a S => ?_
    refine sBin (.bool ((x55.Cells.length : Int) == 0)) S (wN rfl) rfl rfl rfl (bEq _ _ _ _ .i64 (x55.Cells.length : Int) 0) rfl (lb rfl) fun a S => ?_
    refine sMove (.bool ((x55.Cells.length : Int) == 0)) S (wN rfl) (.inl rfl) rfl rfl (lb rfl) fun a S => ?_
    rcases iteSome h with ⟨hc70, h⟩ | ⟨hc70, h⟩
    · refine sSkip 3 false 57 58 S rfl rfl rfl hc70 rfl (lb rfl) fun a S => ?_
      refine sSkip 3 false 57 59 S rfl rfl rfl hc70 rfl (lb rfl) fun a S => ?_
      refine sSkip 3 false 57 60 S rfl rfl rfl hc70 rfl (lb rfl) fun a S => ?_
      refine sPickT (.bool true) S (wN rfl) rfl rfl hc70 rfl rfl (lb rfl) fun a S => ?_
      exact leafL (leafT (⟨true, Option.some.inj h, S.fix [1, 2, 3, 0, 4, 5] [0, 4] (by decide) rfl rfl rfl⟩))
    refine sMove (.slice ad62 x55.Cells.length cp63) S (wG 3 false 57 rfl rfl rfl hc70) (.inl rfl) rfl rfl (lb rfl) fun a S => ?_
    obtain ⟨r71, hx72, h⟩ := bindSome h
    have S1 := S.mem
    refine sCallQ (X := Unit) (f := 39) (vs := [.slice ad62 x55.Cells.length cp63]) (val := fun _ => iv r71) S (wG 3 false 57 rfl rfl rfl hc70) rfl callee39 rfl (S1.quiet [0] rfl) (fun E1 w1 S1 => c_stitch_All E1 w1 x55.Cells (.slice ad62 x55.Cells.length cp63) r71 hx72 S1) rfl (lb rfl) fun _ a w S => ?_
    refine sBin (.bool (r71 != 0)) S (wG 3 false 57 rfl rfl rfl hc70) rfl rfl rfl (bNe _ _ _ _ .i64 r71 0) rfl (lb rfl) fun a S => ?_
    refine sPickF (.bool (r71 != 0)) S (wN rfl) rfl rfl hc70 rfl rfl (lb rfl) fun a S => ?_
    exact leafL (leafT (⟨r71 != 0, Option.some.inj h, S.fix [1, 2, 3, 0, 4, 5] [0, 4] (by decide) rfl rfl rfl⟩))
  obtain ⟨o67, rfl, S⟩ := hI
  have h := g69
  clear g69
  try dsimp only at h
  rcases iteSome h with ⟨hc73, h⟩ | ⟨hc73, h⟩
  · refine sCondT S rfl hc73 ?_
    refine sSeq (fun K74 hK74 => ?_)
    refine sRegion ?_
    refine sBuild [] [.slice none 0 0, .slice none 0 0] S (wN rfl) rfl rfl rfl rfl (lb rfl) fun a S => ?_
    refine sStore (p := b7) (off := 0) (T := 36) (vs := [.slice none 0 0, .slice none 0 0]) (v := .agg #[.slice none 0 0, .slice none 0 0]) 1 [.slice none 0 0, .slice none 0 0] S (wN rfl) rfl rfl rfl rfl rfl rfl rfl (by simp) rfl fun a w S => ?_
    refine sMove (iv 8) S (wN rfl) (.inr rfl) rfl rfl (lb rfl) fun a S => ?_
    refine leafL (leafT (hK74 _ _ ?_))
    obtain rfl := Option.some.inj h
    obtain rfl := hu41 _ rfl
    have h := g42
    clear g42
    try dsimp only at h
    obtain rfl := Option.some.inj h
    have h := g32
    clear g32
    try dsimp only at h
    obtain rfl := Option.some.inj h
    have S := S.learn (fRep (rL (rI .i64)) (.slice none 0 0) ([] : (List Int))) (rL_nil _ _ _)
    have S := S.learn (fRep r_api_Piece (.agg #[.slice none 0 0, .slice none 0 0]) (api_Piece.mk ([] : (List Int)) ([] : (List Int)))) ⟨_, _, rfl, S.mem.know (i := 0) (e := fRep (rL (rI .i64)) (.slice none 0 0) ([] : (List Int))) rfl, S.mem.know (i := 0) (e := fRep (rL (rI .i64)) (.slice none 0 0) ([] : (List Int))) rfl⟩
    exact wp_ret (rThen (rBlock (rThen (rThen (rBlock (rThen (sRet (.tuple #[.agg #[.slice none 0 0, .slice none 0 0], iv 8]) S (rsl2 rfl (rvN (c := 4) (t := 36) (T := 36) (p := b7) 0 [.slice none 0 0, .slice none 0 0] S rfl rfl rfl rfl) (rvT (t := 5) (v := iv 8) S rfl)) ⟨(.agg #[.slice none 0 0, .slice none 0 0]), rfl, S.mem.sel [] [0] (by decide) rfl rfl⟩)))))))
  refine sCondF S rfl hc73 ?_
  refine wp_skip (leafT (hK66 _ _ ?_))
  refine sSeq (fun K75 hK75 => ?_)
  obtain ⟨x76, hx77, h⟩ := bindSome h
  obtain ⟨r81, hx82, h⟩ := bindSome h
  obtain ⟨x83, hx84, h⟩ := bindSome h
  obtain ⟨r88, hx89, h⟩ := bindSome h
  obtain ⟨q90, hq91, S⟩ := pIdx (P := Try.prog) (r := r_api_Stitch) (v := .slice ad62 x55.Cells.length cp63) (xs := x55.Cells) (j := 0) 78 82 0 S Try.underlying78 rfl rfl hx77
  obtain ⟨u92, S⟩ := pLoad (r := r_api_Stitch) (q := q90) (x := x76) 0 S rfl
  obtain rfl : u92 = .agg #[.int .u8 x76.Kind, .bool x76.Purl, iv x76.A, iv x76.B] := S.mem.know (i := 1) (e := fRep r_api_Stitch (u92) x76) rfl
  obtain ⟨q93, hq94, S⟩ := pIdx (P := Try.prog) (r := r_api_Stitch) (v := .slice ad62 x55.Cells.length cp63) (xs := x55.Cells) (j := w64 ((x55.Cells.length : Int) - 1)) 78 82 3 S Try.underlying78 rfl rfl hx84
  obtain ⟨u95, S⟩ := pLoad (r := r_api_Stitch) (q := q93) (x := x83) 0 S rfl
  obtain rfl : u95 = .agg #[.int .u8 x83.Kind, .bool x83.Purl, iv x83.A, iv x83.B] := S.mem.know (i := 1) (e := fRep r_api_Stitch (u95) x83) rfl
  refine sDraw (nf := []) (W := [(0, 63, .slice ad62 x55.Cells.length cp63), (1, 64, q90), (2, 65, .agg #[.int .u8 x76.Kind, .bool x76.Purl, iv x76.A, iv x76.B]), (3, 66, iv r81), (4, 67, .slice ad62 x55.Cells.length cp63), (5, 68, .slice ad62 x55.Cells.length cp63), (6, 69, iv (x55.Cells.length : Int)), (7, 70, iv (w64 ((x55.Cells.length : Int) - 1))), (8, 71, q93), (9, 72, .agg #[.int .u8 x83.Kind, .bool x83.Purl, iv x83.A, iv x83.B]), (10, 73, iv r88), (11, 10, iv r81), (12, 11, iv r88)]) rfl S ?_
  refine node_by (A := anc_piece_Read_0) (nf := []) (Y := []) (W := [(0, 63, .slice ad62 x55.Cells.length cp63), (1, 64, q90), (2, 65, .agg #[.int .u8 x76.Kind, .bool x76.Purl, iv x76.A, iv x76.B]), (3, 66, iv r81), (4, 67, .slice ad62 x55.Cells.length cp63), (5, 68, .slice ad62 x55.Cells.length cp63), (6, 69, iv (x55.Cells.length : Int)), (7, 70, iv (w64 ((x55.Cells.length : Int) - 1))), (8, 71, q93), (9, 72, .agg #[.int .u8 x83.Kind, .bool x83.Purl, iv x83.A, iv x83.B]), (10, 73, iv r88), (11, 10, iv r81), (12, 11, iv r88)]) 13 (by kernel_rfl) (by kernel_rfl) (by kernel_rfl) (by kernel_rfl) (by kernel_rfl) [0, 1, 2, 3, 4, 5, 6, 7, 8, 9, 10, 11, 12] (by kernel_rfl) (by decide) (by decide) (aF 0 12 (by decide) ?_ (aF 1 11 (by decide) ?_ (aF 2 10 (by decide) ?_ (aF 3 9 (by decide) ?_ (aF 4 8 (by decide) ?_ (aF 5 7 (by decide) ?_ (aF 6 6 (by decide) ?_ (aF 7 5 (by decide) ?_ (aF 8 4 (by decide) ?_ (aF 9 3 (by decide) ?_ (aF 10 2 (by decide) ?_ (aF 11 1 (by decide) ?_ (aF 12 0 (by decide) ?_ (trivial)))))))))))))) [(2, .pointer (some ⟨b6, 0, none⟩)), (4, .pointer (some ⟨b7, 0, none⟩)), (6, .pointer (some ⟨b24, 0, none⟩)), (7, iv s34), (8, .pointer (some ⟨b64, 0, none⟩)), (10, iv r81), (11, iv r88), (45, .slice ad3 p0.Rows.length cp4), (46, iv (p0.Rows.length : Int)), (47, iv s34)] (fin_of [none, none, none, none, none, some 11, some 12, none, none, none] rfl (by kernel_rfl) (by kernel_rfl)) (fun _ a w S => ?_)
  · refine fI 63 (.slice ad62 x55.Cells.length cp63) [(9, .slice ad62 x55.Cells.length cp63)] 0 [none] rfl rfl rfl rfl rfl rfl fun G a w S => ?_
    refine sMove (.slice ad62 x55.Cells.length cp63) S (wN rfl) (.inl rfl) rfl rfl (lb rfl) fun a S => ?_
    exact leafL ⟨rfl, S⟩
  · refine fI 64 q90 [(63, .slice ad62 x55.Cells.length cp63)] 1 [some 0] rfl rfl rfl rfl rfl rfl fun G a w S => ?_
    refine sIdxV (v := .slice ad62 x55.Cells.length cp63) (k := .i64) (j := 0) S (wN rfl) rfl rfl rfl hq91 rfl (lb rfl) fun a S => ?_
    exact leafL ⟨rfl, S⟩
  · refine fI 65 (.agg #[.int .u8 x76.Kind, .bool x76.Purl, iv x76.A, iv x76.B]) [(64, q90)] 2 [some 1] rfl rfl rfl rfl rfl rfl fun G a w S => ?_
    refine sLoadVN (vq := q90) 3 [.int .u8 x76.Kind, .bool x76.Purl, iv x76.A, iv x76.B] S (wN rfl) rfl rfl rfl rfl rfl rfl (lb rfl) fun a S => ?_
    exact leafL ⟨rfl, S⟩
  · refine fI 66 (iv r81) [(65, .agg #[.int .u8 x76.Kind, .bool x76.Purl, iv x76.A, iv x76.B])] 3 [some 2] rfl rfl rfl rfl rfl rfl fun G a w S => ?_
    have S1 := S.mem
    refine sCallQ (X := Unit) (f := 40) (vs := [.agg #[.int .u8 x76.Kind, .bool x76.Purl, iv x76.A, iv x76.B]]) (val := fun _ => iv r81) S (wN rfl) rfl callee40 rfl (S1.quiet [4] rfl) (fun E1 w1 S1 => c_piece_grows E1 w1 x76 (.agg #[.int .u8 x76.Kind, .bool x76.Purl, iv x76.A, iv x76.B]) r81 hx82 S1) rfl (lb rfl) fun _ a w S => ?_
    exact leafL ⟨rfl, S⟩
  · refine fI 67 (.slice ad62 x55.Cells.length cp63) [(9, .slice ad62 x55.Cells.length cp63)] 4 [none] rfl rfl rfl rfl rfl rfl fun G a w S => ?_
    refine sMove (.slice ad62 x55.Cells.length cp63) S (wN rfl) (.inl rfl) rfl rfl (lb rfl) fun a S => ?_
    exact leafL ⟨rfl, S⟩
  · refine fI 68 (.slice ad62 x55.Cells.length cp63) [(9, .slice ad62 x55.Cells.length cp63)] 5 [none] rfl rfl rfl rfl rfl rfl fun G a w S => ?_
    refine sMove (.slice ad62 x55.Cells.length cp63) S (wN rfl) (.inl rfl) rfl rfl (lb rfl) fun a S => ?_
    exact leafL ⟨rfl, S⟩
  · refine fI 69 (iv (x55.Cells.length : Int)) [(68, .slice ad62 x55.Cells.length cp63)] 6 [some 5] rfl rfl rfl rfl rfl rfl fun G a w S => ?_
    refine sLen (ad := ad62) (m := x55.Cells.length) (c := cp63) S (wN rfl) rfl Try.underlying78 rfl rfl (lb rfl) fun a S => ?_
    exact leafL ⟨rfl, S⟩
  · refine fI 70 (iv (w64 ((x55.Cells.length : Int) - 1))) [(69, iv (x55.Cells.length : Int))] 7 [some 6] rfl rfl rfl rfl rfl rfl fun G a w S => ?_
    refine sBin (iv (w64 ((x55.Cells.length : Int) - 1))) S (wN rfl) rfl rfl rfl (bSub _ _ _ _ (x55.Cells.length : Int) 1) rfl (lb rfl) fun a S => ?_
    exact leafL ⟨rfl, S⟩
  · refine fI 71 q93 [(67, .slice ad62 x55.Cells.length cp63), (70, iv (w64 ((x55.Cells.length : Int) - 1)))] 8 [some 4, some 7] rfl rfl rfl rfl rfl rfl fun G a w S => ?_
    refine sIdxV (v := .slice ad62 x55.Cells.length cp63) (k := .i64) (j := w64 ((x55.Cells.length : Int) - 1)) S (wN rfl) rfl rfl rfl hq94 rfl (lb rfl) fun a S => ?_
    exact leafL ⟨rfl, S⟩
  · refine fI 72 (.agg #[.int .u8 x83.Kind, .bool x83.Purl, iv x83.A, iv x83.B]) [(71, q93)] 9 [some 8] rfl rfl rfl rfl rfl rfl fun G a w S => ?_
    refine sLoadVN (vq := q93) 0 [.int .u8 x83.Kind, .bool x83.Purl, iv x83.A, iv x83.B] S (wN rfl) rfl rfl rfl rfl rfl rfl (lb rfl) fun a S => ?_
    exact leafL ⟨rfl, S⟩
  · refine fI 73 (iv r88) [(72, .agg #[.int .u8 x83.Kind, .bool x83.Purl, iv x83.A, iv x83.B])] 10 [some 9] rfl rfl rfl rfl rfl rfl fun G a w S => ?_
    have S1 := S.mem
    refine sCallQ (X := Unit) (f := 40) (vs := [.agg #[.int .u8 x83.Kind, .bool x83.Purl, iv x83.A, iv x83.B]]) (val := fun _ => iv r88) S (wN rfl) rfl callee40 rfl (S1.quiet [1] rfl) (fun E1 w1 S1 => c_piece_grows E1 w1 x83 (.agg #[.int .u8 x83.Kind, .bool x83.Purl, iv x83.A, iv x83.B]) r88 hx89 S1) rfl (lb rfl) fun _ a w S => ?_
    exact leafL ⟨rfl, S⟩
  · refine fI 10 (iv r81) [(66, iv r81)] 11 [some 3] rfl rfl rfl rfl rfl rfl fun G a w S => ?_
    refine sMove (iv r81) S (wN rfl) (.inr rfl) rfl rfl (lb rfl) fun a S => ?_
    exact leafL ⟨rfl, S⟩
  · refine fI 11 (iv r88) [(73, iv r88)] 12 [some 10] rfl rfl rfl rfl rfl rfl fun G a w S => ?_
    refine sMove (iv r88) S (wN rfl) (.inr rfl) rfl rfl (lb rfl) fun a S => ?_
    exact leafL ⟨rfl, S⟩
  refine leafT (hK75 _ _ ?_)
  obtain ⟨t98, h, g99⟩ := bindSome h
  refine sCut (fun a w => ∃ o96, ∃ o97, (o96, o97) = t98 ∧ St [] E [] w0 143 a w [(2, .pointer (some ⟨b6, 0, none⟩)), (4, .pointer (some ⟨b7, 0, none⟩)), (6, .pointer (some ⟨b24, 0, none⟩)), (7, iv s34), (10, iv o96), (11, iv o97), (45, .slice ad3 p0.Rows.length cp4), (46, iv (p0.Rows.length : Int)), (47, iv s34)] [eBox b6 58 [iv p0.Start, .slice ad3 p0.Rows.length cp4], eBox b7 36 [.slice none 0 0, .slice none 0 0], eBox b24 36 [.slice ad36 s35.length cp37, .slice ad39 s38.length cp40], eRow (rI .i64) 3 (.slice ad36 s35.length cp37) s35, eRow (rI .i64) 3 (.slice ad39 s38.length cp40) s38] [fRep (rL r_api_Row) (.slice ad3 p0.Rows.length cp4) p0.Rows]) ?_ (fun a w hI => ?_)
  · refine sSeq (fun K100 hK100 => ?_)
    refine sRegion ?_
    refine sField (b := b64) (off := 0) 0 0 S (wN rfl) rfl rfl rfl rfl rfl (lb rfl) fun a S => ?_
    refine sLoad1 (p := b64) (off := 0) (T := 80) (vs := [.bool x55.Back, .slice ad62 x55.Cells.length cp63]) 3 (.bool x55.Back) S (wN rfl) rfl rfl rfl rfl rfl rfl (lb rfl) fun a S => ?_
    refine leafL (leafT (hK100 _ _ ?_))
    rcases iteSome h with ⟨hc101, h⟩ | ⟨hc101, h⟩
    rotate_left
    · refine sCondF S rfl hc101 ?_
      exact wp_skip (leafT (⟨r81, r88, Option.some.inj h, S.fix [0, 1, 2, 4, 5] [7] (by decide) rfl rfl rfl⟩))
    refine sCondT S rfl hc101 ?_
    refine sRegion ?_
    refine sMove (iv r88) S (wN rfl) (.inl rfl) rfl rfl (lb rfl) fun a S => ?_
    refine sMove (iv r81) S (wN rfl) (.inl rfl) rfl rfl (lb rfl) fun a S => ?_
    refine sMove (iv r88) S (wN rfl) (.inr rfl) rfl rfl (lb rfl) fun a S => ?_
    refine sMove (iv r81) S (wN rfl) (.inr rfl) rfl rfl (lb rfl) fun a S => ?_
    exact leafL (leafT (⟨r88, r81, Option.some.inj h, S.fix [0, 1, 2, 4, 5] [7] (by decide) rfl rfl rfl⟩))
  obtain ⟨o96, o97, rfl, S⟩ := hI
  have h := g99
  clear g99
  try dsimp only at h
  refine sSeq (fun K102 hK102 => ?_)
  obtain ⟨x103, hx104, h⟩ := bindSome h
  obtain ⟨l110, hx111, h⟩ := bindSome h
  obtain ⟨q114, hq115, hp116⟩ := pIdxR (P := Try.prog) (r := (rI .i64)) (T := 3) (v := .slice ad36 s35.length cp37) (xs := s35) (j := s34) 34 3 3 S Try.underlying34 rfl rfl hx104
  refine sDraw (nf := [9, 10, 12]) (W := [(0, 78, .pointer (some ⟨b24, 0, none⟩)), (1, 79, .slice ad36 s35.length cp37), (2, 80, .pointer (some ⟨b24, 0, none⟩)), (3, 81, .slice ad36 s35.length cp37), (4, 82, iv s34), (5, 83, q114), (6, 84, iv x103), (7, 85, iv o97), (8, 86, iv (w64 (x103 - o97)))]) rfl S ?_
  refine node_by (A := anc_piece_Read_1) (nf := [9, 10, 12]) (Y := []) (W := [(0, 78, .pointer (some ⟨b24, 0, none⟩)), (1, 79, .slice ad36 s35.length cp37), (2, 80, .pointer (some ⟨b24, 0, none⟩)), (3, 81, .slice ad36 s35.length cp37), (4, 82, iv s34), (5, 83, q114), (6, 84, iv x103), (7, 85, iv o97), (8, 86, iv (w64 (x103 - o97)))]) 13 (by kernel_rfl) (by kernel_rfl) (by kernel_rfl) (by kernel_rfl) (by kernel_rfl) [0, 1, 2, 3, 4, 5, 6, 7, 8] (by kernel_rfl) (by decide) (by decide) (aF 0 12 (by decide) ?_ (aF 1 11 (by decide) ?_ (aF 2 10 (by decide) ?_ (aF 3 9 (by decide) ?_ (aF 4 8 (by decide) ?_ (aF 5 7 (by decide) ?_ (aF 6 6 (by decide) ?_ (aF 7 5 (by decide) ?_ (aF 8 4 (by decide) ?_ (aN 9 3 (by decide) ?_ (aB 10 2 9 (by decide) (aE 11 1 9 (by decide) (aB 12 0 9 (by decide) (trivial)))))))))))))) [] (fun q hq => by cases hq) (fun hY => absurd (hY 9 (by decide)) (by decide))
  · refine fI 78 (.pointer (some ⟨b24, 0, none⟩)) [(6, .pointer (some ⟨b24, 0, none⟩))] 0 [none] rfl rfl rfl rfl rfl rfl fun G a w S => ?_
    refine sField (b := b24) (off := 0) 0 0 S (wN rfl) rfl rfl rfl rfl rfl (lb rfl) fun a S => ?_
    exact leafL ⟨rfl, S⟩
  · refine fI 79 (.slice ad36 s35.length cp37) [(78, .pointer (some ⟨b24, 0, none⟩))] 1 [some 0] rfl rfl rfl rfl rfl rfl fun G a w S => ?_
    refine sLoad1 (p := b24) (off := 0) (T := 36) (vs := [.slice ad36 s35.length cp37, .slice ad39 s38.length cp40]) 2 (.slice ad36 s35.length cp37) S (wN rfl) rfl rfl rfl rfl rfl rfl (lb rfl) fun a S => ?_
    exact leafL ⟨rfl, S⟩
  · refine fI 80 (.pointer (some ⟨b24, 0, none⟩)) [(6, .pointer (some ⟨b24, 0, none⟩))] 2 [none] rfl rfl rfl rfl rfl rfl fun G a w S => ?_
    refine sField (b := b24) (off := 0) 0 0 S (wN rfl) rfl rfl rfl rfl rfl (lb rfl) fun a S => ?_
    exact leafL ⟨rfl, S⟩
  · refine fI 81 (.slice ad36 s35.length cp37) [(80, .pointer (some ⟨b24, 0, none⟩))] 3 [some 2] rfl rfl rfl rfl rfl rfl fun G a w S => ?_
    refine sLoad1 (p := b24) (off := 0) (T := 36) (vs := [.slice ad36 s35.length cp37, .slice ad39 s38.length cp40]) 2 (.slice ad36 s35.length cp37) S (wN rfl) rfl rfl rfl rfl rfl rfl (lb rfl) fun a S => ?_
    exact leafL ⟨rfl, S⟩
  · refine fI 82 (iv s34) [(7, iv s34)] 4 [none] rfl rfl rfl rfl rfl rfl fun G a w S => ?_
    refine sMove (iv s34) S (wN rfl) (.inl rfl) rfl rfl (lb rfl) fun a S => ?_
    exact leafL ⟨rfl, S⟩
  · refine fI 83 q114 [(81, .slice ad36 s35.length cp37), (82, iv s34)] 5 [some 3, some 4] rfl rfl rfl rfl rfl rfl fun G a w S => ?_
    refine sIdxV (v := .slice ad36 s35.length cp37) (k := .i64) (j := s34) S (wN rfl) rfl rfl rfl hq115 rfl (lb rfl) fun a S => ?_
    exact leafL ⟨rfl, S⟩
  · refine fI 84 (iv x103) [(83, q114)] 6 [some 5] rfl rfl rfl rfl rfl rfl fun G a w S => ?_
    refine sLoadR (r := (rI .i64)) (T := 3) (xs := s35) (x := x103) (v := .slice ad36 s35.length cp37) (vq := q114) (j := s34) 3 (iv x103) S hp116 (wN rfl) rfl rfl rfl hx104 (fun _ _ _ h => h) (scal_I _) rfl rfl (lb rfl) fun a S => ?_
    exact leafL ⟨rfl, S⟩
  · refine fI 85 (iv o97) [(11, iv o97)] 7 [none] rfl rfl rfl rfl rfl rfl fun G a w S => ?_
    refine sMove (iv o97) S (wN rfl) (.inl rfl) rfl rfl (lb rfl) fun a S => ?_
    exact leafL ⟨rfl, S⟩
  · refine fI 86 (iv (w64 (x103 - o97))) [(84, iv x103), (85, iv o97)] 8 [some 6, some 7] rfl rfl rfl rfl rfl rfl fun G a w S => ?_
    refine sBin (iv (w64 (x103 - o97))) S (wN rfl) rfl rfl rfl (bSub _ _ _ _ x103 o97) rfl (lb rfl) fun a S => ?_
    exact leafL ⟨rfl, S⟩
  refine ⟨_, [(86, iv (w64 (x103 - o97)))], rfl, (srcs_of [some 8] rfl rfl rfl), fun G a w S => ?_⟩
  refine sLit (r := (rI .i64)) (T := 3) (xs := ([w64 (x103 - o97)] : List Int)) [(0, iv (w64 (x103 - o97)))] 1 [iv (w64 (x103 - o97))] [iv (w64 (x103 - o97))] (iv 0) 8 S (wN rfl) rfl rfl Try.underlying34 rfl (by decide) (by decide) (by kernel_rfl) rfl (fun E1 w1 hE => All.cons rfl (All.nil _ _ _)) rfl rfl (lb rfl) fun a w ad117 cp118 S => ?_
  refine leafL ⟨rfl, _, _, .inl ⟨87, (.slice ad117 ([w64 (x103 - o97)] : List Int).length cp118), [], rfl, S, hz_of rfl, ?_⟩⟩
  refine node_by (A := anc_piece_Read_1) (nf := [9, 10, 12]) (Y := [9]) 13 (by kernel_rfl) (by kernel_rfl) (by kernel_rfl) (by kernel_rfl) (by kernel_rfl) [9, 0, 1, 2, 3, 4, 5, 6, 7, 8] (by kernel_rfl) (by decide) (by decide) (aF 0 12 (by decide) ?_ (aF 1 11 (by decide) ?_ (aD 2 10 9 (by decide) (aD 3 9 9 (by decide) (aD 4 8 9 (by decide) (aD 5 7 9 (by decide) (aD 6 6 9 (by decide) (aD 7 5 9 (by decide) (aD 8 4 9 (by decide) (aY 9 3 (by decide) (aN 10 2 (by decide) ?_ (aE 11 1 10 (by decide) (aB 12 0 10 (by decide) (trivial)))))))))))))) [] (fun q hq => by cases hq) (fun hY => absurd (hY 10 (by decide)) (by decide))
  · refine fI 78 (.pointer (some ⟨b24, 0, none⟩)) [(6, .pointer (some ⟨b24, 0, none⟩))] 1 [none] rfl rfl rfl rfl rfl rfl fun G a w S => ?_
    refine sField (b := b24) (off := 0) 0 0 S (wN rfl) rfl rfl rfl rfl rfl (lb rfl) fun a S => ?_
    exact leafL ⟨rfl, S⟩
  · refine fI 79 (.slice ad36 s35.length cp37) [(78, .pointer (some ⟨b24, 0, none⟩))] 2 [some 1] rfl rfl rfl rfl rfl rfl fun G a w S => ?_
    refine sLoad1 (p := b24) (off := 0) (T := 36) (vs := [.slice ad36 s35.length cp37, .slice ad39 s38.length cp40]) 3 (.slice ad36 s35.length cp37) S (wN rfl) rfl rfl rfl rfl rfl rfl (lb rfl) fun a S => ?_
    exact leafL ⟨rfl, S⟩
  refine ⟨_, [(79, .slice ad36 s35.length cp37), (87, .slice ad117 ([w64 (x103 - o97)] : List Int).length cp118)], rfl, (srcs_of [some 2, some 0] rfl rfl rfl), fun G a w S => ?_⟩
  refine sApp (r := (rI .i64)) (T := 3) (xs := s35) (ys := ([w64 (x103 - o97)] : List Int)) (v := .slice ad36 s35.length cp37) (u := .slice ad117 ([w64 (x103 - o97)] : List Int).length cp118) 4 (iv 0) 8 S (wN rfl) rfl Try.underlying34 rfl rfl (by decide) rfl rfl rfl (src_R (T := 3) 0 S.mem rfl) hx111 rfl (lb rfl) fun a w ad119 cp120 S => ?_
  refine leafL ⟨rfl, _, _, .inl ⟨88, (.slice ad119 l110.length cp120), [(11, 89, .pointer (some ⟨b24, 0, none⟩))], rfl, S, hz_of rfl, ?_⟩⟩
  refine node_by (A := anc_piece_Read_1) (nf := [9, 10, 12]) (Y := [10, 9]) 13 (by kernel_rfl) (by kernel_rfl) (by kernel_rfl) (by kernel_rfl) (by kernel_rfl) [11, 10, 9, 0, 1, 2, 3, 4, 5, 6, 7, 8] (by kernel_rfl) (by decide) (by decide) (aD 0 12 10 (by decide) (aD 1 11 10 (by decide) (aD 2 10 10 (by decide) (aD 3 9 10 (by decide) (aD 4 8 10 (by decide) (aD 5 7 10 (by decide) (aD 6 6 10 (by decide) (aD 7 5 10 (by decide) (aD 8 4 10 (by decide) (aY 9 3 (by decide) (aY 10 2 (by decide) (aF 11 1 (by decide) ?_ (aN 12 0 (by decide) ?_ (trivial)))))))))))))) [] (fun q hq => by cases hq) (fun hY => absurd (hY 12 (by decide)) (by decide))
  · refine fI 89 (.pointer (some ⟨b24, 0, none⟩)) [(6, .pointer (some ⟨b24, 0, none⟩))] 0 [none] rfl rfl rfl rfl rfl rfl fun G a w S => ?_
    refine sField (b := b24) (off := 0) 0 0 S (wN rfl) rfl rfl rfl rfl rfl (lb rfl) fun a S => ?_
    exact leafL ⟨rfl, S⟩
  refine ⟨_, [(88, .slice ad119 l110.length cp120), (89, .pointer (some ⟨b24, 0, none⟩))], rfl, (srcs_of [some 1, some 0] rfl rfl rfl), fun G a w S => ?_⟩
  refine sStore (p := b24) (off := 0) (T := 36) (vs := [.slice ad36 s35.length cp37, .slice ad39 s38.length cp40]) (v := .slice ad119 l110.length cp120) 4 [.slice ad119 l110.length cp120] S (wN rfl) rfl rfl rfl rfl rfl rfl rfl (by simp) rfl fun a w S => ?_
  refine leafL ⟨rfl, _, _, .inr ⟨[], rfl, S, hz_of rfl, ?_⟩⟩
  refine node_by (A := anc_piece_Read_1) (nf := [9, 10, 12]) (Y := [12, 10, 9]) 13 (by kernel_rfl) (by kernel_rfl) (by kernel_rfl) (by kernel_rfl) (by kernel_rfl) [11, 10, 9, 0, 1, 2, 3, 4, 5, 6, 7, 8] (by kernel_rfl) (by decide) (by decide) (aD 0 12 12 (by decide) (aD 1 11 12 (by decide) (aD 2 10 12 (by decide) (aD 3 9 12 (by decide) (aD 4 8 12 (by decide) (aD 5 7 12 (by decide) (aD 6 6 12 (by decide) (aD 7 5 12 (by decide) (aD 8 4 12 (by decide) (aY 9 3 (by decide) (aY 10 2 (by decide) (aD 11 1 12 (by decide) (aY 12 0 (by decide) (trivial)))))))))))))) [(2, .pointer (some ⟨b6, 0, none⟩)), (4, .pointer (some ⟨b7, 0, none⟩)), (6, .pointer (some ⟨b24, 0, none⟩)), (7, iv s34), (10, iv o96), (45, .slice ad3 p0.Rows.length cp4), (46, iv (p0.Rows.length : Int)), (47, iv s34)] (fin_of [none, none, none, none, none, none, none, none] rfl (by kernel_rfl) (by kernel_rfl)) (fun _ a w S => ?_)
  refine leafT (hK102 _ _ ?_)
  obtain ⟨x121, hx122, h⟩ := bindSome h
  obtain ⟨l128, hx129, h⟩ := bindSome h
  obtain ⟨q132, hq133, hp134⟩ := pIdxR (P := Try.prog) (r := (rI .i64)) (T := 3) (v := .slice ad39 s38.length cp40) (xs := s38) (j := s34) 34 3 5 S Try.underlying34 rfl rfl hx122
  refine sDraw (nf := [9, 10, 12]) (W := [(0, 90, .pointer (some ⟨b24, 1, none⟩)), (1, 91, .slice ad39 s38.length cp40), (2, 92, .pointer (some ⟨b24, 1, none⟩)), (3, 93, .slice ad39 s38.length cp40), (4, 94, iv s34), (5, 95, q132), (6, 96, iv x121), (7, 97, iv o96), (8, 98, iv (w64 (x121 + o96)))]) rfl S ?_
  refine node_by (A := anc_piece_Read_1) (nf := [9, 10, 12]) (Y := []) (W := [(0, 90, .pointer (some ⟨b24, 1, none⟩)), (1, 91, .slice ad39 s38.length cp40), (2, 92, .pointer (some ⟨b24, 1, none⟩)), (3, 93, .slice ad39 s38.length cp40), (4, 94, iv s34), (5, 95, q132), (6, 96, iv x121), (7, 97, iv o96), (8, 98, iv (w64 (x121 + o96)))]) 13 (by kernel_rfl) (by kernel_rfl) (by kernel_rfl) (by kernel_rfl) (by kernel_rfl) [0, 1, 2, 3, 4, 5, 6, 7, 8] (by kernel_rfl) (by decide) (by decide) (aF 0 12 (by decide) ?_ (aF 1 11 (by decide) ?_ (aF 2 10 (by decide) ?_ (aF 3 9 (by decide) ?_ (aF 4 8 (by decide) ?_ (aF 5 7 (by decide) ?_ (aF 6 6 (by decide) ?_ (aF 7 5 (by decide) ?_ (aF 8 4 (by decide) ?_ (aN 9 3 (by decide) ?_ (aB 10 2 9 (by decide) (aE 11 1 9 (by decide) (aB 12 0 9 (by decide) (trivial)))))))))))))) [] (fun q hq => by cases hq) (fun hY => absurd (hY 9 (by decide)) (by decide))
  · refine fI 90 (.pointer (some ⟨b24, 1, none⟩)) [(6, .pointer (some ⟨b24, 0, none⟩))] 0 [none] rfl rfl rfl rfl rfl rfl fun G a w S => ?_
    refine sField (b := b24) (off := 0) 1 1 S (wN rfl) rfl rfl rfl rfl rfl (lb rfl) fun a S => ?_
    exact leafL ⟨rfl, S⟩
  · refine fI 91 (.slice ad39 s38.length cp40) [(90, .pointer (some ⟨b24, 1, none⟩))] 1 [some 0] rfl rfl rfl rfl rfl rfl fun G a w S => ?_
    refine sLoad1 (p := b24) (off := 1) (T := 36) (vs := [.slice ad119 l110.length cp120, .slice ad39 s38.length cp40]) 0 (.slice ad39 s38.length cp40) S (wN rfl) rfl rfl rfl rfl rfl rfl (lb rfl) fun a S => ?_
    exact leafL ⟨rfl, S⟩
  · refine fI 92 (.pointer (some ⟨b24, 1, none⟩)) [(6, .pointer (some ⟨b24, 0, none⟩))] 2 [none] rfl rfl rfl rfl rfl rfl fun G a w S => ?_
    refine sField (b := b24) (off := 0) 1 1 S (wN rfl) rfl rfl rfl rfl rfl (lb rfl) fun a S => ?_
    exact leafL ⟨rfl, S⟩
  · refine fI 93 (.slice ad39 s38.length cp40) [(92, .pointer (some ⟨b24, 1, none⟩))] 3 [some 2] rfl rfl rfl rfl rfl rfl fun G a w S => ?_
    refine sLoad1 (p := b24) (off := 1) (T := 36) (vs := [.slice ad119 l110.length cp120, .slice ad39 s38.length cp40]) 0 (.slice ad39 s38.length cp40) S (wN rfl) rfl rfl rfl rfl rfl rfl (lb rfl) fun a S => ?_
    exact leafL ⟨rfl, S⟩
  · refine fI 94 (iv s34) [(7, iv s34)] 4 [none] rfl rfl rfl rfl rfl rfl fun G a w S => ?_
    refine sMove (iv s34) S (wN rfl) (.inl rfl) rfl rfl (lb rfl) fun a S => ?_
    exact leafL ⟨rfl, S⟩
  · refine fI 95 q132 [(93, .slice ad39 s38.length cp40), (94, iv s34)] 5 [some 3, some 4] rfl rfl rfl rfl rfl rfl fun G a w S => ?_
    refine sIdxV (v := .slice ad39 s38.length cp40) (k := .i64) (j := s34) S (wN rfl) rfl rfl rfl hq133 rfl (lb rfl) fun a S => ?_
    exact leafL ⟨rfl, S⟩
  · refine fI 96 (iv x121) [(95, q132)] 6 [some 5] rfl rfl rfl rfl rfl rfl fun G a w S => ?_
    refine sLoadR (r := (rI .i64)) (T := 3) (xs := s38) (x := x121) (v := .slice ad39 s38.length cp40) (vq := q132) (j := s34) 5 (iv x121) S hp134 (wN rfl) rfl rfl rfl hx122 (fun _ _ _ h => h) (scal_I _) rfl rfl (lb rfl) fun a S => ?_
    exact leafL ⟨rfl, S⟩
  · refine fI 97 (iv o96) [(10, iv o96)] 7 [none] rfl rfl rfl rfl rfl rfl fun G a w S => ?_
    refine sMove (iv o96) S (wN rfl) (.inl rfl) rfl rfl (lb rfl) fun a S => ?_
    exact leafL ⟨rfl, S⟩
  · refine fI 98 (iv (w64 (x121 + o96))) [(96, iv x121), (97, iv o96)] 8 [some 6, some 7] rfl rfl rfl rfl rfl rfl fun G a w S => ?_
    refine sBin (iv (w64 (x121 + o96))) S (wN rfl) rfl rfl rfl (bAdd _ _ _ _ x121 o96) rfl (lb rfl) fun a S => ?_
    exact leafL ⟨rfl, S⟩
  refine ⟨_, [(98, iv (w64 (x121 + o96)))], rfl, (srcs_of [some 8] rfl rfl rfl), fun G a w S => ?_⟩
  refine sLit (r := (rI .i64)) (T := 3) (xs := ([w64 (x121 + o96)] : List Int)) [(0, iv (w64 (x121 + o96)))] 1 [iv (w64 (x121 + o96))] [iv (w64 (x121 + o96))] (iv 0) 8 S (wN rfl) rfl rfl Try.underlying34 rfl (by decide) (by decide) (by kernel_rfl) rfl (fun E1 w1 hE => All.cons rfl (All.nil _ _ _)) rfl rfl (lb rfl) fun a w ad135 cp136 S => ?_
  refine leafL ⟨rfl, _, _, .inl ⟨99, (.slice ad135 ([w64 (x121 + o96)] : List Int).length cp136), [], rfl, S, hz_of rfl, ?_⟩⟩
  refine node_by (A := anc_piece_Read_1) (nf := [9, 10, 12]) (Y := [9]) 13 (by kernel_rfl) (by kernel_rfl) (by kernel_rfl) (by kernel_rfl) (by kernel_rfl) [9, 0, 1, 2, 3, 4, 5, 6, 7, 8] (by kernel_rfl) (by decide) (by decide) (aF 0 12 (by decide) ?_ (aF 1 11 (by decide) ?_ (aD 2 10 9 (by decide) (aD 3 9 9 (by decide) (aD 4 8 9 (by decide) (aD 5 7 9 (by decide) (aD 6 6 9 (by decide) (aD 7 5 9 (by decide) (aD 8 4 9 (by decide) (aY 9 3 (by decide) (aN 10 2 (by decide) ?_ (aE 11 1 10 (by decide) (aB 12 0 10 (by decide) (trivial)))))))))))))) [] (fun q hq => by cases hq) (fun hY => absurd (hY 10 (by decide)) (by decide))
  · refine fI 90 (.pointer (some ⟨b24, 1, none⟩)) [(6, .pointer (some ⟨b24, 0, none⟩))] 1 [none] rfl rfl rfl rfl rfl rfl fun G a w S => ?_
    refine sField (b := b24) (off := 0) 1 1 S (wN rfl) rfl rfl rfl rfl rfl (lb rfl) fun a S => ?_
    exact leafL ⟨rfl, S⟩
  · refine fI 91 (.slice ad39 s38.length cp40) [(90, .pointer (some ⟨b24, 1, none⟩))] 2 [some 1] rfl rfl rfl rfl rfl rfl fun G a w S => ?_
    refine sLoad1 (p := b24) (off := 1) (T := 36) (vs := [.slice ad119 l110.length cp120, .slice ad39 s38.length cp40]) 1 (.slice ad39 s38.length cp40) S (wN rfl) rfl rfl rfl rfl rfl rfl (lb rfl) fun a S => ?_
    exact leafL ⟨rfl, S⟩
  refine ⟨_, [(91, .slice ad39 s38.length cp40), (99, .slice ad135 ([w64 (x121 + o96)] : List Int).length cp136)], rfl, (srcs_of [some 2, some 0] rfl rfl rfl), fun G a w S => ?_⟩
  refine sApp (r := (rI .i64)) (T := 3) (xs := s38) (ys := ([w64 (x121 + o96)] : List Int)) (v := .slice ad39 s38.length cp40) (u := .slice ad135 ([w64 (x121 + o96)] : List Int).length cp136) 6 (iv 0) 8 S (wN rfl) rfl Try.underlying34 rfl rfl (by decide) rfl rfl rfl (src_R (T := 3) 0 S.mem rfl) hx129 rfl (lb rfl) fun a w ad137 cp138 S => ?_
  refine leafL ⟨rfl, _, _, .inl ⟨100, (.slice ad137 l128.length cp138), [(11, 101, .pointer (some ⟨b24, 1, none⟩))], rfl, S, hz_of rfl, ?_⟩⟩
  refine node_by (A := anc_piece_Read_1) (nf := [9, 10, 12]) (Y := [10, 9]) 13 (by kernel_rfl) (by kernel_rfl) (by kernel_rfl) (by kernel_rfl) (by kernel_rfl) [11, 10, 9, 0, 1, 2, 3, 4, 5, 6, 7, 8] (by kernel_rfl) (by decide) (by decide) (aD 0 12 10 (by decide) (aD 1 11 10 (by decide) (aD 2 10 10 (by decide) (aD 3 9 10 (by decide) (aD 4 8 10 (by decide) (aD 5 7 10 (by decide) (aD 6 6 10 (by decide) (aD 7 5 10 (by decide) (aD 8 4 10 (by decide) (aY 9 3 (by decide) (aY 10 2 (by decide) (aF 11 1 (by decide) ?_ (aN 12 0 (by decide) ?_ (trivial)))))))))))))) [] (fun q hq => by cases hq) (fun hY => absurd (hY 12 (by decide)) (by decide))
  · refine fI 101 (.pointer (some ⟨b24, 1, none⟩)) [(6, .pointer (some ⟨b24, 0, none⟩))] 0 [none] rfl rfl rfl rfl rfl rfl fun G a w S => ?_
    refine sField (b := b24) (off := 0) 1 1 S (wN rfl) rfl rfl rfl rfl rfl (lb rfl) fun a S => ?_
    exact leafL ⟨rfl, S⟩
  refine ⟨_, [(100, .slice ad137 l128.length cp138), (101, .pointer (some ⟨b24, 1, none⟩))], rfl, (srcs_of [some 1, some 0] rfl rfl rfl), fun G a w S => ?_⟩
  refine sStore (p := b24) (off := 1) (T := 36) (vs := [.slice ad119 l110.length cp120, .slice ad39 s38.length cp40]) (v := .slice ad137 l128.length cp138) 2 [.slice ad137 l128.length cp138] S (wN rfl) rfl rfl rfl rfl rfl rfl rfl (by simp) rfl fun a w S => ?_
  refine leafL ⟨rfl, _, _, .inr ⟨[], rfl, S, hz_of rfl, ?_⟩⟩
  refine node_by (A := anc_piece_Read_1) (nf := [9, 10, 12]) (Y := [12, 10, 9]) 13 (by kernel_rfl) (by kernel_rfl) (by kernel_rfl) (by kernel_rfl) (by kernel_rfl) [11, 10, 9, 0, 1, 2, 3, 4, 5, 6, 7, 8] (by kernel_rfl) (by decide) (by decide) (aD 0 12 12 (by decide) (aD 1 11 12 (by decide) (aD 2 10 12 (by decide) (aD 3 9 12 (by decide) (aD 4 8 12 (by decide) (aD 5 7 12 (by decide) (aD 6 6 12 (by decide) (aD 7 5 12 (by decide) (aD 8 4 12 (by decide) (aY 9 3 (by decide) (aY 10 2 (by decide) (aD 11 1 12 (by decide) (aY 12 0 (by decide) (trivial)))))))))))))) [(2, .pointer (some ⟨b6, 0, none⟩)), (4, .pointer (some ⟨b7, 0, none⟩)), (6, .pointer (some ⟨b24, 0, none⟩)), (45, .slice ad3 p0.Rows.length cp4), (46, iv (p0.Rows.length : Int)), (47, iv s34)] (fin_of [none, none, none, none, none, none] rfl (by kernel_rfl) (by kernel_rfl)) (fun _ a w S => ?_)
  refine leafB (leafT (hK53 _ _ ?_))
  refine sRegion ?_
  refine sBin (iv (w64 (s34 + 1))) S (wN rfl) rfl rfl rfl (bAdd _ _ _ _ s34 1) rfl (lb rfl) fun a S => ?_
  refine sMove (iv (w64 (s34 + 1))) S (wN rfl) (.inl rfl) rfl rfl (lb rfl) fun a S => ?_
  exact leafL (leafT (⟨(w64 (s34 + 1), l110, l128), (Option.some.inj h).symm, ⟨ad119, cp120, ad137, cp138, S.fix [5, 6, 0, 3, 1] [0] (by decide) rfl rfl rfl⟩⟩))

end Go.Proofs.Ytmedbnjhgkcndaa
namespace Go.Proofs.Ytmedbnjhgkcndaa
open Go.RowKit
set_option linter.unusedVariables false

noncomputable def raddleref37_GreatChart_l1 (p0 : api_Chart) : Int → Option (Int ⊕ (Bool ⊕ Unit)) := fun s0 => match s0 with
  | s10 =>
    if decide (s10 < (p0.Rows.length : Int)) then
      Option.bind (idxO p0.Rows s10) fun x19 =>
      if decide (60 < (x19.Cells.length : Int)) then
        some (.inr (.inl true))
      else
        some (.inl (w64 (s10 + 1)))
    else
      some (.inr (.inr ()))
noncomputable def F_raddleref37_GreatChart (p0 : api_Chart) : Option Bool :=
  Option.bind (α := Unit ⊕ Bool) (
    Option.bind (whileO (raddleref37_GreatChart_l1 p0) 0) fun z0 => match z0 with
      | .inl z =>
        some (.inr z)
      | .inr _ =>
        some (.inl ())) fun z0 => match z0 with
    | .inl _ =>
      some (decide (20 < (p0.Rows.length : Int)))
    | .inr z =>
      some z
set_option maxHeartbeats 4000000 in
set_option maxRecDepth 100000 in
theorem c_raddleref37_GreatChart (E : Nat → Prop) (w0 : World) (p0 : api_Chart) (v0 : Value) (r : Bool) (h : F_raddleref37_GreatChart p0 = some r) (S : St0 E [] w0 w0 [] [fRep r_api_Chart (v0) p0]) :
    Calls Try.prog 21 #[v0] w0 (Ret (X := Unit) E [] w0 (fun _ => .bool r) (fun _ => []) (fun _ => [])) := by
  unfold F_raddleref37_GreatChart at h
  obtain ⟨u1, rfl, hu2⟩ := S.know (i := 0) (e := fRep r_api_Chart (v0) p0) rfl
  have S := S.learn (fRep (rL r_api_Row) u1 p0.Rows) hu2
  obtain ⟨ad3, cp4, _, rfl, _⟩ := hu2
  refine sEnter (args := [.agg #[iv p0.Start, .slice ad3 p0.Rows.length cp4]]) 23 Try.func21 rfl rfl (by simp) S (fun a S => ?_)
  refine sSeq (fun K5 hK5 => ?_)
  refine sRegion ?_
  refine sBox (v := .agg #[iv p0.Start, .slice ad3 p0.Rows.length cp4]) S (wN rfl) rfl rfl [iv p0.Start, .slice ad3 p0.Rows.length cp4] rfl rfl (lb rfl) fun a b6 w S => ?_
  refine sMove (.bool false) S (wN rfl) (.inr rfl) rfl rfl (lb rfl) fun a S => ?_
  refine leafL (leafT (hK5 _ _ ?_))
  obtain ⟨t7, h, g8⟩ := bindSome h
  refine sCut (fun a w => .inl () = t7 ∧ St [] E [] w0 23 a w [(1, .pointer (some ⟨b6, 0, none⟩))] [eBox b6 58 [iv p0.Start, .slice ad3 p0.Rows.length cp4]] [fRep (rL r_api_Row) (.slice ad3 p0.Rows.length cp4) p0.Rows]) ?_ (fun a w hI => ?_)
  rotate_left
  · obtain ⟨rfl, S⟩ := hI
    have h := g8
    clear g8
    try dsimp only at h
    refine sSeq (fun K30 hK30 => ?_)
    refine sRegion ?_
    refine sField (b := b6) (off := 0) 1 1 S (wN rfl) rfl rfl rfl rfl rfl (lb rfl) fun a S => ?_
    refine sLoad1 (p := b6) (off := 1) (T := 58) (vs := [iv p0.Start, .slice ad3 p0.Rows.length cp4]) 0 (.slice ad3 p0.Rows.length cp4) S (wN rfl) rfl rfl rfl rfl rfl rfl (lb rfl) fun a S => ?_
    refine sLen (ad := ad3) (m := p0.Rows.length) (c := cp4) S (wN rfl) rfl Try.underlying56 rfl rfl (lb rfl) fun a S => ?_
    refine sBin (.bool (decide (20 < (p0.Rows.length : Int)))) S (wN rfl) rfl rfl rfl (bGt _ _ _ _ .i64 (p0.Rows.length : Int) 20) rfl (lb rfl) fun a S => ?_
    refine sMove (.bool (decide (20 < (p0.Rows.length : Int)))) S (wN rfl) (.inr rfl) rfl rfl (lb rfl) fun a S => ?_
    refine leafL (leafT (hK30 _ _ ?_))
    obtain rfl := Option.some.inj h
    exact wp_ret (sRet (.bool (decide (20 < (p0.Rows.length : Int)))) S (rsl1 rfl (rvT (t := 2) (v := .bool (decide (20 < (p0.Rows.length : Int)))) S rfl)) ⟨(), rfl, S.mem.sel [] [] (by decide) rfl rfl⟩)
  refine sSeq (fun K9 hK9 => ?_)
  refine sRegion ?_
  refine sMove (iv 0) S (wN rfl) (.inr rfl) rfl rfl (lb rfl) fun a S => ?_
  refine leafL (leafT (hK9 _ _ ?_))
  refine wp_block ?_
  obtain ⟨t13, hl, g12⟩ := bindSome h
  refine sLoop hl (fun s0 a w => match s0 with | s10 => St [] E [] w0 23 a w [(1, .pointer (some ⟨b6, 0, none⟩)), (3, iv s10)] [eBox b6 58 [iv p0.Start, .slice ad3 p0.Rows.length cp4]] [fRep (rL r_api_Row) (.slice ad3 p0.Rows.length cp4) p0.Rows]) (S.fix [0] [0] (by decide) rfl rfl rfl) ?_
  clear hl h
  intro s10 a w c0 hI h hu11
  unfold raddleref37_GreatChart_l1 at h
  dsimp only at h hI
  have S := hI
  refine sSeq (fun K14 hK14 => ?_)
  refine sSeq (fun K15 hK15 => ?_)
  refine sRegion ?_
  refine sMove (iv s10) S (wN rfl) (.inl rfl) rfl rfl (lb rfl) fun a S => ?_
  refine sField (b := b6) (off := 0) 1 1 S (wN rfl) rfl rfl rfl rfl rfl (lb rfl) fun a S => ?_
  refine sLoad1 (p := b6) (off := 1) (T := 58) (vs := [iv p0.Start, .slice ad3 p0.Rows.length cp4]) 0 (.slice ad3 p0.Rows.length cp4) S (wN rfl) rfl rfl rfl rfl rfl rfl (lb rfl) fun a S => ?_
  refine sLen (ad := ad3) (m := p0.Rows.length) (c := cp4) S (wN rfl) rfl Try.underlying56 rfl rfl (lb rfl) fun a S => ?_
  refine sBin (.bool (decide (s10 < (p0.Rows.length : Int)))) S (wN rfl) rfl rfl rfl (bLt _ _ _ _ .i64 s10 (p0.Rows.length : Int)) rfl (lb rfl) fun a S => ?_
  refine leafL (leafT (hK15 _ _ ?_))
  rcases iteSome h with ⟨hc16, h⟩ | ⟨hc16, h⟩
  rotate_left
  · refine sCondF S rfl hc16 ?_
    obtain rfl := Option.some.inj h
    obtain rfl := hu11 _ rfl
    have h := g12
    clear g12
    try dsimp only at h
    exact wp_exit (xThen (xThen (xHit (leafT (⟨Option.some.inj h, S.fix [0] [0] (by decide) rfl rfl rfl⟩)))))
  refine sCondT S rfl hc16 ?_
  refine wp_skip (leafT (hK14 _ _ ?_))
  refine sSeq (fun K17 hK17 => ?_)
  refine wp_block ?_
  refine sSeq (fun K18 hK18 => ?_)
  refine sRegion ?_
  refine sField (b := b6) (off := 0) 1 1 S (wN rfl) rfl rfl rfl rfl rfl (lb rfl) fun a S => ?_
  refine sLoad1 (p := b6) (off := 1) (T := 58) (vs := [iv p0.Start, .slice ad3 p0.Rows.length cp4]) 0 (.slice ad3 p0.Rows.length cp4) S (wN rfl) rfl rfl rfl rfl rfl rfl (lb rfl) fun a S => ?_
  refine sMove (iv s10) S (wN rfl) (.inl rfl) rfl rfl (lb rfl) fun a S => ?_
  obtain ⟨x19, hx20, h⟩ := bindSome h
  obtain ⟨q21, hq22, S⟩ := pIdx (P := Try.prog) (r := r_api_Row) (v := .slice ad3 p0.Rows.length cp4) (xs := p0.Rows) (j := s10) 56 80 0 S Try.underlying56 rfl rfl hx20
  refine sIdxV (v := .slice ad3 p0.Rows.length cp4) (k := .i64) (j := s10) S (wN rfl) rfl rfl rfl hq22 rfl (lb rfl) fun a S => ?_
  obtain ⟨q23, hq24, S⟩ := pFld (P := Try.prog) (r := r_api_Row) (s2 := (rL r_api_Stitch)) (g := (·.Cells)) (q := q21) (z := x19) 80 1 0 1 S rfl rfl comp_api_Row_Cells
  refine sFldV (q := q21) S (wN rfl) rfl rfl hq24 rfl (lb rfl) fun a S => ?_
  obtain ⟨u25, S⟩ := pLoad (r := (rL r_api_Stitch)) (q := q23) (x := x19.Cells) 0 S rfl
  obtain ⟨ad26, cp27, _, rfl, _⟩ := S.mem.know (i := 1) (e := fRep (rL r_api_Stitch) (u25) x19.Cells) rfl
  refine sLoadV1 (vq := q23) 0 (.slice ad26 x19.Cells.length cp27) S (wN rfl) rfl rfl rfl rfl rfl (lb rfl) fun a S => ?_
  refine sLen (ad := ad26) (m := x19.Cells.length) (c := cp27) S (wN rfl) rfl Try.underlying78 rfl rfl (lb rfl) fun a S => ?_
  refine sBin (.bool (decide (60 < (x19.Cells.length : Int)))) S (wN rfl) rfl rfl rfl (bGt _ _ _ _ .i64 (x19.Cells.length : Int) 60) rfl (lb rfl) fun a S => ?_
  refine leafL (leafT (hK18 _ _ ?_))
  rcases iteSome h with ⟨hc28, h⟩ | ⟨hc28, h⟩
  rotate_left
  · refine sCondF S rfl hc28 ?_
    refine wp_skip (leafB (leafT (hK17 _ _ ?_)))
    refine sRegion ?_
    refine sMove (iv s10) S (wN rfl) (.inl rfl) rfl rfl (lb rfl) fun a S => ?_
    refine sBin (iv (w64 (s10 + 1))) S (wN rfl) rfl rfl rfl (bAdd _ _ _ _ s10 1) rfl (lb rfl) fun a S => ?_
    refine sMove (iv (w64 (s10 + 1))) S (wN rfl) (.inr rfl) rfl rfl (lb rfl) fun a S => ?_
    exact leafL (leafT (⟨w64 (s10 + 1), (Option.some.inj h).symm, (S.fix [0] [4] (by decide) rfl rfl rfl)⟩))
  refine sCondT S rfl hc28 ?_
  refine sSeq (fun K29 hK29 => ?_)
  refine sRegion ?_
  refine sMove (.bool true) S (wN rfl) (.inr rfl) rfl rfl (lb rfl) fun a S => ?_
  refine leafL (leafT (hK29 _ _ ?_))
  obtain rfl := Option.some.inj h
  obtain rfl := hu11 _ rfl
  have h := g12
  clear g12
  try dsimp only at h
  obtain rfl := Option.some.inj h
  have h := g8
  clear g8
  try dsimp only at h
  obtain rfl := Option.some.inj h
  exact wp_ret (rBlock (rThen (rThen (rBlock (rThen (sRet (.bool true) S (rsl1 rfl (rvT (t := 2) (v := .bool true) S rfl)) ⟨(), rfl, S.mem.sel [] [] (by decide) rfl rfl⟩))))))

end Go.Proofs.Ytmedbnjhgkcndaa
namespace Go.Proofs.Ytmedbnjhgkcndaa
open Go.RowKit
set_option linter.unusedVariables false

def grw (c : api_Stitch) : Int := if c.Kind = 5 then w64 (c.A - 1) else if c.Kind = 9 then c.A else if c.Kind = 3 ∨ c.Kind = 4 then w64 (1 - c.A) else if c.Kind = 10 then w64 (0 - c.A) else 0
theorem grows_eq (c : api_Stitch) : F_piece_grows c = some (grw c) := by
  unfold F_piece_grows grw
  by_cases h1 : c.Kind = 5
  · simp [h1]
  by_cases h2 : c.Kind = 9
  · simp [h2]
  by_cases h3 : c.Kind = 3
  · simp [h3]
  by_cases h4 : c.Kind = 4
  · simp [h4]
  by_cases h5 : c.Kind = 10
  · simp [h5]
  · simp [h1, h2, h3, h4, h5]
/-- the comparison of two charts' rows -/
theorem rows_loop (c d : api_Chart) (h : c.Rows.length = d.Rows.length) (hl : c.Rows.length ≤ 1000) (hc : ∀ r, r ∈ c.Rows → r.Cells.length ≤ 9223372036854775807) : ∃ t : Bool, (t = true ↔ c.Rows = d.Rows) ∧ whileO (piece_Read_l2 c (d, 0)) 0 = some (if t = true then .inr () else .inl (⟨[], []⟩, 8)) := by
  refine loop_eq c.Rows d.Rows h _ _ (fun k hk => ?_) ?_
  · obtain ⟨t, t1, t2⟩ := same_eq c.Rows[k].Cells (d.Rows[k]'(by omega)).Cells (hc _ (List.getElem_mem hk))
    by_cases hb : c.Rows[k].Back = (d.Rows[k]'(by omega)).Back
    · refine ⟨t, t1.trans ⟨fun e => row_ext.2 ⟨hb, e⟩, fun e => (row_ext.1 e).2⟩, ?_⟩
      unfold piece_Read_l2
      simp only [dT (show (k : Int) < (c.Rows.length : Int) by omega), if_true, idxO_nat hk, idxO_nat (show k < d.Rows.length by omega), Option.bind_some, w64_succ (show k < 9223372036854775807 by omega), hb, bne_self_eq_false, Bool.false_eq_true, if_false, t2]
      cases t <;> rfl
    · refine ⟨false, ⟨fun h => (by cases h), fun e => absurd (row_ext.1 e).1 hb⟩, ?_⟩
      unfold piece_Read_l2
      simp only [dT (show (k : Int) < (c.Rows.length : Int) by omega), if_true, idxO_nat hk, idxO_nat (show k < d.Rows.length by omega), Option.bind_some, bne_iff_ne.2 hb, Bool.false_eq_true, if_false]
  · unfold piece_Read_l2
    simp only [dF (show ¬ (c.Rows.length : Int) < (c.Rows.length : Int) by omega), Bool.false_eq_true, if_false]
theorem great37 (c : api_Chart) (hl : c.Rows.length ≤ 9223372036854775807) : ∃ b, F_raddleref37_GreatChart c = some b := by
  have hloop : ∃ t, whileO (raddleref37_GreatChart_l1 c) 0 = some t ∧ True := by
    refine loop_ix c.Rows.length (fun _ => True) _ trivial ?_ ?_
    · intro k hk _
      unfold raddleref37_GreatChart_l1
      simp only [dT (show (k : Int) < (c.Rows.length : Int) by omega), if_true, idxO_nat hk, Option.bind_some, w64_succ (show k < 9223372036854775807 by omega)]
      by_cases hc : 60 < c.Rows[k].Cells.length
      · rw [dT (show (60 : Int) < (c.Rows[k].Cells.length : Int) by omega)]; exact .inr ⟨_, rfl, trivial⟩
      · rw [dF (show ¬ (60 : Int) < (c.Rows[k].Cells.length : Int) by omega)]; exact .inl ⟨rfl, trivial⟩
    · intro _
      unfold raddleref37_GreatChart_l1
      simp only [dF (show ¬ (c.Rows.length : Int) < (c.Rows.length : Int) by omega), Bool.false_eq_true, if_false]
      exact ⟨_, rfl, trivial⟩
  obtain ⟨t, t1, -⟩ := hloop
  unfold F_raddleref37_GreatChart
  rw [t1]
  cases t <;> exact ⟨_, rfl⟩

end Go.Proofs.Ytmedbnjhgkcndaa
namespace Go.Proofs.Ytmedbnjhgkcndaa
open Go.RowKit
set_option linter.unusedVariables false

noncomputable def F_raddleref37_edge (p0 : Int) (p1 : Int) : Option ((List api_Stitch) × Int) :=
  if p0 == 0 then
    some (([] : (List api_Stitch)), 0)
  else
    if decide (3 < p0) then
      some ([(api_Stitch.mk 9 false p0 0)], 0)
    else
      if decide (0 < p0) then
        some ([(api_Stitch.mk 5 false (w64 (p0 + 1)) 0)], 1)
      else
        if decide ((-3) ≤ p0) then
          some ([(api_Stitch.mk p1 false (w64 (1 - p0)) 0)], w64 (1 - p0))
        else
          some ([(api_Stitch.mk 10 false (w64 (0 - p0)) 0)], w64 (0 - p0))
def c_raddleref37_edge_val (r : ((List api_Stitch) × Int)) (x : Value) : Value := .tuple #[x, .int .i64 r.2]
def c_raddleref37_edge_D (r : ((List api_Stitch) × Int)) (x : Value) : List Fact := [fRep (rL r_api_Stitch) x r.1]
set_option maxHeartbeats 4000000 in
set_option maxRecDepth 100000 in
theorem c_raddleref37_edge (E : Nat → Prop) (w0 : World) (p0 : Int) (p1 : Int) (r : ((List api_Stitch) × Int)) (h : F_raddleref37_edge p0 p1 = some r) (S : St0 E [] w0 w0 [] []) :
    Calls Try.prog 54 #[iv p0, .int .u8 p1] w0 (Ret (X := Value) E [] w0 (c_raddleref37_edge_val r) (fun _ => []) (c_raddleref37_edge_D r)) := by
  unfold F_raddleref37_edge at h
  refine sEnter (args := [iv p0, .int .u8 p1]) 38 Try.func54 rfl rfl (by simp) S (fun a S => ?_)
  refine sSeq (fun K1 hK1 => ?_)
  refine sRegion ?_
  refine sMove (.slice none 0 0) S (wN rfl) (.inr rfl) rfl rfl (lb rfl) fun a S => ?_
  refine sMove (iv 0) S (wN rfl) (.inr rfl) rfl rfl (lb rfl) fun a S => ?_
  refine leafL (leafT (hK1 _ _ ?_))
  refine sSeq (fun K2 hK2 => ?_)
  refine wp_block ?_
  refine sSeq (fun K3 hK3 => ?_)
  refine sRegion ?_
  refine sMove (iv p0) S (wN rfl) (.inl rfl) rfl rfl (lb rfl) fun a S => ?_
  refine sBin (.bool (p0 == 0)) S (wN rfl) rfl rfl rfl (bEq _ _ _ _ .i64 p0 0) rfl (lb rfl) fun a S => ?_
  refine sMove (.bool (p0 == 0)) S (wN rfl) (.inr rfl) rfl rfl (lb rfl) fun a S => ?_
  refine leafL (leafT (hK3 _ _ ?_))
  rcases iteSome h with ⟨hc4, h⟩ | ⟨hc4, h⟩
  · refine sCondT S rfl hc4 ?_
    refine sSeq (fun K5 hK5 => ?_)
    refine sRegion ?_
    refine sMove (.slice none 0 0) S (wN rfl) (.inr rfl) rfl rfl (lb rfl) fun a S => ?_
    refine sMove (iv 0) S (wN rfl) (.inr rfl) rfl rfl (lb rfl) fun a S => ?_
    refine leafL (leafT (hK5 _ _ ?_))
    obtain rfl := Option.some.inj h
    have S := S.learn (fRep (rL r_api_Stitch) (.slice none 0 0) ([] : (List api_Stitch))) (rL_nil _ _ _)
    exact wp_ret (rBlock (rThen (sRet (.tuple #[.slice none 0 0, iv 0]) S (rsl2 rfl (rvT (t := 4) (v := .slice none 0 0) S rfl) (rvT (t := 5) (v := iv 0) S rfl)) ⟨(.slice none 0 0), rfl, S.mem.sel [] [0] (by decide) rfl rfl⟩)))
  refine sCondF S rfl hc4 ?_
  refine sSeq (fun K6 hK6 => ?_)
  refine sRegion ?_
  refine sMove (iv p0) S (wN rfl) (.inl rfl) rfl rfl (lb rfl) fun a S => ?_
  refine sBin (.bool (decide (3 < p0))) S (wN rfl) rfl rfl rfl (bGt _ _ _ _ .i64 p0 3) rfl (lb rfl) fun a S => ?_
  refine sMove (.bool (decide (3 < p0))) S (wN rfl) (.inr rfl) rfl rfl (lb rfl) fun a S => ?_
  refine leafL (leafT (hK6 _ _ ?_))
  rcases iteSome h with ⟨hc7, h⟩ | ⟨hc7, h⟩
  · refine sCondT S rfl hc7 ?_
    refine sSeq (fun K8 hK8 => ?_)
    refine sRegion ?_
    refine sMove (iv p0) S (wN rfl) (.inl rfl) rfl rfl (lb rfl) fun a S => ?_
    refine sBuild [(0, .int .u8 9), (2, iv p0)] [.int .u8 9, .bool false, iv p0, iv 0] S (wN rfl) rfl rfl rfl rfl (lb rfl) fun a S => ?_
    have S := S.learn (fRep r_api_Stitch (.agg #[.int .u8 9, .bool false, iv p0, iv 0]) (api_Stitch.mk 9 false p0 0)) rfl
    refine sLit (r := r_api_Stitch) (T := 82) (xs := [(api_Stitch.mk 9 false p0 0)]) [(0, .agg #[.int .u8 9, .bool false, iv p0, iv 0])] 1 [.agg #[.int .u8 9, .bool false, iv p0, iv 0]] [.int .u8 9, .bool false, iv p0, iv 0] (.agg #[.int .u8 0, .bool false, iv 0, iv 0]) 24 S (wN rfl) rfl rfl Try.underlying78 rfl (by decide) (by decide) (by kernel_rfl) rfl (fun E1 w1 hE => All.cons (r_api_Stitch.mono hE (S.mem.know (i := 0) (e := fRep r_api_Stitch (.agg #[.int .u8 9, .bool false, iv p0, iv 0]) (api_Stitch.mk 9 false p0 0)) rfl)) (All.nil _ _ _)) rfl rfl (lb rfl) fun a w ad9 cp10 S => ?_
    refine sMove (.slice ad9 [(api_Stitch.mk 9 false p0 0)].length cp10) S (wN rfl) (.inr rfl) rfl rfl (lb rfl) fun a S => ?_
    refine sMove (iv 0) S (wN rfl) (.inr rfl) rfl rfl (lb rfl) fun a S => ?_
    refine leafL (leafT (hK8 _ _ ?_))
    obtain rfl := Option.some.inj h
    have S := S.shutR (r := r_api_Stitch) (T := 82) (v := .slice ad9 [(api_Stitch.mk 9 false p0 0)].length cp10) (xs := [(api_Stitch.mk 9 false p0 0)]) 0 rfl
    exact wp_ret (rBlock (rThen (sRet (.tuple #[.slice ad9 [(api_Stitch.mk 9 false p0 0)].length cp10, iv 0]) S (rsl2 rfl (rvT (t := 4) (v := .slice ad9 [(api_Stitch.mk 9 false p0 0)].length cp10) S rfl) (rvT (t := 5) (v := iv 0) S rfl)) ⟨(.slice ad9 [(api_Stitch.mk 9 false p0 0)].length cp10), rfl, S.mem.sel [] [0] (by decide) rfl rfl⟩)))
  refine sCondF S rfl hc7 ?_
  refine sSeq (fun K11 hK11 => ?_)
  refine sRegion ?_
  refine sMove (iv p0) S (wN rfl) (.inl rfl) rfl rfl (lb rfl) fun a S => ?_
  refine sBin (.bool (decide (0 < p0))) S (wN rfl) rfl rfl rfl (bGt _ _ _ _ .i64 p0 0) rfl (lb rfl) fun a S => ?_
  refine sMove (.bool (decide (0 < p0))) S (wN rfl) (.inr rfl) rfl rfl (lb rfl) fun a S => ?_
  refine leafL (leafT (hK11 _ _ ?_))
  rcases iteSome h with ⟨hc12, h⟩ | ⟨hc12, h⟩
  · refine sCondT S rfl hc12 ?_
    refine sSeq (fun K13 hK13 => ?_)
    refine sRegion ?_
    refine sMove (iv p0) S (wN rfl) (.inl rfl) rfl rfl (lb rfl) fun a S => ?_
    refine sBin (iv (w64 (p0 + 1))) S (wN rfl) rfl rfl rfl (bAdd _ _ _ _ p0 1) rfl (lb rfl) fun a S => ?_
    refine sBuild [(0, .int .u8 5), (2, iv (w64 (p0 + 1)))] [.int .u8 5, .bool false, iv (w64 (p0 + 1)), iv 0] S (wN rfl) rfl rfl rfl rfl (lb rfl) fun a S => ?_
    have S := S.learn (fRep r_api_Stitch (.agg #[.int .u8 5, .bool false, iv (w64 (p0 + 1)), iv 0]) (api_Stitch.mk 5 false (w64 (p0 + 1)) 0)) rfl
    refine sLit (r := r_api_Stitch) (T := 82) (xs := [(api_Stitch.mk 5 false (w64 (p0 + 1)) 0)]) [(0, .agg #[.int .u8 5, .bool false, iv (w64 (p0 + 1)), iv 0])] 1 [.agg #[.int .u8 5, .bool false, iv (w64 (p0 + 1)), iv 0]] [.int .u8 5, .bool false, iv (w64 (p0 + 1)), iv 0] (.agg #[.int .u8 0, .bool false, iv 0, iv 0]) 24 S (wN rfl) rfl rfl Try.underlying78 rfl (by decide) (by decide) (by kernel_rfl) rfl (fun E1 w1 hE => All.cons (r_api_Stitch.mono hE (S.mem.know (i := 0) (e := fRep r_api_Stitch (.agg #[.int .u8 5, .bool false, iv (w64 (p0 + 1)), iv 0]) (api_Stitch.mk 5 false (w64 (p0 + 1)) 0)) rfl)) (All.nil _ _ _)) rfl rfl (lb rfl) fun a w ad14 cp15 S => ?_
    refine sMove (.slice ad14 [(api_Stitch.mk 5 false (w64 (p0 + 1)) 0)].length cp15) S (wN rfl) (.inr rfl) rfl rfl (lb rfl) fun a S => ?_
    refine sMove (iv 1) S (wN rfl) (.inr rfl) rfl rfl (lb rfl) fun a S => ?_
    refine leafL (leafT (hK13 _ _ ?_))
    obtain rfl := Option.some.inj h
    have S := S.shutR (r := r_api_Stitch) (T := 82) (v := .slice ad14 [(api_Stitch.mk 5 false (w64 (p0 + 1)) 0)].length cp15) (xs := [(api_Stitch.mk 5 false (w64 (p0 + 1)) 0)]) 0 rfl
    exact wp_ret (rBlock (rThen (sRet (.tuple #[.slice ad14 [(api_Stitch.mk 5 false (w64 (p0 + 1)) 0)].length cp15, iv 1]) S (rsl2 rfl (rvT (t := 4) (v := .slice ad14 [(api_Stitch.mk 5 false (w64 (p0 + 1)) 0)].length cp15) S rfl) (rvT (t := 5) (v := iv 1) S rfl)) ⟨(.slice ad14 [(api_Stitch.mk 5 false (w64 (p0 + 1)) 0)].length cp15), rfl, S.mem.sel [] [0] (by decide) rfl rfl⟩)))
  refine sCondF S rfl hc12 ?_
  refine sSeq (fun K16 hK16 => ?_)
  refine sRegion ?_
  refine sMove (iv p0) S (wN rfl) (.inl rfl) rfl rfl (lb rfl) fun a S => ?_
  refine sBin (.bool (decide ((-3) ≤ p0))) S (wN rfl) rfl rfl rfl (bGe _ _ _ _ .i64 p0 (-3)) rfl (lb rfl) fun a S => ?_
  refine sMove (.bool (decide ((-3) ≤ p0))) S (wN rfl) (.inr rfl) rfl rfl (lb rfl) fun a S => ?_
  refine leafL (leafT (hK16 _ _ ?_))
  rcases iteSome h with ⟨hc17, h⟩ | ⟨hc17, h⟩
  rotate_left
  · refine sCondF S rfl hc17 ?_
    refine wp_skip (leafB (leafT (hK2 _ _ ?_)))
    refine sSeq (fun K21 hK21 => ?_)
    refine sRegion ?_
    refine sMove (iv p0) S (wN rfl) (.inl rfl) rfl rfl (lb rfl) fun a S => ?_
    refine sNeg (b := p0) S (wN rfl) rfl rfl rfl (lb rfl) fun a S => ?_
    refine sBuild [(0, .int .u8 10), (2, iv (w64 (0 - p0)))] [.int .u8 10, .bool false, iv (w64 (0 - p0)), iv 0] S (wN rfl) rfl rfl rfl rfl (lb rfl) fun a S => ?_
    have S := S.learn (fRep r_api_Stitch (.agg #[.int .u8 10, .bool false, iv (w64 (0 - p0)), iv 0]) (api_Stitch.mk 10 false (w64 (0 - p0)) 0)) rfl
    refine sLit (r := r_api_Stitch) (T := 82) (xs := [(api_Stitch.mk 10 false (w64 (0 - p0)) 0)]) [(0, .agg #[.int .u8 10, .bool false, iv (w64 (0 - p0)), iv 0])] 1 [.agg #[.int .u8 10, .bool false, iv (w64 (0 - p0)), iv 0]] [.int .u8 10, .bool false, iv (w64 (0 - p0)), iv 0] (.agg #[.int .u8 0, .bool false, iv 0, iv 0]) 24 S (wN rfl) rfl rfl Try.underlying78 rfl (by decide) (by decide) (by kernel_rfl) rfl (fun E1 w1 hE => All.cons (r_api_Stitch.mono hE (S.mem.know (i := 0) (e := fRep r_api_Stitch (.agg #[.int .u8 10, .bool false, iv (w64 (0 - p0)), iv 0]) (api_Stitch.mk 10 false (w64 (0 - p0)) 0)) rfl)) (All.nil _ _ _)) rfl rfl (lb rfl) fun a w ad22 cp23 S => ?_
    refine sMove (iv p0) S (wN rfl) (.inl rfl) rfl rfl (lb rfl) fun a S => ?_
    refine sNeg (b := p0) S (wN rfl) rfl rfl rfl (lb rfl) fun a S => ?_
    refine sMove (.slice ad22 [(api_Stitch.mk 10 false (w64 (0 - p0)) 0)].length cp23) S (wN rfl) (.inr rfl) rfl rfl (lb rfl) fun a S => ?_
    refine sMove (iv (w64 (0 - p0))) S (wN rfl) (.inr rfl) rfl rfl (lb rfl) fun a S => ?_
    refine leafL (leafT (hK21 _ _ ?_))
    obtain rfl := Option.some.inj h
    have S := S.shutR (r := r_api_Stitch) (T := 82) (v := .slice ad22 [(api_Stitch.mk 10 false (w64 (0 - p0)) 0)].length cp23) (xs := [(api_Stitch.mk 10 false (w64 (0 - p0)) 0)]) 0 rfl
    exact wp_ret (sRet (.tuple #[.slice ad22 [(api_Stitch.mk 10 false (w64 (0 - p0)) 0)].length cp23, iv (w64 (0 - p0))]) S (rsl2 rfl (rvT (t := 4) (v := .slice ad22 [(api_Stitch.mk 10 false (w64 (0 - p0)) 0)].length cp23) S rfl) (rvT (t := 5) (v := iv (w64 (0 - p0))) S rfl)) ⟨(.slice ad22 [(api_Stitch.mk 10 false (w64 (0 - p0)) 0)].length cp23), rfl, S.mem.sel [] [0] (by decide) rfl rfl⟩)
  refine sCondT S rfl hc17 ?_
  refine sSeq (fun K18 hK18 => ?_)
  refine sRegion ?_
  refine sMove (.int .u8 p1) S (wN rfl) (.inl rfl) rfl rfl (lb rfl) fun a S => ?_
  refine sMove (iv p0) S (wN rfl) (.inl rfl) rfl rfl (lb rfl) fun a S => ?_
  refine sBin (iv (w64 (1 - p0))) S (wN rfl) rfl rfl rfl (bSub _ _ _ _ 1 p0) rfl (lb rfl) fun a S => ?_
  refine sBuild [(0, .int .u8 p1), (2, iv (w64 (1 - p0)))] [.int .u8 p1, .bool false, iv (w64 (1 - p0)), iv 0] S (wN rfl) rfl rfl rfl rfl (lb rfl) fun a S => ?_
  have S := S.learn (fRep r_api_Stitch (.agg #[.int .u8 p1, .bool false, iv (w64 (1 - p0)), iv 0]) (api_Stitch.mk p1 false (w64 (1 - p0)) 0)) rfl
  refine sLit (r := r_api_Stitch) (T := 82) (xs := [(api_Stitch.mk p1 false (w64 (1 - p0)) 0)]) [(0, .agg #[.int .u8 p1, .bool false, iv (w64 (1 - p0)), iv 0])] 1 [.agg #[.int .u8 p1, .bool false, iv (w64 (1 - p0)), iv 0]] [.int .u8 p1, .bool false, iv (w64 (1 - p0)), iv 0] (.agg #[.int .u8 0, .bool false, iv 0, iv 0]) 24 S (wN rfl) rfl rfl Try.underlying78 rfl (by decide) (by decide) (by kernel_rfl) rfl (fun E1 w1 hE => All.cons (r_api_Stitch.mono hE (S.mem.know (i := 0) (e := fRep r_api_Stitch (.agg #[.int .u8 p1, .bool false, iv (w64 (1 - p0)), iv 0]) (api_Stitch.mk p1 false (w64 (1 - p0)) 0)) rfl)) (All.nil _ _ _)) rfl rfl (lb rfl) fun a w ad19 cp20 S => ?_
  refine sMove (iv p0) S (wN rfl) (.inl rfl) rfl rfl (lb rfl) fun a S => ?_
  refine sBin (iv (w64 (1 - p0))) S (wN rfl) rfl rfl rfl (bSub _ _ _ _ 1 p0) rfl (lb rfl) fun a S => ?_
  refine sMove (.slice ad19 [(api_Stitch.mk p1 false (w64 (1 - p0)) 0)].length cp20) S (wN rfl) (.inr rfl) rfl rfl (lb rfl) fun a S => ?_
  refine sMove (iv (w64 (1 - p0))) S (wN rfl) (.inr rfl) rfl rfl (lb rfl) fun a S => ?_
  refine leafL (leafT (hK18 _ _ ?_))
  obtain rfl := Option.some.inj h
  have S := S.shutR (r := r_api_Stitch) (T := 82) (v := .slice ad19 [(api_Stitch.mk p1 false (w64 (1 - p0)) 0)].length cp20) (xs := [(api_Stitch.mk p1 false (w64 (1 - p0)) 0)]) 0 rfl
  exact wp_ret (rBlock (rThen (sRet (.tuple #[.slice ad19 [(api_Stitch.mk p1 false (w64 (1 - p0)) 0)].length cp20, iv (w64 (1 - p0))]) S (rsl2 rfl (rvT (t := 4) (v := .slice ad19 [(api_Stitch.mk p1 false (w64 (1 - p0)) 0)].length cp20) S rfl) (rvT (t := 5) (v := iv (w64 (1 - p0))) S rfl)) ⟨(.slice ad19 [(api_Stitch.mk p1 false (w64 (1 - p0)) 0)].length cp20), rfl, S.mem.sel [] [0] (by decide) rfl rfl⟩)))

end Go.Proofs.Ytmedbnjhgkcndaa
namespace Go.Proofs.Ytmedbnjhgkcndaa
open Go.RowKit
set_option linter.unusedVariables false

def anc_raddleref37_front_0 : List (List Nat) := [[], [0], [], [0, 1, 2], [0, 1, 2, 3], [], [5], [], [7], [5, 6, 7, 8], [5, 6, 7, 8, 9], [0, 1, 2, 3, 4, 5, 6, 7, 8, 9, 10], [0, 1, 2, 3, 4, 5, 6, 7, 8, 9, 10, 11], [0, 1, 2, 3, 4, 5, 6, 7, 8, 9, 10, 11, 12], [0, 1, 2, 3, 4, 5, 6, 7, 8, 9, 10, 11, 12, 13], [0, 1, 2, 3, 4, 5, 6, 7, 8, 9, 10, 11, 12, 13], [0, 1, 2, 3, 4, 5, 6, 7, 8, 9, 10, 11, 12, 13, 14], [0, 1, 2, 3, 4, 5, 6, 7, 8, 9, 10, 11, 12, 13, 14, 15, 16]]
def anc_raddleref37_front_1 : List (List Nat) := [[], [0], [], [2], [0, 1, 2, 3], [0, 1, 2, 3, 4], [], [6], [], [6, 7, 8], [6, 7, 8, 9], [0, 1, 2, 3, 4, 5, 6, 7, 8, 9, 10], [0, 1, 2, 3, 4, 5, 6, 7, 8, 9, 10, 11], [0, 1, 2, 3, 4, 5, 6, 7, 8, 9, 10, 11, 12], [0, 1, 2, 3, 4, 5, 6, 7, 8, 9, 10, 11, 12, 13], [0, 1, 2, 3, 4, 5, 6, 7, 8, 9, 10, 11, 12, 13], [0, 1, 2, 3, 4, 5, 6, 7, 8, 9, 10, 11, 12, 13, 14], [0, 1, 2, 3, 4, 5, 6, 7, 8, 9, 10, 11, 12, 13, 14, 15, 16]]
def anc_raddleref37_front_2 : List (List Nat) := [[], [0], [], [2], [0, 1, 2, 3], [0, 1, 2, 3, 4], [], [6], [], [8], [6, 7, 8, 9], [6, 7, 8, 9, 10], [0, 1, 2, 3, 4, 5, 6, 7, 8, 9, 10, 11], [], [0, 1, 2, 3, 4, 5, 6, 7, 8, 9, 10, 11, 12, 13], [], [0, 1, 2, 3, 4, 5, 6, 7, 8, 9, 10, 11, 12, 13, 14, 15], [0, 1, 2, 3, 4, 5, 6, 7, 8, 9, 10, 11, 12, 13, 14, 15, 16]]
noncomputable def raddleref37_front_l1 (x17 : Int) (x37 : Int) (r22 : ((List api_Stitch) × Int)) (r47 : ((List api_Stitch) × Int)) : (List api_Stitch × Int) → Option ((List api_Stitch × Int) ⊕ List api_Stitch) := fun s0 => match s0 with
  | (s87, s90) =>
    if decide (s90 < (w64 ((w64 ((w64 (x17 - x37)) - r22.2)) - r47.2))) then
      Option.bind (appO s87 [(api_Stitch.mk 1 false 0 0)]) fun l103 =>
      some (.inl (l103, w64 (s90 + 1)))
    else
      some (.inr s87)
noncomputable def F_raddleref37_front (p0 : api_Piece) (p1 : Int) : Option ((List api_Stitch) × Bool) :=
  Option.bind (idxO p0.Right p1) fun x12 =>
  Option.bind (idxO p0.Right (w64 (p1 - 1))) fun x17 =>
  Option.bind (F_raddleref37_edge (w64 (x12 - x17)) 3) fun r22 =>
  Option.bind (idxO p0.Left (w64 (p1 - 1))) fun x37 =>
  Option.bind (idxO p0.Left p1) fun x42 =>
  Option.bind (F_raddleref37_edge (w64 (x37 - x42)) 4) fun r47 =>
  Option.bind (appO ([] : List api_Stitch) r22.1) fun l64 =>
  Option.bind (α := List api_Stitch) (
    Option.bind (whileO (raddleref37_front_l1 x17 x37 r22 r47) (l64, 0)) fun e94 =>
      some e94) fun o81 =>
  Option.bind (appO o81 r47.1) fun l108 =>
  some (l108, decide (0 < (w64 ((w64 ((w64 (x17 - x37)) - r22.2)) - r47.2))))
def c_raddleref37_front_val (r : ((List api_Stitch) × Bool)) (x : Value) : Value := .tuple #[x, .bool r.2]
def c_raddleref37_front_D (r : ((List api_Stitch) × Bool)) (x : Value) : List Fact := [fRep (rL r_api_Stitch) x r.1]
set_option maxHeartbeats 4000000 in
set_option maxRecDepth 100000 in
theorem c_raddleref37_front (E : Nat → Prop) (w0 : World) (p0 : api_Piece) (v0 : Value) (p1 : Int) (r : ((List api_Stitch) × Bool)) (h : F_raddleref37_front p0 p1 = some r) (S : St0 E [] w0 w0 [] [fRep r_api_Piece (v0) p0]) :
    Calls Try.prog 37 #[v0, iv p1] w0 (Ret (X := Value) E [] w0 (c_raddleref37_front_val r) (fun _ => []) (c_raddleref37_front_D r)) := by
  unfold F_raddleref37_front at h
  obtain ⟨u1, u2, rfl, hu3, hu4⟩ := S.know (i := 0) (e := fRep r_api_Piece (v0) p0) rfl
  have S := S.learn (fRep (rL (rI .i64)) u1 p0.Left) hu3
  obtain ⟨ad5, cp6, _, rfl, _⟩ := hu3
  have S := S.learn (fRep (rL (rI .i64)) u2 p0.Right) hu4
  obtain ⟨ad7, cp8, _, rfl, _⟩ := hu4
  refine sEnter (args := [.agg #[.slice ad5 p0.Left.length cp6, .slice ad7 p0.Right.length cp8], iv p1]) 79 Try.func37 rfl rfl (by simp) S (fun a S => ?_)
  refine sSeq (fun K9 hK9 => ?_)
  refine sRegion ?_
  refine sBox (v := .agg #[.slice ad5 p0.Left.length cp6, .slice ad7 p0.Right.length cp8]) S (wN rfl) rfl rfl [.slice ad5 p0.Left.length cp6, .slice ad7 p0.Right.length cp8] rfl rfl (lb rfl) fun a b10 w S => ?_
  refine sMove (.slice none 0 0) S (wN rfl) (.inr rfl) rfl rfl (lb rfl) fun a S => ?_
  refine sMove (.bool false) S (wN rfl) (.inr rfl) rfl rfl (lb rfl) fun a S => ?_
  refine leafL (leafT (hK9 _ _ ?_))
  refine sSeq (fun K11 hK11 => ?_)
  obtain ⟨x12, hx13, h⟩ := bindSome h
  obtain ⟨x17, hx18, h⟩ := bindSome h
  obtain ⟨r22, hx23, h⟩ := bindSome h
  obtain ⟨q27, hq28, S⟩ := pIdx (P := Try.prog) (r := (rI .i64)) (v := .slice ad7 p0.Right.length cp8) (xs := p0.Right) (j := p1) 34 3 0 S Try.underlying34 rfl rfl hx13
  obtain ⟨u29, S⟩ := pLoad (r := (rI .i64)) (q := q27) (x := x12) 0 S rfl
  obtain rfl : u29 = iv x12 := S.mem.know (i := 1) (e := fRep (rI .i64) (u29) x12) rfl
  obtain ⟨q30, hq31, S⟩ := pIdx (P := Try.prog) (r := (rI .i64)) (v := .slice ad7 p0.Right.length cp8) (xs := p0.Right) (j := w64 (p1 - 1)) 34 3 3 S Try.underlying34 rfl rfl hx18
  obtain ⟨u32, S⟩ := pLoad (r := (rI .i64)) (q := q30) (x := x17) 0 S rfl
  obtain rfl : u32 = iv x17 := S.mem.know (i := 1) (e := fRep (rI .i64) (u32) x17) rfl
  refine sDraw (nf := [12]) (W := [(0, 14, .pointer (some ⟨b10, 1, none⟩)), (1, 15, .slice ad7 p0.Right.length cp8), (2, 16, iv p1), (3, 17, q27), (4, 18, iv x12), (5, 19, .pointer (some ⟨b10, 1, none⟩)), (6, 20, .slice ad7 p0.Right.length cp8), (7, 21, iv p1), (8, 22, iv (w64 (p1 - 1))), (9, 23, q30), (10, 24, iv x17), (11, 25, iv (w64 (x12 - x17)))]) rfl S ?_
  refine node_by (A := anc_raddleref37_front_0) (nf := [12]) (Y := []) (W := [(0, 14, .pointer (some ⟨b10, 1, none⟩)), (1, 15, .slice ad7 p0.Right.length cp8), (2, 16, iv p1), (3, 17, q27), (4, 18, iv x12), (5, 19, .pointer (some ⟨b10, 1, none⟩)), (6, 20, .slice ad7 p0.Right.length cp8), (7, 21, iv p1), (8, 22, iv (w64 (p1 - 1))), (9, 23, q30), (10, 24, iv x17), (11, 25, iv (w64 (x12 - x17)))]) 18 (by kernel_rfl) (by kernel_rfl) (by kernel_rfl) (by kernel_rfl) (by kernel_rfl) [0, 1, 2, 3, 4, 5, 6, 7, 8, 9, 10, 11] (by kernel_rfl) (by decide) (by decide) (aF 0 17 (by decide) ?_ (aF 1 16 (by decide) ?_ (aF 2 15 (by decide) ?_ (aF 3 14 (by decide) ?_ (aF 4 13 (by decide) ?_ (aF 5 12 (by decide) ?_ (aF 6 11 (by decide) ?_ (aF 7 10 (by decide) ?_ (aF 8 9 (by decide) ?_ (aF 9 8 (by decide) ?_ (aF 10 7 (by decide) ?_ (aF 11 6 (by decide) ?_ (aN 12 5 (by decide) ?_ (aE 13 4 12 (by decide) (aE 14 3 12 (by decide) (aE 15 2 12 (by decide) (aE 16 1 12 (by decide) (aE 17 0 12 (by decide) (trivial))))))))))))))))))) [] (fun q hq => by cases hq) (fun hY => absurd (hY 12 (by decide)) (by decide))
  · refine fI 14 (.pointer (some ⟨b10, 1, none⟩)) [(2, .pointer (some ⟨b10, 0, none⟩))] 0 [none] rfl rfl rfl rfl rfl rfl fun G a w S => ?_
    refine sField (b := b10) (off := 0) 1 1 S (wN rfl) rfl rfl rfl rfl rfl (lb rfl) fun a S => ?_
    exact leafL ⟨rfl, S⟩
  · refine fI 15 (.slice ad7 p0.Right.length cp8) [(14, .pointer (some ⟨b10, 1, none⟩))] 1 [some 0] rfl rfl rfl rfl rfl rfl fun G a w S => ?_
    refine sLoad1 (p := b10) (off := 1) (T := 36) (vs := [.slice ad5 p0.Left.length cp6, .slice ad7 p0.Right.length cp8]) 0 (.slice ad7 p0.Right.length cp8) S (wN rfl) rfl rfl rfl rfl rfl rfl (lb rfl) fun a S => ?_
    exact leafL ⟨rfl, S⟩
  · refine fI 16 (iv p1) [(1, iv p1)] 2 [none] rfl rfl rfl rfl rfl rfl fun G a w S => ?_
    refine sMove (iv p1) S (wN rfl) (.inl rfl) rfl rfl (lb rfl) fun a S => ?_
    exact leafL ⟨rfl, S⟩
  · refine fI 17 q27 [(15, .slice ad7 p0.Right.length cp8), (16, iv p1)] 3 [some 1, some 2] rfl rfl rfl rfl rfl rfl fun G a w S => ?_
    refine sIdxV (v := .slice ad7 p0.Right.length cp8) (k := .i64) (j := p1) S (wN rfl) rfl rfl rfl hq28 rfl (lb rfl) fun a S => ?_
    exact leafL ⟨rfl, S⟩
  · refine fI 18 (iv x12) [(17, q27)] 4 [some 3] rfl rfl rfl rfl rfl rfl fun G a w S => ?_
    refine sLoadV1 (vq := q27) 3 (iv x12) S (wN rfl) rfl rfl rfl rfl rfl (lb rfl) fun a S => ?_
    exact leafL ⟨rfl, S⟩
  · refine fI 19 (.pointer (some ⟨b10, 1, none⟩)) [(2, .pointer (some ⟨b10, 0, none⟩))] 5 [none] rfl rfl rfl rfl rfl rfl fun G a w S => ?_
    refine sField (b := b10) (off := 0) 1 1 S (wN rfl) rfl rfl rfl rfl rfl (lb rfl) fun a S => ?_
    exact leafL ⟨rfl, S⟩
  · refine fI 20 (.slice ad7 p0.Right.length cp8) [(19, .pointer (some ⟨b10, 1, none⟩))] 6 [some 5] rfl rfl rfl rfl rfl rfl fun G a w S => ?_
    refine sLoad1 (p := b10) (off := 1) (T := 36) (vs := [.slice ad5 p0.Left.length cp6, .slice ad7 p0.Right.length cp8]) 0 (.slice ad7 p0.Right.length cp8) S (wN rfl) rfl rfl rfl rfl rfl rfl (lb rfl) fun a S => ?_
    exact leafL ⟨rfl, S⟩
  · refine fI 21 (iv p1) [(1, iv p1)] 7 [none] rfl rfl rfl rfl rfl rfl fun G a w S => ?_
    refine sMove (iv p1) S (wN rfl) (.inl rfl) rfl rfl (lb rfl) fun a S => ?_
    exact leafL ⟨rfl, S⟩
  · refine fI 22 (iv (w64 (p1 - 1))) [(21, iv p1)] 8 [some 7] rfl rfl rfl rfl rfl rfl fun G a w S => ?_
    refine sBin (iv (w64 (p1 - 1))) S (wN rfl) rfl rfl rfl (bSub _ _ _ _ p1 1) rfl (lb rfl) fun a S => ?_
    exact leafL ⟨rfl, S⟩
  · refine fI 23 q30 [(20, .slice ad7 p0.Right.length cp8), (22, iv (w64 (p1 - 1)))] 9 [some 6, some 8] rfl rfl rfl rfl rfl rfl fun G a w S => ?_
    refine sIdxV (v := .slice ad7 p0.Right.length cp8) (k := .i64) (j := w64 (p1 - 1)) S (wN rfl) rfl rfl rfl hq31 rfl (lb rfl) fun a S => ?_
    exact leafL ⟨rfl, S⟩
  · refine fI 24 (iv x17) [(23, q30)] 10 [some 9] rfl rfl rfl rfl rfl rfl fun G a w S => ?_
    refine sLoadV1 (vq := q30) 0 (iv x17) S (wN rfl) rfl rfl rfl rfl rfl (lb rfl) fun a S => ?_
    exact leafL ⟨rfl, S⟩
  · refine fI 25 (iv (w64 (x12 - x17))) [(18, iv x12), (24, iv x17)] 11 [some 4, some 10] rfl rfl rfl rfl rfl rfl fun G a w S => ?_
    refine sBin (iv (w64 (x12 - x17))) S (wN rfl) rfl rfl rfl (bSub _ _ _ _ x12 x17) rfl (lb rfl) fun a S => ?_
    exact leafL ⟨rfl, S⟩
  refine ⟨_, [(25, iv (w64 (x12 - x17)))], rfl, (srcs_of [some 11] rfl rfl rfl), fun G a w S => ?_⟩
  refine sCall (X := Value) (f := 54) (vs := [iv (w64 (x12 - x17)), .int .u8 3]) (val := c_raddleref37_edge_val r22) (B' := fun _ => []) (D' := c_raddleref37_edge_D r22) [] [eBox b10 36 [.slice ad5 p0.Left.length cp6, .slice ad7 p0.Right.length cp8]] [] [0] [] S (wN rfl) rfl callee54 rfl (by decide) rfl rfl (fun E1 w1 S1 => c_raddleref37_edge E1 w1 (w64 (x12 - x17)) 3 r22 hx23 S1) rfl (lb rfl) fun u33 a w S => ?_
  obtain ⟨ad34, cp35, _, rfl, _⟩ := S.mem.know (i := 0) (e := fRep (rL r_api_Stitch) (u33) r22.1) rfl
  refine leafL ⟨rfl, _, _, .inl ⟨26, (.tuple #[.slice ad34 r22.1.length cp35, iv r22.2]), [(13, 13, .tuple #[.slice ad34 r22.1.length cp35, iv r22.2]), (14, 27, .slice ad34 r22.1.length cp35), (15, 28, iv r22.2), (16, 6, .slice ad34 r22.1.length cp35), (17, 7, iv r22.2)], rfl, S, hz_of rfl, ?_⟩⟩
  refine node_by (A := anc_raddleref37_front_0) (nf := [12]) (Y := [12]) 18 (by kernel_rfl) (by kernel_rfl) (by kernel_rfl) (by kernel_rfl) (by kernel_rfl) [13, 14, 15, 16, 17, 12, 0, 1, 2, 3, 4, 5, 6, 7, 8, 9, 10, 11] (by kernel_rfl) (by decide) (by decide) (aD 0 17 12 (by decide) (aD 1 16 12 (by decide) (aD 2 15 12 (by decide) (aD 3 14 12 (by decide) (aD 4 13 12 (by decide) (aD 5 12 12 (by decide) (aD 6 11 12 (by decide) (aD 7 10 12 (by decide) (aD 8 9 12 (by decide) (aD 9 8 12 (by decide) (aD 10 7 12 (by decide) (aD 11 6 12 (by decide) (aY 12 5 (by decide) (aF 13 4 (by decide) ?_ (aF 14 3 (by decide) ?_ (aF 15 2 (by decide) ?_ (aF 16 1 (by decide) ?_ (aF 17 0 (by decide) ?_ (trivial))))))))))))))))))) [(1, iv p1), (2, .pointer (some ⟨b10, 0, none⟩)), (6, .slice ad34 r22.1.length cp35), (7, iv r22.2)] (fin_of [none, none, some 3, some 4] rfl (by kernel_rfl) (by kernel_rfl)) (fun _ a w S => ?_)
  · refine fI 13 (.tuple #[.slice ad34 r22.1.length cp35, iv r22.2]) [(26, .tuple #[.slice ad34 r22.1.length cp35, iv r22.2])] 0 [some 5] rfl rfl rfl rfl rfl rfl fun G a w S => ?_
    refine sMove (.tuple #[.slice ad34 r22.1.length cp35, iv r22.2]) S (wN rfl) (.inl rfl) rfl rfl (lb rfl) fun a S => ?_
    exact leafL ⟨rfl, S⟩
  · refine fI 27 (.slice ad34 r22.1.length cp35) [(13, .tuple #[.slice ad34 r22.1.length cp35, iv r22.2])] 1 [some 0] rfl rfl rfl rfl rfl rfl fun G a w S => ?_
    refine sExtract (vs := [.slice ad34 r22.1.length cp35, iv r22.2]) (.slice ad34 r22.1.length cp35) S (wN rfl) rfl rfl rfl rfl (lb rfl) fun a S => ?_
    exact leafL ⟨rfl, S⟩
  · refine fI 28 (iv r22.2) [(13, .tuple #[.slice ad34 r22.1.length cp35, iv r22.2])] 2 [some 0] rfl rfl rfl rfl rfl rfl fun G a w S => ?_
    refine sExtract (vs := [.slice ad34 r22.1.length cp35, iv r22.2]) (iv r22.2) S (wN rfl) rfl rfl rfl rfl (lb rfl) fun a S => ?_
    exact leafL ⟨rfl, S⟩
  · refine fI 6 (.slice ad34 r22.1.length cp35) [(27, .slice ad34 r22.1.length cp35)] 3 [some 1] rfl rfl rfl rfl rfl rfl fun G a w S => ?_
    refine sMove (.slice ad34 r22.1.length cp35) S (wN rfl) (.inr rfl) rfl rfl (lb rfl) fun a S => ?_
    exact leafL ⟨rfl, S⟩
  · refine fI 7 (iv r22.2) [(28, iv r22.2)] 4 [some 2] rfl rfl rfl rfl rfl rfl fun G a w S => ?_
    refine sMove (iv r22.2) S (wN rfl) (.inr rfl) rfl rfl (lb rfl) fun a S => ?_
    exact leafL ⟨rfl, S⟩
  refine leafT (hK11 _ _ ?_)
  refine sSeq (fun K36 hK36 => ?_)
  obtain ⟨x37, hx38, h⟩ := bindSome h
  obtain ⟨x42, hx43, h⟩ := bindSome h
  obtain ⟨r47, hx48, h⟩ := bindSome h
  obtain ⟨q52, hq53, S⟩ := pIdx (P := Try.prog) (r := (rI .i64)) (v := .slice ad5 p0.Left.length cp6) (xs := p0.Left) (j := w64 (p1 - 1)) 34 3 8 S Try.underlying34 rfl rfl hx38
  obtain ⟨u54, S⟩ := pLoad (r := (rI .i64)) (q := q52) (x := x37) 0 S rfl
  obtain rfl : u54 = iv x37 := S.mem.know (i := 1) (e := fRep (rI .i64) (u54) x37) rfl
  obtain ⟨q55, hq56, S⟩ := pIdx (P := Try.prog) (r := (rI .i64)) (v := .slice ad5 p0.Left.length cp6) (xs := p0.Left) (j := p1) 34 3 11 S Try.underlying34 rfl rfl hx43
  obtain ⟨u57, S⟩ := pLoad (r := (rI .i64)) (q := q55) (x := x42) 0 S rfl
  obtain rfl : u57 = iv x42 := S.mem.know (i := 1) (e := fRep (rI .i64) (u57) x42) rfl
  refine sDraw (nf := [12]) (W := [(0, 30, .pointer (some ⟨b10, 0, none⟩)), (1, 31, .slice ad5 p0.Left.length cp6), (2, 32, iv p1), (3, 33, iv (w64 (p1 - 1))), (4, 34, q52), (5, 35, iv x37), (6, 36, .pointer (some ⟨b10, 0, none⟩)), (7, 37, .slice ad5 p0.Left.length cp6), (8, 38, iv p1), (9, 39, q55), (10, 40, iv x42), (11, 41, iv (w64 (x37 - x42)))]) rfl S ?_
  refine node_by (A := anc_raddleref37_front_1) (nf := [12]) (Y := []) (W := [(0, 30, .pointer (some ⟨b10, 0, none⟩)), (1, 31, .slice ad5 p0.Left.length cp6), (2, 32, iv p1), (3, 33, iv (w64 (p1 - 1))), (4, 34, q52), (5, 35, iv x37), (6, 36, .pointer (some ⟨b10, 0, none⟩)), (7, 37, .slice ad5 p0.Left.length cp6), (8, 38, iv p1), (9, 39, q55), (10, 40, iv x42), (11, 41, iv (w64 (x37 - x42)))]) 18 (by kernel_rfl) (by kernel_rfl) (by kernel_rfl) (by kernel_rfl) (by kernel_rfl) [0, 1, 2, 3, 4, 5, 6, 7, 8, 9, 10, 11] (by kernel_rfl) (by decide) (by decide) (aF 0 17 (by decide) ?_ (aF 1 16 (by decide) ?_ (aF 2 15 (by decide) ?_ (aF 3 14 (by decide) ?_ (aF 4 13 (by decide) ?_ (aF 5 12 (by decide) ?_ (aF 6 11 (by decide) ?_ (aF 7 10 (by decide) ?_ (aF 8 9 (by decide) ?_ (aF 9 8 (by decide) ?_ (aF 10 7 (by decide) ?_ (aF 11 6 (by decide) ?_ (aN 12 5 (by decide) ?_ (aE 13 4 12 (by decide) (aE 14 3 12 (by decide) (aE 15 2 12 (by decide) (aE 16 1 12 (by decide) (aE 17 0 12 (by decide) (trivial))))))))))))))))))) [] (fun q hq => by cases hq) (fun hY => absurd (hY 12 (by decide)) (by decide))
  · refine fI 30 (.pointer (some ⟨b10, 0, none⟩)) [(2, .pointer (some ⟨b10, 0, none⟩))] 0 [none] rfl rfl rfl rfl rfl rfl fun G a w S => ?_
    refine sField (b := b10) (off := 0) 0 0 S (wN rfl) rfl rfl rfl rfl rfl (lb rfl) fun a S => ?_
    exact leafL ⟨rfl, S⟩
  · refine fI 31 (.slice ad5 p0.Left.length cp6) [(30, .pointer (some ⟨b10, 0, none⟩))] 1 [some 0] rfl rfl rfl rfl rfl rfl fun G a w S => ?_
    refine sLoad1 (p := b10) (off := 0) (T := 36) (vs := [.slice ad5 p0.Left.length cp6, .slice ad7 p0.Right.length cp8]) 0 (.slice ad5 p0.Left.length cp6) S (wN rfl) rfl rfl rfl rfl rfl rfl (lb rfl) fun a S => ?_
    exact leafL ⟨rfl, S⟩
  · refine fI 32 (iv p1) [(1, iv p1)] 2 [none] rfl rfl rfl rfl rfl rfl fun G a w S => ?_
    refine sMove (iv p1) S (wN rfl) (.inl rfl) rfl rfl (lb rfl) fun a S => ?_
    exact leafL ⟨rfl, S⟩
  · refine fI 33 (iv (w64 (p1 - 1))) [(32, iv p1)] 3 [some 2] rfl rfl rfl rfl rfl rfl fun G a w S => ?_
    refine sBin (iv (w64 (p1 - 1))) S (wN rfl) rfl rfl rfl (bSub _ _ _ _ p1 1) rfl (lb rfl) fun a S => ?_
    exact leafL ⟨rfl, S⟩
  · refine fI 34 q52 [(31, .slice ad5 p0.Left.length cp6), (33, iv (w64 (p1 - 1)))] 4 [some 1, some 3] rfl rfl rfl rfl rfl rfl fun G a w S => ?_
    refine sIdxV (v := .slice ad5 p0.Left.length cp6) (k := .i64) (j := w64 (p1 - 1)) S (wN rfl) rfl rfl rfl hq53 rfl (lb rfl) fun a S => ?_
    exact leafL ⟨rfl, S⟩
  · refine fI 35 (iv x37) [(34, q52)] 5 [some 4] rfl rfl rfl rfl rfl rfl fun G a w S => ?_
    refine sLoadV1 (vq := q52) 3 (iv x37) S (wN rfl) rfl rfl rfl rfl rfl (lb rfl) fun a S => ?_
    exact leafL ⟨rfl, S⟩
  · refine fI 36 (.pointer (some ⟨b10, 0, none⟩)) [(2, .pointer (some ⟨b10, 0, none⟩))] 6 [none] rfl rfl rfl rfl rfl rfl fun G a w S => ?_
    refine sField (b := b10) (off := 0) 0 0 S (wN rfl) rfl rfl rfl rfl rfl (lb rfl) fun a S => ?_
    exact leafL ⟨rfl, S⟩
  · refine fI 37 (.slice ad5 p0.Left.length cp6) [(36, .pointer (some ⟨b10, 0, none⟩))] 7 [some 6] rfl rfl rfl rfl rfl rfl fun G a w S => ?_
    refine sLoad1 (p := b10) (off := 0) (T := 36) (vs := [.slice ad5 p0.Left.length cp6, .slice ad7 p0.Right.length cp8]) 0 (.slice ad5 p0.Left.length cp6) S (wN rfl) rfl rfl rfl rfl rfl rfl (lb rfl) fun a S => ?_
    exact leafL ⟨rfl, S⟩
  · refine fI 38 (iv p1) [(1, iv p1)] 8 [none] rfl rfl rfl rfl rfl rfl fun G a w S => ?_
    refine sMove (iv p1) S (wN rfl) (.inl rfl) rfl rfl (lb rfl) fun a S => ?_
    exact leafL ⟨rfl, S⟩
  · refine fI 39 q55 [(37, .slice ad5 p0.Left.length cp6), (38, iv p1)] 9 [some 7, some 8] rfl rfl rfl rfl rfl rfl fun G a w S => ?_
    refine sIdxV (v := .slice ad5 p0.Left.length cp6) (k := .i64) (j := p1) S (wN rfl) rfl rfl rfl hq56 rfl (lb rfl) fun a S => ?_
    exact leafL ⟨rfl, S⟩
  · refine fI 40 (iv x42) [(39, q55)] 10 [some 9] rfl rfl rfl rfl rfl rfl fun G a w S => ?_
    refine sLoadV1 (vq := q55) 0 (iv x42) S (wN rfl) rfl rfl rfl rfl rfl (lb rfl) fun a S => ?_
    exact leafL ⟨rfl, S⟩
  · refine fI 41 (iv (w64 (x37 - x42))) [(35, iv x37), (40, iv x42)] 11 [some 5, some 10] rfl rfl rfl rfl rfl rfl fun G a w S => ?_
    refine sBin (iv (w64 (x37 - x42))) S (wN rfl) rfl rfl rfl (bSub _ _ _ _ x37 x42) rfl (lb rfl) fun a S => ?_
    exact leafL ⟨rfl, S⟩
  refine ⟨_, [(41, iv (w64 (x37 - x42)))], rfl, (srcs_of [some 11] rfl rfl rfl), fun G a w S => ?_⟩
  refine sCall (X := Value) (f := 54) (vs := [iv (w64 (x37 - x42)), .int .u8 4]) (val := c_raddleref37_edge_val r47) (B' := fun _ => []) (D' := c_raddleref37_edge_D r47) [] [eBox b10 36 [.slice ad5 p0.Left.length cp6, .slice ad7 p0.Right.length cp8]] [] [0] [] S (wN rfl) rfl callee54 rfl (by decide) rfl rfl (fun E1 w1 S1 => c_raddleref37_edge E1 w1 (w64 (x37 - x42)) 4 r47 hx48 S1) rfl (lb rfl) fun u58 a w S => ?_
  obtain ⟨ad59, cp60, _, rfl, _⟩ := S.mem.know (i := 0) (e := fRep (rL r_api_Stitch) (u58) r47.1) rfl
  refine leafL ⟨rfl, _, _, .inl ⟨42, (.tuple #[.slice ad59 r47.1.length cp60, iv r47.2]), [(13, 29, .tuple #[.slice ad59 r47.1.length cp60, iv r47.2]), (14, 43, .slice ad59 r47.1.length cp60), (15, 44, iv r47.2), (16, 8, .slice ad59 r47.1.length cp60), (17, 9, iv r47.2)], rfl, S, hz_of rfl, ?_⟩⟩
  refine node_by (A := anc_raddleref37_front_1) (nf := [12]) (Y := [12]) 18 (by kernel_rfl) (by kernel_rfl) (by kernel_rfl) (by kernel_rfl) (by kernel_rfl) [13, 14, 15, 16, 17, 12, 0, 1, 2, 3, 4, 5, 6, 7, 8, 9, 10, 11] (by kernel_rfl) (by decide) (by decide) (aD 0 17 12 (by decide) (aD 1 16 12 (by decide) (aD 2 15 12 (by decide) (aD 3 14 12 (by decide) (aD 4 13 12 (by decide) (aD 5 12 12 (by decide) (aD 6 11 12 (by decide) (aD 7 10 12 (by decide) (aD 8 9 12 (by decide) (aD 9 8 12 (by decide) (aD 10 7 12 (by decide) (aD 11 6 12 (by decide) (aY 12 5 (by decide) (aF 13 4 (by decide) ?_ (aF 14 3 (by decide) ?_ (aF 15 2 (by decide) ?_ (aF 16 1 (by decide) ?_ (aF 17 0 (by decide) ?_ (trivial))))))))))))))))))) [(1, iv p1), (2, .pointer (some ⟨b10, 0, none⟩)), (6, .slice ad34 r22.1.length cp35), (7, iv r22.2), (8, .slice ad59 r47.1.length cp60), (9, iv r47.2)] (fin_of [none, none, none, none, some 3, some 4] rfl (by kernel_rfl) (by kernel_rfl)) (fun _ a w S => ?_)
  · refine fI 29 (.tuple #[.slice ad59 r47.1.length cp60, iv r47.2]) [(42, .tuple #[.slice ad59 r47.1.length cp60, iv r47.2])] 0 [some 5] rfl rfl rfl rfl rfl rfl fun G a w S => ?_
    refine sMove (.tuple #[.slice ad59 r47.1.length cp60, iv r47.2]) S (wN rfl) (.inl rfl) rfl rfl (lb rfl) fun a S => ?_
    exact leafL ⟨rfl, S⟩
  · refine fI 43 (.slice ad59 r47.1.length cp60) [(29, .tuple #[.slice ad59 r47.1.length cp60, iv r47.2])] 1 [some 0] rfl rfl rfl rfl rfl rfl fun G a w S => ?_
    refine sExtract (vs := [.slice ad59 r47.1.length cp60, iv r47.2]) (.slice ad59 r47.1.length cp60) S (wN rfl) rfl rfl rfl rfl (lb rfl) fun a S => ?_
    exact leafL ⟨rfl, S⟩
  · refine fI 44 (iv r47.2) [(29, .tuple #[.slice ad59 r47.1.length cp60, iv r47.2])] 2 [some 0] rfl rfl rfl rfl rfl rfl fun G a w S => ?_
    refine sExtract (vs := [.slice ad59 r47.1.length cp60, iv r47.2]) (iv r47.2) S (wN rfl) rfl rfl rfl rfl (lb rfl) fun a S => ?_
    exact leafL ⟨rfl, S⟩
  · refine fI 8 (.slice ad59 r47.1.length cp60) [(43, .slice ad59 r47.1.length cp60)] 3 [some 1] rfl rfl rfl rfl rfl rfl fun G a w S => ?_
    refine sMove (.slice ad59 r47.1.length cp60) S (wN rfl) (.inr rfl) rfl rfl (lb rfl) fun a S => ?_
    exact leafL ⟨rfl, S⟩
  · refine fI 9 (iv r47.2) [(44, iv r47.2)] 4 [some 2] rfl rfl rfl rfl rfl rfl fun G a w S => ?_
    refine sMove (iv r47.2) S (wN rfl) (.inr rfl) rfl rfl (lb rfl) fun a S => ?_
    exact leafL ⟨rfl, S⟩
  refine leafT (hK36 _ _ ?_)
  refine sSeq (fun K61 hK61 => ?_)
  refine sRegion ?_
  refine sLit0 (α := api_Stitch) r_api_Stitch (T := 82) S (wN rfl) rfl Try.underlying78 rfl rfl (lb rfl) fun a w ad62 cp63 S => ?_
  refine sMove (.slice ad34 r22.1.length cp35) S (wN rfl) (.inl rfl) rfl rfl (lb rfl) fun a S => ?_
  obtain ⟨l64, hx65, h⟩ := bindSome h
  refine sApp (r := r_api_Stitch) (T := 82) (xs := ([] : List api_Stitch)) (ys := r22.1) (v := .slice ad62 ([] : List api_Stitch).length cp63) (u := .slice ad34 r22.1.length cp35) 0 (.agg #[.int .u8 0, .bool false, iv 0, iv 0]) 24 S (wN rfl) rfl Try.underlying78 rfl rfl (by decide) rfl rfl rfl (src_D 7 S.mem rfl) hx65 rfl (lb rfl) fun a w ad66 cp67 S => ?_
  refine sMove (.slice ad66 l64.length cp67) S (wN rfl) (.inr rfl) rfl rfl (lb rfl) fun a S => ?_
  refine leafL (leafT (hK61 _ _ ?_))
  refine sSeq (fun K68 hK68 => ?_)
  obtain ⟨q75, hq76, S⟩ := pIdx (P := Try.prog) (r := (rI .i64)) (v := .slice ad7 p0.Right.length cp8) (xs := p0.Right) (j := w64 (p1 - 1)) 34 3 14 S Try.underlying34 rfl rfl hx18
  obtain ⟨u77, S⟩ := pLoad (r := (rI .i64)) (q := q75) (x := x17) 0 S rfl
  obtain rfl : u77 = iv x17 := S.mem.know (i := 1) (e := fRep (rI .i64) (u77) x17) rfl
  obtain ⟨q78, hq79, S⟩ := pIdx (P := Try.prog) (r := (rI .i64)) (v := .slice ad5 p0.Left.length cp6) (xs := p0.Left) (j := w64 (p1 - 1)) 34 3 18 S Try.underlying34 rfl rfl hx38
  obtain ⟨u80, S⟩ := pLoad (r := (rI .i64)) (q := q78) (x := x37) 0 S rfl
  obtain rfl : u80 = iv x37 := S.mem.know (i := 1) (e := fRep (rI .i64) (u80) x37) rfl
  refine sDraw (nf := []) (W := [(0, 48, .pointer (some ⟨b10, 1, none⟩)), (1, 49, .slice ad7 p0.Right.length cp8), (2, 50, iv p1), (3, 51, iv (w64 (p1 - 1))), (4, 52, q75), (5, 53, iv x17), (6, 54, .pointer (some ⟨b10, 0, none⟩)), (7, 55, .slice ad5 p0.Left.length cp6), (8, 56, iv p1), (9, 57, iv (w64 (p1 - 1))), (10, 58, q78), (11, 59, iv x37), (12, 60, iv (w64 (x17 - x37))), (13, 61, iv r22.2), (14, 62, iv (w64 ((w64 (x17 - x37)) - r22.2))), (15, 63, iv r47.2), (16, 64, iv (w64 ((w64 ((w64 (x17 - x37)) - r22.2)) - r47.2))), (17, 11, iv (w64 ((w64 ((w64 (x17 - x37)) - r22.2)) - r47.2)))]) rfl S ?_
  refine node_by (A := anc_raddleref37_front_2) (nf := []) (Y := []) (W := [(0, 48, .pointer (some ⟨b10, 1, none⟩)), (1, 49, .slice ad7 p0.Right.length cp8), (2, 50, iv p1), (3, 51, iv (w64 (p1 - 1))), (4, 52, q75), (5, 53, iv x17), (6, 54, .pointer (some ⟨b10, 0, none⟩)), (7, 55, .slice ad5 p0.Left.length cp6), (8, 56, iv p1), (9, 57, iv (w64 (p1 - 1))), (10, 58, q78), (11, 59, iv x37), (12, 60, iv (w64 (x17 - x37))), (13, 61, iv r22.2), (14, 62, iv (w64 ((w64 (x17 - x37)) - r22.2))), (15, 63, iv r47.2), (16, 64, iv (w64 ((w64 ((w64 (x17 - x37)) - r22.2)) - r47.2))), (17, 11, iv (w64 ((w64 ((w64 (x17 - x37)) - r22.2)) - r47.2)))]) 18 (by kernel_rfl) (by kernel_rfl) (by kernel_rfl) (by kernel_rfl) (by kernel_rfl) [0, 1, 2, 3, 4, 5, 6, 7, 8, 9, 10, 11, 12, 13, 14, 15, 16, 17] (by kernel_rfl) (by decide) (by decide) (aF 0 17 (by decide) ?_ (aF 1 16 (by decide) ?_ (aF 2 15 (by decide) ?_ (aF 3 14 (by decide) ?_ (aF 4 13 (by decide) ?_ (aF 5 12 (by decide) ?_ (aF 6 11 (by decide) ?_ (aF 7 10 (by decide) ?_ (aF 8 9 (by decide) ?_ (aF 9 8 (by decide) ?_ (aF 10 7 (by decide) ?_ (aF 11 6 (by decide) ?_ (aF 12 5 (by decide) ?_ (aF 13 4 (by decide) ?_ (aF 14 3 (by decide) ?_ (aF 15 2 (by decide) ?_ (aF 16 1 (by decide) ?_ (aF 17 0 (by decide) ?_ (trivial))))))))))))))))))) [(8, .slice ad59 r47.1.length cp60), (10, .slice ad66 l64.length cp67), (11, iv (w64 ((w64 ((w64 (x17 - x37)) - r22.2)) - r47.2)))] (fin_of [none, none, some 17] rfl (by kernel_rfl) (by kernel_rfl)) (fun _ a w S => ?_)
  · refine fI 48 (.pointer (some ⟨b10, 1, none⟩)) [(2, .pointer (some ⟨b10, 0, none⟩))] 0 [none] rfl rfl rfl rfl rfl rfl fun G a w S => ?_
    refine sField (b := b10) (off := 0) 1 1 S (wN rfl) rfl rfl rfl rfl rfl (lb rfl) fun a S => ?_
    exact leafL ⟨rfl, S⟩
  · refine fI 49 (.slice ad7 p0.Right.length cp8) [(48, .pointer (some ⟨b10, 1, none⟩))] 1 [some 0] rfl rfl rfl rfl rfl rfl fun G a w S => ?_
    refine sLoad1 (p := b10) (off := 1) (T := 36) (vs := [.slice ad5 p0.Left.length cp6, .slice ad7 p0.Right.length cp8]) 1 (.slice ad7 p0.Right.length cp8) S (wN rfl) rfl rfl rfl rfl rfl rfl (lb rfl) fun a S => ?_
    exact leafL ⟨rfl, S⟩
  · refine fI 50 (iv p1) [(1, iv p1)] 2 [none] rfl rfl rfl rfl rfl rfl fun G a w S => ?_
    refine sMove (iv p1) S (wN rfl) (.inl rfl) rfl rfl (lb rfl) fun a S => ?_
    exact leafL ⟨rfl, S⟩
  · refine fI 51 (iv (w64 (p1 - 1))) [(50, iv p1)] 3 [some 2] rfl rfl rfl rfl rfl rfl fun G a w S => ?_
    refine sBin (iv (w64 (p1 - 1))) S (wN rfl) rfl rfl rfl (bSub _ _ _ _ p1 1) rfl (lb rfl) fun a S => ?_
    exact leafL ⟨rfl, S⟩
  · refine fI 52 q75 [(49, .slice ad7 p0.Right.length cp8), (51, iv (w64 (p1 - 1)))] 4 [some 1, some 3] rfl rfl rfl rfl rfl rfl fun G a w S => ?_
    refine sIdxV (v := .slice ad7 p0.Right.length cp8) (k := .i64) (j := w64 (p1 - 1)) S (wN rfl) rfl rfl rfl hq76 rfl (lb rfl) fun a S => ?_
    exact leafL ⟨rfl, S⟩
  · refine fI 53 (iv x17) [(52, q75)] 5 [some 4] rfl rfl rfl rfl rfl rfl fun G a w S => ?_
    refine sLoadV1 (vq := q75) 3 (iv x17) S (wN rfl) rfl rfl rfl rfl rfl (lb rfl) fun a S => ?_
    exact leafL ⟨rfl, S⟩
  · refine fI 54 (.pointer (some ⟨b10, 0, none⟩)) [(2, .pointer (some ⟨b10, 0, none⟩))] 6 [none] rfl rfl rfl rfl rfl rfl fun G a w S => ?_
    refine sField (b := b10) (off := 0) 0 0 S (wN rfl) rfl rfl rfl rfl rfl (lb rfl) fun a S => ?_
    exact leafL ⟨rfl, S⟩
  · refine fI 55 (.slice ad5 p0.Left.length cp6) [(54, .pointer (some ⟨b10, 0, none⟩))] 7 [some 6] rfl rfl rfl rfl rfl rfl fun G a w S => ?_
    refine sLoad1 (p := b10) (off := 0) (T := 36) (vs := [.slice ad5 p0.Left.length cp6, .slice ad7 p0.Right.length cp8]) 1 (.slice ad5 p0.Left.length cp6) S (wN rfl) rfl rfl rfl rfl rfl rfl (lb rfl) fun a S => ?_
    exact leafL ⟨rfl, S⟩
  · refine fI 56 (iv p1) [(1, iv p1)] 8 [none] rfl rfl rfl rfl rfl rfl fun G a w S => ?_
    refine sMove (iv p1) S (wN rfl) (.inl rfl) rfl rfl (lb rfl) fun a S => ?_
    exact leafL ⟨rfl, S⟩
  · refine fI 57 (iv (w64 (p1 - 1))) [(56, iv p1)] 9 [some 8] rfl rfl rfl rfl rfl rfl fun G a w S => ?_
    refine sBin (iv (w64 (p1 - 1))) S (wN rfl) rfl rfl rfl (bSub _ _ _ _ p1 1) rfl (lb rfl) fun a S => ?_
    exact leafL ⟨rfl, S⟩
  · refine fI 58 q78 [(55, .slice ad5 p0.Left.length cp6), (57, iv (w64 (p1 - 1)))] 10 [some 7, some 9] rfl rfl rfl rfl rfl rfl fun G a w S => ?_
    refine sIdxV (v := .slice ad5 p0.Left.length cp6) (k := .i64) (j := w64 (p1 - 1)) S (wN rfl) rfl rfl rfl hq79 rfl (lb rfl) fun a S => ?_
    exact leafL ⟨rfl, S⟩
  · refine fI 59 (iv x37) [(58, q78)] 11 [some 10] rfl rfl rfl rfl rfl rfl fun G a w S => ?_
    refine sLoadV1 (vq := q78) 0 (iv x37) S (wN rfl) rfl rfl rfl rfl rfl (lb rfl) fun a S => ?_
    exact leafL ⟨rfl, S⟩
  · refine fI 60 (iv (w64 (x17 - x37))) [(53, iv x17), (59, iv x37)] 12 [some 5, some 11] rfl rfl rfl rfl rfl rfl fun G a w S => ?_
    refine sBin (iv (w64 (x17 - x37))) S (wN rfl) rfl rfl rfl (bSub _ _ _ _ x17 x37) rfl (lb rfl) fun a S => ?_
    exact leafL ⟨rfl, S⟩
  · refine fI 61 (iv r22.2) [(7, iv r22.2)] 13 [none] rfl rfl rfl rfl rfl rfl fun G a w S => ?_
    refine sMove (iv r22.2) S (wN rfl) (.inl rfl) rfl rfl (lb rfl) fun a S => ?_
    exact leafL ⟨rfl, S⟩
  · refine fI 62 (iv (w64 ((w64 (x17 - x37)) - r22.2))) [(60, iv (w64 (x17 - x37))), (61, iv r22.2)] 14 [some 12, some 13] rfl rfl rfl rfl rfl rfl fun G a w S => ?_
    refine sBin (iv (w64 ((w64 (x17 - x37)) - r22.2))) S (wN rfl) rfl rfl rfl (bSub _ _ _ _ (w64 (x17 - x37)) r22.2) rfl (lb rfl) fun a S => ?_
    exact leafL ⟨rfl, S⟩
  · refine fI 63 (iv r47.2) [(9, iv r47.2)] 15 [none] rfl rfl rfl rfl rfl rfl fun G a w S => ?_
    refine sMove (iv r47.2) S (wN rfl) (.inl rfl) rfl rfl (lb rfl) fun a S => ?_
    exact leafL ⟨rfl, S⟩
  · refine fI 64 (iv (w64 ((w64 ((w64 (x17 - x37)) - r22.2)) - r47.2))) [(62, iv (w64 ((w64 (x17 - x37)) - r22.2))), (63, iv r47.2)] 16 [some 14, some 15] rfl rfl rfl rfl rfl rfl fun G a w S => ?_
    refine sBin (iv (w64 ((w64 ((w64 (x17 - x37)) - r22.2)) - r47.2))) S (wN rfl) rfl rfl rfl (bSub _ _ _ _ (w64 ((w64 (x17 - x37)) - r22.2)) r47.2) rfl (lb rfl) fun a S => ?_
    exact leafL ⟨rfl, S⟩
  · refine fI 11 (iv (w64 ((w64 ((w64 (x17 - x37)) - r22.2)) - r47.2))) [(64, iv (w64 ((w64 ((w64 (x17 - x37)) - r22.2)) - r47.2)))] 17 [some 16] rfl rfl rfl rfl rfl rfl fun G a w S => ?_
    refine sMove (iv (w64 ((w64 ((w64 (x17 - x37)) - r22.2)) - r47.2))) S (wN rfl) (.inr rfl) rfl rfl (lb rfl) fun a S => ?_
    exact leafL ⟨rfl, S⟩
  refine leafT (hK68 _ _ ?_)
  obtain ⟨t84, h, g85⟩ := bindSome h
  refine sCut (fun a w => ∃ o81, o81 = t84 ∧ ∃ ad82, ∃ cp83, St [] E [] w0 79 a w [(8, .slice ad59 r47.1.length cp60), (10, .slice ad82 o81.length cp83), (11, iv (w64 ((w64 ((w64 (x17 - x37)) - r22.2)) - r47.2)))] [eRow r_api_Stitch 82 (.slice ad82 o81.length cp83) o81] [fRep (rL r_api_Stitch) (.slice ad59 r47.1.length cp60) r47.1]) ?_ (fun a w hI => ?_)
  rotate_left
  · obtain ⟨o81, rfl, ad82, cp83, S⟩ := hI
    have h := g85
    clear g85
    try dsimp only at h
    refine sSeq (fun K107 hK107 => ?_)
    refine sRegion ?_
    refine sMove (.slice ad82 o81.length cp83) S (wN rfl) (.inl rfl) rfl rfl (lb rfl) fun a S => ?_
    refine sMove (.slice ad59 r47.1.length cp60) S (wN rfl) (.inl rfl) rfl rfl (lb rfl) fun a S => ?_
    obtain ⟨l108, hx109, h⟩ := bindSome h
    refine sApp (r := r_api_Stitch) (T := 82) (xs := o81) (ys := r47.1) (v := .slice ad82 o81.length cp83) (u := .slice ad59 r47.1.length cp60) 0 (.agg #[.int .u8 0, .bool false, iv 0, iv 0]) 24 S (wN rfl) rfl Try.underlying78 rfl rfl (by decide) rfl rfl rfl (src_D 0 S.mem rfl) hx109 rfl (lb rfl) fun a w ad110 cp111 S => ?_
    refine sMove (iv (w64 ((w64 ((w64 (x17 - x37)) - r22.2)) - r47.2))) S (wN rfl) (.inl rfl) rfl rfl (lb rfl) fun a S => ?_
    refine sBin (.bool (decide (0 < (w64 ((w64 ((w64 (x17 - x37)) - r22.2)) - r47.2))))) S (wN rfl) rfl rfl rfl (bGt _ _ _ _ .i64 (w64 ((w64 ((w64 (x17 - x37)) - r22.2)) - r47.2)) 0) rfl (lb rfl) fun a S => ?_
    refine sMove (.slice ad110 l108.length cp111) S (wN rfl) (.inr rfl) rfl rfl (lb rfl) fun a S => ?_
    refine sMove (.bool (decide (0 < (w64 ((w64 ((w64 (x17 - x37)) - r22.2)) - r47.2))))) S (wN rfl) (.inr rfl) rfl rfl (lb rfl) fun a S => ?_
    refine leafL (leafT (hK107 _ _ ?_))
    obtain rfl := Option.some.inj h
    have S := S.shutR (r := r_api_Stitch) (T := 82) (v := .slice ad110 l108.length cp111) (xs := l108) 0 rfl
    exact wp_ret (sRet (.tuple #[.slice ad110 l108.length cp111, .bool (decide (0 < (w64 ((w64 ((w64 (x17 - x37)) - r22.2)) - r47.2))))]) S (rsl2 rfl (rvT (t := 4) (v := .slice ad110 l108.length cp111) S rfl) (rvT (t := 5) (v := .bool (decide (0 < (w64 ((w64 ((w64 (x17 - x37)) - r22.2)) - r47.2))))) S rfl)) ⟨(.slice ad110 l108.length cp111), rfl, S.mem.sel [] [0] (by decide) rfl rfl⟩)
  refine sSeq (fun K86 hK86 => ?_)
  refine sRegion ?_
  refine sMove (iv 0) S (wN rfl) (.inr rfl) rfl rfl (lb rfl) fun a S => ?_
  refine leafL (leafT (hK86 _ _ ?_))
  refine wp_block ?_
  obtain ⟨t93, hl, g92⟩ := bindSome h
  refine sLoop hl (fun s0 a w => match s0 with | (s87, s90) => ∃ ad88, ∃ cp89, St [] E [] w0 79 a w [(8, .slice ad59 r47.1.length cp60), (10, .slice ad88 s87.length cp89), (11, iv (w64 ((w64 ((w64 (x17 - x37)) - r22.2)) - r47.2))), (12, iv s90)] [eRow r_api_Stitch 82 (.slice ad88 s87.length cp89) s87] [fRep (rL r_api_Stitch) (.slice ad59 r47.1.length cp60) r47.1]) ⟨ad66, cp67, S.fix [0] [6] (by decide) rfl rfl rfl⟩ ?_
  clear hl h
  intro s0 a w c0 hI h hu91
  obtain ⟨s87, s90⟩ := s0
  unfold raddleref37_front_l1 at h
  dsimp only at h hI
  obtain ⟨ad88, cp89, S⟩ := hI
  refine sSeq (fun K97 hK97 => ?_)
  refine sSeq (fun K98 hK98 => ?_)
  refine sRegion ?_
  refine sMove (iv s90) S (wN rfl) (.inl rfl) rfl rfl (lb rfl) fun a S => ?_
  refine sMove (iv (w64 ((w64 ((w64 (x17 - x37)) - r22.2)) - r47.2))) S (wN rfl) (.inl rfl) rfl rfl (lb rfl) fun a S => ?_
  refine sBin (.bool (decide (s90 < (w64 ((w64 ((w64 (x17 - x37)) - r22.2)) - r47.2))))) S (wN rfl) rfl rfl rfl (bLt _ _ _ _ .i64 s90 (w64 ((w64 ((w64 (x17 - x37)) - r22.2)) - r47.2))) rfl (lb rfl) fun a S => ?_
  refine leafL (leafT (hK98 _ _ ?_))
  rcases iteSome h with ⟨hc99, h⟩ | ⟨hc99, h⟩
  rotate_left
  · refine sCondF S rfl hc99 ?_
    obtain rfl := Option.some.inj h
    obtain rfl := hu91 _ rfl
    have h := g92
    clear g92
    try dsimp only at h
    exact wp_exit (xThen (xThen (xHit (leafT (⟨s87, Option.some.inj h, ad88, cp89, S.fix [0] [0] (by decide) rfl rfl rfl⟩)))))
  refine sCondT S rfl hc99 ?_
  refine wp_skip (leafT (hK97 _ _ ?_))
  refine sSeq (fun K100 hK100 => ?_)
  refine wp_block ?_
  refine sRegion ?_
  refine sMove (.slice ad88 s87.length cp89) S (wN rfl) (.inl rfl) rfl rfl (lb rfl) fun a S => ?_
  refine sBuild [(0, .int .u8 1)] [.int .u8 1, .bool false, iv 0, iv 0] S (wN rfl) rfl rfl rfl rfl (lb rfl) fun a S => ?_
  have S := S.learn (fRep r_api_Stitch (.agg #[.int .u8 1, .bool false, iv 0, iv 0]) (api_Stitch.mk 1 false 0 0)) rfl
  refine sLit (r := r_api_Stitch) (T := 82) (xs := [(api_Stitch.mk 1 false 0 0)]) [(0, .agg #[.int .u8 1, .bool false, iv 0, iv 0])] 1 [.agg #[.int .u8 1, .bool false, iv 0, iv 0]] [.int .u8 1, .bool false, iv 0, iv 0] (.agg #[.int .u8 0, .bool false, iv 0, iv 0]) 24 S (wN rfl) rfl rfl Try.underlying78 rfl (by decide) (by decide) (by kernel_rfl) rfl (fun E1 w1 hE => All.cons (r_api_Stitch.mono hE (S.mem.know (i := 0) (e := fRep r_api_Stitch (.agg #[.int .u8 1, .bool false, iv 0, iv 0]) (api_Stitch.mk 1 false 0 0)) rfl)) (All.nil _ _ _)) rfl rfl (lb rfl) fun a w ad101 cp102 S => ?_
  obtain ⟨l103, hx104, h⟩ := bindSome h
  refine sApp (r := r_api_Stitch) (T := 82) (xs := s87) (ys := [(api_Stitch.mk 1 false 0 0)]) (v := .slice ad88 s87.length cp89) (u := .slice ad101 [(api_Stitch.mk 1 false 0 0)].length cp102) 1 (.agg #[.int .u8 0, .bool false, iv 0, iv 0]) 24 S (wN rfl) rfl Try.underlying78 rfl rfl (by decide) rfl rfl rfl (src_R (T := 82) 0 S.mem rfl) hx104 rfl (lb rfl) fun a w ad105 cp106 S => ?_
  refine sMove (.slice ad105 l103.length cp106) S (wN rfl) (.inr rfl) rfl rfl (lb rfl) fun a S => ?_
  refine leafL (leafB (leafT (hK100 _ _ ?_)))
  refine sRegion ?_
  refine sMove (iv s90) S (wN rfl) (.inl rfl) rfl rfl (lb rfl) fun a S => ?_
  refine sBin (iv (w64 (s90 + 1))) S (wN rfl) rfl rfl rfl (bAdd _ _ _ _ s90 1) rfl (lb rfl) fun a S => ?_
  refine sMove (iv (w64 (s90 + 1))) S (wN rfl) (.inr rfl) rfl rfl (lb rfl) fun a S => ?_
  exact leafL (leafT (⟨(l103, w64 (s90 + 1)), (Option.some.inj h).symm, ⟨ad105, cp106, S.fix [0] [1] (by decide) rfl rfl rfl⟩⟩))

end Go.Proofs.Ytmedbnjhgkcndaa
namespace Go.Proofs.Ytmedbnjhgkcndaa
open Go.RowKit
set_option linter.unusedVariables false

def anc_raddleref37_Chart_0 : List (List Nat) := [[], [0], [0, 1], [0, 1, 2], [], [4], [4, 5], [4, 5, 6], [0, 1, 2, 3, 4, 5, 6, 7], [0, 1, 2, 3, 4, 5, 6, 7, 8], [], [0, 1, 2, 3, 4, 5, 6, 7, 8, 9, 10]]
noncomputable def raddleref37_Chart_l1 (p0 : api_Piece) : (Int × List api_Row) → Option ((Int × List api_Row) ⊕ ((api_Chart × Int) ⊕ (List api_Row))) := fun s0 => match s0 with
  | (s43, s44) =>
    if decide (s43 < (p0.Left.length : Int)) then
      Option.bind (F_raddleref37_front p0 s43) fun r58 =>
      if !r58.2 then
        some (.inr (.inl ((api_Chart.mk 0 ([] : (List api_Row))), 22)))
      else
        Option.bind (α := List api_Stitch) (
          Option.bind (remI s43 2) fun z73 =>
          if z73 == 1 then
            Option.bind (F_raddleref25_Turn r58.1) fun r76 =>
            some r76.1
          else
            some r58.1) fun o67 =>
        Option.bind (remI s43 2) fun z81 =>
        Option.bind (appO s44 [(api_Row.mk (z81 == 1) o67)]) fun l85 =>
        some (.inl (w64 (s43 + 1), l85))
    else
      some (.inr (.inr s44))
noncomputable def F_raddleref37_Chart (p0 : api_Piece) : Option (api_Chart × Int) :=
  Option.bind (F_raddleref37_Check p0) fun r14 =>
  if r14 != 0 then
    some ((api_Chart.mk 0 ([] : (List api_Row))), 8)
  else
    Option.bind (idxO p0.Right 0) fun x19 =>
    Option.bind (idxO p0.Left 0) fun x24 =>
    Option.bind (α := List api_Row ⊕ (api_Chart × Int)) (
      Option.bind (whileO (raddleref37_Chart_l1 p0) (1, ([] : List api_Row))) fun z0 => match z0 with
        | .inl z =>
          some (.inr z)
        | .inr e50 =>
          some (.inl e50)) fun z0 => match z0 with
      | .inl o37 =>
        some ((api_Chart.mk (w64 (x19 - x24)) o37), 0)
      | .inr z =>
        some z
def c_raddleref37_Chart_val (r : (api_Chart × Int)) (x : Value) : Value := .tuple #[x, .int .i64 r.2]
def c_raddleref37_Chart_D (r : (api_Chart × Int)) (x : Value) : List Fact := [fRep r_api_Chart x r.1]
set_option maxHeartbeats 4000000 in
set_option maxRecDepth 100000 in
theorem c_raddleref37_Chart (E : Nat → Prop) (w0 : World) (p0 : api_Piece) (v0 : Value) (r : (api_Chart × Int)) (h : F_raddleref37_Chart p0 = some r) (S : St0 E [] w0 w0 [] [fRep r_api_Piece (v0) p0]) :
    Calls Try.prog 23 #[v0] w0 (Ret (X := Value) E [] w0 (c_raddleref37_Chart_val r) (fun _ => []) (c_raddleref37_Chart_D r)) := by
  unfold F_raddleref37_Chart at h
  obtain ⟨u1, u2, rfl, hu3, hu4⟩ := S.know (i := 0) (e := fRep r_api_Piece (v0) p0) rfl
  have S := S.learn (fRep (rL (rI .i64)) u1 p0.Left) hu3
  obtain ⟨ad5, cp6, _, rfl, _⟩ := hu3
  have S := S.learn (fRep (rL (rI .i64)) u2 p0.Right) hu4
  obtain ⟨ad7, cp8, _, rfl, _⟩ := hu4
  refine sEnter (args := [.agg #[.slice ad5 p0.Left.length cp6, .slice ad7 p0.Right.length cp8]]) 57 Try.func23 rfl rfl (by simp) S (fun a S => ?_)
  refine sSeq (fun K9 hK9 => ?_)
  refine sRegion ?_
  refine sBox (v := .agg #[.slice ad5 p0.Left.length cp6, .slice ad7 p0.Right.length cp8]) S (wN rfl) rfl rfl [.slice ad5 p0.Left.length cp6, .slice ad7 p0.Right.length cp8] rfl rfl (lb rfl) fun a b10 w S => ?_
  refine sAlloc (.agg #[iv 0, .slice none 0 0]) S (wN rfl) rfl rfl [iv 0, .slice none 0 0] rfl rfl (lb rfl) fun a b11 w S => ?_
  refine sMove (iv 0) S (wN rfl) (.inr rfl) rfl rfl (lb rfl) fun a S => ?_
  refine leafL (leafT (hK9 _ _ ?_))
  refine sSeq (fun K12 hK12 => ?_)
  refine sSeq (fun K13 hK13 => ?_)
  refine sRegion ?_
  refine sLoadN (p := b10) (off := 0) (T := 36) (vs := [.slice ad5 p0.Left.length cp6, .slice ad7 p0.Right.length cp8]) 1 [.slice ad5 p0.Left.length cp6, .slice ad7 p0.Right.length cp8] S (wN rfl) rfl rfl rfl rfl rfl rfl rfl (lb rfl) fun a S => ?_
  obtain ⟨r14, hx15, h⟩ := bindSome h
  have S1 := S.mem
  refine sCallQ (X := Unit) (f := 18) (vs := [.agg #[.slice ad5 p0.Left.length cp6, .slice ad7 p0.Right.length cp8]]) (val := fun _ => iv r14) S (wN rfl) rfl callee18 rfl (S1.quiet [2] rfl) (fun E1 w1 S1 => c_raddleref37_Check E1 w1 p0 (.agg #[.slice ad5 p0.Left.length cp6, .slice ad7 p0.Right.length cp8]) r14 hx15 S1) rfl (lb rfl) fun _ a w S => ?_
  refine sBin (.bool (r14 != 0)) S (wN rfl) rfl rfl rfl (bNe _ _ _ _ .i64 r14 0) rfl (lb rfl) fun a S => ?_
  refine leafL (leafT (hK13 _ _ ?_))
  rcases iteSome h with ⟨hc16, h⟩ | ⟨hc16, h⟩
  · refine sCondT S rfl hc16 ?_
    refine sSeq (fun K17 hK17 => ?_)
    refine sRegion ?_
    refine sBuild [] [iv 0, .slice none 0 0] S (wN rfl) rfl rfl rfl rfl (lb rfl) fun a S => ?_
    refine sStore (p := b11) (off := 0) (T := 58) (vs := [iv 0, .slice none 0 0]) (v := .agg #[iv 0, .slice none 0 0]) 0 [iv 0, .slice none 0 0] S (wN rfl) rfl rfl rfl rfl rfl rfl rfl (by simp) rfl fun a w S => ?_
    refine sMove (iv 8) S (wN rfl) (.inr rfl) rfl rfl (lb rfl) fun a S => ?_
    refine leafL (leafT (hK17 _ _ ?_))
    obtain rfl := Option.some.inj h
    have S := S.learn (fRep (rL r_api_Row) (.slice none 0 0) ([] : (List api_Row))) (rL_nil _ _ _)
    have S := S.learn (fRep r_api_Chart (.agg #[iv 0, .slice none 0 0]) (api_Chart.mk 0 ([] : (List api_Row)))) ⟨_, rfl, S.mem.know (i := 0) (e := fRep (rL r_api_Row) (.slice none 0 0) ([] : (List api_Row))) rfl⟩
    exact wp_ret (rThen (sRet (.tuple #[.agg #[iv 0, .slice none 0 0], iv 8]) S (rsl2 rfl (rvN (c := 2) (t := 58) (T := 58) (p := b11) 0 [iv 0, .slice none 0 0] S rfl rfl rfl rfl) (rvT (t := 3) (v := iv 8) S rfl)) ⟨(.agg #[iv 0, .slice none 0 0]), rfl, S.mem.sel [] [0] (by decide) rfl rfl⟩))
  refine sCondF S rfl hc16 ?_
  refine wp_skip (leafT (hK12 _ _ ?_))
  refine sSeq (fun K18 hK18 => ?_)
  obtain ⟨x19, hx20, h⟩ := bindSome h
  obtain ⟨x24, hx25, h⟩ := bindSome h
  obtain ⟨q30, hq31, S⟩ := pIdx (P := Try.prog) (r := (rI .i64)) (v := .slice ad7 p0.Right.length cp8) (xs := p0.Right) (j := 0) 34 3 0 S Try.underlying34 rfl rfl hx20
  obtain ⟨u32, S⟩ := pLoad (r := (rI .i64)) (q := q30) (x := x19) 0 S rfl
  obtain rfl : u32 = iv x19 := S.mem.know (i := 1) (e := fRep (rI .i64) (u32) x19) rfl
  obtain ⟨q33, hq34, S⟩ := pIdx (P := Try.prog) (r := (rI .i64)) (v := .slice ad5 p0.Left.length cp6) (xs := p0.Left) (j := 0) 34 3 4 S Try.underlying34 rfl rfl hx25
  obtain ⟨u35, S⟩ := pLoad (r := (rI .i64)) (q := q33) (x := x24) 0 S rfl
  obtain rfl : u35 = iv x24 := S.mem.know (i := 1) (e := fRep (rI .i64) (u35) x24) rfl
  refine sDraw (nf := [10, 11]) (W := [(0, 12, .pointer (some ⟨b10, 1, none⟩)), (1, 13, .slice ad7 p0.Right.length cp8), (2, 14, q30), (3, 15, iv x19), (4, 16, .pointer (some ⟨b10, 0, none⟩)), (5, 17, .slice ad5 p0.Left.length cp6), (6, 18, q33), (7, 19, iv x24), (8, 20, iv (w64 (x19 - x24))), (9, 21, .agg #[iv (w64 (x19 - x24)), .slice none 0 0])]) rfl S ?_
  refine node_by (A := anc_raddleref37_Chart_0) (nf := [10, 11]) (Y := []) (W := [(0, 12, .pointer (some ⟨b10, 1, none⟩)), (1, 13, .slice ad7 p0.Right.length cp8), (2, 14, q30), (3, 15, iv x19), (4, 16, .pointer (some ⟨b10, 0, none⟩)), (5, 17, .slice ad5 p0.Left.length cp6), (6, 18, q33), (7, 19, iv x24), (8, 20, iv (w64 (x19 - x24))), (9, 21, .agg #[iv (w64 (x19 - x24)), .slice none 0 0])]) 12 (by kernel_rfl) (by kernel_rfl) (by kernel_rfl) (by kernel_rfl) (by kernel_rfl) [0, 1, 2, 3, 4, 5, 6, 7, 8, 9] (by kernel_rfl) (by decide) (by decide) (aF 0 11 (by decide) ?_ (aF 1 10 (by decide) ?_ (aF 2 9 (by decide) ?_ (aF 3 8 (by decide) ?_ (aF 4 7 (by decide) ?_ (aF 5 6 (by decide) ?_ (aF 6 5 (by decide) ?_ (aF 7 4 (by decide) ?_ (aF 8 3 (by decide) ?_ (aF 9 2 (by decide) ?_ (aN 10 1 (by decide) ?_ (aB 11 0 10 (by decide) (trivial))))))))))))) [] (fun q hq => by cases hq) (fun hY => absurd (hY 10 (by decide)) (by decide))
  · refine fI 12 (.pointer (some ⟨b10, 1, none⟩)) [(1, .pointer (some ⟨b10, 0, none⟩))] 0 [none] rfl rfl rfl rfl rfl rfl fun G a w S => ?_
    refine sField (b := b10) (off := 0) 1 1 S (wN rfl) rfl rfl rfl rfl rfl (lb rfl) fun a S => ?_
    exact leafL ⟨rfl, S⟩
  · refine fI 13 (.slice ad7 p0.Right.length cp8) [(12, .pointer (some ⟨b10, 1, none⟩))] 1 [some 0] rfl rfl rfl rfl rfl rfl fun G a w S => ?_
    refine sLoad1 (p := b10) (off := 1) (T := 36) (vs := [.slice ad5 p0.Left.length cp6, .slice ad7 p0.Right.length cp8]) 1 (.slice ad7 p0.Right.length cp8) S (wN rfl) rfl rfl rfl rfl rfl rfl (lb rfl) fun a S => ?_
    exact leafL ⟨rfl, S⟩
  · refine fI 14 q30 [(13, .slice ad7 p0.Right.length cp8)] 2 [some 1] rfl rfl rfl rfl rfl rfl fun G a w S => ?_
    refine sIdxV (v := .slice ad7 p0.Right.length cp8) (k := .i64) (j := 0) S (wN rfl) rfl rfl rfl hq31 rfl (lb rfl) fun a S => ?_
    exact leafL ⟨rfl, S⟩
  · refine fI 15 (iv x19) [(14, q30)] 3 [some 2] rfl rfl rfl rfl rfl rfl fun G a w S => ?_
    refine sLoadV1 (vq := q30) 3 (iv x19) S (wN rfl) rfl rfl rfl rfl rfl (lb rfl) fun a S => ?_
    exact leafL ⟨rfl, S⟩
  · refine fI 16 (.pointer (some ⟨b10, 0, none⟩)) [(1, .pointer (some ⟨b10, 0, none⟩))] 4 [none] rfl rfl rfl rfl rfl rfl fun G a w S => ?_
    refine sField (b := b10) (off := 0) 0 0 S (wN rfl) rfl rfl rfl rfl rfl (lb rfl) fun a S => ?_
    exact leafL ⟨rfl, S⟩
  · refine fI 17 (.slice ad5 p0.Left.length cp6) [(16, .pointer (some ⟨b10, 0, none⟩))] 5 [some 4] rfl rfl rfl rfl rfl rfl fun G a w S => ?_
    refine sLoad1 (p := b10) (off := 0) (T := 36) (vs := [.slice ad5 p0.Left.length cp6, .slice ad7 p0.Right.length cp8]) 1 (.slice ad5 p0.Left.length cp6) S (wN rfl) rfl rfl rfl rfl rfl rfl (lb rfl) fun a S => ?_
    exact leafL ⟨rfl, S⟩
  · refine fI 18 q33 [(17, .slice ad5 p0.Left.length cp6)] 6 [some 5] rfl rfl rfl rfl rfl rfl fun G a w S => ?_
    refine sIdxV (v := .slice ad5 p0.Left.length cp6) (k := .i64) (j := 0) S (wN rfl) rfl rfl rfl hq34 rfl (lb rfl) fun a S => ?_
    exact leafL ⟨rfl, S⟩
  · refine fI 19 (iv x24) [(18, q33)] 7 [some 6] rfl rfl rfl rfl rfl rfl fun G a w S => ?_
    refine sLoadV1 (vq := q33) 0 (iv x24) S (wN rfl) rfl rfl rfl rfl rfl (lb rfl) fun a S => ?_
    exact leafL ⟨rfl, S⟩
  · refine fI 20 (iv (w64 (x19 - x24))) [(15, iv x19), (19, iv x24)] 8 [some 3, some 7] rfl rfl rfl rfl rfl rfl fun G a w S => ?_
    refine sBin (iv (w64 (x19 - x24))) S (wN rfl) rfl rfl rfl (bSub _ _ _ _ x19 x24) rfl (lb rfl) fun a S => ?_
    exact leafL ⟨rfl, S⟩
  · refine fI 21 (.agg #[iv (w64 (x19 - x24)), .slice none 0 0]) [(20, iv (w64 (x19 - x24)))] 9 [some 8] rfl rfl rfl rfl rfl rfl fun G a w S => ?_
    refine sBuild [(0, iv (w64 (x19 - x24)))] [iv (w64 (x19 - x24)), .slice none 0 0] S (wN rfl) rfl rfl rfl rfl (lb rfl) fun a S => ?_
    exact leafL ⟨rfl, S⟩
  refine ⟨_, [], rfl, (srcs_of [] rfl rfl rfl), fun G a w S => ?_⟩
  refine sAlloc (.agg #[iv 0, .slice none 0 0]) S (wN rfl) rfl rfl [iv 0, .slice none 0 0] rfl rfl (lb rfl) fun a b36 w S => ?_
  refine leafL ⟨rfl, _, _, .inl ⟨4, (.pointer (some ⟨b36, 0, none⟩)), [], rfl, S, hz_of rfl, ?_⟩⟩
  refine node_by (A := anc_raddleref37_Chart_0) (nf := [10, 11]) (Y := [10]) 12 (by kernel_rfl) (by kernel_rfl) (by kernel_rfl) (by kernel_rfl) (by kernel_rfl) [10, 0, 1, 2, 3, 4, 5, 6, 7, 8, 9] (by kernel_rfl) (by decide) (by decide) (aF 0 11 (by decide) ?_ (aF 1 10 (by decide) ?_ (aF 2 9 (by decide) ?_ (aF 3 8 (by decide) ?_ (aF 4 7 (by decide) ?_ (aF 5 6 (by decide) ?_ (aF 6 5 (by decide) ?_ (aF 7 4 (by decide) ?_ (aF 8 3 (by decide) ?_ (aF 9 2 (by decide) ?_ (aY 10 1 (by decide) (aN 11 0 (by decide) ?_ (trivial))))))))))))) [] (fun q hq => by cases hq) (fun hY => absurd (hY 11 (by decide)) (by decide))
  · refine fI 12 (.pointer (some ⟨b10, 1, none⟩)) [(1, .pointer (some ⟨b10, 0, none⟩))] 1 [none] rfl rfl rfl rfl rfl rfl fun G a w S => ?_
    refine sField (b := b10) (off := 0) 1 1 S (wN rfl) rfl rfl rfl rfl rfl (lb rfl) fun a S => ?_
    exact leafL ⟨rfl, S⟩
  · refine fI 13 (.slice ad7 p0.Right.length cp8) [(12, .pointer (some ⟨b10, 1, none⟩))] 2 [some 1] rfl rfl rfl rfl rfl rfl fun G a w S => ?_
    refine sLoad1 (p := b10) (off := 1) (T := 36) (vs := [.slice ad5 p0.Left.length cp6, .slice ad7 p0.Right.length cp8]) 2 (.slice ad7 p0.Right.length cp8) S (wN rfl) rfl rfl rfl rfl rfl rfl (lb rfl) fun a S => ?_
    exact leafL ⟨rfl, S⟩
  · refine fI 14 q30 [(13, .slice ad7 p0.Right.length cp8)] 3 [some 2] rfl rfl rfl rfl rfl rfl fun G a w S => ?_
    refine sIdxV (v := .slice ad7 p0.Right.length cp8) (k := .i64) (j := 0) S (wN rfl) rfl rfl rfl hq31 rfl (lb rfl) fun a S => ?_
    exact leafL ⟨rfl, S⟩
  · refine fI 15 (iv x19) [(14, q30)] 4 [some 3] rfl rfl rfl rfl rfl rfl fun G a w S => ?_
    refine sLoadV1 (vq := q30) 3 (iv x19) S (wN rfl) rfl rfl rfl rfl rfl (lb rfl) fun a S => ?_
    exact leafL ⟨rfl, S⟩
  · refine fI 16 (.pointer (some ⟨b10, 0, none⟩)) [(1, .pointer (some ⟨b10, 0, none⟩))] 5 [none] rfl rfl rfl rfl rfl rfl fun G a w S => ?_
    refine sField (b := b10) (off := 0) 0 0 S (wN rfl) rfl rfl rfl rfl rfl (lb rfl) fun a S => ?_
    exact leafL ⟨rfl, S⟩
  · refine fI 17 (.slice ad5 p0.Left.length cp6) [(16, .pointer (some ⟨b10, 0, none⟩))] 6 [some 5] rfl rfl rfl rfl rfl rfl fun G a w S => ?_
    refine sLoad1 (p := b10) (off := 0) (T := 36) (vs := [.slice ad5 p0.Left.length cp6, .slice ad7 p0.Right.length cp8]) 2 (.slice ad5 p0.Left.length cp6) S (wN rfl) rfl rfl rfl rfl rfl rfl (lb rfl) fun a S => ?_
    exact leafL ⟨rfl, S⟩
  · refine fI 18 q33 [(17, .slice ad5 p0.Left.length cp6)] 7 [some 6] rfl rfl rfl rfl rfl rfl fun G a w S => ?_
    refine sIdxV (v := .slice ad5 p0.Left.length cp6) (k := .i64) (j := 0) S (wN rfl) rfl rfl rfl hq34 rfl (lb rfl) fun a S => ?_
    exact leafL ⟨rfl, S⟩
  · refine fI 19 (iv x24) [(18, q33)] 8 [some 7] rfl rfl rfl rfl rfl rfl fun G a w S => ?_
    refine sLoadV1 (vq := q33) 0 (iv x24) S (wN rfl) rfl rfl rfl rfl rfl (lb rfl) fun a S => ?_
    exact leafL ⟨rfl, S⟩
  · refine fI 20 (iv (w64 (x19 - x24))) [(15, iv x19), (19, iv x24)] 9 [some 4, some 8] rfl rfl rfl rfl rfl rfl fun G a w S => ?_
    refine sBin (iv (w64 (x19 - x24))) S (wN rfl) rfl rfl rfl (bSub _ _ _ _ x19 x24) rfl (lb rfl) fun a S => ?_
    exact leafL ⟨rfl, S⟩
  · refine fI 21 (.agg #[iv (w64 (x19 - x24)), .slice none 0 0]) [(20, iv (w64 (x19 - x24)))] 10 [some 9] rfl rfl rfl rfl rfl rfl fun G a w S => ?_
    refine sBuild [(0, iv (w64 (x19 - x24)))] [iv (w64 (x19 - x24)), .slice none 0 0] S (wN rfl) rfl rfl rfl rfl (lb rfl) fun a S => ?_
    exact leafL ⟨rfl, S⟩
  refine ⟨_, [(4, .pointer (some ⟨b36, 0, none⟩)), (21, .agg #[iv (w64 (x19 - x24)), .slice none 0 0])], rfl, (srcs_of [some 0, some 10] rfl rfl rfl), fun G a w S => ?_⟩
  refine sStore (p := b36) (off := 0) (T := 58) (vs := [iv 0, .slice none 0 0]) (v := .agg #[iv (w64 (x19 - x24)), .slice none 0 0]) 0 [iv (w64 (x19 - x24)), .slice none 0 0] S (wN rfl) rfl rfl rfl rfl rfl rfl rfl (by simp) rfl fun a w S => ?_
  refine leafL ⟨rfl, _, _, .inr ⟨[], rfl, S, hz_of rfl, ?_⟩⟩
  refine node_by (A := anc_raddleref37_Chart_0) (nf := [10, 11]) (Y := [11, 10]) 12 (by kernel_rfl) (by kernel_rfl) (by kernel_rfl) (by kernel_rfl) (by kernel_rfl) [10, 0, 1, 2, 3, 4, 5, 6, 7, 8, 9] (by kernel_rfl) (by decide) (by decide) (aD 0 11 11 (by decide) (aD 1 10 11 (by decide) (aD 2 9 11 (by decide) (aD 3 8 11 (by decide) (aD 4 7 11 (by decide) (aD 5 6 11 (by decide) (aD 6 5 11 (by decide) (aD 7 4 11 (by decide) (aD 8 3 11 (by decide) (aD 9 2 11 (by decide) (aY 10 1 (by decide) (aY 11 0 (by decide) (trivial))))))))))))) [(1, .pointer (some ⟨b10, 0, none⟩)), (2, .pointer (some ⟨b11, 0, none⟩)), (4, .pointer (some ⟨b36, 0, none⟩))] (fin_of [none, none, some 0] rfl (by kernel_rfl) (by kernel_rfl)) (fun _ a w S => ?_)
  refine leafT (hK18 _ _ ?_)
  obtain ⟨t40, h, g41⟩ := bindSome h
  refine sCut (fun a w => ∃ o37, .inl o37 = t40 ∧ ∃ ad38, ∃ cp39, St [] E [] w0 57 a w [(2, .pointer (some ⟨b11, 0, none⟩)), (4, .pointer (some ⟨b36, 0, none⟩))] [eBox b11 58 [iv 0, .slice none 0 0], eBox b36 58 [iv (w64 (x19 - x24)), .slice ad38 o37.length cp39], eRow r_api_Row 80 (.slice ad38 o37.length cp39) o37] []) ?_ (fun a w hI => ?_)
  rotate_left
  · obtain ⟨o37, rfl, ad38, cp39, S⟩ := hI
    have h := g41
    clear g41
    try dsimp only at h
    refine sSeq (fun K89 hK89 => ?_)
    refine sRegion ?_
    refine sLoadN (p := b36) (off := 0) (T := 58) (vs := [iv (w64 (x19 - x24)), .slice ad38 o37.length cp39]) 1 [iv (w64 (x19 - x24)), .slice ad38 o37.length cp39] S (wN rfl) rfl rfl rfl rfl rfl rfl rfl (lb rfl) fun a S => ?_
    refine sStore (p := b11) (off := 0) (T := 58) (vs := [iv 0, .slice none 0 0]) (v := .agg #[iv (w64 (x19 - x24)), .slice ad38 o37.length cp39]) 0 [iv (w64 (x19 - x24)), .slice ad38 o37.length cp39] S (wN rfl) rfl rfl rfl rfl rfl rfl rfl (by simp) rfl fun a w S => ?_
    refine sMove (iv 0) S (wN rfl) (.inr rfl) rfl rfl (lb rfl) fun a S => ?_
    refine leafL (leafT (hK89 _ _ ?_))
    obtain rfl := Option.some.inj h
    have S := S.shutR (r := r_api_Row) (T := 80) (v := .slice ad38 o37.length cp39) (xs := o37) 2 rfl
    have S := S.learn (fRep r_api_Chart (.agg #[iv (w64 (x19 - x24)), .slice ad38 o37.length cp39]) (api_Chart.mk (w64 (x19 - x24)) o37)) ⟨_, rfl, S.mem.know (i := 0) (e := fRep (rL r_api_Row) (.slice ad38 o37.length cp39) o37) rfl⟩
    exact wp_ret (sRet (.tuple #[.agg #[iv (w64 (x19 - x24)), .slice ad38 o37.length cp39], iv 0]) S (rsl2 rfl (rvN (c := 2) (t := 58) (T := 58) (p := b11) 0 [iv (w64 (x19 - x24)), .slice ad38 o37.length cp39] S rfl rfl rfl rfl) (rvT (t := 3) (v := iv 0) S rfl)) ⟨(.agg #[iv (w64 (x19 - x24)), .slice ad38 o37.length cp39]), rfl, S.mem.sel [] [0] (by decide) rfl rfl⟩)
  refine sSeq (fun K42 hK42 => ?_)
  refine sRegion ?_
  refine sMove (iv 1) S (wN rfl) (.inr rfl) rfl rfl (lb rfl) fun a S => ?_
  refine leafL (leafT (hK42 _ _ ?_))
  refine wp_block ?_
  have S := S.nilRow r_api_Row 80 (α := api_Row)
  obtain ⟨t49, hl, g48⟩ := bindSome h
  refine sLoop hl (fun s0 a w => match s0 with | (s43, s44) => ∃ ad45, ∃ cp46, St [] E [] w0 57 a w [(1, .pointer (some ⟨b10, 0, none⟩)), (2, .pointer (some ⟨b11, 0, none⟩)), (4, .pointer (some ⟨b36, 0, none⟩)), (5, iv s43)] [eBox b10 36 [.slice ad5 p0.Left.length cp6, .slice ad7 p0.Right.length cp8], eBox b11 58 [iv 0, .slice none 0 0], eBox b36 58 [iv (w64 (x19 - x24)), .slice ad45 s44.length cp46], eRow r_api_Row 80 (.slice ad45 s44.length cp46) s44] [fRep (rL (rI .i64)) (.slice ad5 p0.Left.length cp6) p0.Left, fRep (rL (rI .i64)) (.slice ad7 p0.Right.length cp8) p0.Right]) ⟨none, 0, S.fix [3, 2, 1, 0] [7, 6] (by decide) rfl rfl rfl⟩ ?_
  clear hl h
  intro s0 a w c0 hI h hu47
  obtain ⟨s43, s44⟩ := s0
  unfold raddleref37_Chart_l1 at h
  dsimp only at h hI
  obtain ⟨ad45, cp46, S⟩ := hI
  refine sSeq (fun K53 hK53 => ?_)
  refine sSeq (fun K54 hK54 => ?_)
  refine sRegion ?_
  refine sMove (iv s43) S (wN rfl) (.inl rfl) rfl rfl (lb rfl) fun a S => ?_
  refine sField (b := b10) (off := 0) 0 0 S (wN rfl) rfl rfl rfl rfl rfl (lb rfl) fun a S => ?_
  refine sLoad1 (p := b10) (off := 0) (T := 36) (vs := [.slice ad5 p0.Left.length cp6, .slice ad7 p0.Right.length cp8]) 0 (.slice ad5 p0.Left.length cp6) S (wN rfl) rfl rfl rfl rfl rfl rfl (lb rfl) fun a S => ?_
  refine sLen (ad := ad5) (m := p0.Left.length) (c := cp6) S (wN rfl) rfl Try.underlying34 rfl rfl (lb rfl) fun a S => ?_
  refine sBin (.bool (decide (s43 < (p0.Left.length : Int)))) S (wN rfl) rfl rfl rfl (bLt _ _ _ _ .i64 s43 (p0.Left.length : Int)) rfl (lb rfl) fun a S => ?_
  refine leafL (leafT (hK54 _ _ ?_))
  rcases iteSome h with ⟨hc55, h⟩ | ⟨hc55, h⟩
  rotate_left
  · refine sCondF S rfl hc55 ?_
    obtain rfl := Option.some.inj h
    obtain rfl := hu47 _ rfl
    have h := g48
    clear g48
    try dsimp only at h
    exact wp_exit (xThen (xThen (xHit (leafT (⟨s44, Option.some.inj h, ad45, cp46, S.fix [1, 2, 3] [] (by decide) rfl rfl rfl⟩)))))
  refine sCondT S rfl hc55 ?_
  refine wp_skip (leafT (hK53 _ _ ?_))
  refine sSeq (fun K56 hK56 => ?_)
  refine wp_block ?_
  refine sSeq (fun K57 hK57 => ?_)
  refine sRegion ?_
  refine sLoadN (p := b10) (off := 0) (T := 36) (vs := [.slice ad5 p0.Left.length cp6, .slice ad7 p0.Right.length cp8]) 0 [.slice ad5 p0.Left.length cp6, .slice ad7 p0.Right.length cp8] S (wN rfl) rfl rfl rfl rfl rfl rfl rfl (lb rfl) fun a S => ?_
  refine sMove (iv s43) S (wN rfl) (.inl rfl) rfl rfl (lb rfl) fun a S => ?_
  obtain ⟨r58, hx59, h⟩ := bindSome h
  have S := S.learn (fRep r_api_Piece (.agg #[.slice ad5 p0.Left.length cp6, .slice ad7 p0.Right.length cp8]) p0) ⟨_, _, rfl, S.mem.know (i := 0) (e := fRep (rL (rI .i64)) (.slice ad5 p0.Left.length cp6) p0.Left) rfl, S.mem.know (i := 1) (e := fRep (rL (rI .i64)) (.slice ad7 p0.Right.length cp8) p0.Right) rfl⟩
  refine sCall (X := Value) (f := 37) (vs := [.agg #[.slice ad5 p0.Left.length cp6, .slice ad7 p0.Right.length cp8], iv s43]) (val := c_raddleref37_front_val r58) (B' := fun _ => []) (D' := c_raddleref37_front_D r58) [] [eBox b10 36 [.slice ad5 p0.Left.length cp6, .slice ad7 p0.Right.length cp8], eBox b11 58 [iv 0, .slice none 0 0], eBox b36 58 [iv (w64 (x19 - x24)), .slice ad45 s44.length cp46], eRow r_api_Row 80 (.slice ad45 s44.length cp46) s44] [fRep r_api_Piece (.agg #[.slice ad5 p0.Left.length cp6, .slice ad7 p0.Right.length cp8]) p0] [0, 1, 2, 3] [0] S (wN rfl) rfl callee37 rfl (by decide) rfl rfl (fun E1 w1 S1 => c_raddleref37_front E1 w1 p0 (.agg #[.slice ad5 p0.Left.length cp6, .slice ad7 p0.Right.length cp8]) s43 r58 hx59 S1) rfl (lb rfl) fun u60 a w S => ?_
  obtain ⟨ad61, cp62, _, rfl, _⟩ := S.mem.know (i := 0) (e := fRep (rL r_api_Stitch) (u60) r58.1) rfl
  refine sMove (.tuple #[.slice ad61 r58.1.length cp62, .bool r58.2]) S (wN rfl) (.inl rfl) rfl rfl (lb rfl) fun a S => ?_
  refine sExtract (vs := [.slice ad61 r58.1.length cp62, .bool r58.2]) (.slice ad61 r58.1.length cp62) S (wN rfl) rfl rfl rfl rfl (lb rfl) fun a S => ?_
  refine sExtract (vs := [.slice ad61 r58.1.length cp62, .bool r58.2]) (.bool r58.2) S (wN rfl) rfl rfl rfl rfl (lb rfl) fun a S => ?_
  refine sMove (.slice ad61 r58.1.length cp62) S (wN rfl) (.inr rfl) rfl rfl (lb rfl) fun a S => ?_
  refine sMove (.bool r58.2) S (wN rfl) (.inr rfl) rfl rfl (lb rfl) fun a S => ?_
  refine leafL (leafT (hK57 _ _ ?_))
  refine sSeq (fun K63 hK63 => ?_)
  refine sSeq (fun K64 hK64 => ?_)
  refine sRegion ?_
  refine sMove (.bool r58.2) S (wN rfl) (.inl rfl) rfl rfl (lb rfl) fun a S => ?_
  refine sNot (b := r58.2) S (wN rfl) rfl rfl rfl (lb rfl) fun a S => ?_
  refine leafL (leafT (hK64 _ _ ?_))
  rcases iteSome h with ⟨hc65, h⟩ | ⟨hc65, h⟩
  · refine sCondT S rfl hc65 ?_
    refine sSeq (fun K66 hK66 => ?_)
    refine sRegion ?_
    refine sBuild [] [iv 0, .slice none 0 0] S (wN rfl) rfl rfl rfl rfl (lb rfl) fun a S => ?_
    refine sStore (p := b11) (off := 0) (T := 58) (vs := [iv 0, .slice none 0 0]) (v := .agg #[iv 0, .slice none 0 0]) 1 [iv 0, .slice none 0 0] S (wN rfl) rfl rfl rfl rfl rfl rfl rfl (by simp) rfl fun a w S => ?_
    refine sMove (iv 22) S (wN rfl) (.inr rfl) rfl rfl (lb rfl) fun a S => ?_
    refine leafL (leafT (hK66 _ _ ?_))
    obtain rfl := Option.some.inj h
    obtain rfl := hu47 _ rfl
    have h := g48
    clear g48
    try dsimp only at h
    obtain rfl := Option.some.inj h
    have h := g41
    clear g41
    try dsimp only at h
    obtain rfl := Option.some.inj h
    have S := S.learn (fRep (rL r_api_Row) (.slice none 0 0) ([] : (List api_Row))) (rL_nil _ _ _)
    have S := S.learn (fRep r_api_Chart (.agg #[iv 0, .slice none 0 0]) (api_Chart.mk 0 ([] : (List api_Row)))) ⟨_, rfl, S.mem.know (i := 0) (e := fRep (rL r_api_Row) (.slice none 0 0) ([] : (List api_Row))) rfl⟩
    exact wp_ret (rThen (rBlock (rThen (rThen (rBlock (rThen (sRet (.tuple #[.agg #[iv 0, .slice none 0 0], iv 22]) S (rsl2 rfl (rvN (c := 2) (t := 58) (T := 58) (p := b11) 0 [iv 0, .slice none 0 0] S rfl rfl rfl rfl) (rvT (t := 3) (v := iv 22) S rfl)) ⟨(.agg #[iv 0, .slice none 0 0]), rfl, S.mem.sel [] [0] (by decide) rfl rfl⟩)))))))
  refine sCondF S rfl hc65 ?_
  refine wp_skip (leafT (hK63 _ _ ?_))
  obtain ⟨t70, h, g71⟩ := bindSome h
  refine sCut (fun a w => ∃ o67, o67 = t70 ∧ ∃ ad68, ∃ cp69, St [] E [] w0 57 a w [(1, .pointer (some ⟨b10, 0, none⟩)), (2, .pointer (some ⟨b11, 0, none⟩)), (4, .pointer (some ⟨b36, 0, none⟩)), (5, iv s43), (6, .slice ad68 o67.length cp69)] [eBox b10 36 [.slice ad5 p0.Left.length cp6, .slice ad7 p0.Right.length cp8], eBox b11 58 [iv 0, .slice none 0 0], eBox b36 58 [iv (w64 (x19 - x24)), .slice ad45 s44.length cp46], eRow r_api_Row 80 (.slice ad45 s44.length cp46) s44] [fRep (rL r_api_Stitch) (.slice ad68 o67.length cp69) o67, fRep (rL (rI .i64)) (.slice ad5 p0.Left.length cp6) p0.Left, fRep (rL (rI .i64)) (.slice ad7 p0.Right.length cp8) p0.Right]) ?_ (fun a w hI => ?_)
  · refine sSeq (fun K72 hK72 => ?_)
    refine sRegion ?_
    refine sMove (iv s43) S (wN rfl) (.inl rfl) rfl rfl (lb rfl) fun a S => ?_
    obtain ⟨z73, hx74, h⟩ := bindSome h
    refine sBin (iv z73) S (wN rfl) rfl rfl rfl (bRem _ _ _ _ (x := s43) (y := 2) hx74) rfl (lb rfl) fun a S => ?_
    refine sBin (.bool (z73 == 1)) S (wN rfl) rfl rfl rfl (bEq _ _ _ _ .i64 z73 1) rfl (lb rfl) fun a S => ?_
    refine leafL (leafT (hK72 _ _ ?_))
    rcases iteSome h with ⟨hc75, h⟩ | ⟨hc75, h⟩
    rotate_left
    · refine sCondF S rfl hc75 ?_
      exact wp_skip (leafT (⟨r58.1, Option.some.inj h, ad61, cp62, S.fix [0, 1, 2, 3] [0, 2, 3] (by decide) rfl rfl rfl⟩))
    refine sCondT S rfl hc75 ?_
    refine sRegion ?_
    refine sMove (.slice ad61 r58.1.length cp62) S (wN rfl) (.inl rfl) rfl rfl (lb rfl) fun a S => ?_
    obtain ⟨r76, hx77, h⟩ := bindSome h
    refine sCall (X := Value) (f := 38) (vs := [.slice ad61 r58.1.length cp62]) (val := c_raddleref25_Turn_val r76) (B' := fun _ => []) (D' := c_raddleref25_Turn_D r76) [] [eBox b10 36 [.slice ad5 p0.Left.length cp6, .slice ad7 p0.Right.length cp8], eBox b11 58 [iv 0, .slice none 0 0], eBox b36 58 [iv (w64 (x19 - x24)), .slice ad45 s44.length cp46], eRow r_api_Row 80 (.slice ad45 s44.length cp46) s44] [fRep (rL r_api_Stitch) (.slice ad61 r58.1.length cp62) r58.1] [0, 1, 2, 3] [0] S (wN rfl) rfl callee38 rfl (by decide) rfl rfl (fun E1 w1 S1 => c_raddleref25_Turn E1 w1 r58.1 (.slice ad61 r58.1.length cp62) r76 hx77 S1) rfl (lb rfl) fun u78 a w S => ?_
    obtain ⟨ad79, cp80, _, rfl, _⟩ := S.mem.know (i := 0) (e := fRep (rL r_api_Stitch) (u78) r76.1) rfl
    refine sMove (.tuple #[.slice ad79 r76.1.length cp80, iv r76.2]) S (wN rfl) (.inl rfl) rfl rfl (lb rfl) fun a S => ?_
    refine sExtract (vs := [.slice ad79 r76.1.length cp80, iv r76.2]) (.slice ad79 r76.1.length cp80) S (wN rfl) rfl rfl rfl rfl (lb rfl) fun a S => ?_
    refine sExtract (vs := [.slice ad79 r76.1.length cp80, iv r76.2]) (iv r76.2) S (wN rfl) rfl rfl rfl rfl (lb rfl) fun a S => ?_
    refine sMove (.slice ad79 r76.1.length cp80) S (wN rfl) (.inr rfl) rfl rfl (lb rfl) fun a S => ?_
    exact leafL (leafT (⟨r76.1, Option.some.inj h, ad79, cp80, S.fix [0, 1, 2, 3] [0, 3, 4] (by decide) rfl rfl rfl⟩))
  obtain ⟨o67, rfl, ad68, cp69, S⟩ := hI
  have h := g71
  clear g71
  try dsimp only at h
  refine sRegion ?_
  refine sField (b := b36) (off := 0) 1 1 S (wN rfl) rfl rfl rfl rfl rfl (lb rfl) fun a S => ?_
  refine sLoad1 (p := b36) (off := 1) (T := 58) (vs := [iv (w64 (x19 - x24)), .slice ad45 s44.length cp46]) 2 (.slice ad45 s44.length cp46) S (wN rfl) rfl rfl rfl rfl rfl rfl (lb rfl) fun a S => ?_
  refine sMove (iv s43) S (wN rfl) (.inl rfl) rfl rfl (lb rfl) fun a S => ?_
  obtain ⟨z81, hx82, h⟩ := bindSome h
  refine sBin (iv z81) S (wN rfl) rfl rfl rfl (bRem _ _ _ _ (x := s43) (y := 2) hx82) rfl (lb rfl) fun a S => ?_
  refine sBin (.bool (z81 == 1)) S (wN rfl) rfl rfl rfl (bEq _ _ _ _ .i64 z81 1) rfl (lb rfl) fun a S => ?_
  refine sMove (.slice ad68 o67.length cp69) S (wN rfl) (.inl rfl) rfl rfl (lb rfl) fun a S => ?_
  refine sBuild [(0, .bool (z81 == 1)), (1, .slice ad68 o67.length cp69)] [.bool (z81 == 1), .slice ad68 o67.length cp69] S (wN rfl) rfl rfl rfl rfl (lb rfl) fun a S => ?_
  have S := S.learn (fRep r_api_Row (.agg #[.bool (z81 == 1), .slice ad68 o67.length cp69]) (api_Row.mk (z81 == 1) o67)) ⟨_, rfl, S.mem.know (i := 0) (e := fRep (rL r_api_Stitch) (.slice ad68 o67.length cp69) o67) rfl⟩
  refine sLit (r := r_api_Row) (T := 80) (xs := [(api_Row.mk (z81 == 1) o67)]) [(0, .agg #[.bool (z81 == 1), .slice ad68 o67.length cp69])] 1 [.agg #[.bool (z81 == 1), .slice ad68 o67.length cp69]] [.bool (z81 == 1), .slice ad68 o67.length cp69] (.agg #[.bool false, .slice none 0 0]) 32 S (wN rfl) rfl rfl Try.underlying56 rfl (by decide) (by decide) (by kernel_rfl) rfl (fun E1 w1 hE => All.cons (r_api_Row.mono hE (S.mem.know (i := 0) (e := fRep r_api_Row (.agg #[.bool (z81 == 1), .slice ad68 o67.length cp69]) (api_Row.mk (z81 == 1) o67)) rfl)) (All.nil _ _ _)) rfl rfl (lb rfl) fun a w ad83 cp84 S => ?_
  obtain ⟨l85, hx86, h⟩ := bindSome h
  refine sApp (r := r_api_Row) (T := 80) (xs := s44) (ys := [(api_Row.mk (z81 == 1) o67)]) (v := .slice ad45 s44.length cp46) (u := .slice ad83 [(api_Row.mk (z81 == 1) o67)].length cp84) 4 (.agg #[.bool false, .slice none 0 0]) 32 S (wN rfl) rfl Try.underlying56 rfl rfl (by decide) rfl rfl rfl (src_R (T := 80) 0 S.mem rfl) hx86 rfl (lb rfl) fun a w ad87 cp88 S => ?_
  refine sField (b := b36) (off := 0) 1 1 S (wN rfl) rfl rfl rfl rfl rfl (lb rfl) fun a S => ?_
  refine sStore (p := b36) (off := 1) (T := 58) (vs := [iv (w64 (x19 - x24)), .slice ad45 s44.length cp46]) (v := .slice ad87 l85.length cp88) 4 [.slice ad87 l85.length cp88] S (wN rfl) rfl rfl rfl rfl rfl rfl rfl (by simp) rfl fun a w S => ?_
  refine leafL (leafB (leafT (hK56 _ _ ?_)))
  refine sRegion ?_
  refine sMove (iv s43) S (wN rfl) (.inl rfl) rfl rfl (lb rfl) fun a S => ?_
  refine sBin (iv (w64 (s43 + 1))) S (wN rfl) rfl rfl rfl (bAdd _ _ _ _ s43 1) rfl (lb rfl) fun a S => ?_
  refine sMove (iv (w64 (s43 + 1))) S (wN rfl) (.inr rfl) rfl rfl (lb rfl) fun a S => ?_
  exact leafL (leafT (⟨(w64 (s43 + 1), l85), (Option.some.inj h).symm, ⟨ad87, cp88, S.fix [3, 4, 0, 1] [2, 3] (by decide) rfl rfl rfl⟩⟩))

end Go.Proofs.Ytmedbnjhgkcndaa
namespace Go.Proofs.Ytmedbnjhgkcndaa
open Go.RowKit
set_option linter.unusedVariables false

noncomputable def F_raddleref37_change (p0 : api_Stitch) : Option Int :=
  if p0.Kind == 5 then
    some (w64 (p0.A - 1))
  else
    if p0.Kind == 9 then
      some p0.A
    else
      Option.bind (α := Bool) (
        if p0.Kind == 3 then
          some (p0.Kind == 3)
        else
          some (p0.Kind == 4)) fun o11 =>
      if o11 then
        some (w64 (1 - p0.A))
      else
        if p0.Kind == 10 then
          some (w64 (0 - p0.A))
        else
          some 0
set_option maxHeartbeats 4000000 in
set_option maxRecDepth 100000 in
theorem c_raddleref37_change (E : Nat → Prop) (w0 : World) (p0 : api_Stitch) (v0 : Value) (r : Int) (h : F_raddleref37_change p0 = some r) (S : St0 E [] w0 w0 [] [fRep r_api_Stitch (v0) p0]) :
    Calls Try.prog 43 #[v0] w0 (Ret (X := Unit) E [] w0 (fun _ => .int .i64 r) (fun _ => []) (fun _ => [])) := by
  unfold F_raddleref37_change at h
  obtain rfl : v0 = .agg #[.int .u8 p0.Kind, .bool p0.Purl, iv p0.A, iv p0.B] := S.know (i := 0) (e := fRep r_api_Stitch (v0) p0) rfl
  refine sEnter (args := [.agg #[.int .u8 p0.Kind, .bool p0.Purl, iv p0.A, iv p0.B]]) 25 Try.func43 rfl rfl (by simp) S (fun a S => ?_)
  refine sSeq (fun K1 hK1 => ?_)
  refine sRegion ?_
  refine sBox (v := .agg #[.int .u8 p0.Kind, .bool p0.Purl, iv p0.A, iv p0.B]) S (wN rfl) rfl rfl [.int .u8 p0.Kind, .bool p0.Purl, iv p0.A, iv p0.B] rfl rfl (lb rfl) fun a b2 w S => ?_
  refine sMove (iv 0) S (wN rfl) (.inr rfl) rfl rfl (lb rfl) fun a S => ?_
  refine leafL (leafT (hK1 _ _ ?_))
  refine sSeq (fun K3 hK3 => ?_)
  refine sSeq (fun K4 hK4 => ?_)
  refine sRegion ?_
  refine sField (b := b2) (off := 0) 0 0 S (wN rfl) rfl rfl rfl rfl rfl (lb rfl) fun a S => ?_
  refine sLoad1 (p := b2) (off := 0) (T := 82) (vs := [.int .u8 p0.Kind, .bool p0.Purl, iv p0.A, iv p0.B]) 0 (.int .u8 p0.Kind) S (wN rfl) rfl rfl rfl rfl rfl rfl (lb rfl) fun a S => ?_
  refine leafL (leafT (hK4 _ _ ?_))
  refine wp_block ?_
  refine sSeq (fun K5 hK5 => ?_)
  refine sRegion ?_
  refine sBin (.bool (p0.Kind == 5)) S (wN rfl) rfl rfl rfl (bEq _ _ _ _ .u8 p0.Kind 5) rfl (lb rfl) fun a S => ?_
  refine sMove (.bool (p0.Kind == 5)) S (wN rfl) (.inr rfl) rfl rfl (lb rfl) fun a S => ?_
  refine leafL (leafT (hK5 _ _ ?_))
  rcases iteSome h with ⟨hc6, h⟩ | ⟨hc6, h⟩
  · refine sCondT S rfl hc6 ?_
    refine sSeq (fun K7 hK7 => ?_)
    refine sRegion ?_
    refine sField (b := b2) (off := 0) 2 2 S (wN rfl) rfl rfl rfl rfl rfl (lb rfl) fun a S => ?_
    refine sLoad1 (p := b2) (off := 2) (T := 82) (vs := [.int .u8 p0.Kind, .bool p0.Purl, iv p0.A, iv p0.B]) 0 (iv p0.A) S (wN rfl) rfl rfl rfl rfl rfl rfl (lb rfl) fun a S => ?_
    refine sBin (iv (w64 (p0.A - 1))) S (wN rfl) rfl rfl rfl (bSub _ _ _ _ p0.A 1) rfl (lb rfl) fun a S => ?_
    refine sMove (iv (w64 (p0.A - 1))) S (wN rfl) (.inr rfl) rfl rfl (lb rfl) fun a S => ?_
    refine leafL (leafT (hK7 _ _ ?_))
    obtain rfl := Option.some.inj h
    exact wp_ret (rBlock (rThen (sRet (iv (w64 (p0.A - 1))) S (rsl1 rfl (rvT (t := 2) (v := iv (w64 (p0.A - 1))) S rfl)) ⟨(), rfl, S.mem.sel [] [] (by decide) rfl rfl⟩)))
  refine sCondF S rfl hc6 ?_
  refine sSeq (fun K8 hK8 => ?_)
  refine sRegion ?_
  refine sBin (.bool (p0.Kind == 9)) S (wN rfl) rfl rfl rfl (bEq _ _ _ _ .u8 p0.Kind 9) rfl (lb rfl) fun a S => ?_
  refine sMove (.bool (p0.Kind == 9)) S (wN rfl) (.inr rfl) rfl rfl (lb rfl) fun a S => ?_
  refine leafL (leafT (hK8 _ _ ?_))
  rcases iteSome h with ⟨hc9, h⟩ | ⟨hc9, h⟩
  · refine sCondT S rfl hc9 ?_
    refine sSeq (fun K10 hK10 => ?_)
    refine sRegion ?_
    refine sField (b := b2) (off := 0) 2 2 S (wN rfl) rfl rfl rfl rfl rfl (lb rfl) fun a S => ?_
    refine sLoad1 (p := b2) (off := 2) (T := 82) (vs := [.int .u8 p0.Kind, .bool p0.Purl, iv p0.A, iv p0.B]) 0 (iv p0.A) S (wN rfl) rfl rfl rfl rfl rfl rfl (lb rfl) fun a S => ?_
    refine sMove (iv p0.A) S (wN rfl) (.inr rfl) rfl rfl (lb rfl) fun a S => ?_
    refine leafL (leafT (hK10 _ _ ?_))
    obtain rfl := Option.some.inj h
    exact wp_ret (rBlock (rThen (sRet (iv p0.A) S (rsl1 rfl (rvT (t := 2) (v := iv p0.A) S rfl)) ⟨(), rfl, S.mem.sel [] [] (by decide) rfl rfl⟩)))
  refine sCondF S rfl hc9 ?_
  obtain ⟨t12, h, g13⟩ := bindSome h
  refine sCut (fun a w => ∃ o11, o11 = t12 ∧ St [] E [] w0 25 a w [(1, .pointer (some ⟨b2, 0, none⟩)), (4, .int .u8 p0.Kind), (14, .bool o11)] [eBox b2 82 [.int .u8 p0.Kind, .bool p0.Purl, iv p0.A, iv p0.B]] []) ?_ (fun a w hI => ?_)
  · refine sSeq (fun K14 hK14 => ?_)
    refine sRegion ?_
    refine sBin (.bool (p0.Kind == 3)) S (wN rfl) rfl rfl rfl (bEq _ _ _ _ .u8 p0.Kind 3) rfl (lb rfl) fun a S => ?_
    refine sMove (.bool (p0.Kind == 3)) S (wN rfl) (.inr rfl) rfl rfl (lb rfl) fun a S => ?_
    refine leafL (leafT (hK14 _ _ ?_))
    rcases iteSome h with ⟨hc15, h⟩ | ⟨hc15, h⟩
    · refine sCondT S rfl hc15 ?_
      exact wp_skip (leafT (⟨p0.Kind == 3, Option.some.inj h, S.fix [0] [] (by decide) rfl rfl rfl⟩))
    refine sCondF S rfl hc15 ?_
    refine sRegion ?_
    refine sBin (.bool (p0.Kind == 4)) S (wN rfl) rfl rfl rfl (bEq _ _ _ _ .u8 p0.Kind 4) rfl (lb rfl) fun a S => ?_
    refine sMove (.bool (p0.Kind == 4)) S (wN rfl) (.inr rfl) rfl rfl (lb rfl) fun a S => ?_
    exact leafL (leafT (⟨p0.Kind == 4, Option.some.inj h, S.fix [0] [] (by decide) rfl rfl rfl⟩))
  obtain ⟨o11, rfl, S⟩ := hI
  have h := g13
  clear g13
  try dsimp only at h
  rcases iteSome h with ⟨hc16, h⟩ | ⟨hc16, h⟩
  · refine sCondT S rfl hc16 ?_
    refine sSeq (fun K17 hK17 => ?_)
    refine sRegion ?_
    refine sField (b := b2) (off := 0) 2 2 S (wN rfl) rfl rfl rfl rfl rfl (lb rfl) fun a S => ?_
    refine sLoad1 (p := b2) (off := 2) (T := 82) (vs := [.int .u8 p0.Kind, .bool p0.Purl, iv p0.A, iv p0.B]) 0 (iv p0.A) S (wN rfl) rfl rfl rfl rfl rfl rfl (lb rfl) fun a S => ?_
    refine sBin (iv (w64 (1 - p0.A))) S (wN rfl) rfl rfl rfl (bSub _ _ _ _ 1 p0.A) rfl (lb rfl) fun a S => ?_
    refine sMove (iv (w64 (1 - p0.A))) S (wN rfl) (.inr rfl) rfl rfl (lb rfl) fun a S => ?_
    refine leafL (leafT (hK17 _ _ ?_))
    obtain rfl := Option.some.inj h
    exact wp_ret (rBlock (rThen (sRet (iv (w64 (1 - p0.A))) S (rsl1 rfl (rvT (t := 2) (v := iv (w64 (1 - p0.A))) S rfl)) ⟨(), rfl, S.mem.sel [] [] (by decide) rfl rfl⟩)))
  refine sCondF S rfl hc16 ?_
  refine sSeq (fun K18 hK18 => ?_)
  refine sRegion ?_
  refine sBin (.bool (p0.Kind == 10)) S (wN rfl) rfl rfl rfl (bEq _ _ _ _ .u8 p0.Kind 10) rfl (lb rfl) fun a S => ?_
  refine sMove (.bool (p0.Kind == 10)) S (wN rfl) (.inr rfl) rfl rfl (lb rfl) fun a S => ?_
  refine leafL (leafT (hK18 _ _ ?_))
  rcases iteSome h with ⟨hc19, h⟩ | ⟨hc19, h⟩
  rotate_left
  · refine sCondF S rfl hc19 ?_
    refine wp_skip (leafB (leafT (hK3 _ _ ?_)))
    refine sSeq (fun K21 hK21 => ?_)
    refine sRegion ?_
    refine sMove (iv 0) S (wN rfl) (.inr rfl) rfl rfl (lb rfl) fun a S => ?_
    refine leafL (leafT (hK21 _ _ ?_))
    obtain rfl := Option.some.inj h
    exact wp_ret (sRet (iv 0) S (rsl1 rfl (rvT (t := 2) (v := iv 0) S rfl)) ⟨(), rfl, S.mem.sel [] [] (by decide) rfl rfl⟩)
  refine sCondT S rfl hc19 ?_
  refine sSeq (fun K20 hK20 => ?_)
  refine sRegion ?_
  refine sField (b := b2) (off := 0) 2 2 S (wN rfl) rfl rfl rfl rfl rfl (lb rfl) fun a S => ?_
  refine sLoad1 (p := b2) (off := 2) (T := 82) (vs := [.int .u8 p0.Kind, .bool p0.Purl, iv p0.A, iv p0.B]) 0 (iv p0.A) S (wN rfl) rfl rfl rfl rfl rfl rfl (lb rfl) fun a S => ?_
  refine sNeg (b := p0.A) S (wN rfl) rfl rfl rfl (lb rfl) fun a S => ?_
  refine sMove (iv (w64 (0 - p0.A))) S (wN rfl) (.inr rfl) rfl rfl (lb rfl) fun a S => ?_
  refine leafL (leafT (hK20 _ _ ?_))
  obtain rfl := Option.some.inj h
  exact wp_ret (rBlock (rThen (sRet (iv (w64 (0 - p0.A))) S (rsl1 rfl (rvT (t := 2) (v := iv (w64 (0 - p0.A))) S rfl)) ⟨(), rfl, S.mem.sel [] [] (by decide) rfl rfl⟩)))

end Go.Proofs.Ytmedbnjhgkcndaa
