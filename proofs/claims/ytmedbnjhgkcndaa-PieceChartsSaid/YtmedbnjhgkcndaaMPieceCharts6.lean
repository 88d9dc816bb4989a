/- Several texts in one: G25 G5 LPC FrPieceCharts -/
import Derived.WalkKit
import Derived.Maps.AppendAt
import Derived.Deep.AppendLies
import Derived.KernelRfl
import Derived.Laws.OwnMore
import Derived.Great.BuildSlice
import Derived.Orders
import Derived.Laws.StructEq
import Derived.ChangeKeysEq
import Derived.Defers
import Derived.Laws.BytesString
import Derived.RangeFuncNested
import Derived.RangeFuncBound
import Derived.RangeFuncCalls
import Derived.RangeFuncLeaves
import Derived.OrdersIn
import Derived.LoopNIn
import Derived.Test.YtmedbnjhgkcndaaProg
import Derived.ProofKit
import Derived.OpenShut
import Derived.ChangeOld
import Derived.Deep.Slices
import Derived.Lib.SmallJoins
import Derived.JoinedOf
import Derived.JoinedAt
import Derived.Below
import Derived.Test.YtmedbnjhgkcndaaRows
import Derived.Test.YtmedbnjhgkcndaaMPieceCharts5
namespace Go.Proofs.Ytmedbnjhgkcndaa
open Go.RowKit
set_option linter.unusedVariables false

def anc_raddleref37_Read_0 : List (List Nat) := [[], [0], [], [2], [], [2, 3, 4], [2, 3, 4, 5], [], [7], [7, 8], [7, 8, 9], [2, 3, 4, 5, 6, 7, 8, 9, 10], [2, 3, 4, 5, 6, 7, 8, 9, 10, 11], [0, 1, 2, 3, 4, 5, 6, 7, 8, 9, 10, 11, 12], [0, 1, 2, 3, 4, 5, 6, 7, 8, 9, 10, 11, 12, 13], [0, 1, 2, 3, 4, 5, 6, 7, 8, 9, 10, 11, 12, 13, 14]]
def anc_raddleref37_Read_1 : List (List Nat) := [[], [0], [], [2], [], [2, 3, 4], [2, 3, 4, 5], [], [], [8], [8, 9], [7, 8, 9, 10], [7, 8, 9, 10, 11], [7, 8, 9, 10, 11, 12], [2, 3, 4, 5, 6, 7, 8, 9, 10, 11, 12, 13], [2, 3, 4, 5, 6, 7, 8, 9, 10, 11, 12, 13, 14], [0, 1, 2, 3, 4, 5, 6, 7, 8, 9, 10, 11, 12, 13, 14, 15], [0, 1, 2, 3, 4, 5, 6, 7, 8, 9, 10, 11, 12, 13, 14, 15, 16], [0, 1, 2, 3, 4, 5, 6, 7, 8, 9, 10, 11, 12, 13, 14, 15, 16, 17]]
noncomputable def raddleref37_Read_l1 (p0 : api_Chart) : (Int × List Int × List Int) → Option ((Int × List Int × List Int) ⊕ ((api_Piece × Int) ⊕ (List Int × List Int))) := fun s0 => match s0 with
  | (s34, s35, s38) =>
    if decide (s34 < (p0.Rows.length : Int)) then
      Option.bind (idxO p0.Rows s34) fun x55 =>
      Option.bind (α := Bool) (
        Option.bind (F_raddleref25_All x55.Cells) fun r68 =>
        if r68 != 0 then
          some true
        else
          some ((x55.Cells.length : Int) == 0)) fun o65 =>
      if o65 then
        some (.inr (.inl ((api_Piece.mk ([] : (List Int)) ([] : (List Int))), 8)))
      else
        Option.bind (α := List api_Stitch) (
          if x55.Back then
            Option.bind (F_raddleref25_Turn x55.Cells) fun r85 =>
            some r85.1
          else
            some x55.Cells) fun o73 =>
        Option.bind (idxO s38 s34) fun x91 =>
        Option.bind (idxO o73 0) fun x96 =>
        Option.bind (F_raddleref37_change x96) fun r101 =>
        Option.bind (appO s38 ([w64 (x91 + r101)] : List Int)) fun l105 =>
        Option.bind (idxO s35 s34) fun x119 =>
        Option.bind (idxO o73 (w64 ((o73.length : Int) - 1))) fun x124 =>
        Option.bind (F_raddleref37_change x124) fun r129 =>
        Option.bind (appO s35 ([w64 (x119 - r129)] : List Int)) fun l133 =>
        some (.inl (w64 (s34 + 1), l133, l105))
    else
      some (.inr (.inr (s35, s38)))
noncomputable def F_raddleref37_Read (p0 : api_Chart) (p1 : Int) : Option (api_Piece × Int) :=
  Option.bind (α := Bool) (
    Option.bind (F_raddleref37_in p1) fun r12 =>
    if !r12 then
      some true
    else
      if decide (p0.Start < 1) then
        some true
      else
        if decide (200 < p0.Start) then
          some true
        else
          some (decide (99 < (p0.Rows.length : Int)))) fun o9 =>
  if o9 then
    some ((api_Piece.mk ([] : (List Int)) ([] : (List Int))), 8)
  else
    Option.bind (α := (List Int × List Int) ⊕ (api_Piece × Int)) (
      Option.bind (whileO (raddleref37_Read_l1 p0) (0, ([p1] : List Int), ([w64 (p1 + p0.Start)] : List Int))) fun z0 => match z0 with
        | .inl z =>
          some (.inr z)
        | .inr (e44, e47) =>
          some (.inl (e44, e47))) fun z0 => match z0 with
      | .inl (o25, o28) =>
        Option.bind (F_raddleref37_Chart (api_Piece.mk o25 o28)) fun r148 =>
        Option.bind (α := Bool) (
          if r148.2 != 0 then
            some true
          else
            Option.bind (F_raddleref37_SameChart p0 r148.1) fun r161 =>
            some (!r161)) fun o157 =>
        if o157 then
          some ((api_Piece.mk ([] : (List Int)) ([] : (List Int))), 8)
        else
          some ((api_Piece.mk o25 o28), 0)
      | .inr z =>
        some z
def c_raddleref37_Read_val (r : (api_Piece × Int)) (x : Value) : Value := .tuple #[x, .int .i64 r.2]
def c_raddleref37_Read_D (r : (api_Piece × Int)) (x : Value) : List Fact := [fRep r_api_Piece x r.1]
set_option maxHeartbeats 4000000 in
set_option maxRecDepth 100000 in
theorem c_raddleref37_Read (E : Nat → Prop) (w0 : World) (p0 : api_Chart) (v0 : Value) (p1 : Int) (r : (api_Piece × Int)) (h : F_raddleref37_Read p0 p1 = some r) (S : St0 E [] w0 w0 [] [fRep r_api_Chart (v0) p0]) :
    Calls Try.prog 25 #[v0, iv p1] w0 (Ret (X := Value) E [] w0 (c_raddleref37_Read_val r) (fun _ => []) (c_raddleref37_Read_D r)) := by
  unfold F_raddleref37_Read at h
  obtain ⟨u1, rfl, hu2⟩ := S.know (i := 0) (e := fRep r_api_Chart (v0) p0) rfl
  have S := S.learn (fRep (rL r_api_Row) u1 p0.Rows) hu2
  obtain ⟨ad3, cp4, _, rfl, _⟩ := hu2
  refine sEnter (args := [.agg #[iv p0.Start, .slice ad3 p0.Rows.length cp4], iv p1]) 120 Try.func25 rfl rfl (by simp) S (fun a S => ?_)
  refine sSeq (fun K5 hK5 => ?_)
  refine sRegion ?_
  refine sBox (v := .agg #[iv p0.Start, .slice ad3 p0.Rows.length cp4]) S (wN rfl) rfl rfl [iv p0.Start, .slice ad3 p0.Rows.length cp4] rfl rfl (lb rfl) fun a b6 w S => ?_
  refine sAlloc (.agg #[.slice none 0 0, .slice none 0 0]) S (wN rfl) rfl rfl [.slice none 0 0, .slice none 0 0] rfl rfl (lb rfl) fun a b7 w S => ?_
  refine sMove (iv 0) S (wN rfl) (.inr rfl) rfl rfl (lb rfl) fun a S => ?_
  refine leafL (leafT (hK5 _ _ ?_))
  refine sSeq (fun K8 hK8 => ?_)
  obtain ⟨t10, h, g11⟩ := bindSome h
  refine sCut (fun a w => ∃ o9, o9 = t10 ∧ St [] E [] w0 120 a w [(1, iv p1), (2, .pointer (some ⟨b6, 0, none⟩)), (4, .pointer (some ⟨b7, 0, none⟩)), (29, .bool o9)] [eBox b6 58 [iv p0.Start, .slice ad3 p0.Rows.length cp4], eBox b7 36 [.slice none 0 0, .slice none 0 0]] [fRep (rL r_api_Row) (.slice ad3 p0.Rows.length cp4) p0.Rows]) ?_ (fun a w hI => ?_)
  · refine sRegion ?_
    refine sMove (iv p1) S (wN rfl) (.inl rfl) rfl rfl (lb rfl) fun a S => ?_
    obtain ⟨r12, hx13, h⟩ := bindSome h
    have S1 := S.mem
    refine sCallQ (X := Unit) (f := 34) (vs := [iv p1]) (val := fun _ => .bool r12) S (wN rfl) rfl callee34 rfl (S1.quiet [] rfl) (fun E1 w1 S1 => c_raddleref37_in E1 w1 p1 r12 hx13 S1) rfl (lb rfl) fun _ a w S => ?_
    refine sNot (b := r12) S (wN rfl) rfl rfl rfl (lb rfl) fun a S => ?_
    refine sMove (.bool (!r12)) S (wN rfl) (.inl rfl) rfl rfl (lb rfl) fun a S => ?_
    rcases iteSome h with ⟨hc14, h⟩ | ⟨hc14, h⟩
    · refine sSkip 3 false 14 15 S rfl rfl rfl hc14 rfl (lb rfl) fun a S => ?_
      refine sSkip 3 false 14 16 S rfl rfl rfl hc14 rfl (lb rfl) fun a S => ?_
      refine sSkip 3 false 14 17 S rfl rfl rfl hc14 rfl (lb rfl) fun a S => ?_
      refine sPickT (.bool true) S (wN rfl) rfl rfl hc14 rfl rfl (lb rfl) fun a S => ?_
      refine sMove (.bool true) S (wN rfl) (.inl rfl) rfl rfl (lb rfl) fun a S => ?_
      refine sSkip 8 false 19 20 S rfl rfl rfl rfl rfl (lb rfl) fun a S => ?_
      refine sSkip 8 false 19 21 S rfl rfl rfl rfl rfl (lb rfl) fun a S => ?_
      refine sSkip 8 false 19 22 S rfl rfl rfl rfl rfl (lb rfl) fun a S => ?_
      refine sPickT (.bool true) S (wN rfl) rfl rfl rfl rfl rfl (lb rfl) fun a S => ?_
      refine sMove (.bool true) S (wN rfl) (.inl rfl) rfl rfl (lb rfl) fun a S => ?_
      refine sSkip 13 false 24 25 S rfl rfl rfl rfl rfl (lb rfl) fun a S => ?_
      refine sSkip 13 false 24 26 S rfl rfl rfl rfl rfl (lb rfl) fun a S => ?_
      refine sSkip 13 false 24 27 S rfl rfl rfl rfl rfl (lb rfl) fun a S => ?_
      refine sSkip 13 false 24 28 S rfl rfl rfl rfl rfl (lb rfl) fun a S => ?_
      refine sPickT (.bool true) S (wN rfl) rfl rfl rfl rfl rfl (lb rfl) fun a S => ?_
      exact leafL (leafT (⟨true, Option.some.inj h, S.fix [1, 0] [0] (by decide) rfl rfl rfl⟩))
    refine sField (b := b6) (off := 0) 0 0 S (wG 3 false 14 rfl rfl rfl hc14) rfl rfl rfl rfl rfl (lb rfl) fun a S => ?_
    refine sLoad1 (p := b6) (off := 0) (T := 58) (vs := [iv p0.Start, .slice ad3 p0.Rows.length cp4]) 1 (iv p0.Start) S (wG 3 false 14 rfl rfl rfl hc14) rfl rfl rfl rfl rfl rfl (lb rfl) fun a S => ?_
    refine sBin (.bool (decide (p0.Start < 1))) S (wG 3 false 14 rfl rfl rfl hc14) rfl rfl rfl (bLt _ _ _ _ .i64 p0.Start 1) rfl (lb rfl) fun a S => ?_
    refine sPickF (.bool (decide (p0.Start < 1))) S (wN rfl) rfl rfl hc14 rfl rfl (lb rfl) fun a S => ?_
    refine sMove (.bool (decide (p0.Start < 1))) S (wN rfl) (.inl rfl) rfl rfl (lb rfl) fun a S => ?_
    rcases iteSome h with ⟨hc15, h⟩ | ⟨hc15, h⟩
    · refine sSkip 8 false 19 20 S rfl rfl rfl hc15 rfl (lb rfl) fun a S => ?_
      refine sSkip 8 false 19 21 S rfl rfl rfl hc15 rfl (lb rfl) fun a S => ?_
      refine sSkip 8 false 19 22 S rfl rfl rfl hc15 rfl (lb rfl) fun a S => ?_
      refine sPickT (.bool true) S (wN rfl) rfl rfl hc15 rfl rfl (lb rfl) fun a S => ?_
      refine sMove (.bool true) S (wN rfl) (.inl rfl) rfl rfl (lb rfl) fun a S => ?_
      refine sSkip 13 false 24 25 S rfl rfl rfl rfl rfl (lb rfl) fun a S => ?_
      refine sSkip 13 false 24 26 S rfl rfl rfl rfl rfl (lb rfl) fun a S => ?_
      refine sSkip 13 false 24 27 S rfl rfl rfl rfl rfl (lb rfl) fun a S => ?_
      refine sSkip 13 false 24 28 S rfl rfl rfl rfl rfl (lb rfl) fun a S => ?_
      refine sPickT (.bool true) S (wN rfl) rfl rfl rfl rfl rfl (lb rfl) fun a S => ?_
      exact leafL (leafT (⟨true, Option.some.inj h, S.fix [1, 0] [0] (by decide) rfl rfl rfl⟩))
    refine sField (b := b6) (off := 0) 0 0 S (wG 8 false 19 rfl rfl rfl hc15) rfl rfl rfl rfl rfl (lb rfl) fun a S => ?_
    refine sLoad1 (p := b6) (off := 0) (T := 58) (vs := [iv p0.Start, .slice ad3 p0.Rows.length cp4]) 1 (iv p0.Start) S (wG 8 false 19 rfl rfl rfl hc15) rfl rfl rfl rfl rfl rfl (lb rfl) fun a S => ?_
    refine sBin (.bool (decide (200 < p0.Start))) S (wG 8 false 19 rfl rfl rfl hc15) rfl rfl rfl (bGt _ _ _ _ .i64 p0.Start 200) rfl (lb rfl) fun a S => ?_
    refine sPickF (.bool (decide (200 < p0.Start))) S (wN rfl) rfl rfl hc15 rfl rfl (lb rfl) fun a S => ?_
    refine sMove (.bool (decide (200 < p0.Start))) S (wN rfl) (.inl rfl) rfl rfl (lb rfl) fun a S => ?_
    rcases iteSome h with ⟨hc16, h⟩ | ⟨hc16, h⟩
    · refine sSkip 13 false 24 25 S rfl rfl rfl hc16 rfl (lb rfl) fun a S => ?_
      refine sSkip 13 false 24 26 S rfl rfl rfl hc16 rfl (lb rfl) fun a S => ?_
      refine sSkip 13 false 24 27 S rfl rfl rfl hc16 rfl (lb rfl) fun a S => ?_
      refine sSkip 13 false 24 28 S rfl rfl rfl hc16 rfl (lb rfl) fun a S => ?_
      refine sPickT (.bool true) S (wN rfl) rfl rfl hc16 rfl rfl (lb rfl) fun a S => ?_
      exact leafL (leafT (⟨true, Option.some.inj h, S.fix [1, 0] [0] (by decide) rfl rfl rfl⟩))
    refine sField (b := b6) (off := 0) 1 1 S (wG 13 false 24 rfl rfl rfl hc16) rfl rfl rfl rfl rfl (lb rfl) fun a S => ?_
    refine sLoad1 (p := b6) (off := 1) (T := 58) (vs := [iv p0.Start, .slice ad3 p0.Rows.length cp4]) 1 (.slice ad3 p0.Rows.length cp4) S (wG 13 false 24 rfl rfl rfl hc16) rfl rfl rfl rfl rfl rfl (lb rfl) fun a S => ?_
    refine sLen (ad := ad3) (m := p0.Rows.length) (c := cp4) S (wG 13 false 24 rfl rfl rfl hc16) rfl Try.underlying56 rfl rfl (lb rfl) fun a S => ?_
    refine sBin (.bool (decide (99 < (p0.Rows.length : Int)))) S (wG 13 false 24 rfl rfl rfl hc16) rfl rfl rfl (bGt _ _ _ _ .i64 (p0.Rows.length : Int) 99) rfl (lb rfl) fun a S => ?_
    refine sPickF (.bool (decide (99 < (p0.Rows.length : Int)))) S (wN rfl) rfl rfl hc16 rfl rfl (lb rfl) fun a S => ?_
    exact leafL (leafT (⟨decide (99 < (p0.Rows.length : Int)), Option.some.inj h, S.fix [1, 0] [0] (by decide) rfl rfl rfl⟩))
  obtain ⟨o9, rfl, S⟩ := hI
  have h := g11
  clear g11
  try dsimp only at h
  rcases iteSome h with ⟨hc17, h⟩ | ⟨hc17, h⟩
  · refine sCondT S rfl hc17 ?_
    refine sSeq (fun K18 hK18 => ?_)
    refine sRegion ?_
    refine sBuild [] [.slice none 0 0, .slice none 0 0] S (wN rfl) rfl rfl rfl rfl (lb rfl) fun a S => ?_
    refine sStore (p := b7) (off := 0) (T := 36) (vs := [.slice none 0 0, .slice none 0 0]) (v := .agg #[.slice none 0 0, .slice none 0 0]) 1 [.slice none 0 0, .slice none 0 0] S (wN rfl) rfl rfl rfl rfl rfl rfl rfl (by simp) rfl fun a w S => ?_
    refine sMove (iv 8) S (wN rfl) (.inr rfl) rfl rfl (lb rfl) fun a S => ?_
    refine leafL (leafT (hK18 _ _ ?_))
    obtain rfl := Option.some.inj h
    have S := S.learn (fRep (rL (rI .i64)) (.slice none 0 0) ([] : (List Int))) (rL_nil _ _ _)
    have S := S.learn (fRep r_api_Piece (.agg #[.slice none 0 0, .slice none 0 0]) (api_Piece.mk ([] : (List Int)) ([] : (List Int)))) ⟨_, _, rfl, S.mem.know (i := 0) (e := fRep (rL (rI .i64)) (.slice none 0 0) ([] : (List Int))) rfl, S.mem.know (i := 0) (e := fRep (rL (rI .i64)) (.slice none 0 0) ([] : (List Int))) rfl⟩
    exact wp_ret (rThen (sRet (.tuple #[.agg #[.slice none 0 0, .slice none 0 0], iv 8]) S (rsl2 rfl (rvN (c := 4) (t := 36) (T := 36) (p := b7) 0 [.slice none 0 0, .slice none 0 0] S rfl rfl rfl rfl) (rvT (t := 5) (v := iv 8) S rfl)) ⟨(.agg #[.slice none 0 0, .slice none 0 0]), rfl, S.mem.sel [] [0] (by decide) rfl rfl⟩))
  refine sCondF S rfl hc17 ?_
  refine wp_skip (leafT (hK8 _ _ ?_))
  refine sSeq (fun K19 hK19 => ?_)
  refine sRegion ?_
  refine sMove (iv p1) S (wN rfl) (.inl rfl) rfl rfl (lb rfl) fun a S => ?_
  refine sLit (r := (rI .i64)) (T := 3) (xs := ([p1] : List Int)) [(0, iv p1)] 1 [iv p1] [iv p1] (iv 0) 8 S (wN rfl) rfl rfl Try.underlying34 rfl (by decide) (by decide) (by kernel_rfl) rfl (fun E1 w1 hE => All.cons rfl (All.nil _ _ _)) rfl rfl (lb rfl) fun a w ad20 cp21 S => ?_
  refine sMove (iv p1) S (wN rfl) (.inl rfl) rfl rfl (lb rfl) fun a S => ?_
  refine sField (b := b6) (off := 0) 0 0 S (wN rfl) rfl rfl rfl rfl rfl (lb rfl) fun a S => ?_
  refine sLoad1 (p := b6) (off := 0) (T := 58) (vs := [iv p0.Start, .slice ad3 p0.Rows.length cp4]) 1 (iv p0.Start) S (wN rfl) rfl rfl rfl rfl rfl rfl (lb rfl) fun a S => ?_
  refine sBin (iv (w64 (p1 + p0.Start))) S (wN rfl) rfl rfl rfl (bAdd _ _ _ _ p1 p0.Start) rfl (lb rfl) fun a S => ?_
  refine sLit (r := (rI .i64)) (T := 3) (xs := ([w64 (p1 + p0.Start)] : List Int)) [(0, iv (w64 (p1 + p0.Start)))] 1 [iv (w64 (p1 + p0.Start))] [iv (w64 (p1 + p0.Start))] (iv 0) 8 S (wN rfl) rfl rfl Try.underlying34 rfl (by decide) (by decide) (by kernel_rfl) rfl (fun E1 w1 hE => All.cons rfl (All.nil _ _ _)) rfl rfl (lb rfl) fun a w ad22 cp23 S => ?_
  refine sBuild [(0, .slice ad20 ([p1] : List Int).length cp21), (1, .slice ad22 ([w64 (p1 + p0.Start)] : List Int).length cp23)] [.slice ad20 ([p1] : List Int).length cp21, .slice ad22 ([w64 (p1 + p0.Start)] : List Int).length cp23] S (wN rfl) rfl rfl rfl rfl (lb rfl) fun a S => ?_
  refine sAlloc (.agg #[.slice none 0 0, .slice none 0 0]) S (wN rfl) rfl rfl [.slice none 0 0, .slice none 0 0] rfl rfl (lb rfl) fun a b24 w S => ?_
  refine sStore (p := b24) (off := 0) (T := 36) (vs := [.slice none 0 0, .slice none 0 0]) (v := .agg #[.slice ad20 ([p1] : List Int).length cp21, .slice ad22 ([w64 (p1 + p0.Start)] : List Int).length cp23]) 0 [.slice ad20 ([p1] : List Int).length cp21, .slice ad22 ([w64 (p1 + p0.Start)] : List Int).length cp23] S (wN rfl) rfl rfl rfl rfl rfl rfl rfl (by simp) rfl fun a w S => ?_
  refine leafL (leafT (hK19 _ _ ?_))
  obtain ⟨t31, h, g32⟩ := bindSome h
  refine sCut (fun a w => ∃ o25, ∃ o28, .inl (o25, o28) = t31 ∧ ∃ ad26, ∃ cp27, ∃ ad29, ∃ cp30, St [] E [] w0 120 a w [(2, .pointer (some ⟨b6, 0, none⟩)), (4, .pointer (some ⟨b7, 0, none⟩)), (6, .pointer (some ⟨b24, 0, none⟩))] [eBox b6 58 [iv p0.Start, .slice ad3 p0.Rows.length cp4], eBox b7 36 [.slice none 0 0, .slice none 0 0], eBox b24 36 [.slice ad26 o25.length cp27, .slice ad29 o28.length cp30], eRow (rI .i64) 3 (.slice ad26 o25.length cp27) o25, eRow (rI .i64) 3 (.slice ad29 o28.length cp30) o28] [fRep (rL r_api_Row) (.slice ad3 p0.Rows.length cp4) p0.Rows]) ?_ (fun a w hI => ?_)
  rotate_left
  · obtain ⟨o25, o28, rfl, ad26, cp27, ad29, cp30, S⟩ := hI
    have h := g32
    clear g32
    try dsimp only at h
    refine sSeq (fun K147 hK147 => ?_)
    refine sRegion ?_
    refine sLoadN (p := b24) (off := 0) (T := 36) (vs := [.slice ad26 o25.length cp27, .slice ad29 o28.length cp30]) 2 [.slice ad26 o25.length cp27, .slice ad29 o28.length cp30] S (wN rfl) rfl rfl rfl rfl rfl rfl rfl (lb rfl) fun a S => ?_
    obtain ⟨r148, hx149, h⟩ := bindSome h
    have S := S.shutR (r := (rI .i64)) (T := 3) (v := .slice ad26 o25.length cp27) (xs := o25) 3 rfl
    have S := S.shutR (r := (rI .i64)) (T := 3) (v := .slice ad29 o28.length cp30) (xs := o28) 3 rfl
    have S := S.learn (fRep r_api_Piece (.agg #[.slice ad26 o25.length cp27, .slice ad29 o28.length cp30]) (api_Piece.mk o25 o28)) ⟨_, _, rfl, S.mem.know (i := 1) (e := fRep (rL (rI .i64)) (.slice ad26 o25.length cp27) o25) rfl, S.mem.know (i := 0) (e := fRep (rL (rI .i64)) (.slice ad29 o28.length cp30) o28) rfl⟩
    refine sCall (X := Value) (f := 23) (vs := [.agg #[.slice ad26 o25.length cp27, .slice ad29 o28.length cp30]]) (val := c_raddleref37_Chart_val r148) (B' := fun _ => []) (D' := c_raddleref37_Chart_D r148) [] [eBox b6 58 [iv p0.Start, .slice ad3 p0.Rows.length cp4], eBox b7 36 [.slice none 0 0, .slice none 0 0], eBox b24 36 [.slice ad26 o25.length cp27, .slice ad29 o28.length cp30]] [fRep r_api_Piece (.agg #[.slice ad26 o25.length cp27, .slice ad29 o28.length cp30]) (api_Piece.mk o25 o28)] [0, 1, 2] [0] S (wN rfl) rfl callee23 rfl (by decide) rfl rfl (fun E1 w1 S1 => c_raddleref37_Chart E1 w1 (api_Piece.mk o25 o28) (.agg #[.slice ad26 o25.length cp27, .slice ad29 o28.length cp30]) r148 hx149 S1) rfl (lb rfl) fun u150 a w S => ?_
    obtain ⟨u151, rfl, hu152⟩ := S.mem.know (i := 0) (e := fRep r_api_Chart (u150) r148.1) rfl
    have S := S.learn (fRep (rL r_api_Row) u151 r148.1.Rows) hu152
    obtain ⟨ad153, cp154, _, rfl, _⟩ := hu152
    refine sMove (.tuple #[.agg #[iv r148.1.Start, .slice ad153 r148.1.Rows.length cp154], iv r148.2]) S (wN rfl) (.inl rfl) rfl rfl (lb rfl) fun a S => ?_
    refine sExtract (vs := [.agg #[iv r148.1.Start, .slice ad153 r148.1.Rows.length cp154], iv r148.2]) (.agg #[iv r148.1.Start, .slice ad153 r148.1.Rows.length cp154]) S (wN rfl) rfl rfl rfl rfl (lb rfl) fun a S => ?_
    refine sExtract (vs := [.agg #[iv r148.1.Start, .slice ad153 r148.1.Rows.length cp154], iv r148.2]) (iv r148.2) S (wN rfl) rfl rfl rfl rfl (lb rfl) fun a S => ?_
    refine sAlloc (.agg #[iv 0, .slice none 0 0]) S (wN rfl) rfl rfl [iv 0, .slice none 0 0] rfl rfl (lb rfl) fun a b155 w S => ?_
    refine sStore (p := b155) (off := 0) (T := 58) (vs := [iv 0, .slice none 0 0]) (v := .agg #[iv r148.1.Start, .slice ad153 r148.1.Rows.length cp154]) 0 [iv r148.1.Start, .slice ad153 r148.1.Rows.length cp154] S (wN rfl) rfl rfl rfl rfl rfl rfl rfl (by simp) rfl fun a w S => ?_
    refine sMove (iv r148.2) S (wN rfl) (.inr rfl) rfl rfl (lb rfl) fun a S => ?_
    refine leafL (leafT (hK147 _ _ ?_))
    refine sSeq (fun K156 hK156 => ?_)
    obtain ⟨t158, h, g159⟩ := bindSome h
    refine sCut (fun a w => ∃ o157, o157 = t158 ∧ St [] E [] w0 120 a w [(4, .pointer (some ⟨b7, 0, none⟩)), (6, .pointer (some ⟨b24, 0, none⟩)), (117, .bool o157)] [eBox b7 36 [.slice none 0 0, .slice none 0 0], eBox b24 36 [.slice ad26 o25.length cp27, .slice ad29 o28.length cp30]] [fRep (rL (rI .i64)) (.slice ad26 o25.length cp27) o25, fRep (rL (rI .i64)) (.slice ad29 o28.length cp30) o28]) ?_ (fun a w hI => ?_)
    · refine sRegion ?_
      refine sMove (iv r148.2) S (wN rfl) (.inl rfl) rfl rfl (lb rfl) fun a S => ?_
      refine sBin (.bool (r148.2 != 0)) S (wN rfl) rfl rfl rfl (bNe _ _ _ _ .i64 r148.2 0) rfl (lb rfl) fun a S => ?_
      refine sMove (.bool (r148.2 != 0)) S (wN rfl) (.inl rfl) rfl rfl (lb rfl) fun a S => ?_
      rcases iteSome h with ⟨hc160, h⟩ | ⟨hc160, h⟩
      · refine sSkip 2 false 112 113 S rfl rfl rfl hc160 rfl (lb rfl) fun a S => ?_
        refine sSkip 2 false 112 114 S rfl rfl rfl hc160 rfl (lb rfl) fun a S => ?_
        refine sSkip 2 false 112 115 S rfl rfl rfl hc160 rfl (lb rfl) fun a S => ?_
        refine sSkip 2 false 112 116 S rfl rfl rfl hc160 rfl (lb rfl) fun a S => ?_
        refine sPickT (.bool true) S (wN rfl) rfl rfl hc160 rfl rfl (lb rfl) fun a S => ?_
        exact leafL (leafT (⟨true, Option.some.inj h, S.fix [2, 3] [4, 3] (by decide) rfl rfl rfl⟩))
      refine sLoadN (p := b6) (off := 0) (T := 58) (vs := [iv p0.Start, .slice ad3 p0.Rows.length cp4]) 1 [iv p0.Start, .slice ad3 p0.Rows.length cp4] S (wG 2 false 112 rfl rfl rfl hc160) rfl rfl rfl rfl rfl rfl rfl (lb rfl) fun a S => ?_
      refine sLoadN (p := b155) (off := 0) (T := 58) (vs := [iv r148.1.Start, .slice ad153 r148.1.Rows.length cp154]) 0 [iv r148.1.Start, .slice ad153 r148.1.Rows.length cp154] S (wG 2 false 112 rfl rfl rfl hc160) rfl rfl rfl rfl rfl rfl rfl (lb rfl) fun a S => ?_
      obtain ⟨r161, hx162, h⟩ := bindSome h
      have S1 := S.mem
      have S1 := S1.learn (fRep r_api_Chart (.agg #[iv p0.Start, .slice ad3 p0.Rows.length cp4]) p0) ⟨_, rfl, S1.know (i := 5) (e := fRep (rL r_api_Row) (.slice ad3 p0.Rows.length cp4) p0.Rows) rfl⟩
      refine sCallQ (X := Unit) (f := 26) (vs := [.agg #[iv p0.Start, .slice ad3 p0.Rows.length cp4], .agg #[iv r148.1.Start, .slice ad153 r148.1.Rows.length cp154]]) (val := fun _ => .bool r161) S (wG 2 false 112 rfl rfl rfl hc160) rfl callee26 rfl (S1.quiet [0, 2] rfl) (fun E1 w1 S1 => c_raddleref37_SameChart E1 w1 p0 (.agg #[iv p0.Start, .slice ad3 p0.Rows.length cp4]) r148.1 (.agg #[iv r148.1.Start, .slice ad153 r148.1.Rows.length cp154]) r161 hx162 S1) rfl (lb rfl) fun _ a w S => ?_
      refine sNot (b := r161) S (wG 2 false 112 rfl rfl rfl hc160) rfl rfl rfl (lb rfl) fun a S => ?_
      refine sPickF (.bool (!r161)) S (wN rfl) rfl rfl hc160 rfl rfl (lb rfl) fun a S => ?_
      exact leafL (leafT (⟨!r161, Option.some.inj h, S.fix [2, 3] [4, 3] (by decide) rfl rfl rfl⟩))
    obtain ⟨o157, rfl, S⟩ := hI
    have h := g159
    clear g159
    try dsimp only at h
    rcases iteSome h with ⟨hc163, h⟩ | ⟨hc163, h⟩
    · refine sCondT S rfl hc163 ?_
      refine sSeq (fun K164 hK164 => ?_)
      refine sRegion ?_
      refine sBuild [] [.slice none 0 0, .slice none 0 0] S (wN rfl) rfl rfl rfl rfl (lb rfl) fun a S => ?_
      refine sStore (p := b7) (off := 0) (T := 36) (vs := [.slice none 0 0, .slice none 0 0]) (v := .agg #[.slice none 0 0, .slice none 0 0]) 0 [.slice none 0 0, .slice none 0 0] S (wN rfl) rfl rfl rfl rfl rfl rfl rfl (by simp) rfl fun a w S => ?_
      refine sMove (iv 8) S (wN rfl) (.inr rfl) rfl rfl (lb rfl) fun a S => ?_
      refine leafL (leafT (hK164 _ _ ?_))
      obtain rfl := Option.some.inj h
      have S := S.learn (fRep (rL (rI .i64)) (.slice none 0 0) ([] : (List Int))) (rL_nil _ _ _)
      have S := S.learn (fRep r_api_Piece (.agg #[.slice none 0 0, .slice none 0 0]) (api_Piece.mk ([] : (List Int)) ([] : (List Int)))) ⟨_, _, rfl, S.mem.know (i := 0) (e := fRep (rL (rI .i64)) (.slice none 0 0) ([] : (List Int))) rfl, S.mem.know (i := 0) (e := fRep (rL (rI .i64)) (.slice none 0 0) ([] : (List Int))) rfl⟩
      exact wp_ret (rThen (sRet (.tuple #[.agg #[.slice none 0 0, .slice none 0 0], iv 8]) S (rsl2 rfl (rvN (c := 4) (t := 36) (T := 36) (p := b7) 0 [.slice none 0 0, .slice none 0 0] S rfl rfl rfl rfl) (rvT (t := 5) (v := iv 8) S rfl)) ⟨(.agg #[.slice none 0 0, .slice none 0 0]), rfl, S.mem.sel [] [0] (by decide) rfl rfl⟩))
    refine sCondF S rfl hc163 ?_
    refine wp_skip (leafT (hK156 _ _ ?_))
    refine sSeq (fun K165 hK165 => ?_)
    refine sRegion ?_
    refine sLoadN (p := b24) (off := 0) (T := 36) (vs := [.slice ad26 o25.length cp27, .slice ad29 o28.length cp30]) 1 [.slice ad26 o25.length cp27, .slice ad29 o28.length cp30] S (wN rfl) rfl rfl rfl rfl rfl rfl rfl (lb rfl) fun a S => ?_
    refine sStore (p := b7) (off := 0) (T := 36) (vs := [.slice none 0 0, .slice none 0 0]) (v := .agg #[.slice ad26 o25.length cp27, .slice ad29 o28.length cp30]) 0 [.slice ad26 o25.length cp27, .slice ad29 o28.length cp30] S (wN rfl) rfl rfl rfl rfl rfl rfl rfl (by simp) rfl fun a w S => ?_
    refine sMove (iv 0) S (wN rfl) (.inr rfl) rfl rfl (lb rfl) fun a S => ?_
    refine leafL (leafT (hK165 _ _ ?_))
    obtain rfl := Option.some.inj h
    have S := S.learn (fRep r_api_Piece (.agg #[.slice ad26 o25.length cp27, .slice ad29 o28.length cp30]) (api_Piece.mk o25 o28)) ⟨_, _, rfl, S.mem.know (i := 0) (e := fRep (rL (rI .i64)) (.slice ad26 o25.length cp27) o25) rfl, S.mem.know (i := 1) (e := fRep (rL (rI .i64)) (.slice ad29 o28.length cp30) o28) rfl⟩
    exact wp_ret (sRet (.tuple #[.agg #[.slice ad26 o25.length cp27, .slice ad29 o28.length cp30], iv 0]) S (rsl2 rfl (rvN (c := 4) (t := 36) (T := 36) (p := b7) 0 [.slice ad26 o25.length cp27, .slice ad29 o28.length cp30] S rfl rfl rfl rfl) (rvT (t := 5) (v := iv 0) S rfl)) ⟨(.agg #[.slice ad26 o25.length cp27, .slice ad29 o28.length cp30]), rfl, S.mem.sel [] [0] (by decide) rfl rfl⟩)
  refine sSeq (fun K33 hK33 => ?_)
  refine sRegion ?_
  refine sMove (iv 0) S (wN rfl) (.inr rfl) rfl rfl (lb rfl) fun a S => ?_
  refine leafL (leafT (hK33 _ _ ?_))
  refine wp_block ?_
  obtain ⟨t43, hl, g42⟩ := bindSome h
  refine sLoop hl (fun s0 a w => match s0 with | (s34, s35, s38) => ∃ ad36, ∃ cp37, ∃ ad39, ∃ cp40, St [] E [] w0 120 a w [(2, .pointer (some ⟨b6, 0, none⟩)), (4, .pointer (some ⟨b7, 0, none⟩)), (6, .pointer (some ⟨b24, 0, none⟩)), (7, iv s34)] [eBox b6 58 [iv p0.Start, .slice ad3 p0.Rows.length cp4], eBox b7 36 [.slice none 0 0, .slice none 0 0], eBox b24 36 [.slice ad36 s35.length cp37, .slice ad39 s38.length cp40], eRow (rI .i64) 3 (.slice ad36 s35.length cp37) s35, eRow (rI .i64) 3 (.slice ad39 s38.length cp40) s38] [fRep (rL r_api_Row) (.slice ad3 p0.Rows.length cp4) p0.Rows]) ⟨ad20, cp21, ad22, cp23, S.fix [3, 4, 0, 2, 1] [0] (by decide) rfl rfl rfl⟩ ?_
  clear hl h
  intro s0 a w c0 hI h hu41
  obtain ⟨s34, s35, s38⟩ := s0
  unfold raddleref37_Read_l1 at h
  dsimp only at h hI
  obtain ⟨ad36, cp37, ad39, cp40, S⟩ := hI
  refine sSeq (fun K50 hK50 => ?_)
  refine sSeq (fun K51 hK51 => ?_)
  refine sRegion ?_
  refine sMove (iv s34) S (wN rfl) (.inl rfl) rfl rfl (lb rfl) fun a S => ?_
  refine sField (b := b6) (off := 0) 1 1 S (wN rfl) rfl rfl rfl rfl rfl (lb rfl) fun a S => ?_
  refine sLoad1 (p := b6) (off := 1) (T := 58) (vs := [iv p0.Start, .slice ad3 p0.Rows.length cp4]) 0 (.slice ad3 p0.Rows.length cp4) S (wN rfl) rfl rfl rfl rfl rfl rfl (lb rfl) fun a S => ?_
  refine sLen (ad := ad3) (m := p0.Rows.length) (c := cp4) S (wN rfl) rfl Try.underlying56 rfl rfl (lb rfl) fun a S => ?_
  refine sBin (.bool (decide (s34 < (p0.Rows.length : Int)))) S (wN rfl) rfl rfl rfl (bLt _ _ _ _ .i64 s34 (p0.Rows.length : Int)) rfl (lb rfl) fun a S => ?_
  refine leafL (leafT (hK51 _ _ ?_))
  rcases iteSome h with ⟨hc52, h⟩ | ⟨hc52, h⟩
  rotate_left
  · refine sCondF S rfl hc52 ?_
    obtain rfl := Option.some.inj h
    obtain rfl := hu41 _ rfl
    have h := g42
    clear g42
    try dsimp only at h
    exact wp_exit (xThen (xThen (xHit (leafT (⟨s35, s38, Option.some.inj h, ad36, cp37, ad39, cp40, S.fix [0, 1, 2, 3, 4] [0] (by decide) rfl rfl rfl⟩)))))
  refine sCondT S rfl hc52 ?_
  refine wp_skip (leafT (hK50 _ _ ?_))
  refine sSeq (fun K53 hK53 => ?_)
  refine wp_block ?_
  refine sSeq (fun K54 hK54 => ?_)
  refine sRegion ?_
  refine sField (b := b6) (off := 0) 1 1 S (wN rfl) rfl rfl rfl rfl rfl (lb rfl) fun a S => ?_
  refine sLoad1 (p := b6) (off := 1) (T := 58) (vs := [iv p0.Start, .slice ad3 p0.Rows.length cp4]) 0 (.slice ad3 p0.Rows.length cp4) S (wN rfl) rfl rfl rfl rfl rfl rfl (lb rfl) fun a S => ?_
  refine sMove (iv s34) S (wN rfl) (.inl rfl) rfl rfl (lb rfl) fun a S => ?_
  obtain ⟨x55, hx56, h⟩ := bindSome h
  obtain ⟨q57, hq58, S⟩ := pIdx (P := Try.prog) (r := r_api_Row) (v := .slice ad3 p0.Rows.length cp4) (xs := p0.Rows) (j := s34) 56 80 0 S Try.underlying56 rfl rfl hx56
  refine sIdxV (v := .slice ad3 p0.Rows.length cp4) (k := .i64) (j := s34) S (wN rfl) rfl rfl rfl hq58 rfl (lb rfl) fun a S => ?_
  obtain ⟨q59, hq60, S⟩ := pFld (P := Try.prog) (r := r_api_Row) (s2 := (rL r_api_Stitch)) (g := (·.Cells)) (q := q57) (z := x55) 80 1 0 1 S rfl rfl comp_api_Row_Cells
  refine sFldV (q := q57) S (wN rfl) rfl rfl hq60 rfl (lb rfl) fun a S => ?_
  obtain ⟨u61, S⟩ := pLoad (r := (rL r_api_Stitch)) (q := q59) (x := x55.Cells) 0 S rfl
  obtain ⟨ad62, cp63, _, rfl, _⟩ := S.mem.know (i := 1) (e := fRep (rL r_api_Stitch) (u61) x55.Cells) rfl
  refine sLoadV1 (vq := q59) 0 (.slice ad62 x55.Cells.length cp63) S (wN rfl) rfl rfl rfl rfl rfl (lb rfl) fun a S => ?_
  refine sMove (.slice ad62 x55.Cells.length cp63) S (wN rfl) (.inr rfl) rfl rfl (lb rfl) fun a S => ?_
  refine leafL (leafT (hK54 _ _ ?_))
  refine sSeq (fun K64 hK64 => ?_)
  obtain ⟨t66, h, g67⟩ := bindSome h
  refine sCut (fun a w => ∃ o65, o65 = t66 ∧ St [] E [] w0 120 a w [(2, .pointer (some ⟨b6, 0, none⟩)), (4, .pointer (some ⟨b7, 0, none⟩)), (6, .pointer (some ⟨b24, 0, none⟩)), (7, iv s34), (8, .slice ad62 x55.Cells.length cp63), (59, .bool o65)] [eBox b6 58 [iv p0.Start, .slice ad3 p0.Rows.length cp4], eBox b7 36 [.slice none 0 0, .slice none 0 0], eBox b24 36 [.slice ad36 s35.length cp37, .slice ad39 s38.length cp40], eRow (rI .i64) 3 (.slice ad36 s35.length cp37) s35, eRow (rI .i64) 3 (.slice ad39 s38.length cp40) s38] [fRep (rL r_api_Stitch) (.slice ad62 x55.Cells.length cp63) x55.Cells, fRep (rL r_api_Row) (.slice ad3 p0.Rows.length cp4) p0.Rows]) ?_ (fun a w hI => ?_)
  · refine sRegion ?_
    refine sMove (.slice ad62 x55.Cells.length cp63) S (wN rfl) (.inl rfl) rfl rfl (lb rfl) fun a S => ?_
    obtain ⟨r68, hx69, h⟩ := bindSome h
    have S1 := S.mem
    refine sCallQ (X := Unit) (f := 42) (vs := [.slice ad62 x55.Cells.length cp63]) (val := fun _ => iv r68) S (wN rfl) rfl callee42 rfl (S1.quiet [1] rfl) (fun E1 w1 S1 => c_raddleref25_All E1 w1 x55.Cells (.slice ad62 x55.Cells.length cp63) r68 hx69 S1) rfl (lb rfl) fun _ a w S => ?_
    refine sBin (.bool (r68 != 0)) S (wN rfl) rfl rfl rfl (bNe _ _ _ _ .i64 r68 0) rfl (lb rfl) fun a S => ?_
    refine sMove (.bool (r68 != 0)) S (wN rfl) (.inl rfl) rfl rfl (lb rfl) fun a S => ?_
    rcases iteSome h with ⟨hc70, h⟩ | ⟨hc70, h⟩
    · refine sSkip 3 false 55 56 S rfl rfl rfl hc70 rfl (lb rfl) fun a S => ?_
      refine sSkip 3 false 55 57 S rfl rfl rfl hc70 rfl (lb rfl) fun a S => ?_
      refine sSkip 3 false 55 58 S rfl rfl rfl hc70 rfl (lb rfl) fun a S => ?_
      refine sPickT (.bool true) S (wN rfl) rfl rfl hc70 rfl rfl (lb rfl) fun a S => ?_
      exact leafL (leafT (⟨true, Option.some.inj h, S.fix [0, 1, 2, 3, 4] [1, 4] (by decide) rfl rfl rfl⟩))
    refine sMove (.slice ad62 x55.Cells.length cp63) S (wG 3 false 55 rfl rfl rfl hc70) (.inl rfl) rfl rfl (lb rfl) fun a S => ?_
    refine sLen (ad := ad62) (m := x55.Cells.length) (c := cp63) S (wG 3 false 55 rfl rfl rfl hc70) rfl Try.underlying78 rfl rfl (lb rfl) fun a S => ?_
    refine sBin (.bool ((x55.Cells.length : Int) == 0)) S (wG 3 false 55 rfl rfl rfl hc70) rfl rfl rfl (bEq _ _ _ _ .i64 (x55.Cells.length : Int) 0) rfl (lb rfl) fun a S => ?_
    refine sPickF (.bool ((x55.Cells.length : Int) == 0)) S (wN rfl) rfl rfl hc70 rfl rfl (lb rfl) fun a S => ?_
    exact leafL (leafT (⟨(x55.Cells.length : Int) == 0, Option.some.inj h, S.fix [0, 1, 2, 3, 4] [1, 4] (by decide) rfl rfl rfl⟩))
  obtain ⟨o65, rfl, S⟩ := hI
  have h := g67
  clear g67
  try dsimp only at h
  rcases iteSome h with ⟨hc71, h⟩ | ⟨hc71, h⟩
  · refine sCondT S rfl hc71 ?_
    refine sSeq (fun K72 hK72 => ?_)
    refine sRegion ?_
    refine sBuild [] [.slice none 0 0, .slice none 0 0] S (wN rfl) rfl rfl rfl rfl (lb rfl) fun a S => ?_
    refine sStore (p := b7) (off := 0) (T := 36) (vs := [.slice none 0 0, .slice none 0 0]) (v := .agg #[.slice none 0 0, .slice none 0 0]) 1 [.slice none 0 0, .slice none 0 0] S (wN rfl) rfl rfl rfl rfl rfl rfl rfl (by simp) rfl fun a w S => ?_
    refine sMove (iv 8) S (wN rfl) (.inr rfl) rfl rfl (lb rfl) fun a S => ?_
    refine leafL (leafT (hK72 _ _ ?_))
    obtain rfl := Option.some.inj h
    obtain rfl := hu41 _ rfl
    have h := g42
    clear g42
    try dsimp only at h
    obtain rfl := Option.some.inj h
    have h := g32
    clear g32
    try dsimp only at h
    obtain rfl := Option.some.inj h
    have S := S.learn (fRep (rL (rI .i64)) (.slice none 0 0) ([] : (List Int))) (rL_nil _ _ _)
    have S := S.learn (fRep r_api_Piece (.agg #[.slice none 0 0, .slice none 0 0]) (api_Piece.mk ([] : (List Int)) ([] : (List Int)))) ⟨_, _, rfl, S.mem.know (i := 0) (e := fRep (rL (rI .i64)) (.slice none 0 0) ([] : (List Int))) rfl, S.mem.know (i := 0) (e := fRep (rL (rI .i64)) (.slice none 0 0) ([] : (List Int))) rfl⟩
    exact wp_ret (rThen (rBlock (rThen (rThen (rBlock (rThen (sRet (.tuple #[.agg #[.slice none 0 0, .slice none 0 0], iv 8]) S (rsl2 rfl (rvN (c := 4) (t := 36) (T := 36) (p := b7) 0 [.slice none 0 0, .slice none 0 0] S rfl rfl rfl rfl) (rvT (t := 5) (v := iv 8) S rfl)) ⟨(.agg #[.slice none 0 0, .slice none 0 0]), rfl, S.mem.sel [] [0] (by decide) rfl rfl⟩)))))))
  refine sCondF S rfl hc71 ?_
  refine wp_skip (leafT (hK64 _ _ ?_))
  obtain ⟨t76, h, g77⟩ := bindSome h
  refine sCut (fun a w => ∃ o73, o73 = t76 ∧ ∃ ad74, ∃ cp75, St [] E [] w0 120 a w [(2, .pointer (some ⟨b6, 0, none⟩)), (4, .pointer (some ⟨b7, 0, none⟩)), (6, .pointer (some ⟨b24, 0, none⟩)), (7, iv s34), (8, .slice ad74 o73.length cp75)] [eBox b6 58 [iv p0.Start, .slice ad3 p0.Rows.length cp4], eBox b7 36 [.slice none 0 0, .slice none 0 0], eBox b24 36 [.slice ad36 s35.length cp37, .slice ad39 s38.length cp40], eRow (rI .i64) 3 (.slice ad36 s35.length cp37) s35, eRow (rI .i64) 3 (.slice ad39 s38.length cp40) s38] [fRep (rL r_api_Stitch) (.slice ad74 o73.length cp75) o73, fRep (rL r_api_Row) (.slice ad3 p0.Rows.length cp4) p0.Rows]) ?_ (fun a w hI => ?_)
  · refine sSeq (fun K78 hK78 => ?_)
    refine sRegion ?_
    refine sField (b := b6) (off := 0) 1 1 S (wN rfl) rfl rfl rfl rfl rfl (lb rfl) fun a S => ?_
    refine sLoad1 (p := b6) (off := 1) (T := 58) (vs := [iv p0.Start, .slice ad3 p0.Rows.length cp4]) 0 (.slice ad3 p0.Rows.length cp4) S (wN rfl) rfl rfl rfl rfl rfl rfl (lb rfl) fun a S => ?_
    refine sMove (iv s34) S (wN rfl) (.inl rfl) rfl rfl (lb rfl) fun a S => ?_
    obtain ⟨q79, hq80, S⟩ := pIdx (P := Try.prog) (r := r_api_Row) (v := .slice ad3 p0.Rows.length cp4) (xs := p0.Rows) (j := s34) 56 80 1 S Try.underlying56 rfl rfl hx56
    refine sIdxV (v := .slice ad3 p0.Rows.length cp4) (k := .i64) (j := s34) S (wN rfl) rfl rfl rfl hq80 rfl (lb rfl) fun a S => ?_
    obtain ⟨q81, hq82, S⟩ := pFld (P := Try.prog) (r := r_api_Row) (s2 := rB) (g := (·.Back)) (q := q79) (z := x55) 80 0 0 0 S rfl rfl comp_api_Row_Back
    refine sFldV (q := q79) S (wN rfl) rfl rfl hq82 rfl (lb rfl) fun a S => ?_
    obtain ⟨u83, S⟩ := pLoad (r := rB) (q := q81) (x := x55.Back) 0 S rfl
    obtain rfl : u83 = .bool x55.Back := S.mem.know (i := 1) (e := fRep rB (u83) x55.Back) rfl
    refine sLoadV1 (vq := q81) 0 (.bool x55.Back) S (wN rfl) rfl rfl rfl rfl rfl (lb rfl) fun a S => ?_
    refine leafL (leafT (hK78 _ _ ?_))
    rcases iteSome h with ⟨hc84, h⟩ | ⟨hc84, h⟩
    rotate_left
    · refine sCondF S rfl hc84 ?_
      exact wp_skip (leafT (⟨x55.Cells, Option.some.inj h, ad62, cp63, S.fix [0, 1, 2, 3, 4] [4, 5] (by decide) rfl rfl rfl⟩))
    refine sCondT S rfl hc84 ?_
    refine sRegion ?_
    refine sMove (.slice ad62 x55.Cells.length cp63) S (wN rfl) (.inl rfl) rfl rfl (lb rfl) fun a S => ?_
    obtain ⟨r85, hx86, h⟩ := bindSome h
    refine sCall (X := Value) (f := 38) (vs := [.slice ad62 x55.Cells.length cp63]) (val := c_raddleref25_Turn_val r85) (B' := fun _ => []) (D' := c_raddleref25_Turn_D r85) [] [eBox b6 58 [iv p0.Start, .slice ad3 p0.Rows.length cp4], eBox b7 36 [.slice none 0 0, .slice none 0 0], eBox b24 36 [.slice ad36 s35.length cp37, .slice ad39 s38.length cp40], eRow (rI .i64) 3 (.slice ad36 s35.length cp37) s35, eRow (rI .i64) 3 (.slice ad39 s38.length cp40) s38] [fRep (rL r_api_Stitch) (.slice ad62 x55.Cells.length cp63) x55.Cells] [0, 1, 2, 3, 4] [4] S (wN rfl) rfl callee38 rfl (by decide) rfl rfl (fun E1 w1 S1 => c_raddleref25_Turn E1 w1 x55.Cells (.slice ad62 x55.Cells.length cp63) r85 hx86 S1) rfl (lb rfl) fun u87 a w S => ?_
    obtain ⟨ad88, cp89, _, rfl, _⟩ := S.mem.know (i := 0) (e := fRep (rL r_api_Stitch) (u87) r85.1) rfl
    refine sMove (.tuple #[.slice ad88 r85.1.length cp89, iv r85.2]) S (wN rfl) (.inl rfl) rfl rfl (lb rfl) fun a S => ?_
    refine sExtract (vs := [.slice ad88 r85.1.length cp89, iv r85.2]) (.slice ad88 r85.1.length cp89) S (wN rfl) rfl rfl rfl rfl (lb rfl) fun a S => ?_
    refine sExtract (vs := [.slice ad88 r85.1.length cp89, iv r85.2]) (iv r85.2) S (wN rfl) rfl rfl rfl rfl (lb rfl) fun a S => ?_
    refine sMove (.slice ad88 r85.1.length cp89) S (wN rfl) (.inr rfl) rfl rfl (lb rfl) fun a S => ?_
    exact leafL (leafT (⟨r85.1, Option.some.inj h, ad88, cp89, S.fix [0, 1, 2, 3, 4] [0, 6] (by decide) rfl rfl rfl⟩))
  obtain ⟨o73, rfl, ad74, cp75, S⟩ := hI
  have h := g77
  clear g77
  try dsimp only at h
  refine sSeq (fun K90 hK90 => ?_)
  obtain ⟨x91, hx92, h⟩ := bindSome h
  obtain ⟨x96, hx97, h⟩ := bindSome h
  obtain ⟨r101, hx102, h⟩ := bindSome h
  obtain ⟨l105, hx106, h⟩ := bindSome h
  obtain ⟨q109, hq110, hp111⟩ := pIdxR (P := Try.prog) (r := (rI .i64)) (T := 3) (v := .slice ad39 s38.length cp40) (xs := s38) (j := s34) 34 3 4 S Try.underlying34 rfl rfl hx92
  obtain ⟨q112, hq113, S⟩ := pIdx (P := Try.prog) (r := r_api_Stitch) (v := .slice ad74 o73.length cp75) (xs := o73) (j := 0) 78 82 0 S Try.underlying78 rfl rfl hx97
  obtain ⟨u114, S⟩ := pLoad (r := r_api_Stitch) (q := q112) (x := x96) 0 S rfl
  obtain rfl : u114 = .agg #[.int .u8 x96.Kind, .bool x96.Purl, iv x96.A, iv x96.B] := S.mem.know (i := 1) (e := fRep r_api_Stitch (u114) x96) rfl
  refine sDraw (nf := [12, 13, 15]) (W := [(0, 72, .pointer (some ⟨b24, 1, none⟩)), (1, 73, .slice ad39 s38.length cp40), (2, 74, .pointer (some ⟨b24, 1, none⟩)), (3, 75, .slice ad39 s38.length cp40), (4, 76, iv s34), (5, 77, q109), (6, 78, iv x91), (7, 79, .slice ad74 o73.length cp75), (8, 80, q112), (9, 81, .agg #[.int .u8 x96.Kind, .bool x96.Purl, iv x96.A, iv x96.B]), (10, 82, iv r101), (11, 83, iv (w64 (x91 + r101)))]) rfl S ?_
  refine node_by (A := anc_raddleref37_Read_0) (nf := [12, 13, 15]) (Y := []) (W := [(0, 72, .pointer (some ⟨b24, 1, none⟩)), (1, 73, .slice ad39 s38.length cp40), (2, 74, .pointer (some ⟨b24, 1, none⟩)), (3, 75, .slice ad39 s38.length cp40), (4, 76, iv s34), (5, 77, q109), (6, 78, iv x91), (7, 79, .slice ad74 o73.length cp75), (8, 80, q112), (9, 81, .agg #[.int .u8 x96.Kind, .bool x96.Purl, iv x96.A, iv x96.B]), (10, 82, iv r101), (11, 83, iv (w64 (x91 + r101)))]) 16 (by kernel_rfl) (by kernel_rfl) (by kernel_rfl) (by kernel_rfl) (by kernel_rfl) [0, 1, 2, 3, 4, 5, 6, 7, 8, 9, 10, 11] (by kernel_rfl) (by decide) (by decide) (aF 0 15 (by decide) ?_ (aF 1 14 (by decide) ?_ (aF 2 13 (by decide) ?_ (aF 3 12 (by decide) ?_ (aF 4 11 (by decide) ?_ (aF 5 10 (by decide) ?_ (aF 6 9 (by decide) ?_ (aF 7 8 (by decide) ?_ (aF 8 7 (by decide) ?_ (aF 9 6 (by decide) ?_ (aF 10 5 (by decide) ?_ (aF 11 4 (by decide) ?_ (aN 12 3 (by decide) ?_ (aB 13 2 12 (by decide) (aE 14 1 12 (by decide) (aB 15 0 12 (by decide) (trivial))))))))))))))))) [] (fun q hq => by cases hq) (fun hY => absurd (hY 12 (by decide)) (by decide))
  · refine fI 72 (.pointer (some ⟨b24, 1, none⟩)) [(6, .pointer (some ⟨b24, 0, none⟩))] 0 [none] rfl rfl rfl rfl rfl rfl fun G a w S => ?_
    refine sField (b := b24) (off := 0) 1 1 S (wN rfl) rfl rfl rfl rfl rfl (lb rfl) fun a S => ?_
    exact leafL ⟨rfl, S⟩
  · refine fI 73 (.slice ad39 s38.length cp40) [(72, .pointer (some ⟨b24, 1, none⟩))] 1 [some 0] rfl rfl rfl rfl rfl rfl fun G a w S => ?_
    refine sLoad1 (p := b24) (off := 1) (T := 36) (vs := [.slice ad36 s35.length cp37, .slice ad39 s38.length cp40]) 2 (.slice ad39 s38.length cp40) S (wN rfl) rfl rfl rfl rfl rfl rfl (lb rfl) fun a S => ?_
    exact leafL ⟨rfl, S⟩
  · refine fI 74 (.pointer (some ⟨b24, 1, none⟩)) [(6, .pointer (some ⟨b24, 0, none⟩))] 2 [none] rfl rfl rfl rfl rfl rfl fun G a w S => ?_
    refine sField (b := b24) (off := 0) 1 1 S (wN rfl) rfl rfl rfl rfl rfl (lb rfl) fun a S => ?_
    exact leafL ⟨rfl, S⟩
  · refine fI 75 (.slice ad39 s38.length cp40) [(74, .pointer (some ⟨b24, 1, none⟩))] 3 [some 2] rfl rfl rfl rfl rfl rfl fun G a w S => ?_
    refine sLoad1 (p := b24) (off := 1) (T := 36) (vs := [.slice ad36 s35.length cp37, .slice ad39 s38.length cp40]) 2 (.slice ad39 s38.length cp40) S (wN rfl) rfl rfl rfl rfl rfl rfl (lb rfl) fun a S => ?_
    exact leafL ⟨rfl, S⟩
  · refine fI 76 (iv s34) [(7, iv s34)] 4 [none] rfl rfl rfl rfl rfl rfl fun G a w S => ?_
    refine sMove (iv s34) S (wN rfl) (.inl rfl) rfl rfl (lb rfl) fun a S => ?_
    exact leafL ⟨rfl, S⟩
  · refine fI 77 q109 [(75, .slice ad39 s38.length cp40), (76, iv s34)] 5 [some 3, some 4] rfl rfl rfl rfl rfl rfl fun G a w S => ?_
    refine sIdxV (v := .slice ad39 s38.length cp40) (k := .i64) (j := s34) S (wN rfl) rfl rfl rfl hq110 rfl (lb rfl) fun a S => ?_
    exact leafL ⟨rfl, S⟩
  · refine fI 78 (iv x91) [(77, q109)] 6 [some 5] rfl rfl rfl rfl rfl rfl fun G a w S => ?_
    refine sLoadR (r := (rI .i64)) (T := 3) (xs := s38) (x := x91) (v := .slice ad39 s38.length cp40) (vq := q109) (j := s34) 4 (iv x91) S hp111 (wN rfl) rfl rfl rfl hx92 (fun _ _ _ h => h) (scal_I _) rfl rfl (lb rfl) fun a S => ?_
    exact leafL ⟨rfl, S⟩
  · refine fI 79 (.slice ad74 o73.length cp75) [(8, .slice ad74 o73.length cp75)] 7 [none] rfl rfl rfl rfl rfl rfl fun G a w S => ?_
    refine sMove (.slice ad74 o73.length cp75) S (wN rfl) (.inl rfl) rfl rfl (lb rfl) fun a S => ?_
    exact leafL ⟨rfl, S⟩
  · refine fI 80 q112 [(79, .slice ad74 o73.length cp75)] 8 [some 7] rfl rfl rfl rfl rfl rfl fun G a w S => ?_
    refine sIdxV (v := .slice ad74 o73.length cp75) (k := .i64) (j := 0) S (wN rfl) rfl rfl rfl hq113 rfl (lb rfl) fun a S => ?_
    exact leafL ⟨rfl, S⟩
  · refine fI 81 (.agg #[.int .u8 x96.Kind, .bool x96.Purl, iv x96.A, iv x96.B]) [(80, q112)] 9 [some 8] rfl rfl rfl rfl rfl rfl fun G a w S => ?_
    refine sLoadVN (vq := q112) 0 [.int .u8 x96.Kind, .bool x96.Purl, iv x96.A, iv x96.B] S (wN rfl) rfl rfl rfl rfl rfl rfl (lb rfl) fun a S => ?_
    exact leafL ⟨rfl, S⟩
  · refine fI 82 (iv r101) [(81, .agg #[.int .u8 x96.Kind, .bool x96.Purl, iv x96.A, iv x96.B])] 10 [some 9] rfl rfl rfl rfl rfl rfl fun G a w S => ?_
    have S1 := S.mem
    refine sCallQ (X := Unit) (f := 43) (vs := [.agg #[.int .u8 x96.Kind, .bool x96.Purl, iv x96.A, iv x96.B]]) (val := fun _ => iv r101) S (wN rfl) rfl callee43 rfl (S1.quiet [1] rfl) (fun E1 w1 S1 => c_raddleref37_change E1 w1 x96 (.agg #[.int .u8 x96.Kind, .bool x96.Purl, iv x96.A, iv x96.B]) r101 hx102 S1) rfl (lb rfl) fun _ a w S => ?_
    exact leafL ⟨rfl, S⟩
  · refine fI 83 (iv (w64 (x91 + r101))) [(78, iv x91), (82, iv r101)] 11 [some 6, some 10] rfl rfl rfl rfl rfl rfl fun G a w S => ?_
    refine sBin (iv (w64 (x91 + r101))) S (wN rfl) rfl rfl rfl (bAdd _ _ _ _ x91 r101) rfl (lb rfl) fun a S => ?_
    exact leafL ⟨rfl, S⟩
  refine ⟨_, [(83, iv (w64 (x91 + r101)))], rfl, (srcs_of [some 11] rfl rfl rfl), fun G a w S => ?_⟩
  refine sLit (r := (rI .i64)) (T := 3) (xs := ([w64 (x91 + r101)] : List Int)) [(0, iv (w64 (x91 + r101)))] 1 [iv (w64 (x91 + r101))] [iv (w64 (x91 + r101))] (iv 0) 8 S (wN rfl) rfl rfl Try.underlying34 rfl (by decide) (by decide) (by kernel_rfl) rfl (fun E1 w1 hE => All.cons rfl (All.nil _ _ _)) rfl rfl (lb rfl) fun a w ad115 cp116 S => ?_
  refine leafL ⟨rfl, _, _, .inl ⟨84, (.slice ad115 ([w64 (x91 + r101)] : List Int).length cp116), [], rfl, S, hz_of rfl, ?_⟩⟩
  refine node_by (A := anc_raddleref37_Read_0) (nf := [12, 13, 15]) (Y := [12]) 16 (by kernel_rfl) (by kernel_rfl) (by kernel_rfl) (by kernel_rfl) (by kernel_rfl) [12, 0, 1, 2, 3, 4, 5, 6, 7, 8, 9, 10, 11] (by kernel_rfl) (by decide) (by decide) (aF 0 15 (by decide) ?_ (aF 1 14 (by decide) ?_ (aD 2 13 12 (by decide) (aD 3 12 12 (by decide) (aD 4 11 12 (by decide) (aD 5 10 12 (by decide) (aD 6 9 12 (by decide) (aD 7 8 12 (by decide) (aD 8 7 12 (by decide) (aD 9 6 12 (by decide) (aD 10 5 12 (by decide) (aD 11 4 12 (by decide) (aY 12 3 (by decide) (aN 13 2 (by decide) ?_ (aE 14 1 13 (by decide) (aB 15 0 13 (by decide) (trivial))))))))))))))))) [] (fun q hq => by cases hq) (fun hY => absurd (hY 13 (by decide)) (by decide))
  · refine fI 72 (.pointer (some ⟨b24, 1, none⟩)) [(6, .pointer (some ⟨b24, 0, none⟩))] 1 [none] rfl rfl rfl rfl rfl rfl fun G a w S => ?_
    refine sField (b := b24) (off := 0) 1 1 S (wN rfl) rfl rfl rfl rfl rfl (lb rfl) fun a S => ?_
    exact leafL ⟨rfl, S⟩
  · refine fI 73 (.slice ad39 s38.length cp40) [(72, .pointer (some ⟨b24, 1, none⟩))] 2 [some 1] rfl rfl rfl rfl rfl rfl fun G a w S => ?_
    refine sLoad1 (p := b24) (off := 1) (T := 36) (vs := [.slice ad36 s35.length cp37, .slice ad39 s38.length cp40]) 3 (.slice ad39 s38.length cp40) S (wN rfl) rfl rfl rfl rfl rfl rfl (lb rfl) fun a S => ?_
    exact leafL ⟨rfl, S⟩
  refine ⟨_, [(73, .slice ad39 s38.length cp40), (84, .slice ad115 ([w64 (x91 + r101)] : List Int).length cp116)], rfl, (srcs_of [some 2, some 0] rfl rfl rfl), fun G a w S => ?_⟩
  refine sApp (r := (rI .i64)) (T := 3) (xs := s38) (ys := ([w64 (x91 + r101)] : List Int)) (v := .slice ad39 s38.length cp40) (u := .slice ad115 ([w64 (x91 + r101)] : List Int).length cp116) 5 (iv 0) 8 S (wN rfl) rfl Try.underlying34 rfl rfl (by decide) rfl rfl rfl (src_R (T := 3) 0 S.mem rfl) hx106 rfl (lb rfl) fun a w ad117 cp118 S => ?_
  refine leafL ⟨rfl, _, _, .inl ⟨85, (.slice ad117 l105.length cp118), [(14, 86, .pointer (some ⟨b24, 1, none⟩))], rfl, S, hz_of rfl, ?_⟩⟩
  refine node_by (A := anc_raddleref37_Read_0) (nf := [12, 13, 15]) (Y := [13, 12]) 16 (by kernel_rfl) (by kernel_rfl) (by kernel_rfl) (by kernel_rfl) (by kernel_rfl) [14, 13, 12, 0, 1, 2, 3, 4, 5, 6, 7, 8, 9, 10, 11] (by kernel_rfl) (by decide) (by decide) (aD 0 15 13 (by decide) (aD 1 14 13 (by decide) (aD 2 13 13 (by decide) (aD 3 12 13 (by decide) (aD 4 11 13 (by decide) (aD 5 10 13 (by decide) (aD 6 9 13 (by decide) (aD 7 8 13 (by decide) (aD 8 7 13 (by decide) (aD 9 6 13 (by decide) (aD 10 5 13 (by decide) (aD 11 4 13 (by decide) (aY 12 3 (by decide) (aY 13 2 (by decide) (aF 14 1 (by decide) ?_ (aN 15 0 (by decide) ?_ (trivial))))))))))))))))) [] (fun q hq => by cases hq) (fun hY => absurd (hY 15 (by decide)) (by decide))
  · refine fI 86 (.pointer (some ⟨b24, 1, none⟩)) [(6, .pointer (some ⟨b24, 0, none⟩))] 0 [none] rfl rfl rfl rfl rfl rfl fun G a w S => ?_
    refine sField (b := b24) (off := 0) 1 1 S (wN rfl) rfl rfl rfl rfl rfl (lb rfl) fun a S => ?_
    exact leafL ⟨rfl, S⟩
  refine ⟨_, [(85, .slice ad117 l105.length cp118), (86, .pointer (some ⟨b24, 1, none⟩))], rfl, (srcs_of [some 1, some 0] rfl rfl rfl), fun G a w S => ?_⟩
  refine sStore (p := b24) (off := 1) (T := 36) (vs := [.slice ad36 s35.length cp37, .slice ad39 s38.length cp40]) (v := .slice ad117 l105.length cp118) 4 [.slice ad117 l105.length cp118] S (wN rfl) rfl rfl rfl rfl rfl rfl rfl (by simp) rfl fun a w S => ?_
  refine leafL ⟨rfl, _, _, .inr ⟨[], rfl, S, hz_of rfl, ?_⟩⟩
  refine node_by (A := anc_raddleref37_Read_0) (nf := [12, 13, 15]) (Y := [15, 13, 12]) 16 (by kernel_rfl) (by kernel_rfl) (by kernel_rfl) (by kernel_rfl) (by kernel_rfl) [14, 13, 12, 0, 1, 2, 3, 4, 5, 6, 7, 8, 9, 10, 11] (by kernel_rfl) (by decide) (by decide) (aD 0 15 15 (by decide) (aD 1 14 15 (by decide) (aD 2 13 15 (by decide) (aD 3 12 15 (by decide) (aD 4 11 15 (by decide) (aD 5 10 15 (by decide) (aD 6 9 15 (by decide) (aD 7 8 15 (by decide) (aD 8 7 15 (by decide) (aD 9 6 15 (by decide) (aD 10 5 15 (by decide) (aD 11 4 15 (by decide) (aY 12 3 (by decide) (aY 13 2 (by decide) (aD 14 1 15 (by decide) (aY 15 0 (by decide) (trivial))))))))))))))))) [(2, .pointer (some ⟨b6, 0, none⟩)), (4, .pointer (some ⟨b7, 0, none⟩)), (6, .pointer (some ⟨b24, 0, none⟩)), (7, iv s34), (8, .slice ad74 o73.length cp75)] (fin_of [none, none, none, none, none] rfl (by kernel_rfl) (by kernel_rfl)) (fun _ a w S => ?_)
  refine leafT (hK90 _ _ ?_)
  obtain ⟨x119, hx120, h⟩ := bindSome h
  obtain ⟨x124, hx125, h⟩ := bindSome h
  obtain ⟨r129, hx130, h⟩ := bindSome h
  obtain ⟨l133, hx134, h⟩ := bindSome h
  obtain ⟨q137, hq138, hp139⟩ := pIdxR (P := Try.prog) (r := (rI .i64)) (T := 3) (v := .slice ad36 s35.length cp37) (xs := s35) (j := s34) 34 3 5 S Try.underlying34 rfl rfl hx120
  obtain ⟨q140, hq141, S⟩ := pIdx (P := Try.prog) (r := r_api_Stitch) (v := .slice ad74 o73.length cp75) (xs := o73) (j := w64 ((o73.length : Int) - 1)) 78 82 3 S Try.underlying78 rfl rfl hx125
  obtain ⟨u142, S⟩ := pLoad (r := r_api_Stitch) (q := q140) (x := x124) 0 S rfl
  obtain rfl : u142 = .agg #[.int .u8 x124.Kind, .bool x124.Purl, iv x124.A, iv x124.B] := S.mem.know (i := 1) (e := fRep r_api_Stitch (u142) x124) rfl
  refine sDraw (nf := [15, 16, 18]) (W := [(0, 87, .pointer (some ⟨b24, 0, none⟩)), (1, 88, .slice ad36 s35.length cp37), (2, 89, .pointer (some ⟨b24, 0, none⟩)), (3, 90, .slice ad36 s35.length cp37), (4, 91, iv s34), (5, 92, q137), (6, 93, iv x119), (7, 94, .slice ad74 o73.length cp75), (8, 95, .slice ad74 o73.length cp75), (9, 96, iv (o73.length : Int)), (10, 97, iv (w64 ((o73.length : Int) - 1))), (11, 98, q140), (12, 99, .agg #[.int .u8 x124.Kind, .bool x124.Purl, iv x124.A, iv x124.B]), (13, 100, iv r129), (14, 101, iv (w64 (x119 - r129)))]) rfl S ?_
  refine node_by (A := anc_raddleref37_Read_1) (nf := [15, 16, 18]) (Y := []) (W := [(0, 87, .pointer (some ⟨b24, 0, none⟩)), (1, 88, .slice ad36 s35.length cp37), (2, 89, .pointer (some ⟨b24, 0, none⟩)), (3, 90, .slice ad36 s35.length cp37), (4, 91, iv s34), (5, 92, q137), (6, 93, iv x119), (7, 94, .slice ad74 o73.length cp75), (8, 95, .slice ad74 o73.length cp75), (9, 96, iv (o73.length : Int)), (10, 97, iv (w64 ((o73.length : Int) - 1))), (11, 98, q140), (12, 99, .agg #[.int .u8 x124.Kind, .bool x124.Purl, iv x124.A, iv x124.B]), (13, 100, iv r129), (14, 101, iv (w64 (x119 - r129)))]) 19 (by kernel_rfl) (by kernel_rfl) (by kernel_rfl) (by kernel_rfl) (by kernel_rfl) [0, 1, 2, 3, 4, 5, 6, 7, 8, 9, 10, 11, 12, 13, 14] (by kernel_rfl) (by decide) (by decide) (aF 0 18 (by decide) ?_ (aF 1 17 (by decide) ?_ (aF 2 16 (by decide) ?_ (aF 3 15 (by decide) ?_ (aF 4 14 (by decide) ?_ (aF 5 13 (by decide) ?_ (aF 6 12 (by decide) ?_ (aF 7 11 (by decide) ?_ (aF 8 10 (by decide) ?_ (aF 9 9 (by decide) ?_ (aF 10 8 (by decide) ?_ (aF 11 7 (by decide) ?_ (aF 12 6 (by decide) ?_ (aF 13 5 (by decide) ?_ (aF 14 4 (by decide) ?_ (aN 15 3 (by decide) ?_ (aB 16 2 15 (by decide) (aE 17 1 15 (by decide) (aB 18 0 15 (by decide) (trivial)))))))))))))))))))) [] (fun q hq => by cases hq) (fun hY => absurd (hY 15 (by decide)) (by decide))
  · refine fI 87 (.pointer (some ⟨b24, 0, none⟩)) [(6, .pointer (some ⟨b24, 0, none⟩))] 0 [none] rfl rfl rfl rfl rfl rfl fun G a w S => ?_
    refine sField (b := b24) (off := 0) 0 0 S (wN rfl) rfl rfl rfl rfl rfl (lb rfl) fun a S => ?_
    exact leafL ⟨rfl, S⟩
  · refine fI 88 (.slice ad36 s35.length cp37) [(87, .pointer (some ⟨b24, 0, none⟩))] 1 [some 0] rfl rfl rfl rfl rfl rfl fun G a w S => ?_
    refine sLoad1 (p := b24) (off := 0) (T := 36) (vs := [.slice ad36 s35.length cp37, .slice ad117 l105.length cp118]) 0 (.slice ad36 s35.length cp37) S (wN rfl) rfl rfl rfl rfl rfl rfl (lb rfl) fun a S => ?_
    exact leafL ⟨rfl, S⟩
  · refine fI 89 (.pointer (some ⟨b24, 0, none⟩)) [(6, .pointer (some ⟨b24, 0, none⟩))] 2 [none] rfl rfl rfl rfl rfl rfl fun G a w S => ?_
    refine sField (b := b24) (off := 0) 0 0 S (wN rfl) rfl rfl rfl rfl rfl (lb rfl) fun a S => ?_
    exact leafL ⟨rfl, S⟩
  · refine fI 90 (.slice ad36 s35.length cp37) [(89, .pointer (some ⟨b24, 0, none⟩))] 3 [some 2] rfl rfl rfl rfl rfl rfl fun G a w S => ?_
    refine sLoad1 (p := b24) (off := 0) (T := 36) (vs := [.slice ad36 s35.length cp37, .slice ad117 l105.length cp118]) 0 (.slice ad36 s35.length cp37) S (wN rfl) rfl rfl rfl rfl rfl rfl (lb rfl) fun a S => ?_
    exact leafL ⟨rfl, S⟩
  · refine fI 91 (iv s34) [(7, iv s34)] 4 [none] rfl rfl rfl rfl rfl rfl fun G a w S => ?_
    refine sMove (iv s34) S (wN rfl) (.inl rfl) rfl rfl (lb rfl) fun a S => ?_
    exact leafL ⟨rfl, S⟩
  · refine fI 92 q137 [(90, .slice ad36 s35.length cp37), (91, iv s34)] 5 [some 3, some 4] rfl rfl rfl rfl rfl rfl fun G a w S => ?_
    refine sIdxV (v := .slice ad36 s35.length cp37) (k := .i64) (j := s34) S (wN rfl) rfl rfl rfl hq138 rfl (lb rfl) fun a S => ?_
    exact leafL ⟨rfl, S⟩
  · refine fI 93 (iv x119) [(92, q137)] 6 [some 5] rfl rfl rfl rfl rfl rfl fun G a w S => ?_
    refine sLoadR (r := (rI .i64)) (T := 3) (xs := s35) (x := x119) (v := .slice ad36 s35.length cp37) (vq := q137) (j := s34) 5 (iv x119) S hp139 (wN rfl) rfl rfl rfl hx120 (fun _ _ _ h => h) (scal_I _) rfl rfl (lb rfl) fun a S => ?_
    exact leafL ⟨rfl, S⟩
  · refine fI 94 (.slice ad74 o73.length cp75) [(8, .slice ad74 o73.length cp75)] 7 [none] rfl rfl rfl rfl rfl rfl fun G a w S => ?_
    refine sMove (.slice ad74 o73.length cp75) S (wN rfl) (.inl rfl) rfl rfl (lb rfl) fun a S => ?_
    exact leafL ⟨rfl, S⟩
  · refine fI 95 (.slice ad74 o73.length cp75) [(8, .slice ad74 o73.length cp75)] 8 [none] rfl rfl rfl rfl rfl rfl fun G a w S => ?_
    refine sMove (.slice ad74 o73.length cp75) S (wN rfl) (.inl rfl) rfl rfl (lb rfl) fun a S => ?_
    exact leafL ⟨rfl, S⟩
  · refine fI 96 (iv (o73.length : Int)) [(95, .slice ad74 o73.length cp75)] 9 [some 8] rfl rfl rfl rfl rfl rfl fun G a w S => ?_
    refine sLen (ad := ad74) (m := o73.length) (c := cp75) S (wN rfl) rfl Try.underlying78 rfl rfl (lb rfl) fun a S => ?_
    exact leafL ⟨rfl, S⟩
  · refine fI 97 (iv (w64 ((o73.length : Int) - 1))) [(96, iv (o73.length : Int))] 10 [some 9] rfl rfl rfl rfl rfl rfl fun G a w S => ?_
    refine sBin (iv (w64 ((o73.length : Int) - 1))) S (wN rfl) rfl rfl rfl (bSub _ _ _ _ (o73.length : Int) 1) rfl (lb rfl) fun a S => ?_
    exact leafL ⟨rfl, S⟩
  · refine fI 98 q140 [(94, .slice ad74 o73.length cp75), (97, iv (w64 ((o73.length : Int) - 1)))] 11 [some 7, some 10] rfl rfl rfl rfl rfl rfl fun G a w S => ?_
    refine sIdxV (v := .slice ad74 o73.length cp75) (k := .i64) (j := w64 ((o73.length : Int) - 1)) S (wN rfl) rfl rfl rfl hq141 rfl (lb rfl) fun a S => ?_
    exact leafL ⟨rfl, S⟩
  · refine fI 99 (.agg #[.int .u8 x124.Kind, .bool x124.Purl, iv x124.A, iv x124.B]) [(98, q140)] 12 [some 11] rfl rfl rfl rfl rfl rfl fun G a w S => ?_
    refine sLoadVN (vq := q140) 0 [.int .u8 x124.Kind, .bool x124.Purl, iv x124.A, iv x124.B] S (wN rfl) rfl rfl rfl rfl rfl rfl (lb rfl) fun a S => ?_
    exact leafL ⟨rfl, S⟩
  · refine fI 100 (iv r129) [(99, .agg #[.int .u8 x124.Kind, .bool x124.Purl, iv x124.A, iv x124.B])] 13 [some 12] rfl rfl rfl rfl rfl rfl fun G a w S => ?_
    have S1 := S.mem
    refine sCallQ (X := Unit) (f := 43) (vs := [.agg #[.int .u8 x124.Kind, .bool x124.Purl, iv x124.A, iv x124.B]]) (val := fun _ => iv r129) S (wN rfl) rfl callee43 rfl (S1.quiet [1] rfl) (fun E1 w1 S1 => c_raddleref37_change E1 w1 x124 (.agg #[.int .u8 x124.Kind, .bool x124.Purl, iv x124.A, iv x124.B]) r129 hx130 S1) rfl (lb rfl) fun _ a w S => ?_
    exact leafL ⟨rfl, S⟩
  · refine fI 101 (iv (w64 (x119 - r129))) [(93, iv x119), (100, iv r129)] 14 [some 6, some 13] rfl rfl rfl rfl rfl rfl fun G a w S => ?_
    refine sBin (iv (w64 (x119 - r129))) S (wN rfl) rfl rfl rfl (bSub _ _ _ _ x119 r129) rfl (lb rfl) fun a S => ?_
    exact leafL ⟨rfl, S⟩
  refine ⟨_, [(101, iv (w64 (x119 - r129)))], rfl, (srcs_of [some 14] rfl rfl rfl), fun G a w S => ?_⟩
  refine sLit (r := (rI .i64)) (T := 3) (xs := ([w64 (x119 - r129)] : List Int)) [(0, iv (w64 (x119 - r129)))] 1 [iv (w64 (x119 - r129))] [iv (w64 (x119 - r129))] (iv 0) 8 S (wN rfl) rfl rfl Try.underlying34 rfl (by decide) (by decide) (by kernel_rfl) rfl (fun E1 w1 hE => All.cons rfl (All.nil _ _ _)) rfl rfl (lb rfl) fun a w ad143 cp144 S => ?_
  refine leafL ⟨rfl, _, _, .inl ⟨102, (.slice ad143 ([w64 (x119 - r129)] : List Int).length cp144), [], rfl, S, hz_of rfl, ?_⟩⟩
  refine node_by (A := anc_raddleref37_Read_1) (nf := [15, 16, 18]) (Y := [15]) 19 (by kernel_rfl) (by kernel_rfl) (by kernel_rfl) (by kernel_rfl) (by kernel_rfl) [15, 0, 1, 2, 3, 4, 5, 6, 7, 8, 9, 10, 11, 12, 13, 14] (by kernel_rfl) (by decide) (by decide) (aF 0 18 (by decide) ?_ (aF 1 17 (by decide) ?_ (aD 2 16 15 (by decide) (aD 3 15 15 (by decide) (aD 4 14 15 (by decide) (aD 5 13 15 (by decide) (aD 6 12 15 (by decide) (aD 7 11 15 (by decide) (aD 8 10 15 (by decide) (aD 9 9 15 (by decide) (aD 10 8 15 (by decide) (aD 11 7 15 (by decide) (aD 12 6 15 (by decide) (aD 13 5 15 (by decide) (aD 14 4 15 (by decide) (aY 15 3 (by decide) (aN 16 2 (by decide) ?_ (aE 17 1 16 (by decide) (aB 18 0 16 (by decide) (trivial)))))))))))))))))))) [] (fun q hq => by cases hq) (fun hY => absurd (hY 16 (by decide)) (by decide))
  · refine fI 87 (.pointer (some ⟨b24, 0, none⟩)) [(6, .pointer (some ⟨b24, 0, none⟩))] 1 [none] rfl rfl rfl rfl rfl rfl fun G a w S => ?_
    refine sField (b := b24) (off := 0) 0 0 S (wN rfl) rfl rfl rfl rfl rfl (lb rfl) fun a S => ?_
    exact leafL ⟨rfl, S⟩
  · refine fI 88 (.slice ad36 s35.length cp37) [(87, .pointer (some ⟨b24, 0, none⟩))] 2 [some 1] rfl rfl rfl rfl rfl rfl fun G a w S => ?_
    refine sLoad1 (p := b24) (off := 0) (T := 36) (vs := [.slice ad36 s35.length cp37, .slice ad117 l105.length cp118]) 1 (.slice ad36 s35.length cp37) S (wN rfl) rfl rfl rfl rfl rfl rfl (lb rfl) fun a S => ?_
    exact leafL ⟨rfl, S⟩
  refine ⟨_, [(88, .slice ad36 s35.length cp37), (102, .slice ad143 ([w64 (x119 - r129)] : List Int).length cp144)], rfl, (srcs_of [some 2, some 0] rfl rfl rfl), fun G a w S => ?_⟩
  refine sApp (r := (rI .i64)) (T := 3) (xs := s35) (ys := ([w64 (x119 - r129)] : List Int)) (v := .slice ad36 s35.length cp37) (u := .slice ad143 ([w64 (x119 - r129)] : List Int).length cp144) 6 (iv 0) 8 S (wN rfl) rfl Try.underlying34 rfl rfl (by decide) rfl rfl rfl (src_R (T := 3) 0 S.mem rfl) hx134 rfl (lb rfl) fun a w ad145 cp146 S => ?_
  refine leafL ⟨rfl, _, _, .inl ⟨103, (.slice ad145 l133.length cp146), [(17, 104, .pointer (some ⟨b24, 0, none⟩))], rfl, S, hz_of rfl, ?_⟩⟩
  refine node_by (A := anc_raddleref37_Read_1) (nf := [15, 16, 18]) (Y := [16, 15]) 19 (by kernel_rfl) (by kernel_rfl) (by kernel_rfl) (by kernel_rfl) (by kernel_rfl) [17, 16, 15, 0, 1, 2, 3, 4, 5, 6, 7, 8, 9, 10, 11, 12, 13, 14] (by kernel_rfl) (by decide) (by decide) (aD 0 18 16 (by decide) (aD 1 17 16 (by decide) (aD 2 16 16 (by decide) (aD 3 15 16 (by decide) (aD 4 14 16 (by decide) (aD 5 13 16 (by decide) (aD 6 12 16 (by decide) (aD 7 11 16 (by decide) (aD 8 10 16 (by decide) (aD 9 9 16 (by decide) (aD 10 8 16 (by decide) (aD 11 7 16 (by decide) (aD 12 6 16 (by decide) (aD 13 5 16 (by decide) (aD 14 4 16 (by decide) (aY 15 3 (by decide) (aY 16 2 (by decide) (aF 17 1 (by decide) ?_ (aN 18 0 (by decide) ?_ (trivial)))))))))))))))))))) [] (fun q hq => by cases hq) (fun hY => absurd (hY 18 (by decide)) (by decide))
  · refine fI 104 (.pointer (some ⟨b24, 0, none⟩)) [(6, .pointer (some ⟨b24, 0, none⟩))] 0 [none] rfl rfl rfl rfl rfl rfl fun G a w S => ?_
    refine sField (b := b24) (off := 0) 0 0 S (wN rfl) rfl rfl rfl rfl rfl (lb rfl) fun a S => ?_
    exact leafL ⟨rfl, S⟩
  refine ⟨_, [(103, .slice ad145 l133.length cp146), (104, .pointer (some ⟨b24, 0, none⟩))], rfl, (srcs_of [some 1, some 0] rfl rfl rfl), fun G a w S => ?_⟩
  refine sStore (p := b24) (off := 0) (T := 36) (vs := [.slice ad36 s35.length cp37, .slice ad117 l105.length cp118]) (v := .slice ad145 l133.length cp146) 2 [.slice ad145 l133.length cp146] S (wN rfl) rfl rfl rfl rfl rfl rfl rfl (by simp) rfl fun a w S => ?_
  refine leafL ⟨rfl, _, _, .inr ⟨[], rfl, S, hz_of rfl, ?_⟩⟩
  refine node_by (A := anc_raddleref37_Read_1) (nf := [15, 16, 18]) (Y := [18, 16, 15]) 19 (by kernel_rfl) (by kernel_rfl) (by kernel_rfl) (by kernel_rfl) (by kernel_rfl) [17, 16, 15, 0, 1, 2, 3, 4, 5, 6, 7, 8, 9, 10, 11, 12, 13, 14] (by kernel_rfl) (by decide) (by decide) (aD 0 18 18 (by decide) (aD 1 17 18 (by decide) (aD 2 16 18 (by decide) (aD 3 15 18 (by decide) (aD 4 14 18 (by decide) (aD 5 13 18 (by decide) (aD 6 12 18 (by decide) (aD 7 11 18 (by decide) (aD 8 10 18 (by decide) (aD 9 9 18 (by decide) (aD 10 8 18 (by decide) (aD 11 7 18 (by decide) (aD 12 6 18 (by decide) (aD 13 5 18 (by decide) (aD 14 4 18 (by decide) (aY 15 3 (by decide) (aY 16 2 (by decide) (aD 17 1 18 (by decide) (aY 18 0 (by decide) (trivial)))))))))))))))))))) [(2, .pointer (some ⟨b6, 0, none⟩)), (4, .pointer (some ⟨b7, 0, none⟩)), (6, .pointer (some ⟨b24, 0, none⟩)), (7, iv s34)] (fin_of [none, none, none, none] rfl (by kernel_rfl) (by kernel_rfl)) (fun _ a w S => ?_)
  refine leafB (leafT (hK53 _ _ ?_))
  refine sRegion ?_
  refine sMove (iv s34) S (wN rfl) (.inl rfl) rfl rfl (lb rfl) fun a S => ?_
  refine sBin (iv (w64 (s34 + 1))) S (wN rfl) rfl rfl rfl (bAdd _ _ _ _ s34 1) rfl (lb rfl) fun a S => ?_
  refine sMove (iv (w64 (s34 + 1))) S (wN rfl) (.inr rfl) rfl rfl (lb rfl) fun a S => ?_
  exact leafL (leafT (⟨(w64 (s34 + 1), l133, l105), (Option.some.inj h).symm, ⟨ad145, cp146, ad117, cp118, S.fix [5, 6, 0, 1, 3] [7] (by decide) rfl rfl rfl⟩⟩))

end Go.Proofs.Ytmedbnjhgkcndaa
namespace Go.Proofs.Ytmedbnjhgkcndaa
open Go.RowKit
set_option linter.unusedVariables false

noncomputable def F_raddlelaw37_PieceCharts (p0 : api_Piece) (p1 : api_Chart) (p2 : Int) : Option Bool :=
  Option.bind (α := Bool) (
    Option.bind (F_raddleref37_Great p0) fun r20 =>
    if r20 then
      some true
    else
      Option.bind (F_raddleref37_GreatChart p1) fun r23 =>
      some r23) fun o17 =>
  if o17 then
    some true
  else
    Option.bind (F_piece_Chart p0) fun r28 =>
    Option.bind (F_raddleref37_Chart p0) fun r37 =>
    Option.bind (F_piece_Read p1 p2) fun r46 =>
    Option.bind (F_raddleref37_Read p1 p2) fun r59 =>
    Option.bind (α := Bool) (
      Option.bind (F_raddleref37_SameChart r28.1 r37.1) fun r74 =>
      if r74 then
        if r28.2 == r37.2 then
          Option.bind (F_raddleref37_Same r46.1 r59.1) fun r78 =>
          if r78 then
            some (r46.2 == r59.2)
          else
            some false
        else
          some false
      else
        some false) fun o71 =>
    some o71
set_option maxHeartbeats 4000000 in
set_option maxRecDepth 100000 in
theorem c_raddlelaw37_PieceCharts (E : Nat → Prop) (w0 : World) (p0 : api_Piece) (v0 : Value) (p1 : api_Chart) (v1 : Value) (p2 : Int) (r : Bool) (h : F_raddlelaw37_PieceCharts p0 p1 p2 = some r) (S : St0 E [] w0 w0 [] [fRep r_api_Piece (v0) p0, fRep r_api_Chart (v1) p1]) :
    Calls Try.prog 5 #[v0, v1, iv p2] w0 (Ret (X := Unit) E [] w0 (fun _ => .bool r) (fun _ => []) (fun _ => [])) := by
  unfold F_raddlelaw37_PieceCharts at h
  obtain ⟨u1, u2, rfl, hu3, hu4⟩ := S.know (i := 0) (e := fRep r_api_Piece (v0) p0) rfl
  have S := S.learn (fRep (rL (rI .i64)) u1 p0.Left) hu3
  obtain ⟨ad5, cp6, _, rfl, _⟩ := hu3
  have S := S.learn (fRep (rL (rI .i64)) u2 p0.Right) hu4
  obtain ⟨ad7, cp8, _, rfl, _⟩ := hu4
  obtain ⟨u9, rfl, hu10⟩ := S.know (i := 3) (e := fRep r_api_Chart (v1) p1) rfl
  have S := S.learn (fRep (rL r_api_Row) u9 p1.Rows) hu10
  obtain ⟨ad11, cp12, _, rfl, _⟩ := hu10
  refine sEnter (args := [.agg #[.slice ad5 p0.Left.length cp6, .slice ad7 p0.Right.length cp8], .agg #[iv p1.Start, .slice ad11 p1.Rows.length cp12], iv p2]) 61 Try.func5 rfl rfl (by simp) S (fun a S => ?_)
  refine sSeq (fun K13 hK13 => ?_)
  refine sRegion ?_
  refine sBox (v := .agg #[.slice ad5 p0.Left.length cp6, .slice ad7 p0.Right.length cp8]) S (wN rfl) rfl rfl [.slice ad5 p0.Left.length cp6, .slice ad7 p0.Right.length cp8] rfl rfl (lb rfl) fun a b14 w S => ?_
  refine sBox (v := .agg #[iv p1.Start, .slice ad11 p1.Rows.length cp12]) S (wN rfl) rfl rfl [iv p1.Start, .slice ad11 p1.Rows.length cp12] rfl rfl (lb rfl) fun a b15 w S => ?_
  refine sMove (.bool false) S (wN rfl) (.inr rfl) rfl rfl (lb rfl) fun a S => ?_
  refine leafL (leafT (hK13 _ _ ?_))
  refine sSeq (fun K16 hK16 => ?_)
  obtain ⟨t18, h, g19⟩ := bindSome h
  refine sCut (fun a w => ∃ o17, o17 = t18 ∧ St [] E [] w0 61 a w [(2, iv p2), (3, .pointer (some ⟨b14, 0, none⟩)), (4, .pointer (some ⟨b15, 0, none⟩)), (20, .bool o17)] [eBox b14 36 [.slice ad5 p0.Left.length cp6, .slice ad7 p0.Right.length cp8], eBox b15 58 [iv p1.Start, .slice ad11 p1.Rows.length cp12]] [fRep (rL (rI .i64)) (.slice ad5 p0.Left.length cp6) p0.Left, fRep (rL (rI .i64)) (.slice ad7 p0.Right.length cp8) p0.Right, fRep (rL r_api_Row) (.slice ad11 p1.Rows.length cp12) p1.Rows]) ?_ (fun a w hI => ?_)
  · refine sRegion ?_
    refine sLoadN (p := b14) (off := 0) (T := 36) (vs := [.slice ad5 p0.Left.length cp6, .slice ad7 p0.Right.length cp8]) 1 [.slice ad5 p0.Left.length cp6, .slice ad7 p0.Right.length cp8] S (wN rfl) rfl rfl rfl rfl rfl rfl rfl (lb rfl) fun a S => ?_
    obtain ⟨r20, hx21, h⟩ := bindSome h
    have S1 := S.mem
    refine sCallQ (X := Unit) (f := 10) (vs := [.agg #[.slice ad5 p0.Left.length cp6, .slice ad7 p0.Right.length cp8]]) (val := fun _ => .bool r20) S (wN rfl) rfl callee10 rfl (S1.quiet [3] rfl) (fun E1 w1 S1 => c_raddleref37_Great E1 w1 p0 (.agg #[.slice ad5 p0.Left.length cp6, .slice ad7 p0.Right.length cp8]) r20 hx21 S1) rfl (lb rfl) fun _ a w S => ?_
    refine sMove (.bool r20) S (wN rfl) (.inl rfl) rfl rfl (lb rfl) fun a S => ?_
    rcases iteSome h with ⟨hc22, h⟩ | ⟨hc22, h⟩
    · refine sSkip 2 false 17 18 S rfl rfl rfl hc22 rfl (lb rfl) fun a S => ?_
      refine sSkip 2 false 17 19 S rfl rfl rfl hc22 rfl (lb rfl) fun a S => ?_
      refine sPickT (.bool true) S (wN rfl) rfl rfl hc22 rfl rfl (lb rfl) fun a S => ?_
      exact leafL (leafT (⟨true, Option.some.inj h, S.fix [1, 0] [2, 1, 0] (by decide) rfl rfl rfl⟩))
    refine sLoadN (p := b15) (off := 0) (T := 58) (vs := [iv p1.Start, .slice ad11 p1.Rows.length cp12]) 0 [iv p1.Start, .slice ad11 p1.Rows.length cp12] S (wG 2 false 17 rfl rfl rfl hc22) rfl rfl rfl rfl rfl rfl rfl (lb rfl) fun a S => ?_
    obtain ⟨r23, hx24, h⟩ := bindSome h
    have S1 := S.mem
    refine sCallQ (X := Unit) (f := 21) (vs := [.agg #[iv p1.Start, .slice ad11 p1.Rows.length cp12]]) (val := fun _ => .bool r23) S (wG 2 false 17 rfl rfl rfl hc22) rfl callee21 rfl (S1.quiet [4] rfl) (fun E1 w1 S1 => c_raddleref37_GreatChart E1 w1 p1 (.agg #[iv p1.Start, .slice ad11 p1.Rows.length cp12]) r23 hx24 S1) rfl (lb rfl) fun _ a w S => ?_
    refine sPickF (.bool r23) S (wN rfl) rfl rfl hc22 rfl rfl (lb rfl) fun a S => ?_
    exact leafL (leafT (⟨r23, Option.some.inj h, S.fix [1, 0] [2, 1, 0] (by decide) rfl rfl rfl⟩))
  obtain ⟨o17, rfl, S⟩ := hI
  have h := g19
  clear g19
  try dsimp only at h
  rcases iteSome h with ⟨hc25, h⟩ | ⟨hc25, h⟩
  · refine sCondT S rfl hc25 ?_
    refine sSeq (fun K26 hK26 => ?_)
    refine sRegion ?_
    refine sMove (.bool true) S (wN rfl) (.inr rfl) rfl rfl (lb rfl) fun a S => ?_
    refine leafL (leafT (hK26 _ _ ?_))
    obtain rfl := Option.some.inj h
    exact wp_ret (rThen (sRet (.bool true) S (rsl1 rfl (rvT (t := 6) (v := .bool true) S rfl)) ⟨(), rfl, S.mem.sel [] [] (by decide) rfl rfl⟩))
  refine sCondF S rfl hc25 ?_
  refine wp_skip (leafT (hK16 _ _ ?_))
  refine sSeq (fun K27 hK27 => ?_)
  refine sRegion ?_
  refine sLoadN (p := b14) (off := 0) (T := 36) (vs := [.slice ad5 p0.Left.length cp6, .slice ad7 p0.Right.length cp8]) 0 [.slice ad5 p0.Left.length cp6, .slice ad7 p0.Right.length cp8] S (wN rfl) rfl rfl rfl rfl rfl rfl rfl (lb rfl) fun a S => ?_
  obtain ⟨r28, hx29, h⟩ := bindSome h
  have S := S.learn (fRep r_api_Piece (.agg #[.slice ad5 p0.Left.length cp6, .slice ad7 p0.Right.length cp8]) p0) ⟨_, _, rfl, S.mem.know (i := 0) (e := fRep (rL (rI .i64)) (.slice ad5 p0.Left.length cp6) p0.Left) rfl, S.mem.know (i := 1) (e := fRep (rL (rI .i64)) (.slice ad7 p0.Right.length cp8) p0.Right) rfl⟩
  refine sCall (X := Value) (f := 22) (vs := [.agg #[.slice ad5 p0.Left.length cp6, .slice ad7 p0.Right.length cp8]]) (val := c_piece_Chart_val r28) (B' := fun _ => []) (D' := c_piece_Chart_D r28) [] [eBox b14 36 [.slice ad5 p0.Left.length cp6, .slice ad7 p0.Right.length cp8], eBox b15 58 [iv p1.Start, .slice ad11 p1.Rows.length cp12]] [fRep r_api_Piece (.agg #[.slice ad5 p0.Left.length cp6, .slice ad7 p0.Right.length cp8]) p0] [0, 1] [0] S (wN rfl) rfl callee22 rfl (by decide) rfl rfl (fun E1 w1 S1 => c_piece_Chart E1 w1 p0 (.agg #[.slice ad5 p0.Left.length cp6, .slice ad7 p0.Right.length cp8]) r28 hx29 S1) rfl (lb rfl) fun u30 a w S => ?_
  obtain ⟨u31, rfl, hu32⟩ := S.mem.know (i := 0) (e := fRep r_api_Chart (u30) r28.1) rfl
  have S := S.learn (fRep (rL r_api_Row) u31 r28.1.Rows) hu32
  obtain ⟨ad33, cp34, _, rfl, _⟩ := hu32
  refine sMove (.tuple #[.agg #[iv r28.1.Start, .slice ad33 r28.1.Rows.length cp34], iv r28.2]) S (wN rfl) (.inl rfl) rfl rfl (lb rfl) fun a S => ?_
  refine sExtract (vs := [.agg #[iv r28.1.Start, .slice ad33 r28.1.Rows.length cp34], iv r28.2]) (.agg #[iv r28.1.Start, .slice ad33 r28.1.Rows.length cp34]) S (wN rfl) rfl rfl rfl rfl (lb rfl) fun a S => ?_
  refine sExtract (vs := [.agg #[iv r28.1.Start, .slice ad33 r28.1.Rows.length cp34], iv r28.2]) (iv r28.2) S (wN rfl) rfl rfl rfl rfl (lb rfl) fun a S => ?_
  refine sAlloc (.agg #[iv 0, .slice none 0 0]) S (wN rfl) rfl rfl [iv 0, .slice none 0 0] rfl rfl (lb rfl) fun a b35 w S => ?_
  refine sStore (p := b35) (off := 0) (T := 58) (vs := [iv 0, .slice none 0 0]) (v := .agg #[iv r28.1.Start, .slice ad33 r28.1.Rows.length cp34]) 0 [iv r28.1.Start, .slice ad33 r28.1.Rows.length cp34] S (wN rfl) rfl rfl rfl rfl rfl rfl rfl (by simp) rfl fun a w S => ?_
  refine sMove (iv r28.2) S (wN rfl) (.inr rfl) rfl rfl (lb rfl) fun a S => ?_
  refine leafL (leafT (hK27 _ _ ?_))
  refine sSeq (fun K36 hK36 => ?_)
  refine sRegion ?_
  refine sLoadN (p := b14) (off := 0) (T := 36) (vs := [.slice ad5 p0.Left.length cp6, .slice ad7 p0.Right.length cp8]) 1 [.slice ad5 p0.Left.length cp6, .slice ad7 p0.Right.length cp8] S (wN rfl) rfl rfl rfl rfl rfl rfl rfl (lb rfl) fun a S => ?_
  obtain ⟨r37, hx38, h⟩ := bindSome h
  refine sCall (X := Value) (f := 23) (vs := [.agg #[.slice ad5 p0.Left.length cp6, .slice ad7 p0.Right.length cp8]]) (val := c_raddleref37_Chart_val r37) (B' := fun _ => []) (D' := c_raddleref37_Chart_D r37) [] [eBox b35 58 [iv r28.1.Start, .slice ad33 r28.1.Rows.length cp34], eBox b14 36 [.slice ad5 p0.Left.length cp6, .slice ad7 p0.Right.length cp8], eBox b15 58 [iv p1.Start, .slice ad11 p1.Rows.length cp12]] [fRep r_api_Piece (.agg #[.slice ad5 p0.Left.length cp6, .slice ad7 p0.Right.length cp8]) p0] [0, 1, 2] [2] S (wN rfl) rfl callee23 rfl (by decide) rfl rfl (fun E1 w1 S1 => c_raddleref37_Chart E1 w1 p0 (.agg #[.slice ad5 p0.Left.length cp6, .slice ad7 p0.Right.length cp8]) r37 hx38 S1) rfl (lb rfl) fun u39 a w S => ?_
  obtain ⟨u40, rfl, hu41⟩ := S.mem.know (i := 0) (e := fRep r_api_Chart (u39) r37.1) rfl
  have S := S.learn (fRep (rL r_api_Row) u40 r37.1.Rows) hu41
  obtain ⟨ad42, cp43, _, rfl, _⟩ := hu41
  refine sMove (.tuple #[.agg #[iv r37.1.Start, .slice ad42 r37.1.Rows.length cp43], iv r37.2]) S (wN rfl) (.inl rfl) rfl rfl (lb rfl) fun a S => ?_
  refine sExtract (vs := [.agg #[iv r37.1.Start, .slice ad42 r37.1.Rows.length cp43], iv r37.2]) (.agg #[iv r37.1.Start, .slice ad42 r37.1.Rows.length cp43]) S (wN rfl) rfl rfl rfl rfl (lb rfl) fun a S => ?_
  refine sExtract (vs := [.agg #[iv r37.1.Start, .slice ad42 r37.1.Rows.length cp43], iv r37.2]) (iv r37.2) S (wN rfl) rfl rfl rfl rfl (lb rfl) fun a S => ?_
  refine sAlloc (.agg #[iv 0, .slice none 0 0]) S (wN rfl) rfl rfl [iv 0, .slice none 0 0] rfl rfl (lb rfl) fun a b44 w S => ?_
  refine sStore (p := b44) (off := 0) (T := 58) (vs := [iv 0, .slice none 0 0]) (v := .agg #[iv r37.1.Start, .slice ad42 r37.1.Rows.length cp43]) 0 [iv r37.1.Start, .slice ad42 r37.1.Rows.length cp43] S (wN rfl) rfl rfl rfl rfl rfl rfl rfl (by simp) rfl fun a w S => ?_
  refine sMove (iv r37.2) S (wN rfl) (.inr rfl) rfl rfl (lb rfl) fun a S => ?_
  refine leafL (leafT (hK36 _ _ ?_))
  refine sSeq (fun K45 hK45 => ?_)
  refine sRegion ?_
  refine sLoadN (p := b15) (off := 0) (T := 58) (vs := [iv p1.Start, .slice ad11 p1.Rows.length cp12]) 3 [iv p1.Start, .slice ad11 p1.Rows.length cp12] S (wN rfl) rfl rfl rfl rfl rfl rfl rfl (lb rfl) fun a S => ?_
  refine sMove (iv p2) S (wN rfl) (.inl rfl) rfl rfl (lb rfl) fun a S => ?_
  obtain ⟨r46, hx47, h⟩ := bindSome h
  have S := S.learn (fRep r_api_Chart (.agg #[iv p1.Start, .slice ad11 p1.Rows.length cp12]) p1) ⟨_, rfl, S.mem.know (i := 7) (e := fRep (rL r_api_Row) (.slice ad11 p1.Rows.length cp12) p1.Rows) rfl⟩
  refine sCall (X := Value) (f := 24) (vs := [.agg #[iv p1.Start, .slice ad11 p1.Rows.length cp12], iv p2]) (val := c_piece_Read_val r46) (B' := fun _ => []) (D' := c_piece_Read_D r46) [] [eBox b44 58 [iv r37.1.Start, .slice ad42 r37.1.Rows.length cp43], eBox b35 58 [iv r28.1.Start, .slice ad33 r28.1.Rows.length cp34], eBox b14 36 [.slice ad5 p0.Left.length cp6, .slice ad7 p0.Right.length cp8], eBox b15 58 [iv p1.Start, .slice ad11 p1.Rows.length cp12]] [fRep r_api_Chart (.agg #[iv p1.Start, .slice ad11 p1.Rows.length cp12]) p1] [0, 1, 2, 3] [0] S (wN rfl) rfl callee24 rfl (by decide) rfl rfl (fun E1 w1 S1 => c_piece_Read E1 w1 p1 (.agg #[iv p1.Start, .slice ad11 p1.Rows.length cp12]) p2 r46 hx47 S1) rfl (lb rfl) fun u48 a w S => ?_
  obtain ⟨u49, u50, rfl, hu51, hu52⟩ := S.mem.know (i := 0) (e := fRep r_api_Piece (u48) r46.1) rfl
  have S := S.learn (fRep (rL (rI .i64)) u49 r46.1.Left) hu51
  obtain ⟨ad53, cp54, _, rfl, _⟩ := hu51
  have S := S.learn (fRep (rL (rI .i64)) u50 r46.1.Right) hu52
  obtain ⟨ad55, cp56, _, rfl, _⟩ := hu52
  refine sMove (.tuple #[.agg #[.slice ad53 r46.1.Left.length cp54, .slice ad55 r46.1.Right.length cp56], iv r46.2]) S (wN rfl) (.inl rfl) rfl rfl (lb rfl) fun a S => ?_
  refine sExtract (vs := [.agg #[.slice ad53 r46.1.Left.length cp54, .slice ad55 r46.1.Right.length cp56], iv r46.2]) (.agg #[.slice ad53 r46.1.Left.length cp54, .slice ad55 r46.1.Right.length cp56]) S (wN rfl) rfl rfl rfl rfl (lb rfl) fun a S => ?_
  refine sExtract (vs := [.agg #[.slice ad53 r46.1.Left.length cp54, .slice ad55 r46.1.Right.length cp56], iv r46.2]) (iv r46.2) S (wN rfl) rfl rfl rfl rfl (lb rfl) fun a S => ?_
  refine sAlloc (.agg #[.slice none 0 0, .slice none 0 0]) S (wN rfl) rfl rfl [.slice none 0 0, .slice none 0 0] rfl rfl (lb rfl) fun a b57 w S => ?_
  refine sStore (p := b57) (off := 0) (T := 36) (vs := [.slice none 0 0, .slice none 0 0]) (v := .agg #[.slice ad53 r46.1.Left.length cp54, .slice ad55 r46.1.Right.length cp56]) 0 [.slice ad53 r46.1.Left.length cp54, .slice ad55 r46.1.Right.length cp56] S (wN rfl) rfl rfl rfl rfl rfl rfl rfl (by simp) rfl fun a w S => ?_
  refine sMove (iv r46.2) S (wN rfl) (.inr rfl) rfl rfl (lb rfl) fun a S => ?_
  refine leafL (leafT (hK45 _ _ ?_))
  refine sSeq (fun K58 hK58 => ?_)
  refine sRegion ?_
  refine sLoadN (p := b15) (off := 0) (T := 58) (vs := [iv p1.Start, .slice ad11 p1.Rows.length cp12]) 4 [iv p1.Start, .slice ad11 p1.Rows.length cp12] S (wN rfl) rfl rfl rfl rfl rfl rfl rfl (lb rfl) fun a S => ?_
  refine sMove (iv p2) S (wN rfl) (.inl rfl) rfl rfl (lb rfl) fun a S => ?_
  obtain ⟨r59, hx60, h⟩ := bindSome h
  refine sCall (X := Value) (f := 25) (vs := [.agg #[iv p1.Start, .slice ad11 p1.Rows.length cp12], iv p2]) (val := c_raddleref37_Read_val r59) (B' := fun _ => []) (D' := c_raddleref37_Read_D r59) [] [eBox b57 36 [.slice ad53 r46.1.Left.length cp54, .slice ad55 r46.1.Right.length cp56], eBox b44 58 [iv r37.1.Start, .slice ad42 r37.1.Rows.length cp43], eBox b35 58 [iv r28.1.Start, .slice ad33 r28.1.Rows.length cp34], eBox b14 36 [.slice ad5 p0.Left.length cp6, .slice ad7 p0.Right.length cp8], eBox b15 58 [iv p1.Start, .slice ad11 p1.Rows.length cp12]] [fRep r_api_Chart (.agg #[iv p1.Start, .slice ad11 p1.Rows.length cp12]) p1] [0, 1, 2, 3, 4] [3] S (wN rfl) rfl callee25 rfl (by decide) rfl rfl (fun E1 w1 S1 => c_raddleref37_Read E1 w1 p1 (.agg #[iv p1.Start, .slice ad11 p1.Rows.length cp12]) p2 r59 hx60 S1) rfl (lb rfl) fun u61 a w S => ?_
  obtain ⟨u62, u63, rfl, hu64, hu65⟩ := S.mem.know (i := 0) (e := fRep r_api_Piece (u61) r59.1) rfl
  have S := S.learn (fRep (rL (rI .i64)) u62 r59.1.Left) hu64
  obtain ⟨ad66, cp67, _, rfl, _⟩ := hu64
  have S := S.learn (fRep (rL (rI .i64)) u63 r59.1.Right) hu65
  obtain ⟨ad68, cp69, _, rfl, _⟩ := hu65
  refine sMove (.tuple #[.agg #[.slice ad66 r59.1.Left.length cp67, .slice ad68 r59.1.Right.length cp69], iv r59.2]) S (wN rfl) (.inl rfl) rfl rfl (lb rfl) fun a S => ?_
  refine sExtract (vs := [.agg #[.slice ad66 r59.1.Left.length cp67, .slice ad68 r59.1.Right.length cp69], iv r59.2]) (.agg #[.slice ad66 r59.1.Left.length cp67, .slice ad68 r59.1.Right.length cp69]) S (wN rfl) rfl rfl rfl rfl (lb rfl) fun a S => ?_
  refine sExtract (vs := [.agg #[.slice ad66 r59.1.Left.length cp67, .slice ad68 r59.1.Right.length cp69], iv r59.2]) (iv r59.2) S (wN rfl) rfl rfl rfl rfl (lb rfl) fun a S => ?_
  refine sAlloc (.agg #[.slice none 0 0, .slice none 0 0]) S (wN rfl) rfl rfl [.slice none 0 0, .slice none 0 0] rfl rfl (lb rfl) fun a b70 w S => ?_
  refine sStore (p := b70) (off := 0) (T := 36) (vs := [.slice none 0 0, .slice none 0 0]) (v := .agg #[.slice ad66 r59.1.Left.length cp67, .slice ad68 r59.1.Right.length cp69]) 0 [.slice ad66 r59.1.Left.length cp67, .slice ad68 r59.1.Right.length cp69] S (wN rfl) rfl rfl rfl rfl rfl rfl rfl (by simp) rfl fun a w S => ?_
  refine sMove (iv r59.2) S (wN rfl) (.inr rfl) rfl rfl (lb rfl) fun a S => ?_
  refine leafL (leafT (hK58 _ _ ?_))
  obtain ⟨t72, h, g73⟩ := bindSome h
  refine sCut (fun a w => ∃ o71, o71 = t72 ∧ St [] E [] w0 61 a w [(6, .bool o71)] [] []) ?_ (fun a w hI => ?_)
  rotate_left
  · obtain ⟨o71, rfl, S⟩ := hI
    have h := g73
    clear g73
    try dsimp only at h
    obtain rfl := Option.some.inj h
    exact wp_ret (sRet (.bool o71) S (rsl1 rfl (rvT (t := 6) (v := .bool o71) S rfl)) ⟨(), rfl, S.mem.sel [] [] (by decide) rfl rfl⟩)
  refine sRegion ?_
  refine sLoadN (p := b35) (off := 0) (T := 58) (vs := [iv r28.1.Start, .slice ad33 r28.1.Rows.length cp34]) 3 [iv r28.1.Start, .slice ad33 r28.1.Rows.length cp34] S (wN rfl) rfl rfl rfl rfl rfl rfl rfl (lb rfl) fun a S => ?_
  refine sLoadN (p := b44) (off := 0) (T := 58) (vs := [iv r37.1.Start, .slice ad42 r37.1.Rows.length cp43]) 2 [iv r37.1.Start, .slice ad42 r37.1.Rows.length cp43] S (wN rfl) rfl rfl rfl rfl rfl rfl rfl (lb rfl) fun a S => ?_
  obtain ⟨r74, hx75, h⟩ := bindSome h
  have S1 := S.mem
  refine sCallQ (X := Unit) (f := 26) (vs := [.agg #[iv r28.1.Start, .slice ad33 r28.1.Rows.length cp34], .agg #[iv r37.1.Start, .slice ad42 r37.1.Rows.length cp43]]) (val := fun _ => .bool r74) S (wN rfl) rfl callee26 rfl (S1.quiet [10, 8] rfl) (fun E1 w1 S1 => c_raddleref37_SameChart E1 w1 r28.1 (.agg #[iv r28.1.Start, .slice ad33 r28.1.Rows.length cp34]) r37.1 (.agg #[iv r37.1.Start, .slice ad42 r37.1.Rows.length cp43]) r74 hx75 S1) rfl (lb rfl) fun _ a w S => ?_
  refine sMove (.bool r74) S (wN rfl) (.inl rfl) rfl rfl (lb rfl) fun a S => ?_
  rcases iteSome h with ⟨hc76, h⟩ | ⟨hc76, h⟩
  rotate_left
  · refine sSkip 3 true 46 47 S rfl rfl rfl hc76 rfl (lb rfl) fun a S => ?_
    refine sSkip 3 true 46 48 S rfl rfl rfl hc76 rfl (lb rfl) fun a S => ?_
    refine sSkip 3 true 46 49 S rfl rfl rfl hc76 rfl (lb rfl) fun a S => ?_
    refine sPickF (.bool false) S (wN rfl) rfl rfl hc76 rfl rfl (lb rfl) fun a S => ?_
    refine sMove (.bool false) S (wN rfl) (.inl rfl) rfl rfl (lb rfl) fun a S => ?_
    refine sSkip 8 true 51 52 S rfl rfl rfl rfl rfl (lb rfl) fun a S => ?_
    refine sSkip 8 true 51 53 S rfl rfl rfl rfl rfl (lb rfl) fun a S => ?_
    refine sSkip 8 true 51 54 S rfl rfl rfl rfl rfl (lb rfl) fun a S => ?_
    refine sPickF (.bool false) S (wN rfl) rfl rfl rfl rfl rfl (lb rfl) fun a S => ?_
    refine sMove (.bool false) S (wN rfl) (.inl rfl) rfl rfl (lb rfl) fun a S => ?_
    refine sSkip 13 true 56 57 S rfl rfl rfl rfl rfl (lb rfl) fun a S => ?_
    refine sSkip 13 true 56 58 S rfl rfl rfl rfl rfl (lb rfl) fun a S => ?_
    refine sSkip 13 true 56 59 S rfl rfl rfl rfl rfl (lb rfl) fun a S => ?_
    refine sPickF (.bool false) S (wN rfl) rfl rfl rfl rfl rfl (lb rfl) fun a S => ?_
    refine sMove (.bool false) S (wN rfl) (.inr rfl) rfl rfl (lb rfl) fun a S => ?_
    exact leafL (leafT (⟨false, Option.some.inj h, S.fix [] [] (by decide) rfl rfl rfl⟩))
  refine sMove (iv r28.2) S (wG 3 true 46 rfl rfl rfl hc76) (.inl rfl) rfl rfl (lb rfl) fun a S => ?_
  refine sMove (iv r37.2) S (wG 3 true 46 rfl rfl rfl hc76) (.inl rfl) rfl rfl (lb rfl) fun a S => ?_
  refine sBin (.bool (r28.2 == r37.2)) S (wG 3 true 46 rfl rfl rfl hc76) rfl rfl rfl (bEq _ _ _ _ .i64 r28.2 r37.2) rfl (lb rfl) fun a S => ?_
  refine sPickT (.bool (r28.2 == r37.2)) S (wN rfl) rfl rfl hc76 rfl rfl (lb rfl) fun a S => ?_
  refine sMove (.bool (r28.2 == r37.2)) S (wN rfl) (.inl rfl) rfl rfl (lb rfl) fun a S => ?_
  rcases iteSome h with ⟨hc77, h⟩ | ⟨hc77, h⟩
  rotate_left
  · refine sSkip 8 true 51 52 S rfl rfl rfl hc77 rfl (lb rfl) fun a S => ?_
    refine sSkip 8 true 51 53 S rfl rfl rfl hc77 rfl (lb rfl) fun a S => ?_
    refine sSkip 8 true 51 54 S rfl rfl rfl hc77 rfl (lb rfl) fun a S => ?_
    refine sPickF (.bool false) S (wN rfl) rfl rfl hc77 rfl rfl (lb rfl) fun a S => ?_
    refine sMove (.bool false) S (wN rfl) (.inl rfl) rfl rfl (lb rfl) fun a S => ?_
    refine sSkip 13 true 56 57 S rfl rfl rfl rfl rfl (lb rfl) fun a S => ?_
    refine sSkip 13 true 56 58 S rfl rfl rfl rfl rfl (lb rfl) fun a S => ?_
    refine sSkip 13 true 56 59 S rfl rfl rfl rfl rfl (lb rfl) fun a S => ?_
    refine sPickF (.bool false) S (wN rfl) rfl rfl rfl rfl rfl (lb rfl) fun a S => ?_
    refine sMove (.bool false) S (wN rfl) (.inr rfl) rfl rfl (lb rfl) fun a S => ?_
    exact leafL (leafT (⟨false, Option.some.inj h, S.fix [] [] (by decide) rfl rfl rfl⟩))
  refine sLoadN (p := b57) (off := 0) (T := 36) (vs := [.slice ad53 r46.1.Left.length cp54, .slice ad55 r46.1.Right.length cp56]) 1 [.slice ad53 r46.1.Left.length cp54, .slice ad55 r46.1.Right.length cp56] S (wG 8 true 51 rfl rfl rfl hc77) rfl rfl rfl rfl rfl rfl rfl (lb rfl) fun a S => ?_
  refine sLoadN (p := b70) (off := 0) (T := 36) (vs := [.slice ad66 r59.1.Left.length cp67, .slice ad68 r59.1.Right.length cp69]) 0 [.slice ad66 r59.1.Left.length cp67, .slice ad68 r59.1.Right.length cp69] S (wG 8 true 51 rfl rfl rfl hc77) rfl rfl rfl rfl rfl rfl rfl (lb rfl) fun a S => ?_
  obtain ⟨r78, hx79, h⟩ := bindSome h
  have S1 := S.mem
  refine sCallQ (X := Unit) (f := 19) (vs := [.agg #[.slice ad53 r46.1.Left.length cp54, .slice ad55 r46.1.Right.length cp56], .agg #[.slice ad66 r59.1.Left.length cp67, .slice ad68 r59.1.Right.length cp69]]) (val := fun _ => .bool r78) S (wG 8 true 51 rfl rfl rfl hc77) rfl callee19 rfl (S1.quiet [5, 2] rfl) (fun E1 w1 S1 => c_raddleref37_Same E1 w1 r46.1 (.agg #[.slice ad53 r46.1.Left.length cp54, .slice ad55 r46.1.Right.length cp56]) r59.1 (.agg #[.slice ad66 r59.1.Left.length cp67, .slice ad68 r59.1.Right.length cp69]) r78 hx79 S1) rfl (lb rfl) fun _ a w S => ?_
  refine sPickT (.bool r78) S (wN rfl) rfl rfl hc77 rfl rfl (lb rfl) fun a S => ?_
  refine sMove (.bool r78) S (wN rfl) (.inl rfl) rfl rfl (lb rfl) fun a S => ?_
  rcases iteSome h with ⟨hc80, h⟩ | ⟨hc80, h⟩
  rotate_left
  · refine sSkip 13 true 56 57 S rfl rfl rfl hc80 rfl (lb rfl) fun a S => ?_
    refine sSkip 13 true 56 58 S rfl rfl rfl hc80 rfl (lb rfl) fun a S => ?_
    refine sSkip 13 true 56 59 S rfl rfl rfl hc80 rfl (lb rfl) fun a S => ?_
    refine sPickF (.bool false) S (wN rfl) rfl rfl hc80 rfl rfl (lb rfl) fun a S => ?_
    refine sMove (.bool false) S (wN rfl) (.inr rfl) rfl rfl (lb rfl) fun a S => ?_
    exact leafL (leafT (⟨false, Option.some.inj h, S.fix [] [] (by decide) rfl rfl rfl⟩))
  refine sMove (iv r46.2) S (wG 13 true 56 rfl rfl rfl hc80) (.inl rfl) rfl rfl (lb rfl) fun a S => ?_
  refine sMove (iv r59.2) S (wG 13 true 56 rfl rfl rfl hc80) (.inl rfl) rfl rfl (lb rfl) fun a S => ?_
  refine sBin (.bool (r46.2 == r59.2)) S (wG 13 true 56 rfl rfl rfl hc80) rfl rfl rfl (bEq _ _ _ _ .i64 r46.2 r59.2) rfl (lb rfl) fun a S => ?_
  refine sPickT (.bool (r46.2 == r59.2)) S (wN rfl) rfl rfl hc80 rfl rfl (lb rfl) fun a S => ?_
  refine sMove (.bool (r46.2 == r59.2)) S (wN rfl) (.inr rfl) rfl rfl (lb rfl) fun a S => ?_
  exact leafL (leafT (⟨r46.2 == r59.2, Option.some.inj h, S.fix [] [] (by decide) rfl rfl rfl⟩))

end Go.Proofs.Ytmedbnjhgkcndaa
namespace Go.Proofs.Ytmedbnjhgkcndaa
open Go.RowKit
set_option linter.unusedVariables false

theorem redge_eq {d : Int} (kd : Int) (h0 : -1000 ≤ d) (h1 : d ≤ 1000) : F_raddleref37_edge d kd = some (edge d kd, bU d) := by
  unfold F_raddleref37_edge edge bS bU
  rcases bend_cases d with h | h | h | h | h
  · simp [h]
  · rw [bF (show ¬ d = 0 by omega), dT (show 3 < d by omega), if_neg (show ¬ d = 0 by omega), if_neg (show ¬ d = 0 by omega), if_neg (show ¬ d = 0 by omega), if_pos h, if_pos h]; rfl
  · rw [bF (show ¬ d = 0 by omega), dF (show ¬ 3 < d by omega), dT h.1, if_neg (show ¬ d = 0 by omega), if_neg (show ¬ d = 0 by omega), if_neg (show ¬ d = 0 by omega), if_neg (show ¬ 4 ≤ d by omega), if_neg (show ¬ 4 ≤ d by omega), if_pos h.1, if_pos h.1, w64_of (by omega) (by omega)]; rfl
  · rw [bF (show ¬ d = 0 by omega), dF (show ¬ 3 < d by omega), dF (show ¬ 0 < d by omega), dT (show -3 ≤ d by omega), if_neg (show ¬ d = 0 by omega), if_neg (show ¬ d = 0 by omega), if_neg (show ¬ d = 0 by omega), if_neg (show ¬ 4 ≤ d by omega), if_neg (show ¬ 4 ≤ d by omega), if_neg (show ¬ 0 < d by omega), if_neg (show ¬ 0 < d by omega), if_pos h.1, if_pos h.1, w64_of (x := 1 - d) (by omega) (by omega)]; rfl
  · rw [bF (show ¬ d = 0 by omega), dF (show ¬ 3 < d by omega), dF (show ¬ 0 < d by omega), dF (show ¬ -3 ≤ d by omega), if_neg (show ¬ d = 0 by omega), if_neg (show ¬ d = 0 by omega), if_neg (show ¬ d = 0 by omega), if_neg (show ¬ 4 ≤ d by omega), if_neg (show ¬ 4 ≤ d by omega), if_neg (show ¬ 0 < d by omega), if_neg (show ¬ 0 < d by omega), if_neg (show ¬ -4 < d by omega), if_neg (show ¬ -4 < d by omega), w64_of (x := 0 - d) (by omega) (by omega), show 0 - d = -d by omega]; rfl
theorem edge_len (d kd : Int) : (edge d kd).length ≤ 1 := by unfold edge; split <;> simp
theorem front_eq {p : api_Piece} (hp : pok p = true) {k : Nat} (hk : k + 1 < p.Left.length) : F_raddleref37_front p ((k + 1 : Nat) : Int) = some (cel p k, decide (0 < nk p k)) := by
  obtain ⟨a, b, c, d⟩ := pok_iff.1 hp
  have d0 := d k (by omega)
  have d1 := d (k + 1) hk
  have hj : w64 (((k + 1 : Nat) : Int) - 1) = (k : Int) := by rw [w64_of (by omega) (by omega)]; omega
  have e1 : w64 (p.Right.getD (k + 1) 0 - p.Right.getD k 0) = dR p k := w64_of (by omega) (by omega)
  have e2 : w64 (p.Left.getD k 0 - p.Left.getD (k + 1) 0) = dL p k := w64_of (by omega) (by omega)
  have e3 : w64 (p.Right.getD k 0 - p.Left.getD k 0) = wd p k := w64_of (by omega) (by omega)
  have rb : -1000 ≤ dR p k ∧ dR p k ≤ 1000 := by unfold dR; omega
  have lb : -1000 ≤ dL p k ∧ dL p k ≤ 1000 := by unfold dL; omega
  have ub := bU_le rb.1 rb.2
  have vb := bU_le lb.1 lb.2
  have wb : 0 ≤ wd p k ∧ wd p k ≤ 200 := by unfold wd; omega
  have hnk : nk p k = wd p k - bU (dR p k) - bU (dL p k) := rfl
  have e4 : w64 (w64 (wd p k - bU (dR p k)) - bU (dL p k)) = nk p k := by
    rw [w64_of (x := wd p k - bU (dR p k)) (by omega) (by omega), w64_of (by omega) (by omega), hnk]
  have l1 := edge_len (dR p k) 3
  have l2 := edge_len (dL p k) 4
  have hin : whileO (raddleref37_front_l1 (p.Right.getD k 0) (p.Left.getD k 0) (edge (dR p k) 3, bU (dR p k)) (edge (dL p k) 4, bU (dL p k))) (edge (dR p k) 3, 0) = some (edge (dR p k) 3 ++ List.replicate (nk p k).toNat kns) := by
    have key : ∃ t, whileO (raddleref37_front_l1 (p.Right.getD k 0) (p.Left.getD k 0) (edge (dR p k) 3, bU (dR p k)) (edge (dL p k) 4, bU (dL p k))) (edge (dR p k) 3, 0) = some t ∧ t = edge (dR p k) 3 ++ List.replicate (nk p k).toNat kns := by
      refine loop_st (nk p k).toNat (fun j s => s = edge (dR p k) 3 ++ List.replicate j kns) _ (by simp) ?_ ?_
      · rintro j s hj' rfl
        refine .inl ⟨edge (dR p k) 3 ++ List.replicate (j + 1) kns, ?_, rfl⟩
        unfold raddleref37_front_l1
        simp only [e3, e4, dT (show (j : Int) < nk p k by omega), if_true]
        rw [appO_of (by simp; omega)]
        simp only [Option.bind_some, w64_succ (show j < 9223372036854775807 by omega), List.append_assoc, List.replicate_succ']
        rfl
      · rintro s rfl
        refine ⟨_, ?_, rfl⟩
        unfold raddleref37_front_l1
        simp only [e3, e4, dF (show ¬ ((nk p k).toNat : Int) < nk p k by omega), Bool.false_eq_true, if_false]
    obtain ⟨t, t1, rfl⟩ := key
    exact t1
  have a1 : appO ([] : List api_Stitch) (edge (dR p k) 3) = some (edge (dR p k) 3) := by rw [appO_of (by simp; omega)]; rfl
  have a2 : appO (edge (dR p k) 3 ++ List.replicate (nk p k).toNat kns) (edge (dL p k) 4) = some (cel p k) := by rw [appO_of (by simp; omega)]; rfl
  unfold F_raddleref37_front
  simp only [hj, idxO_D (0 : Int) hk, idxO_D (0 : Int) (show k < p.Left.length by omega), idxO_D (0 : Int) (show k + 1 < p.Right.length by omega), idxO_D (0 : Int) (show k < p.Right.length by omega), Option.bind_some, e1, e2, e3, redge_eq _ rb.1 rb.2, redge_eq _ lb.1 lb.2, a1, hin, a2, e4]
theorem rchart_step {p : api_Piece} (hp : pok p = true) {k : Nat} (hk : k + 1 < p.Left.length) {s : List api_Row} (hs : s.length ≤ 1000) :
    raddleref37_Chart_l1 p (((k + 1 : Nat) : Int), s) = some (if 1 ≤ nk p k then .inl (((k + 1 + 1 : Nat) : Int), s ++ [crow p k]) else .inr (.inl (⟨0, []⟩, 22))) := by
  have pc := (pok_iff.1 hp).2.2.1
  unfold raddleref37_Chart_l1
  simp only [dT (show ((k + 1 : Nat) : Int) < (p.Left.length : Int) by omega), if_true, front_eq hp hk, Option.bind_some]
  by_cases hn : 1 ≤ nk p k
  case neg => rw [dF (show ¬ 0 < nk p k by omega), if_neg hn]; rfl
  obtain ⟨c1, c2, c3, c4, c5⟩ := cel_ok hp hk hn
  have hT := rturn_eq (cel p k)
  rw [if_pos c1] at hT
  rw [dT (show 0 < nk p k by omega), if_pos hn]
  simp only [Bool.not_true, Bool.false_eq_true, if_false, rem_two, Option.bind_some, hT]
  have hrow : (if ((((k + 1) % 2 : Nat) : Int) == 1) = true then (some ((cel p k).map othS).reverse) else some (cel p k)) = some (crow p k).Cells := by
    unfold crow
    by_cases g : k % 2 = 0
    · rw [bT (show (((k + 1) % 2 : Nat) : Int) = 1 by omega), if_pos g]; rfl
    · rw [bF (show ¬ (((k + 1) % 2 : Nat) : Int) = 1 by omega), if_neg g]; rfl
  have hback : ((((k + 1) % 2 : Nat) : Int) == 1) = (crow p k).Back := by
    unfold crow
    by_cases g : k % 2 = 0
    · rw [bT (show (((k + 1) % 2 : Nat) : Int) = 1 by omega)]; simp [g]
    · rw [bF (show ¬ (((k + 1) % 2 : Nat) : Int) = 1 by omega)]; simp [g]
  rw [hback] at hrow
  simp only [hback, hrow, Option.bind_some]
  rw [appO_of (by simp; omega)]
  simp only [Option.bind_some, w64_succ (show k + 1 < 9223372036854775807 by omega)]
theorem rchart_eq (p : api_Piece) (h1 : p.Left.length ≤ 1000000) (h2 : p.Right.length ≤ 1000000) : F_raddleref37_Chart p = some (if pok p = true then (if chOk p then (chart p, 0) else (⟨0, []⟩, 22)) else (⟨0, []⟩, 8)) := by
  unfold F_raddleref37_Chart
  rw [(pcheck_eq p h1 h2).2]
  cases hp : pok p with
  | false => rfl
  | true =>
    obtain ⟨a, b, c, d⟩ := pok_iff.1 hp
    have d0 := d 0 (by omega)
    have e3 : w64 (p.Right.getD 0 0 - p.Left.getD 0 0) = wd p 0 := w64_of (by omega) (by omega)
    have hw : ∃ t, whileO (raddleref37_Chart_l1 p) (1, ([] : List api_Row)) = some t ∧ ((chOk p ∧ t = .inr (chart p).Rows) ∨ (¬ chOk p ∧ t = .inl (⟨0, []⟩, 22))) := by
      refine loop_at (p.Left.length - 1) (fun k s => (((k + 1 : Nat) : Int), s)) (fun k s => s = (List.range k).map (crow p) ∧ ∀ j, j < k → 1 ≤ nk p j) _ ⟨rfl, fun j hj => absurd hj (Nat.not_lt_zero j)⟩ ?_ ?_
      · rintro k s hk ⟨rfl, hI⟩
        rw [rchart_step hp (by omega) (by simp; omega)]
        by_cases hn : 1 ≤ nk p k
        · rw [if_pos hn]
          refine .inl ⟨_, rfl, ?_, fun j hj => ?_⟩
          · rw [List.range_succ, List.map_append]; rfl
          · by_cases e : j = k
            · subst e; exact hn
            · exact hI j (by omega)
        · rw [if_neg hn]
          exact .inr ⟨_, rfl, .inr ⟨fun h => hn (h k hk), rfl⟩⟩
      · rintro s ⟨rfl, hI⟩
        refine ⟨.inr (chart p).Rows, ?_, .inl ⟨hI, rfl⟩⟩
        unfold raddleref37_Chart_l1
        simp only [dF (show ¬ ((p.Left.length - 1 + 1 : Nat) : Int) < (p.Left.length : Int) by omega), Bool.false_eq_true, if_false]
        rfl
    obtain ⟨t, t1, t2⟩ := hw
    have i0 : idxO p.Right 0 = some (p.Right.getD 0 0) := idxO_D (k := 0) (0 : Int) (by omega)
    have i1 : idxO p.Left 0 = some (p.Left.getD 0 0) := idxO_D (k := 0) (0 : Int) (by omega)
    simp only [if_true, Option.bind_some, nF (rfl : (0 : Int) = 0), Bool.false_eq_true, if_false, i0, i1, t1, e3]
    rcases t2 with ⟨g, rfl⟩ | ⟨g, rfl⟩
    · rw [if_pos g]; rfl
    · rw [if_neg g]; rfl
theorem chart_rows {p : api_Piece} (hp : pok p = true) (ho : chOk p) : (chart p).Rows.length ≤ 1000 ∧ ∀ r, r ∈ (chart p).Rows → r.Cells.length ≤ 9223372036854775807 := by
  obtain ⟨a, b, c, d⟩ := pok_iff.1 hp
  have l1 : (chart p).Rows.length = p.Left.length - 1 := by simp [chart]
  refine ⟨by omega, fun r hr => ?_⟩
  obtain ⟨k, hk, rfl⟩ := List.getElem_of_mem hr
  have hrow : (chart p).Rows[k] = crow p k := by simp only [chart, List.getElem_map, List.getElem_range]
  rw [hrow]
  have := crow_ok hp (show k + 1 < p.Left.length by omega) (ho k (by omega))
  have := (cel_ok hp (show k + 1 < p.Left.length by omega) (ho k (by omega))).2.2.2.2
  omega
theorem charts_eq (p : api_Piece) (h1 : p.Left.length ≤ 1000000) (h2 : p.Right.length ≤ 1000000) : ∃ z : api_Chart × Int, F_piece_Chart p = some z ∧ F_raddleref37_Chart p = some z ∧ z.1.Rows.length ≤ 1000 ∧ ∀ r, r ∈ z.1.Rows → r.Cells.length ≤ 9223372036854775807 := by
  rw [chart_eq p h1 h2, rchart_eq p h1 h2]
  refine ⟨_, rfl, rfl, ?_⟩
  cases hp : pok p with
  | false => exact ⟨by simp, fun r hr => (by cases hr)⟩
  | true =>
    rw [if_pos rfl]
    by_cases ho : chOk p
    · rw [if_pos ho]; exact chart_rows hp ho
    · rw [if_neg ho]; exact ⟨by simp, fun r hr => (by cases hr)⟩
theorem change_eq (c : api_Stitch) : F_raddleref37_change c = some (grw c) := (show F_raddleref37_change c = F_piece_grows c from rfl).trans (grows_eq c)
theorem grw_any (c : api_Stitch) : grw (othS c) = grw c := by
  have hK : (othS c).Kind = c.Kind := rfl
  by_cases h : c.Kind = 6 ∨ c.Kind = 7
  · unfold grw
    rw [hK, if_neg (by omega), if_neg (by omega), if_neg (by omega), if_neg (by omega), if_neg (by omega), if_neg (by omega), if_neg (by omega), if_neg (by omega)]
  · have ha : (othS c).A = c.A := by
      show (if c.Kind = 6 ∨ c.Kind = 7 then c.B else c.A) = c.A
      rw [if_neg h]
    unfold grw
    rw [ha, hK]
theorem body_eq (c : api_Chart) {k : Nat} (hk : k < c.Rows.length) (hw : ∀ q, q ∈ c.Rows[k].Cells → wfS q) (l r : List Int) (hl : l.length = k + 1) (hr : r.length = k + 1) (hk2 : k ≤ 1000) :
    ∃ t : ((Int × List Int × List Int) ⊕ ((api_Piece × Int) ⊕ (List Int × List Int))), piece_Read_l1 c ((k : Int), l, r) = some t ∧ raddleref37_Read_l1 c ((k : Int), l, r) = some t ∧ (t = .inr (.inl (⟨[], []⟩, 8)) ∨ ∃ a b, t = .inl (((k + 1 : Nat) : Int), l ++ [a], r ++ [b])) := by
  have hal := all_eq hw
  have hal2 := rall_eq c.Rows[k].Cells
  generalize hr' : c.Rows[k] = w at *
  have hx : idxO c.Rows (k : Int) = some w := by rw [← hr']; exact idxO_nat hk
  unfold piece_Read_l1 raddleref37_Read_l1
  simp only [dT (show (k : Int) < (c.Rows.length : Int) by omega), if_true, hx, Option.bind_some, hal, hal2]
  by_cases hz : w.Cells.length = 0
  · rw [bT (show (w.Cells.length : Int) = 0 by omega)]
    refine ⟨_, rfl, ?_, .inl rfl⟩
    cases (allS w.Cells != 0) <;> rfl
  rw [bF (show ¬ (w.Cells.length : Int) = 0 by omega)]
  by_cases ho : allS w.Cells = 0
  case neg =>
    simp only [Bool.false_eq_true, if_false, nT ho, Option.bind_some, if_true]
    exact ⟨_, rfl, rfl, .inl rfl⟩
  have hlen := (allS_ok ho).1
  have f1 : idxO w.Cells 0 = some (w.Cells[0]'(by omega)) := idxO_nat (k := 0) (by omega)
  have f2 : idxO w.Cells (w64 ((w.Cells.length : Int) - 1)) = some (w.Cells[w.Cells.length - 1]'(by omega)) := idxO_of (by rw [w64_of (by omega) (by omega)]; omega) (by omega)
  have hT := rturn_eq w.Cells
  rw [if_pos ho] at hT
  have tl : ((w.Cells.map othS).reverse).length = w.Cells.length := by simp
  have f3 : idxO ((w.Cells.map othS).reverse) 0 = some (othS (w.Cells[w.Cells.length - 1]'(by omega))) := by
    rw [show (0 : Int) = ((0 : Nat) : Int) from rfl, idxO_nat (by omega)]; simp
  have f4 : idxO ((w.Cells.map othS).reverse) (w64 ((((w.Cells.map othS).reverse).length : Int) - 1)) = some (othS (w.Cells[0]'(by omega))) := by
    rw [idxO_of (k := w.Cells.length - 1) (by rw [w64_of (by omega) (by omega)]; omega) (by omega)]
    simp [show w.Cells.length - 1 - (w.Cells.length - 1) = 0 by omega]
  have i1 := idxO_nat (show k < l.length by omega)
  have i2 := idxO_nat (show k < r.length by omega)
  have al : ∀ z : Int, appO l [z] = some (l ++ [z]) := fun z => appO_of (by simp; omega)
  have ar : ∀ z : Int, appO r [z] = some (r ++ [z]) := fun z => appO_of (by simp; omega)
  have hs := w64_succ (show k < 9223372036854775807 by omega)
  cases hB : w.Back with
  | true =>
    simp only [Bool.false_eq_true, if_false, nF ho, Option.bind_some, f1, f2, f3, f4, grows_eq, change_eq, grw_any, if_true, hT, i1, i2, al, ar, hs]
    exact ⟨_, rfl, rfl, .inr ⟨_, _, rfl⟩⟩
  | false =>
    simp only [Bool.false_eq_true, if_false, nF ho, Option.bind_some, f1, f2, grows_eq, change_eq, i1, i2, al, ar, hs]
    exact ⟨_, rfl, rfl, .inr ⟨_, _, rfl⟩⟩
theorem reads_eq (c : api_Chart) (v : Int) (hw : ∀ r, r ∈ c.Rows → ∀ q, q ∈ r.Cells → wfS q) (hc : ∀ r, r ∈ c.Rows → r.Cells.length ≤ 9223372036854775807) :
    ∃ x : api_Piece × Int, F_piece_Read c v = some x ∧ F_raddleref37_Read c v = some x ∧ x.1.Left.length ≤ 1000000 ∧ x.1.Right.length ≤ 1000000 := by
  unfold F_piece_Read F_raddleref37_Read
  rw [(col_eq v).1, (col_eq v).2]
  by_cases hv : -500 ≤ v ∧ v ≤ 500
  case neg =>
    have : (decide (-500 ≤ v) && decide (v ≤ 500)) = false := by simpa using hv
    simp only [this, Option.bind_some, Bool.not_false, if_true]
    exact ⟨_, rfl, rfl, by simp, by simp⟩
  by_cases h1 : c.Start < 1
  · simp only [dT hv.1, dT hv.2, dT h1, Option.bind_some, Bool.and_self, Bool.not_true, Bool.false_eq_true, if_false, if_true]
    exact ⟨_, rfl, rfl, by simp, by simp⟩
  by_cases h2 : 200 < c.Start
  · simp only [dT hv.1, dT hv.2, dF h1, dT h2, Option.bind_some, Bool.and_self, Bool.not_true, Bool.false_eq_true, if_false, if_true]
    exact ⟨_, rfl, rfl, by simp, by simp⟩
  by_cases h3 : 100 ≤ c.Rows.length
  · simp only [dT hv.1, dT hv.2, dF h1, dF h2, dT (show (100 : Int) ≤ (c.Rows.length : Int) by omega), dT (show (99 : Int) < (c.Rows.length : Int) by omega), Option.bind_some, Bool.and_self, Bool.not_true, Bool.false_eq_true, if_false, if_true]
    exact ⟨_, rfl, rfl, by simp, by simp⟩
  simp only [dT hv.1, dT hv.2, dF h1, dF h2, dF (show ¬ (100 : Int) ≤ (c.Rows.length : Int) by omega), dF (show ¬ (99 : Int) < (c.Rows.length : Int) by omega), Option.bind_some, Bool.and_self, Bool.not_true, Bool.false_eq_true, if_false]
  have e0 : w64 (v + c.Start) = v + c.Start := w64_of (by omega) (by omega)
  have hl : ∃ t, whileO (piece_Read_l1 c) (0, ([v] : List Int), ([w64 (v + c.Start)] : List Int)) = some t ∧ whileO (raddleref37_Read_l1 c) (0, ([v] : List Int), ([w64 (v + c.Start)] : List Int)) = some t ∧ (t = .inl (⟨[], []⟩, 8) ∨ ∃ l r : List Int, t = .inr (l, r) ∧ l.length = c.Rows.length + 1 ∧ r.length = c.Rows.length + 1 ∧ l[0]? = some v ∧ r[0]? = some (v + c.Start)) := by
    have key : ∀ j k (l r : List Int), j + k = c.Rows.length → l.length = k + 1 → r.length = k + 1 → l[0]? = some v → r[0]? = some (v + c.Start) → ∃ t, whileO (piece_Read_l1 c) ((k : Int), l, r) = some t ∧ whileO (raddleref37_Read_l1 c) ((k : Int), l, r) = some t ∧ (t = .inl (⟨[], []⟩, 8) ∨ ∃ l r : List Int, t = .inr (l, r) ∧ l.length = c.Rows.length + 1 ∧ r.length = c.Rows.length + 1 ∧ l[0]? = some v ∧ r[0]? = some (v + c.Start)) := by
      intro j
      induction j with
      | zero =>
        intro k l r hk i1 i2 i3 i4
        refine ⟨.inr (l, r), whileO_done ?_, whileO_done ?_, .inr ⟨l, r, rfl, by omega, by omega, i3, i4⟩⟩
        · unfold piece_Read_l1
          simp only [dF (show ¬ (k : Int) < (c.Rows.length : Int) by omega), Bool.false_eq_true, if_false]
        · unfold raddleref37_Read_l1
          simp only [dF (show ¬ (k : Int) < (c.Rows.length : Int) by omega), Bool.false_eq_true, if_false]
      | succ j ih =>
        intro k l r hk i1 i2 i3 i4
        have hk' : k < c.Rows.length := by omega
        obtain ⟨t, t1, t2, t3⟩ := body_eq c hk' (hw _ (List.getElem_mem hk')) l r i1 i2 (by omega)
        rcases t3 with rfl | ⟨a, b, rfl⟩
        · exact ⟨_, whileO_done t1, whileO_done t2, .inl rfl⟩
        · rw [whileO_step t1, whileO_step t2]
          exact ih (k + 1) _ _ (by omega) (by simp; omega) (by simp; omega) (by rw [List.getElem?_append_left (by omega), i3]) (by rw [List.getElem?_append_left (by omega), i4])
    exact key c.Rows.length 0 _ _ rfl rfl rfl rfl (by rw [e0]; rfl)
  obtain ⟨t, t1, u1, t2⟩ := hl
  rw [t1, u1]
  rcases t2 with rfl | ⟨l, r, rfl, i1, i2, i3, i4⟩
  · exact ⟨_, rfl, rfl, by simp, by simp⟩
  have hch := chart_eq ⟨l, r⟩ (by show l.length ≤ _; omega) (by show r.length ≤ _; omega)
  have hrch := rchart_eq ⟨l, r⟩ (by show l.length ≤ _; omega) (by show r.length ≤ _; omega)
  simp only [Option.bind_some, hch, hrch]
  cases hp : pok ⟨l, r⟩ with
  | false => exact ⟨_, rfl, rfl, by simp, by simp⟩
  | true =>
    simp only [if_true]
    by_cases ho : chOk ⟨l, r⟩
    case neg =>
      simp only [ho, if_false]
      exact ⟨_, rfl, rfl, by simp, by simp⟩
    simp only [ho, if_true, bne_self_eq_false, Bool.false_eq_true, if_false]
    have l1 : (chart ⟨l, r⟩).Rows.length = c.Rows.length := by
      simp only [chart, List.length_map, List.length_range]; omega
    obtain ⟨u, u1, u2⟩ := rows_loop c (chart ⟨l, r⟩) l1.symm (by omega) hc
    obtain ⟨x, x1, x2⟩ := samechart_eq c (chart ⟨l, r⟩) (by omega) hc
    have hS : c.Start = (chart ⟨l, r⟩).Start := by
      have a1 : l.getD 0 0 = v := by rw [List.getD_eq_getElem?_getD, i3]; rfl
      have a2 : r.getD 0 0 = v + c.Start := by rw [List.getD_eq_getElem?_getD, i4]; rfl
      show c.Start = r.getD 0 0 - l.getD 0 0
      omega
    have hux : u = x := by
      have ext : c = chart ⟨l, r⟩ ↔ c.Rows = (chart ⟨l, r⟩).Rows := by
        generalize chart ⟨l, r⟩ = q at *
        cases c; cases q
        dsimp only at hS
        simp [hS]
      cases u <;> cases x <;> simp_all
    subst hux
    rw [u2, x2]
    cases u with
    | false => exact ⟨_, rfl, rfl, by simp, by simp⟩
    | true => exact ⟨_, rfl, rfl, by show l.length ≤ _; omega, by show r.length ≤ _; omega⟩
theorem law_PieceCharts (p : api_Piece) (c : api_Chart) (v : Int) (wp : wf_api_Piece p) (wc : wf_api_Chart c) (_ : InK .i64 v) : F_raddlelaw37_PieceCharts p c v = some true := by
  obtain ⟨gb, g1, g2⟩ := great_eq p wp.1.1 wp.2.1
  obtain ⟨gc, g3⟩ := great37 c wc.2.1
  have hw : ∀ r, r ∈ c.Rows → ∀ q, q ∈ r.Cells → wfS q := fun r hr q hq => inK_u8 ((((wc.2.2 r hr).2).2 q hq).1)
  have hc : ∀ r, r ∈ c.Rows → r.Cells.length ≤ 9223372036854775807 := fun r hr => ((wc.2.2 r hr).2).1
  unfold F_raddlelaw37_PieceCharts
  rw [g1, g3]
  cases gb with
  | true => rfl
  | false =>
    cases gc with
    | true => rfl
    | false =>
      obtain ⟨n1, n2⟩ := g2 rfl
      obtain ⟨z, z1, z2, z3, z4⟩ := charts_eq p (by omega) (by omega)
      obtain ⟨x, x1, x2, x3, x4⟩ := reads_eq c v hw hc
      obtain ⟨t, t1, t2⟩ := samechart_eq z.1 z.1 (by omega) z4
      rw [t1.2 rfl] at t2
      simp only [Option.bind_some, Bool.false_eq_true, if_false, z1, z2, x1, x2, t2, if_true, beq_self_eq_true, samep_self _ x3 x4]

end Go.Proofs.Ytmedbnjhgkcndaa
namespace Go.Proofs.Ytmedbnjhgkcndaa
open Go.RowKit
set_option linter.unusedVariables false

namespace framePieceCharts
open Go.ChangeShapes Go.WideShapes Go.ChangeAt Go.Joins
theorem own : ownKnob Try.prog.godebug = none := by kernel_rfl
theorem laidOut : laidOutB Try.prog = true := by kernel_rfl
set_option maxRecDepth 100000 in
theorem lifted (os : Os) (started : os.Started) (H : Type) (enc : TypeId × Value → H) :
    ReturnsInHanded {} Try.checked os 5 .any (Rows.pieceChartsSpec.pre6 enc Try.prog Try.f5 Rows.pieceChartsRow.domain false) (Rows.pieceChartsSpec.post enc Try.prog Try.f5 false true false false) := by
  refine returnsInHanded_of_change (C := Try.checked) own started (by kernel_rfl) Try.func5
    (ChangeSpec.witness6 (enc := enc) (C := Try.checked) false ⟨#[], #[.agg #[.slice none 0 0, .slice none 0 0], .agg #[iv 0, .slice none 0 0], .int .i64 0], []⟩ 8 (by kernel_rfl) (by kernel_rfl) (by kernel_rfl) (by kernel_rfl)) ?_
  intro W base args ds gs before hval0 hW hcnd _
  have hval : ∀ (j : Nat) t v, Try.f5.params[j]? = some t → args[j]? = some v → Value.okWide Try.prog W .any base t v := hval0
  have hW' := hW
  obtain ⟨p, q, hA0, hV, rfl, hfz, hnd⟩ := hW
  have hA : DataW.TrodAll enc Try.prog W 0 (fun _ => true) true Try.f5.params.toList args.toList ds p := hA0
  rw [Try.params5] at hA hval
  obtain ⟨v0, vs0, d0, ds0, p0, q0, hargs, rfl, rfl, h0, r0⟩ := trodAll_cons hA
  obtain ⟨v1, vs1, d1, ds1, p1, q1, rfl, rfl, rfl, h1, r1⟩ := trodAll_cons r0
  obtain ⟨v2, vs2, d2, ds2, p2, q2, rfl, rfl, rfl, h2, r2⟩ := trodAll_cons r1
  obtain ⟨rfl, rfl, rfl⟩ := trodAll_nil r2
  obtain rfl : args = #[v0, v1, v2] := by cases args; simp_all
  obtain ⟨rfl, rfl⟩ := trodVars_none hV
  have k0 := h0
  have lt0 : ∀ x ∈ p0, x.block < W.heap.size := by obtain ⟨m, hm⟩ := k0; exact DataW.trod_lt m _ _ _ hm
  have k1 := h1
  have lt1 : ∀ x ∈ p1, x.block < W.heap.size := by obtain ⟨m, hm⟩ := k1; exact DataW.trod_lt m _ _ _ hm
  have k2 := h2
  have lt2 : ∀ x ∈ p2, x.block < W.heap.size := by obtain ⟨m, hm⟩ := k2; exact DataW.trod_lt m _ _ _ hm
  obtain ⟨x0, rep0, wf0⟩ := top_agg Try.underlying36 aggr_api_Piece op_api_Piece (hval 0 _ v0 rfl rfl) h0
  obtain ⟨x1, rep1, wf1⟩ := top_agg Try.underlying58 aggr_api_Chart op_api_Chart (hval 1 _ v1 rfl rfl) h1
  obtain ⟨x2, rfl, rfl, rfl, wf2⟩ := open_int Try.underlying3 (hval 2 _ v2 rfl rfl) h2
  clear hA0 hval0
  refine (c_raddlelaw37_PieceCharts (fun _ => False) W x0 v0 x1 v1 x2 true (law_PieceCharts x0 x1 x2 wf0 wf1 wf2) (St0.start (by intro d hd; simp only [List.mem_cons, List.not_mem_nil, or_false] at hd; rcases hd with rfl | rfl; exact rep0; exact rep1))).mono fun e W' hr => ?_
  obtain ⟨_, he, hS⟩ := hr
  have bel := hS.chg.below
  subst he
  exact ⟨_, rfl, _, _, _, [], _, [], hW', trodAll_mk1 (shut_bool Try.underlying4 _), (trodAll_cons_mk (Below.trod laidOut (by kernel_rfl) (of_decide_eq_true (by kernel_rfl)) k0 bel lt0) (trodAll_cons_mk (Below.trod laidOut (by kernel_rfl) (of_decide_eq_true (by kernel_rfl)) k1 bel lt1) (trodAll_cons_mk (Below.trod laidOut (by kernel_rfl) (of_decide_eq_true (by kernel_rfl)) k2 bel lt2) trodAll_mk0))), rfl, bel.frame _, fun h => by cases h⟩
theorem over : Rows.pieceChartsRow.holds Try.pinned (OpenSpec.ofChange Rows.pieceChartsSpec) :=
  OpenClaim.holds_of_wide 5 Try.f5 rfl rfl rfl rfl rfl rfl rfl ⟨rfl, rfl, rfl, rfl, rfl⟩ rfl rfl rfl rfl rfl (by kernel_rfl) Try.func5 (by kernel_rfl)
    (of_decide_eq_true (by kernel_rfl)) (by unfold Func.isWrapper; first | (rw [if_pos (by decide +kernel)]; kernel_rfl) | (rw [if_neg (by decide +kernel)]; exact ⟨rfl, rfl⟩))
    (fun os started H enc _ => lifted os started H enc)
end framePieceCharts
theorem pieceCharts_holds : Rows.PieceChartsSaid := framePieceCharts.over

end Go.Proofs.Ytmedbnjhgkcndaa
