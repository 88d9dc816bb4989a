/- Several texts in one: G22 PlC PlCr G60 G41 G44 G26 PlV G40 -/
import Derived.WalkKit
import Derived.Maps.AppendAt
import Derived.Deep.AppendLies
import Derived.KernelRfl
import Derived.Laws.OwnMore
import Derived.Great.BuildSlice
import Derived.Orders
import Derived.Laws.StructEq
import Derived.ChangeKeysEq
import Derived.Defers
import Derived.Laws.BytesString
import Derived.RangeFuncNested
import Derived.RangeFuncBound
import Derived.RangeFuncCalls
import Derived.RangeFuncLeaves
import Derived.OrdersIn
import Derived.LoopNIn
import Derived.Test.YtmedbnjhgkcndaaProg
import Derived.ProofKit
import Derived.OpenShut
import Derived.ChangeOld
import Derived.Deep.Slices
import Derived.Lib.SmallJoins
import Derived.JoinedOf
import Derived.JoinedAt
import Derived.Below
import Derived.Test.YtmedbnjhgkcndaaRows
import Derived.Test.YtmedbnjhgkcndaaMPieceCharts3
namespace Go.Proofs.Ytmedbnjhgkcndaa
open Go.RowKit
set_option linter.unusedVariables false

def anc_piece_Chart_0 : List (List Nat) := [[], [0], [0, 1], [0, 1, 2], [], [4], [4, 5], [4, 5, 6], [0, 1, 2, 3, 4, 5, 6, 7], [0, 1, 2, 3, 4, 5, 6, 7, 8], [], [0, 1, 2, 3, 4, 5, 6, 7, 8, 9, 10]]
def anc_piece_Chart_1 : List (List Nat) := [[], [0], [], [0, 1, 2], [0, 1, 2, 3], [], [5], [], [7], [5, 6, 7, 8], [5, 6, 7, 8, 9], [0, 1, 2, 3, 4, 5, 6, 7, 8, 9, 10], [0, 1, 2, 3, 4, 5, 6, 7, 8, 9, 10, 11], [], [0, 1, 2, 3, 4, 5, 6, 7, 8, 9, 10, 11, 12, 13]]
def anc_piece_Chart_2 : List (List Nat) := [[], [0], [], [2], [0, 1, 2, 3], [0, 1, 2, 3, 4], [], [6], [], [6, 7, 8], [6, 7, 8, 9], [0, 1, 2, 3, 4, 5, 6, 7, 8, 9, 10], [0, 1, 2, 3, 4, 5, 6, 7, 8, 9, 10, 11], [], [0, 1, 2, 3, 4, 5, 6, 7, 8, 9, 10, 11, 12, 13]]
def anc_piece_Chart_3 : List (List Nat) := [[], [0], [], [2], [0, 1, 2, 3], [0, 1, 2, 3, 4], [], [6], [], [8], [6, 7, 8, 9], [6, 7, 8, 9, 10], [0, 1, 2, 3, 4, 5, 6, 7, 8, 9, 10, 11], [], [13], [0, 1, 2, 3, 4, 5, 6, 7, 8, 9, 10, 11, 12, 13, 14], [], [16], [0, 1, 2, 3, 4, 5, 6, 7, 8, 9, 10, 11, 12, 13, 14, 15, 16, 17], [0, 1, 2, 3, 4, 5, 6, 7, 8, 9, 10, 11, 12, 13, 14, 15, 16, 17, 18]]
noncomputable def piece_Chart_l1 (x127 : Int) (x132 : Int) (o67 : Int) (o99 : Int) : (List api_Stitch × Int) → Option ((List api_Stitch × Int) ⊕ List api_Stitch) := fun s0 => match s0 with
  | (s167, s170) =>
    if decide (s170 < (w64 ((w64 ((w64 (x127 - x132)) - o67)) - o99))) then
      Option.bind (appO s167 [(api_Stitch.mk 1 false 0 0)]) fun l183 =>
      some (.inl (l183, w64 (s170 + 1)))
    else
      some (.inr s167)
noncomputable def piece_Chart_l2 (p0 : api_Piece) : (Int × List api_Row) → Option ((Int × List api_Row) ⊕ ((api_Chart × Int) ⊕ (List api_Row))) := fun s0 => match s0 with
  | (s44, s45) =>
    if decide (s44 < (p0.Left.length : Int)) then
      Option.bind (α := List api_Row ⊕ (api_Chart × Int)) (
        Option.bind (α := (Int × Bool × Int × Int × Int)) (
          Option.bind (idxO p0.Right s44) fun x70 =>
          Option.bind (idxO p0.Right (w64 (s44 - 1))) fun x75 =>
          Option.bind (F_piece_bend (w64 (x70 - x75)) 3) fun r80 =>
          some (r80.s.Kind, r80.s.Purl, r80.s.A, r80.s.B, r80.uses)) fun (o63, o64, o65, o66, o67) =>
        Option.bind (α := (Int × Bool × Int × Int × Int)) (
          Option.bind (idxO p0.Left (w64 (s44 - 1))) fun x102 =>
          Option.bind (idxO p0.Left s44) fun x107 =>
          Option.bind (F_piece_bend (w64 (x102 - x107)) 4) fun r112 =>
          some (r112.s.Kind, r112.s.Purl, r112.s.A, r112.s.B, r112.uses)) fun (o95, o96, o97, o98, o99) =>
        Option.bind (idxO p0.Right (w64 (s44 - 1))) fun x127 =>
        Option.bind (idxO p0.Left (w64 (s44 - 1))) fun x132 =>
        if decide ((w64 ((w64 ((w64 (x127 - x132)) - o67)) - o99)) < 1) then
          some (.inr ((api_Chart.mk 0 ([] : (List api_Row))), 22))
        else
          Option.bind (α := List api_Stitch) (
            if o63 != 0 then
              Option.bind (appO ([] : List api_Stitch) [(api_Stitch.mk o63 o64 o65 o66)]) fun l157 =>
              some l157
            else
              some ([] : List api_Stitch)) fun o148 =>
          Option.bind (α := List api_Stitch) (
            Option.bind (whileO (piece_Chart_l1 x127 x132 o67 o99) (o148, 0)) fun e174 =>
              some e174) fun o161 =>
          Option.bind (α := List api_Stitch) (
            if o95 != 0 then
              Option.bind (appO o161 [(api_Stitch.mk o95 o96 o97 o98)]) fun l196 =>
              some l196
            else
              some o161) fun o187 =>
          Option.bind (remI s44 2) fun z201 =>
          Option.bind (α := List api_Stitch) (
            if z201 == 1 then
              Option.bind (F_stitch_Turn o187) fun r210 =>
              some r210.1
            else
              some o187) fun o203 =>
          Option.bind (appO s45 [(api_Row.mk (z201 == 1) o203)]) fun l217 =>
          some (.inl l217)) fun z0 => match z0 with
        | .inl o57 =>
          some (.inl (w64 (s44 + 1), o57))
        | .inr z =>
          some (.inr (.inl z))
    else
      some (.inr (.inr s45))
noncomputable def F_piece_Chart (p0 : api_Piece) : Option (api_Chart × Int) :=
  Option.bind (F_piece_Check p0) fun r14 =>
  if r14 != 0 then
    some ((api_Chart.mk 0 ([] : (List api_Row))), r14)
  else
    Option.bind (idxO p0.Right 0) fun x20 =>
    Option.bind (idxO p0.Left 0) fun x25 =>
    Option.bind (α := List api_Row ⊕ (api_Chart × Int)) (
      Option.bind (whileO (piece_Chart_l2 p0) (1, ([] : List api_Row))) fun z0 => match z0 with
        | .inl z =>
          some (.inr z)
        | .inr e51 =>
          some (.inl e51)) fun z0 => match z0 with
      | .inl o38 =>
        some ((api_Chart.mk (w64 (x20 - x25)) o38), 0)
      | .inr z =>
        some z
def c_piece_Chart_val (r : (api_Chart × Int)) (x : Value) : Value := .tuple #[x, .int .i64 r.2]
def c_piece_Chart_D (r : (api_Chart × Int)) (x : Value) : List Fact := [fRep r_api_Chart x r.1]
set_option maxHeartbeats 4000000 in
set_option maxRecDepth 100000 in
theorem c_piece_Chart (E : Nat → Prop) (w0 : World) (p0 : api_Piece) (v0 : Value) (r : (api_Chart × Int)) (h : F_piece_Chart p0 = some r) (S : St0 E [] w0 w0 [] [fRep r_api_Piece (v0) p0]) :
    Calls Try.prog 22 #[v0] w0 (Ret (X := Value) E [] w0 (c_piece_Chart_val r) (fun _ => []) (c_piece_Chart_D r)) := by
  unfold F_piece_Chart at h
  obtain ⟨u1, u2, rfl, hu3, hu4⟩ := S.know (i := 0) (e := fRep r_api_Piece (v0) p0) rfl
  have S := S.learn (fRep (rL (rI .i64)) u1 p0.Left) hu3
  obtain ⟨ad5, cp6, _, rfl, _⟩ := hu3
  have S := S.learn (fRep (rL (rI .i64)) u2 p0.Right) hu4
  obtain ⟨ad7, cp8, _, rfl, _⟩ := hu4
  refine sEnter (args := [.agg #[.slice ad5 p0.Left.length cp6, .slice ad7 p0.Right.length cp8]]) 127 Try.func22 rfl rfl (by simp) S (fun a S => ?_)
  refine sSeq (fun K9 hK9 => ?_)
  refine sRegion ?_
  refine sBox (v := .agg #[.slice ad5 p0.Left.length cp6, .slice ad7 p0.Right.length cp8]) S (wN rfl) rfl rfl [.slice ad5 p0.Left.length cp6, .slice ad7 p0.Right.length cp8] rfl rfl (lb rfl) fun a b10 w S => ?_
  refine sAlloc (.agg #[iv 0, .slice none 0 0]) S (wN rfl) rfl rfl [iv 0, .slice none 0 0] rfl rfl (lb rfl) fun a b11 w S => ?_
  refine sMove (iv 0) S (wN rfl) (.inr rfl) rfl rfl (lb rfl) fun a S => ?_
  refine leafL (leafT (hK9 _ _ ?_))
  refine sSeq (fun K12 hK12 => ?_)
  refine sSeq (fun K13 hK13 => ?_)
  refine sRegion ?_
  refine sLoadN (p := b10) (off := 0) (T := 36) (vs := [.slice ad5 p0.Left.length cp6, .slice ad7 p0.Right.length cp8]) 1 [.slice ad5 p0.Left.length cp6, .slice ad7 p0.Right.length cp8] S (wN rfl) rfl rfl rfl rfl rfl rfl rfl (lb rfl) fun a S => ?_
  obtain ⟨r14, hx15, h⟩ := bindSome h
  have S1 := S.mem
  refine sCallQ (X := Unit) (f := 17) (vs := [.agg #[.slice ad5 p0.Left.length cp6, .slice ad7 p0.Right.length cp8]]) (val := fun _ => iv r14) S (wN rfl) rfl callee17 rfl (S1.quiet [2] rfl) (fun E1 w1 S1 => c_piece_Check E1 w1 p0 (.agg #[.slice ad5 p0.Left.length cp6, .slice ad7 p0.Right.length cp8]) r14 hx15 S1) rfl (lb rfl) fun _ a w S => ?_
  refine sMove (iv r14) S (wN rfl) (.inr rfl) rfl rfl (lb rfl) fun a S => ?_
  refine leafL (leafT (hK13 _ _ ?_))
  refine sSeq (fun K16 hK16 => ?_)
  refine sRegion ?_
  refine sMove (iv r14) S (wN rfl) (.inl rfl) rfl rfl (lb rfl) fun a S => ?_
  refine sBin (.bool (r14 != 0)) S (wN rfl) rfl rfl rfl (bNe _ _ _ _ .i64 r14 0) rfl (lb rfl) fun a S => ?_
  refine leafL (leafT (hK16 _ _ ?_))
  rcases iteSome h with ⟨hc17, h⟩ | ⟨hc17, h⟩
  · refine sCondT S rfl hc17 ?_
    refine sSeq (fun K18 hK18 => ?_)
    refine sRegion ?_
    refine sBuild [] [iv 0, .slice none 0 0] S (wN rfl) rfl rfl rfl rfl (lb rfl) fun a S => ?_
    refine sMove (iv r14) S (wN rfl) (.inl rfl) rfl rfl (lb rfl) fun a S => ?_
    refine sStore (p := b11) (off := 0) (T := 58) (vs := [iv 0, .slice none 0 0]) (v := .agg #[iv 0, .slice none 0 0]) 0 [iv 0, .slice none 0 0] S (wN rfl) rfl rfl rfl rfl rfl rfl rfl (by simp) rfl fun a w S => ?_
    refine sMove (iv r14) S (wN rfl) (.inr rfl) rfl rfl (lb rfl) fun a S => ?_
    refine leafL (leafT (hK18 _ _ ?_))
    obtain rfl := Option.some.inj h
    have S := S.learn (fRep (rL r_api_Row) (.slice none 0 0) ([] : (List api_Row))) (rL_nil _ _ _)
    have S := S.learn (fRep r_api_Chart (.agg #[iv 0, .slice none 0 0]) (api_Chart.mk 0 ([] : (List api_Row)))) ⟨_, rfl, S.mem.know (i := 0) (e := fRep (rL r_api_Row) (.slice none 0 0) ([] : (List api_Row))) rfl⟩
    exact wp_ret (rThen (sRet (.tuple #[.agg #[iv 0, .slice none 0 0], iv r14]) S (rsl2 rfl (rvN (c := 2) (t := 58) (T := 58) (p := b11) 0 [iv 0, .slice none 0 0] S rfl rfl rfl rfl) (rvT (t := 3) (v := iv r14) S rfl)) ⟨(.agg #[iv 0, .slice none 0 0]), rfl, S.mem.sel [] [0] (by decide) rfl rfl⟩))
  refine sCondF S rfl hc17 ?_
  refine wp_skip (leafT (hK12 _ _ ?_))
  refine sSeq (fun K19 hK19 => ?_)
  obtain ⟨x20, hx21, h⟩ := bindSome h
  obtain ⟨x25, hx26, h⟩ := bindSome h
  obtain ⟨q31, hq32, S⟩ := pIdx (P := Try.prog) (r := (rI .i64)) (v := .slice ad7 p0.Right.length cp8) (xs := p0.Right) (j := 0) 34 3 0 S Try.underlying34 rfl rfl hx21
  obtain ⟨u33, S⟩ := pLoad (r := (rI .i64)) (q := q31) (x := x20) 0 S rfl
  obtain rfl : u33 = iv x20 := S.mem.know (i := 1) (e := fRep (rI .i64) (u33) x20) rfl
  obtain ⟨q34, hq35, S⟩ := pIdx (P := Try.prog) (r := (rI .i64)) (v := .slice ad5 p0.Left.length cp6) (xs := p0.Left) (j := 0) 34 3 4 S Try.underlying34 rfl rfl hx26
  obtain ⟨u36, S⟩ := pLoad (r := (rI .i64)) (q := q34) (x := x25) 0 S rfl
  obtain rfl : u36 = iv x25 := S.mem.know (i := 1) (e := fRep (rI .i64) (u36) x25) rfl
  refine sDraw (nf := [10, 11]) (W := [(0, 18, .pointer (some ⟨b10, 1, none⟩)), (1, 19, .slice ad7 p0.Right.length cp8), (2, 20, q31), (3, 21, iv x20), (4, 22, .pointer (some ⟨b10, 0, none⟩)), (5, 23, .slice ad5 p0.Left.length cp6), (6, 24, q34), (7, 25, iv x25), (8, 26, iv (w64 (x20 - x25))), (9, 27, .agg #[iv (w64 (x20 - x25)), .slice none 0 0])]) rfl S ?_
  refine node_by (A := anc_piece_Chart_0) (nf := [10, 11]) (Y := []) (W := [(0, 18, .pointer (some ⟨b10, 1, none⟩)), (1, 19, .slice ad7 p0.Right.length cp8), (2, 20, q31), (3, 21, iv x20), (4, 22, .pointer (some ⟨b10, 0, none⟩)), (5, 23, .slice ad5 p0.Left.length cp6), (6, 24, q34), (7, 25, iv x25), (8, 26, iv (w64 (x20 - x25))), (9, 27, .agg #[iv (w64 (x20 - x25)), .slice none 0 0])]) 12 (by kernel_rfl) (by kernel_rfl) (by kernel_rfl) (by kernel_rfl) (by kernel_rfl) [0, 1, 2, 3, 4, 5, 6, 7, 8, 9] (by kernel_rfl) (by decide) (by decide) (aF 0 11 (by decide) ?_ (aF 1 10 (by decide) ?_ (aF 2 9 (by decide) ?_ (aF 3 8 (by decide) ?_ (aF 4 7 (by decide) ?_ (aF 5 6 (by decide) ?_ (aF 6 5 (by decide) ?_ (aF 7 4 (by decide) ?_ (aF 8 3 (by decide) ?_ (aF 9 2 (by decide) ?_ (aN 10 1 (by decide) ?_ (aB 11 0 10 (by decide) (trivial))))))))))))) [] (fun q hq => by cases hq) (fun hY => absurd (hY 10 (by decide)) (by decide))
  · refine fI 18 (.pointer (some ⟨b10, 1, none⟩)) [(1, .pointer (some ⟨b10, 0, none⟩))] 0 [none] rfl rfl rfl rfl rfl rfl fun G a w S => ?_
    refine sField (b := b10) (off := 0) 1 1 S (wN rfl) rfl rfl rfl rfl rfl (lb rfl) fun a S => ?_
    exact leafL ⟨rfl, S⟩
  · refine fI 19 (.slice ad7 p0.Right.length cp8) [(18, .pointer (some ⟨b10, 1, none⟩))] 1 [some 0] rfl rfl rfl rfl rfl rfl fun G a w S => ?_
    refine sLoad1 (p := b10) (off := 1) (T := 36) (vs := [.slice ad5 p0.Left.length cp6, .slice ad7 p0.Right.length cp8]) 1 (.slice ad7 p0.Right.length cp8) S (wN rfl) rfl rfl rfl rfl rfl rfl (lb rfl) fun a S => ?_
    exact leafL ⟨rfl, S⟩
  · refine fI 20 q31 [(19, .slice ad7 p0.Right.length cp8)] 2 [some 1] rfl rfl rfl rfl rfl rfl fun G a w S => ?_
    refine sIdxV (v := .slice ad7 p0.Right.length cp8) (k := .i64) (j := 0) S (wN rfl) rfl rfl rfl hq32 rfl (lb rfl) fun a S => ?_
    exact leafL ⟨rfl, S⟩
  · refine fI 21 (iv x20) [(20, q31)] 3 [some 2] rfl rfl rfl rfl rfl rfl fun G a w S => ?_
    refine sLoadV1 (vq := q31) 3 (iv x20) S (wN rfl) rfl rfl rfl rfl rfl (lb rfl) fun a S => ?_
    exact leafL ⟨rfl, S⟩
  · refine fI 22 (.pointer (some ⟨b10, 0, none⟩)) [(1, .pointer (some ⟨b10, 0, none⟩))] 4 [none] rfl rfl rfl rfl rfl rfl fun G a w S => ?_
    refine sField (b := b10) (off := 0) 0 0 S (wN rfl) rfl rfl rfl rfl rfl (lb rfl) fun a S => ?_
    exact leafL ⟨rfl, S⟩
  · refine fI 23 (.slice ad5 p0.Left.length cp6) [(22, .pointer (some ⟨b10, 0, none⟩))] 5 [some 4] rfl rfl rfl rfl rfl rfl fun G a w S => ?_
    refine sLoad1 (p := b10) (off := 0) (T := 36) (vs := [.slice ad5 p0.Left.length cp6, .slice ad7 p0.Right.length cp8]) 1 (.slice ad5 p0.Left.length cp6) S (wN rfl) rfl rfl rfl rfl rfl rfl (lb rfl) fun a S => ?_
    exact leafL ⟨rfl, S⟩
  · refine fI 24 q34 [(23, .slice ad5 p0.Left.length cp6)] 6 [some 5] rfl rfl rfl rfl rfl rfl fun G a w S => ?_
    refine sIdxV (v := .slice ad5 p0.Left.length cp6) (k := .i64) (j := 0) S (wN rfl) rfl rfl rfl hq35 rfl (lb rfl) fun a S => ?_
    exact leafL ⟨rfl, S⟩
  · refine fI 25 (iv x25) [(24, q34)] 7 [some 6] rfl rfl rfl rfl rfl rfl fun G a w S => ?_
    refine sLoadV1 (vq := q34) 0 (iv x25) S (wN rfl) rfl rfl rfl rfl rfl (lb rfl) fun a S => ?_
    exact leafL ⟨rfl, S⟩
  · refine fI 26 (iv (w64 (x20 - x25))) [(21, iv x20), (25, iv x25)] 8 [some 3, some 7] rfl rfl rfl rfl rfl rfl fun G a w S => ?_
    refine sBin (iv (w64 (x20 - x25))) S (wN rfl) rfl rfl rfl (bSub _ _ _ _ x20 x25) rfl (lb rfl) fun a S => ?_
    exact leafL ⟨rfl, S⟩
  · refine fI 27 (.agg #[iv (w64 (x20 - x25)), .slice none 0 0]) [(26, iv (w64 (x20 - x25)))] 9 [some 8] rfl rfl rfl rfl rfl rfl fun G a w S => ?_
    refine sBuild [(0, iv (w64 (x20 - x25)))] [iv (w64 (x20 - x25)), .slice none 0 0] S (wN rfl) rfl rfl rfl rfl (lb rfl) fun a S => ?_
    exact leafL ⟨rfl, S⟩
  refine ⟨_, [], rfl, (srcs_of [] rfl rfl rfl), fun G a w S => ?_⟩
  refine sAlloc (.agg #[iv 0, .slice none 0 0]) S (wN rfl) rfl rfl [iv 0, .slice none 0 0] rfl rfl (lb rfl) fun a b37 w S => ?_
  refine leafL ⟨rfl, _, _, .inl ⟨5, (.pointer (some ⟨b37, 0, none⟩)), [], rfl, S, hz_of rfl, ?_⟩⟩
  refine node_by (A := anc_piece_Chart_0) (nf := [10, 11]) (Y := [10]) 12 (by kernel_rfl) (by kernel_rfl) (by kernel_rfl) (by kernel_rfl) (by kernel_rfl) [10, 0, 1, 2, 3, 4, 5, 6, 7, 8, 9] (by kernel_rfl) (by decide) (by decide) (aF 0 11 (by decide) ?_ (aF 1 10 (by decide) ?_ (aF 2 9 (by decide) ?_ (aF 3 8 (by decide) ?_ (aF 4 7 (by decide) ?_ (aF 5 6 (by decide) ?_ (aF 6 5 (by decide) ?_ (aF 7 4 (by decide) ?_ (aF 8 3 (by decide) ?_ (aF 9 2 (by decide) ?_ (aY 10 1 (by decide) (aN 11 0 (by decide) ?_ (trivial))))))))))))) [] (fun q hq => by cases hq) (fun hY => absurd (hY 11 (by decide)) (by decide))
  · refine fI 18 (.pointer (some ⟨b10, 1, none⟩)) [(1, .pointer (some ⟨b10, 0, none⟩))] 1 [none] rfl rfl rfl rfl rfl rfl fun G a w S => ?_
    refine sField (b := b10) (off := 0) 1 1 S (wN rfl) rfl rfl rfl rfl rfl (lb rfl) fun a S => ?_
    exact leafL ⟨rfl, S⟩
  · refine fI 19 (.slice ad7 p0.Right.length cp8) [(18, .pointer (some ⟨b10, 1, none⟩))] 2 [some 1] rfl rfl rfl rfl rfl rfl fun G a w S => ?_
    refine sLoad1 (p := b10) (off := 1) (T := 36) (vs := [.slice ad5 p0.Left.length cp6, .slice ad7 p0.Right.length cp8]) 2 (.slice ad7 p0.Right.length cp8) S (wN rfl) rfl rfl rfl rfl rfl rfl (lb rfl) fun a S => ?_
    exact leafL ⟨rfl, S⟩
  · refine fI 20 q31 [(19, .slice ad7 p0.Right.length cp8)] 3 [some 2] rfl rfl rfl rfl rfl rfl fun G a w S => ?_
    refine sIdxV (v := .slice ad7 p0.Right.length cp8) (k := .i64) (j := 0) S (wN rfl) rfl rfl rfl hq32 rfl (lb rfl) fun a S => ?_
    exact leafL ⟨rfl, S⟩
  · refine fI 21 (iv x20) [(20, q31)] 4 [some 3] rfl rfl rfl rfl rfl rfl fun G a w S => ?_
    refine sLoadV1 (vq := q31) 3 (iv x20) S (wN rfl) rfl rfl rfl rfl rfl (lb rfl) fun a S => ?_
    exact leafL ⟨rfl, S⟩
  · refine fI 22 (.pointer (some ⟨b10, 0, none⟩)) [(1, .pointer (some ⟨b10, 0, none⟩))] 5 [none] rfl rfl rfl rfl rfl rfl fun G a w S => ?_
    refine sField (b := b10) (off := 0) 0 0 S (wN rfl) rfl rfl rfl rfl rfl (lb rfl) fun a S => ?_
    exact leafL ⟨rfl, S⟩
  · refine fI 23 (.slice ad5 p0.Left.length cp6) [(22, .pointer (some ⟨b10, 0, none⟩))] 6 [some 5] rfl rfl rfl rfl rfl rfl fun G a w S => ?_
    refine sLoad1 (p := b10) (off := 0) (T := 36) (vs := [.slice ad5 p0.Left.length cp6, .slice ad7 p0.Right.length cp8]) 2 (.slice ad5 p0.Left.length cp6) S (wN rfl) rfl rfl rfl rfl rfl rfl (lb rfl) fun a S => ?_
    exact leafL ⟨rfl, S⟩
  · refine fI 24 q34 [(23, .slice ad5 p0.Left.length cp6)] 7 [some 6] rfl rfl rfl rfl rfl rfl fun G a w S => ?_
    refine sIdxV (v := .slice ad5 p0.Left.length cp6) (k := .i64) (j := 0) S (wN rfl) rfl rfl rfl hq35 rfl (lb rfl) fun a S => ?_
    exact leafL ⟨rfl, S⟩
  · refine fI 25 (iv x25) [(24, q34)] 8 [some 7] rfl rfl rfl rfl rfl rfl fun G a w S => ?_
    refine sLoadV1 (vq := q34) 0 (iv x25) S (wN rfl) rfl rfl rfl rfl rfl (lb rfl) fun a S => ?_
    exact leafL ⟨rfl, S⟩
  · refine fI 26 (iv (w64 (x20 - x25))) [(21, iv x20), (25, iv x25)] 9 [some 4, some 8] rfl rfl rfl rfl rfl rfl fun G a w S => ?_
    refine sBin (iv (w64 (x20 - x25))) S (wN rfl) rfl rfl rfl (bSub _ _ _ _ x20 x25) rfl (lb rfl) fun a S => ?_
    exact leafL ⟨rfl, S⟩
  · refine fI 27 (.agg #[iv (w64 (x20 - x25)), .slice none 0 0]) [(26, iv (w64 (x20 - x25)))] 10 [some 9] rfl rfl rfl rfl rfl rfl fun G a w S => ?_
    refine sBuild [(0, iv (w64 (x20 - x25)))] [iv (w64 (x20 - x25)), .slice none 0 0] S (wN rfl) rfl rfl rfl rfl (lb rfl) fun a S => ?_
    exact leafL ⟨rfl, S⟩
  refine ⟨_, [(5, .pointer (some ⟨b37, 0, none⟩)), (27, .agg #[iv (w64 (x20 - x25)), .slice none 0 0])], rfl, (srcs_of [some 0, some 10] rfl rfl rfl), fun G a w S => ?_⟩
  refine sStore (p := b37) (off := 0) (T := 58) (vs := [iv 0, .slice none 0 0]) (v := .agg #[iv (w64 (x20 - x25)), .slice none 0 0]) 0 [iv (w64 (x20 - x25)), .slice none 0 0] S (wN rfl) rfl rfl rfl rfl rfl rfl rfl (by simp) rfl fun a w S => ?_
  refine leafL ⟨rfl, _, _, .inr ⟨[], rfl, S, hz_of rfl, ?_⟩⟩
  refine node_by (A := anc_piece_Chart_0) (nf := [10, 11]) (Y := [11, 10]) 12 (by kernel_rfl) (by kernel_rfl) (by kernel_rfl) (by kernel_rfl) (by kernel_rfl) [10, 0, 1, 2, 3, 4, 5, 6, 7, 8, 9] (by kernel_rfl) (by decide) (by decide) (aD 0 11 11 (by decide) (aD 1 10 11 (by decide) (aD 2 9 11 (by decide) (aD 3 8 11 (by decide) (aD 4 7 11 (by decide) (aD 5 6 11 (by decide) (aD 6 5 11 (by decide) (aD 7 4 11 (by decide) (aD 8 3 11 (by decide) (aD 9 2 11 (by decide) (aY 10 1 (by decide) (aY 11 0 (by decide) (trivial))))))))))))) [(1, .pointer (some ⟨b10, 0, none⟩)), (2, .pointer (some ⟨b11, 0, none⟩)), (5, .pointer (some ⟨b37, 0, none⟩))] (fin_of [none, none, some 0] rfl (by kernel_rfl) (by kernel_rfl)) (fun _ a w S => ?_)
  refine leafT (hK19 _ _ ?_)
  obtain ⟨t41, h, g42⟩ := bindSome h
  refine sCut (fun a w => ∃ o38, .inl o38 = t41 ∧ ∃ ad39, ∃ cp40, St [] E [] w0 127 a w [(2, .pointer (some ⟨b11, 0, none⟩)), (5, .pointer (some ⟨b37, 0, none⟩))] [eBox b11 58 [iv 0, .slice none 0 0], eBox b37 58 [iv (w64 (x20 - x25)), .slice ad39 o38.length cp40], eRow r_api_Row 80 (.slice ad39 o38.length cp40) o38] []) ?_ (fun a w hI => ?_)
  rotate_left
  · obtain ⟨o38, rfl, ad39, cp40, S⟩ := hI
    have h := g42
    clear g42
    try dsimp only at h
    refine sSeq (fun K221 hK221 => ?_)
    refine sRegion ?_
    refine sLoadN (p := b37) (off := 0) (T := 58) (vs := [iv (w64 (x20 - x25)), .slice ad39 o38.length cp40]) 1 [iv (w64 (x20 - x25)), .slice ad39 o38.length cp40] S (wN rfl) rfl rfl rfl rfl rfl rfl rfl (lb rfl) fun a S => ?_
    refine sStore (p := b11) (off := 0) (T := 58) (vs := [iv 0, .slice none 0 0]) (v := .agg #[iv (w64 (x20 - x25)), .slice ad39 o38.length cp40]) 0 [iv (w64 (x20 - x25)), .slice ad39 o38.length cp40] S (wN rfl) rfl rfl rfl rfl rfl rfl rfl (by simp) rfl fun a w S => ?_
    refine sMove (iv 0) S (wN rfl) (.inr rfl) rfl rfl (lb rfl) fun a S => ?_
    refine leafL (leafT (hK221 _ _ ?_))
    obtain rfl := Option.some.inj h
    have S := S.shutR (r := r_api_Row) (T := 80) (v := .slice ad39 o38.length cp40) (xs := o38) 2 rfl
    have S := S.learn (fRep r_api_Chart (.agg #[iv (w64 (x20 - x25)), .slice ad39 o38.length cp40]) (api_Chart.mk (w64 (x20 - x25)) o38)) ⟨_, rfl, S.mem.know (i := 0) (e := fRep (rL r_api_Row) (.slice ad39 o38.length cp40) o38) rfl⟩
    exact wp_ret (sRet (.tuple #[.agg #[iv (w64 (x20 - x25)), .slice ad39 o38.length cp40], iv 0]) S (rsl2 rfl (rvN (c := 2) (t := 58) (T := 58) (p := b11) 0 [iv (w64 (x20 - x25)), .slice ad39 o38.length cp40] S rfl rfl rfl rfl) (rvT (t := 3) (v := iv 0) S rfl)) ⟨(.agg #[iv (w64 (x20 - x25)), .slice ad39 o38.length cp40]), rfl, S.mem.sel [] [0] (by decide) rfl rfl⟩)
  refine sSeq (fun K43 hK43 => ?_)
  refine sRegion ?_
  refine sMove (iv 1) S (wN rfl) (.inr rfl) rfl rfl (lb rfl) fun a S => ?_
  refine leafL (leafT (hK43 _ _ ?_))
  refine wp_block ?_
  have S := S.nilRow r_api_Row 80 (α := api_Row)
  obtain ⟨t50, hl, g49⟩ := bindSome h
  refine sLoop hl (fun s0 a w => match s0 with | (s44, s45) => ∃ ad46, ∃ cp47, St [] E [] w0 127 a w [(1, .pointer (some ⟨b10, 0, none⟩)), (2, .pointer (some ⟨b11, 0, none⟩)), (5, .pointer (some ⟨b37, 0, none⟩)), (6, iv s44)] [eBox b10 36 [.slice ad5 p0.Left.length cp6, .slice ad7 p0.Right.length cp8], eBox b11 58 [iv 0, .slice none 0 0], eBox b37 58 [iv (w64 (x20 - x25)), .slice ad46 s45.length cp47], eRow r_api_Row 80 (.slice ad46 s45.length cp47) s45] [fRep (rL (rI .i64)) (.slice ad5 p0.Left.length cp6) p0.Left, fRep (rL (rI .i64)) (.slice ad7 p0.Right.length cp8) p0.Right]) ⟨none, 0, S.fix [3, 2, 1, 0] [7, 6] (by decide) rfl rfl rfl⟩ ?_
  clear hl h
  intro s0 a w c0 hI h hu48
  obtain ⟨s44, s45⟩ := s0
  unfold piece_Chart_l2 at h
  dsimp only at h hI
  obtain ⟨ad46, cp47, S⟩ := hI
  refine sSeq (fun K54 hK54 => ?_)
  refine sSeq (fun K55 hK55 => ?_)
  refine sRegion ?_
  refine sMove (iv s44) S (wN rfl) (.inl rfl) rfl rfl (lb rfl) fun a S => ?_
  refine sField (b := b10) (off := 0) 0 0 S (wN rfl) rfl rfl rfl rfl rfl (lb rfl) fun a S => ?_
  refine sLoad1 (p := b10) (off := 0) (T := 36) (vs := [.slice ad5 p0.Left.length cp6, .slice ad7 p0.Right.length cp8]) 0 (.slice ad5 p0.Left.length cp6) S (wN rfl) rfl rfl rfl rfl rfl rfl (lb rfl) fun a S => ?_
  refine sLen (ad := ad5) (m := p0.Left.length) (c := cp6) S (wN rfl) rfl Try.underlying34 rfl rfl (lb rfl) fun a S => ?_
  refine sBin (.bool (decide (s44 < (p0.Left.length : Int)))) S (wN rfl) rfl rfl rfl (bLt _ _ _ _ .i64 s44 (p0.Left.length : Int)) rfl (lb rfl) fun a S => ?_
  refine leafL (leafT (hK55 _ _ ?_))
  rcases iteSome h with ⟨hc56, h⟩ | ⟨hc56, h⟩
  rotate_left
  · refine sCondF S rfl hc56 ?_
    obtain rfl := Option.some.inj h
    obtain rfl := hu48 _ rfl
    have h := g49
    clear g49
    try dsimp only at h
    exact wp_exit (xThen (xThen (xHit (leafT (⟨s45, Option.some.inj h, ad46, cp47, S.fix [1, 2, 3] [] (by decide) rfl rfl rfl⟩)))))
  refine sCondT S rfl hc56 ?_
  refine wp_skip (leafT (hK54 _ _ ?_))
  obtain ⟨t60, h, g61⟩ := bindSome h
  refine sCut (fun a w => ∃ o57, .inl o57 = t60 ∧ ∃ ad58, ∃ cp59, St [] E [] w0 127 a w [(1, .pointer (some ⟨b10, 0, none⟩)), (2, .pointer (some ⟨b11, 0, none⟩)), (5, .pointer (some ⟨b37, 0, none⟩)), (6, iv s44)] [eBox b10 36 [.slice ad5 p0.Left.length cp6, .slice ad7 p0.Right.length cp8], eBox b11 58 [iv 0, .slice none 0 0], eBox b37 58 [iv (w64 (x20 - x25)), .slice ad58 o57.length cp59], eRow r_api_Row 80 (.slice ad58 o57.length cp59) o57] [fRep (rL (rI .i64)) (.slice ad5 p0.Left.length cp6) p0.Left, fRep (rL (rI .i64)) (.slice ad7 p0.Right.length cp8) p0.Right]) ?_ (fun a w hI => ?_)
  rotate_left
  · obtain ⟨o57, rfl, ad58, cp59, S⟩ := hI
    have h := g61
    clear g61
    try dsimp only at h
    refine sRegion ?_
    refine sMove (iv s44) S (wN rfl) (.inl rfl) rfl rfl (lb rfl) fun a S => ?_
    refine sBin (iv (w64 (s44 + 1))) S (wN rfl) rfl rfl rfl (bAdd _ _ _ _ s44 1) rfl (lb rfl) fun a S => ?_
    refine sMove (iv (w64 (s44 + 1))) S (wN rfl) (.inr rfl) rfl rfl (lb rfl) fun a S => ?_
    exact leafL (leafT (⟨(w64 (s44 + 1), o57), (Option.some.inj h).symm, ⟨ad58, cp59, S.fix [0, 1, 2, 3] [0, 1] (by decide) rfl rfl rfl⟩⟩))
  refine wp_block ?_
  obtain ⟨t68, h, g69⟩ := bindSome h
  refine sCut (fun a w => ∃ o63, ∃ o64, ∃ o65, ∃ o66, ∃ o67, (o63, o64, o65, o66, o67) = t68 ∧ ∃ b62, St [] E [] w0 127 a w [(1, .pointer (some ⟨b10, 0, none⟩)), (2, .pointer (some ⟨b11, 0, none⟩)), (5, .pointer (some ⟨b37, 0, none⟩)), (6, iv s44), (7, .pointer (some ⟨b62, 0, none⟩))] [eBox b10 36 [.slice ad5 p0.Left.length cp6, .slice ad7 p0.Right.length cp8], eBox b11 58 [iv 0, .slice none 0 0], eBox b37 58 [iv (w64 (x20 - x25)), .slice ad46 s45.length cp47], eBox b62 84 [.int .u8 o63, .bool o64, iv o65, iv o66, iv o67], eRow r_api_Row 80 (.slice ad46 s45.length cp47) s45] [fRep (rL (rI .i64)) (.slice ad5 p0.Left.length cp6) p0.Left, fRep (rL (rI .i64)) (.slice ad7 p0.Right.length cp8) p0.Right]) ?_ (fun a w hI => ?_)
  · obtain ⟨x70, hx71, h⟩ := bindSome h
    obtain ⟨x75, hx76, h⟩ := bindSome h
    obtain ⟨r80, hx81, h⟩ := bindSome h
    obtain ⟨q84, hq85, S⟩ := pIdx (P := Try.prog) (r := (rI .i64)) (v := .slice ad7 p0.Right.length cp8) (xs := p0.Right) (j := s44) 34 3 1 S Try.underlying34 rfl rfl hx71
    obtain ⟨u86, S⟩ := pLoad (r := (rI .i64)) (q := q84) (x := x70) 0 S rfl
    obtain rfl : u86 = iv x70 := S.mem.know (i := 1) (e := fRep (rI .i64) (u86) x70) rfl
    obtain ⟨q87, hq88, S⟩ := pIdx (P := Try.prog) (r := (rI .i64)) (v := .slice ad7 p0.Right.length cp8) (xs := p0.Right) (j := w64 (s44 - 1)) 34 3 4 S Try.underlying34 rfl rfl hx76
    obtain ⟨u89, S⟩ := pLoad (r := (rI .i64)) (q := q87) (x := x75) 0 S rfl
    obtain rfl : u89 = iv x75 := S.mem.know (i := 1) (e := fRep (rI .i64) (u89) x75) rfl
    refine sDraw (nf := [12, 13, 14]) (W := [(0, 35, .pointer (some ⟨b10, 1, none⟩)), (1, 36, .slice ad7 p0.Right.length cp8), (2, 37, iv s44), (3, 38, q84), (4, 39, iv x70), (5, 40, .pointer (some ⟨b10, 1, none⟩)), (6, 41, .slice ad7 p0.Right.length cp8), (7, 42, iv s44), (8, 43, iv (w64 (s44 - 1))), (9, 44, q87), (10, 45, iv x75), (11, 46, iv (w64 (x70 - x75)))]) rfl S ?_
    refine node_by (A := anc_piece_Chart_1) (nf := [12, 13, 14]) (Y := []) (W := [(0, 35, .pointer (some ⟨b10, 1, none⟩)), (1, 36, .slice ad7 p0.Right.length cp8), (2, 37, iv s44), (3, 38, q84), (4, 39, iv x70), (5, 40, .pointer (some ⟨b10, 1, none⟩)), (6, 41, .slice ad7 p0.Right.length cp8), (7, 42, iv s44), (8, 43, iv (w64 (s44 - 1))), (9, 44, q87), (10, 45, iv x75), (11, 46, iv (w64 (x70 - x75)))]) 15 (by kernel_rfl) (by kernel_rfl) (by kernel_rfl) (by kernel_rfl) (by kernel_rfl) [0, 1, 2, 3, 4, 5, 6, 7, 8, 9, 10, 11] (by kernel_rfl) (by decide) (by decide) (aF 0 14 (by decide) ?_ (aF 1 13 (by decide) ?_ (aF 2 12 (by decide) ?_ (aF 3 11 (by decide) ?_ (aF 4 10 (by decide) ?_ (aF 5 9 (by decide) ?_ (aF 6 8 (by decide) ?_ (aF 7 7 (by decide) ?_ (aF 8 6 (by decide) ?_ (aF 9 5 (by decide) ?_ (aF 10 4 (by decide) ?_ (aF 11 3 (by decide) ?_ (aN 12 2 (by decide) ?_ (aN 13 1 (by decide) ?_ (aB 14 0 12 (by decide) (trivial)))))))))))))))) [] (fun q hq => by cases hq) (fun hY => absurd (hY 12 (by decide)) (by decide))
    · refine fI 35 (.pointer (some ⟨b10, 1, none⟩)) [(1, .pointer (some ⟨b10, 0, none⟩))] 0 [none] rfl rfl rfl rfl rfl rfl fun G a w S => ?_
      refine sField (b := b10) (off := 0) 1 1 S (wN rfl) rfl rfl rfl rfl rfl (lb rfl) fun a S => ?_
      exact leafL ⟨rfl, S⟩
    · refine fI 36 (.slice ad7 p0.Right.length cp8) [(35, .pointer (some ⟨b10, 1, none⟩))] 1 [some 0] rfl rfl rfl rfl rfl rfl fun G a w S => ?_
      refine sLoad1 (p := b10) (off := 1) (T := 36) (vs := [.slice ad5 p0.Left.length cp6, .slice ad7 p0.Right.length cp8]) 0 (.slice ad7 p0.Right.length cp8) S (wN rfl) rfl rfl rfl rfl rfl rfl (lb rfl) fun a S => ?_
      exact leafL ⟨rfl, S⟩
    · refine fI 37 (iv s44) [(6, iv s44)] 2 [none] rfl rfl rfl rfl rfl rfl fun G a w S => ?_
      refine sMove (iv s44) S (wN rfl) (.inl rfl) rfl rfl (lb rfl) fun a S => ?_
      exact leafL ⟨rfl, S⟩
    · refine fI 38 q84 [(36, .slice ad7 p0.Right.length cp8), (37, iv s44)] 3 [some 1, some 2] rfl rfl rfl rfl rfl rfl fun G a w S => ?_
      refine sIdxV (v := .slice ad7 p0.Right.length cp8) (k := .i64) (j := s44) S (wN rfl) rfl rfl rfl hq85 rfl (lb rfl) fun a S => ?_
      exact leafL ⟨rfl, S⟩
    · refine fI 39 (iv x70) [(38, q84)] 4 [some 3] rfl rfl rfl rfl rfl rfl fun G a w S => ?_
      refine sLoadV1 (vq := q84) 3 (iv x70) S (wN rfl) rfl rfl rfl rfl rfl (lb rfl) fun a S => ?_
      exact leafL ⟨rfl, S⟩
    · refine fI 40 (.pointer (some ⟨b10, 1, none⟩)) [(1, .pointer (some ⟨b10, 0, none⟩))] 5 [none] rfl rfl rfl rfl rfl rfl fun G a w S => ?_
      refine sField (b := b10) (off := 0) 1 1 S (wN rfl) rfl rfl rfl rfl rfl (lb rfl) fun a S => ?_
      exact leafL ⟨rfl, S⟩
    · refine fI 41 (.slice ad7 p0.Right.length cp8) [(40, .pointer (some ⟨b10, 1, none⟩))] 6 [some 5] rfl rfl rfl rfl rfl rfl fun G a w S => ?_
      refine sLoad1 (p := b10) (off := 1) (T := 36) (vs := [.slice ad5 p0.Left.length cp6, .slice ad7 p0.Right.length cp8]) 0 (.slice ad7 p0.Right.length cp8) S (wN rfl) rfl rfl rfl rfl rfl rfl (lb rfl) fun a S => ?_
      exact leafL ⟨rfl, S⟩
    · refine fI 42 (iv s44) [(6, iv s44)] 7 [none] rfl rfl rfl rfl rfl rfl fun G a w S => ?_
      refine sMove (iv s44) S (wN rfl) (.inl rfl) rfl rfl (lb rfl) fun a S => ?_
      exact leafL ⟨rfl, S⟩
    · refine fI 43 (iv (w64 (s44 - 1))) [(42, iv s44)] 8 [some 7] rfl rfl rfl rfl rfl rfl fun G a w S => ?_
      refine sBin (iv (w64 (s44 - 1))) S (wN rfl) rfl rfl rfl (bSub _ _ _ _ s44 1) rfl (lb rfl) fun a S => ?_
      exact leafL ⟨rfl, S⟩
    · refine fI 44 q87 [(41, .slice ad7 p0.Right.length cp8), (43, iv (w64 (s44 - 1)))] 9 [some 6, some 8] rfl rfl rfl rfl rfl rfl fun G a w S => ?_
      refine sIdxV (v := .slice ad7 p0.Right.length cp8) (k := .i64) (j := w64 (s44 - 1)) S (wN rfl) rfl rfl rfl hq88 rfl (lb rfl) fun a S => ?_
      exact leafL ⟨rfl, S⟩
    · refine fI 45 (iv x75) [(44, q87)] 10 [some 9] rfl rfl rfl rfl rfl rfl fun G a w S => ?_
      refine sLoadV1 (vq := q87) 0 (iv x75) S (wN rfl) rfl rfl rfl rfl rfl (lb rfl) fun a S => ?_
      exact leafL ⟨rfl, S⟩
    · refine fI 46 (iv (w64 (x70 - x75))) [(39, iv x70), (45, iv x75)] 11 [some 4, some 10] rfl rfl rfl rfl rfl rfl fun G a w S => ?_
      refine sBin (iv (w64 (x70 - x75))) S (wN rfl) rfl rfl rfl (bSub _ _ _ _ x70 x75) rfl (lb rfl) fun a S => ?_
      exact leafL ⟨rfl, S⟩
    · refine ⟨_, [(46, iv (w64 (x70 - x75)))], rfl, (srcs_of [some 11] rfl rfl rfl), fun G a w S => ?_⟩
      refine sCall (X := Value) (f := 35) (vs := [iv (w64 (x70 - x75)), .int .u8 3]) (val := c_piece_bend_val r80) (B' := fun _ => []) (D' := c_piece_bend_D r80) [] [eBox b10 36 [.slice ad5 p0.Left.length cp6, .slice ad7 p0.Right.length cp8], eBox b11 58 [iv 0, .slice none 0 0], eBox b37 58 [iv (w64 (x20 - x25)), .slice ad46 s45.length cp47], eRow r_api_Row 80 (.slice ad46 s45.length cp47) s45] [] [0, 1, 2, 3] [] S (wN rfl) rfl callee35 rfl (by decide) rfl rfl (fun E1 w1 S1 => c_piece_bend E1 w1 (w64 (x70 - x75)) 3 r80 hx81 S1) rfl (lb rfl) fun u90 a w S => ?_
      obtain rfl : u90 = .agg #[.int .u8 r80.s.Kind, .bool r80.s.Purl, iv r80.s.A, iv r80.s.B, iv r80.uses] := S.mem.know (i := 0) (e := fRep r_piece_edge (u90) r80) rfl
      refine leafL ⟨rfl, _, _, .inl ⟨47, (.agg #[.int .u8 r80.s.Kind, .bool r80.s.Purl, iv r80.s.A, iv r80.s.B, iv r80.uses]), [], rfl, S, hz_of rfl, ?_⟩⟩
      refine node_by (A := anc_piece_Chart_1) (nf := [12, 13, 14]) (Y := [12]) 15 (by kernel_rfl) (by kernel_rfl) (by kernel_rfl) (by kernel_rfl) (by kernel_rfl) [12, 0, 1, 2, 3, 4, 5, 6, 7, 8, 9, 10, 11] (by kernel_rfl) (by decide) (by decide) (aD 0 14 12 (by decide) (aD 1 13 12 (by decide) (aD 2 12 12 (by decide) (aD 3 11 12 (by decide) (aD 4 10 12 (by decide) (aD 5 9 12 (by decide) (aD 6 8 12 (by decide) (aD 7 7 12 (by decide) (aD 8 6 12 (by decide) (aD 9 5 12 (by decide) (aD 10 4 12 (by decide) (aD 11 3 12 (by decide) (aY 12 2 (by decide) (aN 13 1 (by decide) ?_ (aB 14 0 13 (by decide) (trivial)))))))))))))))) [] (fun q hq => by cases hq) (fun hY => absurd (hY 13 (by decide)) (by decide))
      refine ⟨_, [], rfl, (srcs_of [] rfl rfl rfl), fun G a w S => ?_⟩
      refine sAlloc (.agg #[.int .u8 0, .bool false, iv 0, iv 0, iv 0]) S (wN rfl) rfl rfl [.int .u8 0, .bool false, iv 0, iv 0, iv 0] rfl rfl (lb rfl) fun a b91 w S => ?_
      refine leafL ⟨rfl, _, _, .inl ⟨7, (.pointer (some ⟨b91, 0, none⟩)), [], rfl, S, hz_of rfl, ?_⟩⟩
      refine node_by (A := anc_piece_Chart_1) (nf := [12, 13, 14]) (Y := [13, 12]) 15 (by kernel_rfl) (by kernel_rfl) (by kernel_rfl) (by kernel_rfl) (by kernel_rfl) [13, 12, 0, 1, 2, 3, 4, 5, 6, 7, 8, 9, 10, 11] (by kernel_rfl) (by decide) (by decide) (aD 0 14 12 (by decide) (aD 1 13 12 (by decide) (aD 2 12 12 (by decide) (aD 3 11 12 (by decide) (aD 4 10 12 (by decide) (aD 5 9 12 (by decide) (aD 6 8 12 (by decide) (aD 7 7 12 (by decide) (aD 8 6 12 (by decide) (aD 9 5 12 (by decide) (aD 10 4 12 (by decide) (aD 11 3 12 (by decide) (aY 12 2 (by decide) (aY 13 1 (by decide) (aN 14 0 (by decide) ?_ (trivial)))))))))))))))) [] (fun q hq => by cases hq) (fun hY => absurd (hY 14 (by decide)) (by decide))
      refine ⟨_, [(7, .pointer (some ⟨b91, 0, none⟩)), (47, .agg #[.int .u8 r80.s.Kind, .bool r80.s.Purl, iv r80.s.A, iv r80.s.B, iv r80.uses])], rfl, (srcs_of [some 0, some 1] rfl rfl rfl), fun G a w S => ?_⟩
      refine sStore (p := b91) (off := 0) (T := 84) (vs := [.int .u8 0, .bool false, iv 0, iv 0, iv 0]) (v := .agg #[.int .u8 r80.s.Kind, .bool r80.s.Purl, iv r80.s.A, iv r80.s.B, iv r80.uses]) 0 [.int .u8 r80.s.Kind, .bool r80.s.Purl, iv r80.s.A, iv r80.s.B, iv r80.uses] S (wN rfl) rfl rfl rfl rfl rfl rfl rfl (by simp) rfl fun a w S => ?_
      refine leafL ⟨rfl, _, _, .inr ⟨[], rfl, S, hz_of rfl, ?_⟩⟩
      refine node_by (A := anc_piece_Chart_1) (nf := [12, 13, 14]) (Y := [14, 13, 12]) 15 (by kernel_rfl) (by kernel_rfl) (by kernel_rfl) (by kernel_rfl) (by kernel_rfl) [13, 12, 0, 1, 2, 3, 4, 5, 6, 7, 8, 9, 10, 11] (by kernel_rfl) (by decide) (by decide) (aD 0 14 14 (by decide) (aD 1 13 14 (by decide) (aD 2 12 14 (by decide) (aD 3 11 14 (by decide) (aD 4 10 14 (by decide) (aD 5 9 14 (by decide) (aD 6 8 14 (by decide) (aD 7 7 14 (by decide) (aD 8 6 14 (by decide) (aD 9 5 14 (by decide) (aD 10 4 14 (by decide) (aD 11 3 14 (by decide) (aY 12 2 (by decide) (aY 13 1 (by decide) (aY 14 0 (by decide) (trivial)))))))))))))))) [(1, .pointer (some ⟨b10, 0, none⟩)), (2, .pointer (some ⟨b11, 0, none⟩)), (5, .pointer (some ⟨b37, 0, none⟩)), (6, iv s44), (7, .pointer (some ⟨b91, 0, none⟩))] (fin_of [none, none, none, none, some 0] rfl (by kernel_rfl) (by kernel_rfl)) (fun _ a w S => ?_)
      exact leafT (⟨r80.s.Kind, r80.s.Purl, r80.s.A, r80.s.B, r80.uses, Option.some.inj h, b91, S.fix [1, 2, 3, 0, 4] [7, 8] (by decide) rfl rfl rfl⟩)
    refine ⟨_, [], rfl, (srcs_of [] rfl rfl rfl), fun G a w S => ?_⟩
    refine sAlloc (.agg #[.int .u8 0, .bool false, iv 0, iv 0, iv 0]) S (wN rfl) rfl rfl [.int .u8 0, .bool false, iv 0, iv 0, iv 0] rfl rfl (lb rfl) fun a b92 w S => ?_
    refine leafL ⟨rfl, _, _, .inl ⟨7, (.pointer (some ⟨b92, 0, none⟩)), [], rfl, S, hz_of rfl, ?_⟩⟩
    refine node_by (A := anc_piece_Chart_1) (nf := [12, 13, 14]) (Y := [13]) 15 (by kernel_rfl) (by kernel_rfl) (by kernel_rfl) (by kernel_rfl) (by kernel_rfl) [13, 0, 1, 2, 3, 4, 5, 6, 7, 8, 9, 10, 11] (by kernel_rfl) (by decide) (by decide) (aF 0 14 (by decide) ?_ (aF 1 13 (by decide) ?_ (aF 2 12 (by decide) ?_ (aF 3 11 (by decide) ?_ (aF 4 10 (by decide) ?_ (aF 5 9 (by decide) ?_ (aF 6 8 (by decide) ?_ (aF 7 7 (by decide) ?_ (aF 8 6 (by decide) ?_ (aF 9 5 (by decide) ?_ (aF 10 4 (by decide) ?_ (aF 11 3 (by decide) ?_ (aN 12 2 (by decide) ?_ (aY 13 1 (by decide) (aB 14 0 12 (by decide) (trivial)))))))))))))))) [] (fun q hq => by cases hq) (fun hY => absurd (hY 12 (by decide)) (by decide))
    · refine fI 35 (.pointer (some ⟨b10, 1, none⟩)) [(1, .pointer (some ⟨b10, 0, none⟩))] 1 [none] rfl rfl rfl rfl rfl rfl fun G a w S => ?_
      refine sField (b := b10) (off := 0) 1 1 S (wN rfl) rfl rfl rfl rfl rfl (lb rfl) fun a S => ?_
      exact leafL ⟨rfl, S⟩
    · refine fI 36 (.slice ad7 p0.Right.length cp8) [(35, .pointer (some ⟨b10, 1, none⟩))] 2 [some 1] rfl rfl rfl rfl rfl rfl fun G a w S => ?_
      refine sLoad1 (p := b10) (off := 1) (T := 36) (vs := [.slice ad5 p0.Left.length cp6, .slice ad7 p0.Right.length cp8]) 1 (.slice ad7 p0.Right.length cp8) S (wN rfl) rfl rfl rfl rfl rfl rfl (lb rfl) fun a S => ?_
      exact leafL ⟨rfl, S⟩
    · refine fI 37 (iv s44) [(6, iv s44)] 3 [none] rfl rfl rfl rfl rfl rfl fun G a w S => ?_
      refine sMove (iv s44) S (wN rfl) (.inl rfl) rfl rfl (lb rfl) fun a S => ?_
      exact leafL ⟨rfl, S⟩
    · refine fI 38 q84 [(36, .slice ad7 p0.Right.length cp8), (37, iv s44)] 4 [some 2, some 3] rfl rfl rfl rfl rfl rfl fun G a w S => ?_
      refine sIdxV (v := .slice ad7 p0.Right.length cp8) (k := .i64) (j := s44) S (wN rfl) rfl rfl rfl hq85 rfl (lb rfl) fun a S => ?_
      exact leafL ⟨rfl, S⟩
    · refine fI 39 (iv x70) [(38, q84)] 5 [some 4] rfl rfl rfl rfl rfl rfl fun G a w S => ?_
      refine sLoadV1 (vq := q84) 3 (iv x70) S (wN rfl) rfl rfl rfl rfl rfl (lb rfl) fun a S => ?_
      exact leafL ⟨rfl, S⟩
    · refine fI 40 (.pointer (some ⟨b10, 1, none⟩)) [(1, .pointer (some ⟨b10, 0, none⟩))] 6 [none] rfl rfl rfl rfl rfl rfl fun G a w S => ?_
      refine sField (b := b10) (off := 0) 1 1 S (wN rfl) rfl rfl rfl rfl rfl (lb rfl) fun a S => ?_
      exact leafL ⟨rfl, S⟩
    · refine fI 41 (.slice ad7 p0.Right.length cp8) [(40, .pointer (some ⟨b10, 1, none⟩))] 7 [some 6] rfl rfl rfl rfl rfl rfl fun G a w S => ?_
      refine sLoad1 (p := b10) (off := 1) (T := 36) (vs := [.slice ad5 p0.Left.length cp6, .slice ad7 p0.Right.length cp8]) 1 (.slice ad7 p0.Right.length cp8) S (wN rfl) rfl rfl rfl rfl rfl rfl (lb rfl) fun a S => ?_
      exact leafL ⟨rfl, S⟩
    · refine fI 42 (iv s44) [(6, iv s44)] 8 [none] rfl rfl rfl rfl rfl rfl fun G a w S => ?_
      refine sMove (iv s44) S (wN rfl) (.inl rfl) rfl rfl (lb rfl) fun a S => ?_
      exact leafL ⟨rfl, S⟩
    · refine fI 43 (iv (w64 (s44 - 1))) [(42, iv s44)] 9 [some 8] rfl rfl rfl rfl rfl rfl fun G a w S => ?_
      refine sBin (iv (w64 (s44 - 1))) S (wN rfl) rfl rfl rfl (bSub _ _ _ _ s44 1) rfl (lb rfl) fun a S => ?_
      exact leafL ⟨rfl, S⟩
    · refine fI 44 q87 [(41, .slice ad7 p0.Right.length cp8), (43, iv (w64 (s44 - 1)))] 10 [some 7, some 9] rfl rfl rfl rfl rfl rfl fun G a w S => ?_
      refine sIdxV (v := .slice ad7 p0.Right.length cp8) (k := .i64) (j := w64 (s44 - 1)) S (wN rfl) rfl rfl rfl hq88 rfl (lb rfl) fun a S => ?_
      exact leafL ⟨rfl, S⟩
    · refine fI 45 (iv x75) [(44, q87)] 11 [some 10] rfl rfl rfl rfl rfl rfl fun G a w S => ?_
      refine sLoadV1 (vq := q87) 0 (iv x75) S (wN rfl) rfl rfl rfl rfl rfl (lb rfl) fun a S => ?_
      exact leafL ⟨rfl, S⟩
    · refine fI 46 (iv (w64 (x70 - x75))) [(39, iv x70), (45, iv x75)] 12 [some 5, some 11] rfl rfl rfl rfl rfl rfl fun G a w S => ?_
      refine sBin (iv (w64 (x70 - x75))) S (wN rfl) rfl rfl rfl (bSub _ _ _ _ x70 x75) rfl (lb rfl) fun a S => ?_
      exact leafL ⟨rfl, S⟩
    refine ⟨_, [(46, iv (w64 (x70 - x75)))], rfl, (srcs_of [some 12] rfl rfl rfl), fun G a w S => ?_⟩
    refine sCall (X := Value) (f := 35) (vs := [iv (w64 (x70 - x75)), .int .u8 3]) (val := c_piece_bend_val r80) (B' := fun _ => []) (D' := c_piece_bend_D r80) [] [eBox b92 84 [.int .u8 0, .bool false, iv 0, iv 0, iv 0], eBox b10 36 [.slice ad5 p0.Left.length cp6, .slice ad7 p0.Right.length cp8], eBox b11 58 [iv 0, .slice none 0 0], eBox b37 58 [iv (w64 (x20 - x25)), .slice ad46 s45.length cp47], eRow r_api_Row 80 (.slice ad46 s45.length cp47) s45] [] [0, 1, 2, 3, 4] [] S (wN rfl) rfl callee35 rfl (by decide) rfl rfl (fun E1 w1 S1 => c_piece_bend E1 w1 (w64 (x70 - x75)) 3 r80 hx81 S1) rfl (lb rfl) fun u93 a w S => ?_
    obtain rfl : u93 = .agg #[.int .u8 r80.s.Kind, .bool r80.s.Purl, iv r80.s.A, iv r80.s.B, iv r80.uses] := S.mem.know (i := 0) (e := fRep r_piece_edge (u93) r80) rfl
    refine leafL ⟨rfl, _, _, .inl ⟨47, (.agg #[.int .u8 r80.s.Kind, .bool r80.s.Purl, iv r80.s.A, iv r80.s.B, iv r80.uses]), [], rfl, S, hz_of rfl, ?_⟩⟩
    refine node_by (A := anc_piece_Chart_1) (nf := [12, 13, 14]) (Y := [12, 13]) 15 (by kernel_rfl) (by kernel_rfl) (by kernel_rfl) (by kernel_rfl) (by kernel_rfl) [12, 13, 0, 1, 2, 3, 4, 5, 6, 7, 8, 9, 10, 11] (by kernel_rfl) (by decide) (by decide) (aD 0 14 12 (by decide) (aD 1 13 12 (by decide) (aD 2 12 12 (by decide) (aD 3 11 12 (by decide) (aD 4 10 12 (by decide) (aD 5 9 12 (by decide) (aD 6 8 12 (by decide) (aD 7 7 12 (by decide) (aD 8 6 12 (by decide) (aD 9 5 12 (by decide) (aD 10 4 12 (by decide) (aD 11 3 12 (by decide) (aY 12 2 (by decide) (aY 13 1 (by decide) (aN 14 0 (by decide) ?_ (trivial)))))))))))))))) [] (fun q hq => by cases hq) (fun hY => absurd (hY 14 (by decide)) (by decide))
    refine ⟨_, [(7, .pointer (some ⟨b92, 0, none⟩)), (47, .agg #[.int .u8 r80.s.Kind, .bool r80.s.Purl, iv r80.s.A, iv r80.s.B, iv r80.uses])], rfl, (srcs_of [some 1, some 0] rfl rfl rfl), fun G a w S => ?_⟩
    refine sStore (p := b92) (off := 0) (T := 84) (vs := [.int .u8 0, .bool false, iv 0, iv 0, iv 0]) (v := .agg #[.int .u8 r80.s.Kind, .bool r80.s.Purl, iv r80.s.A, iv r80.s.B, iv r80.uses]) 0 [.int .u8 r80.s.Kind, .bool r80.s.Purl, iv r80.s.A, iv r80.s.B, iv r80.uses] S (wN rfl) rfl rfl rfl rfl rfl rfl rfl (by simp) rfl fun a w S => ?_
    refine leafL ⟨rfl, _, _, .inr ⟨[], rfl, S, hz_of rfl, ?_⟩⟩
    refine node_by (A := anc_piece_Chart_1) (nf := [12, 13, 14]) (Y := [14, 12, 13]) 15 (by kernel_rfl) (by kernel_rfl) (by kernel_rfl) (by kernel_rfl) (by kernel_rfl) [12, 13, 0, 1, 2, 3, 4, 5, 6, 7, 8, 9, 10, 11] (by kernel_rfl) (by decide) (by decide) (aD 0 14 14 (by decide) (aD 1 13 14 (by decide) (aD 2 12 14 (by decide) (aD 3 11 14 (by decide) (aD 4 10 14 (by decide) (aD 5 9 14 (by decide) (aD 6 8 14 (by decide) (aD 7 7 14 (by decide) (aD 8 6 14 (by decide) (aD 9 5 14 (by decide) (aD 10 4 14 (by decide) (aD 11 3 14 (by decide) (aY 12 2 (by decide) (aY 13 1 (by decide) (aY 14 0 (by decide) (trivial)))))))))))))))) [(1, .pointer (some ⟨b10, 0, none⟩)), (2, .pointer (some ⟨b11, 0, none⟩)), (5, .pointer (some ⟨b37, 0, none⟩)), (6, iv s44), (7, .pointer (some ⟨b92, 0, none⟩))] (fin_of [none, none, none, none, some 1] rfl (by kernel_rfl) (by kernel_rfl)) (fun _ a w S => ?_)
    exact leafT (⟨r80.s.Kind, r80.s.Purl, r80.s.A, r80.s.B, r80.uses, Option.some.inj h, b92, S.fix [1, 2, 3, 0, 4] [7, 8] (by decide) rfl rfl rfl⟩)
  obtain ⟨o63, o64, o65, o66, o67, rfl, b62, S⟩ := hI
  have h := g69
  clear g69
  try dsimp only at h
  obtain ⟨t100, h, g101⟩ := bindSome h
  refine sCut (fun a w => ∃ o95, ∃ o96, ∃ o97, ∃ o98, ∃ o99, (o95, o96, o97, o98, o99) = t100 ∧ ∃ b94, St [] E [] w0 127 a w [(1, .pointer (some ⟨b10, 0, none⟩)), (2, .pointer (some ⟨b11, 0, none⟩)), (5, .pointer (some ⟨b37, 0, none⟩)), (6, iv s44), (7, .pointer (some ⟨b62, 0, none⟩)), (8, .pointer (some ⟨b94, 0, none⟩))] [eBox b10 36 [.slice ad5 p0.Left.length cp6, .slice ad7 p0.Right.length cp8], eBox b11 58 [iv 0, .slice none 0 0], eBox b37 58 [iv (w64 (x20 - x25)), .slice ad46 s45.length cp47], eBox b62 84 [.int .u8 o63, .bool o64, iv o65, iv o66, iv o67], eBox b94 84 [.int .u8 o95, .bool o96, iv o97, iv o98, iv o99], eRow r_api_Row 80 (.slice ad46 s45.length cp47) s45] [fRep (rL (rI .i64)) (.slice ad5 p0.Left.length cp6) p0.Left, fRep (rL (rI .i64)) (.slice ad7 p0.Right.length cp8) p0.Right]) ?_ (fun a w hI => ?_)
  · obtain ⟨x102, hx103, h⟩ := bindSome h
    obtain ⟨x107, hx108, h⟩ := bindSome h
    obtain ⟨r112, hx113, h⟩ := bindSome h
    obtain ⟨q116, hq117, S⟩ := pIdx (P := Try.prog) (r := (rI .i64)) (v := .slice ad5 p0.Left.length cp6) (xs := p0.Left) (j := w64 (s44 - 1)) 34 3 0 S Try.underlying34 rfl rfl hx103
    obtain ⟨u118, S⟩ := pLoad (r := (rI .i64)) (q := q116) (x := x102) 0 S rfl
    obtain rfl : u118 = iv x102 := S.mem.know (i := 1) (e := fRep (rI .i64) (u118) x102) rfl
    obtain ⟨q119, hq120, S⟩ := pIdx (P := Try.prog) (r := (rI .i64)) (v := .slice ad5 p0.Left.length cp6) (xs := p0.Left) (j := s44) 34 3 3 S Try.underlying34 rfl rfl hx108
    obtain ⟨u121, S⟩ := pLoad (r := (rI .i64)) (q := q119) (x := x107) 0 S rfl
    obtain rfl : u121 = iv x107 := S.mem.know (i := 1) (e := fRep (rI .i64) (u121) x107) rfl
    refine sDraw (nf := [12, 13, 14]) (W := [(0, 48, .pointer (some ⟨b10, 0, none⟩)), (1, 49, .slice ad5 p0.Left.length cp6), (2, 50, iv s44), (3, 51, iv (w64 (s44 - 1))), (4, 52, q116), (5, 53, iv x102), (6, 54, .pointer (some ⟨b10, 0, none⟩)), (7, 55, .slice ad5 p0.Left.length cp6), (8, 56, iv s44), (9, 57, q119), (10, 58, iv x107), (11, 59, iv (w64 (x102 - x107)))]) rfl S ?_
    refine node_by (A := anc_piece_Chart_2) (nf := [12, 13, 14]) (Y := []) (W := [(0, 48, .pointer (some ⟨b10, 0, none⟩)), (1, 49, .slice ad5 p0.Left.length cp6), (2, 50, iv s44), (3, 51, iv (w64 (s44 - 1))), (4, 52, q116), (5, 53, iv x102), (6, 54, .pointer (some ⟨b10, 0, none⟩)), (7, 55, .slice ad5 p0.Left.length cp6), (8, 56, iv s44), (9, 57, q119), (10, 58, iv x107), (11, 59, iv (w64 (x102 - x107)))]) 15 (by kernel_rfl) (by kernel_rfl) (by kernel_rfl) (by kernel_rfl) (by kernel_rfl) [0, 1, 2, 3, 4, 5, 6, 7, 8, 9, 10, 11] (by kernel_rfl) (by decide) (by decide) (aF 0 14 (by decide) ?_ (aF 1 13 (by decide) ?_ (aF 2 12 (by decide) ?_ (aF 3 11 (by decide) ?_ (aF 4 10 (by decide) ?_ (aF 5 9 (by decide) ?_ (aF 6 8 (by decide) ?_ (aF 7 7 (by decide) ?_ (aF 8 6 (by decide) ?_ (aF 9 5 (by decide) ?_ (aF 10 4 (by decide) ?_ (aF 11 3 (by decide) ?_ (aN 12 2 (by decide) ?_ (aN 13 1 (by decide) ?_ (aB 14 0 12 (by decide) (trivial)))))))))))))))) [] (fun q hq => by cases hq) (fun hY => absurd (hY 12 (by decide)) (by decide))
    · refine fI 48 (.pointer (some ⟨b10, 0, none⟩)) [(1, .pointer (some ⟨b10, 0, none⟩))] 0 [none] rfl rfl rfl rfl rfl rfl fun G a w S => ?_
      refine sField (b := b10) (off := 0) 0 0 S (wN rfl) rfl rfl rfl rfl rfl (lb rfl) fun a S => ?_
      exact leafL ⟨rfl, S⟩
    · refine fI 49 (.slice ad5 p0.Left.length cp6) [(48, .pointer (some ⟨b10, 0, none⟩))] 1 [some 0] rfl rfl rfl rfl rfl rfl fun G a w S => ?_
      refine sLoad1 (p := b10) (off := 0) (T := 36) (vs := [.slice ad5 p0.Left.length cp6, .slice ad7 p0.Right.length cp8]) 0 (.slice ad5 p0.Left.length cp6) S (wN rfl) rfl rfl rfl rfl rfl rfl (lb rfl) fun a S => ?_
      exact leafL ⟨rfl, S⟩
    · refine fI 50 (iv s44) [(6, iv s44)] 2 [none] rfl rfl rfl rfl rfl rfl fun G a w S => ?_
      refine sMove (iv s44) S (wN rfl) (.inl rfl) rfl rfl (lb rfl) fun a S => ?_
      exact leafL ⟨rfl, S⟩
    · refine fI 51 (iv (w64 (s44 - 1))) [(50, iv s44)] 3 [some 2] rfl rfl rfl rfl rfl rfl fun G a w S => ?_
      refine sBin (iv (w64 (s44 - 1))) S (wN rfl) rfl rfl rfl (bSub _ _ _ _ s44 1) rfl (lb rfl) fun a S => ?_
      exact leafL ⟨rfl, S⟩
    · refine fI 52 q116 [(49, .slice ad5 p0.Left.length cp6), (51, iv (w64 (s44 - 1)))] 4 [some 1, some 3] rfl rfl rfl rfl rfl rfl fun G a w S => ?_
      refine sIdxV (v := .slice ad5 p0.Left.length cp6) (k := .i64) (j := w64 (s44 - 1)) S (wN rfl) rfl rfl rfl hq117 rfl (lb rfl) fun a S => ?_
      exact leafL ⟨rfl, S⟩
    · refine fI 53 (iv x102) [(52, q116)] 5 [some 4] rfl rfl rfl rfl rfl rfl fun G a w S => ?_
      refine sLoadV1 (vq := q116) 3 (iv x102) S (wN rfl) rfl rfl rfl rfl rfl (lb rfl) fun a S => ?_
      exact leafL ⟨rfl, S⟩
    · refine fI 54 (.pointer (some ⟨b10, 0, none⟩)) [(1, .pointer (some ⟨b10, 0, none⟩))] 6 [none] rfl rfl rfl rfl rfl rfl fun G a w S => ?_
      refine sField (b := b10) (off := 0) 0 0 S (wN rfl) rfl rfl rfl rfl rfl (lb rfl) fun a S => ?_
      exact leafL ⟨rfl, S⟩
    · refine fI 55 (.slice ad5 p0.Left.length cp6) [(54, .pointer (some ⟨b10, 0, none⟩))] 7 [some 6] rfl rfl rfl rfl rfl rfl fun G a w S => ?_
      refine sLoad1 (p := b10) (off := 0) (T := 36) (vs := [.slice ad5 p0.Left.length cp6, .slice ad7 p0.Right.length cp8]) 0 (.slice ad5 p0.Left.length cp6) S (wN rfl) rfl rfl rfl rfl rfl rfl (lb rfl) fun a S => ?_
      exact leafL ⟨rfl, S⟩
    · refine fI 56 (iv s44) [(6, iv s44)] 8 [none] rfl rfl rfl rfl rfl rfl fun G a w S => ?_
      refine sMove (iv s44) S (wN rfl) (.inl rfl) rfl rfl (lb rfl) fun a S => ?_
      exact leafL ⟨rfl, S⟩
    · refine fI 57 q119 [(55, .slice ad5 p0.Left.length cp6), (56, iv s44)] 9 [some 7, some 8] rfl rfl rfl rfl rfl rfl fun G a w S => ?_
      refine sIdxV (v := .slice ad5 p0.Left.length cp6) (k := .i64) (j := s44) S (wN rfl) rfl rfl rfl hq120 rfl (lb rfl) fun a S => ?_
      exact leafL ⟨rfl, S⟩
    · refine fI 58 (iv x107) [(57, q119)] 10 [some 9] rfl rfl rfl rfl rfl rfl fun G a w S => ?_
      refine sLoadV1 (vq := q119) 0 (iv x107) S (wN rfl) rfl rfl rfl rfl rfl (lb rfl) fun a S => ?_
      exact leafL ⟨rfl, S⟩
    · refine fI 59 (iv (w64 (x102 - x107))) [(53, iv x102), (58, iv x107)] 11 [some 5, some 10] rfl rfl rfl rfl rfl rfl fun G a w S => ?_
      refine sBin (iv (w64 (x102 - x107))) S (wN rfl) rfl rfl rfl (bSub _ _ _ _ x102 x107) rfl (lb rfl) fun a S => ?_
      exact leafL ⟨rfl, S⟩
    · refine ⟨_, [(59, iv (w64 (x102 - x107)))], rfl, (srcs_of [some 11] rfl rfl rfl), fun G a w S => ?_⟩
      refine sCall (X := Value) (f := 35) (vs := [iv (w64 (x102 - x107)), .int .u8 4]) (val := c_piece_bend_val r112) (B' := fun _ => []) (D' := c_piece_bend_D r112) [] [eBox b10 36 [.slice ad5 p0.Left.length cp6, .slice ad7 p0.Right.length cp8], eBox b11 58 [iv 0, .slice none 0 0], eBox b37 58 [iv (w64 (x20 - x25)), .slice ad46 s45.length cp47], eBox b62 84 [.int .u8 o63, .bool o64, iv o65, iv o66, iv o67], eRow r_api_Row 80 (.slice ad46 s45.length cp47) s45] [] [0, 1, 2, 3, 4] [] S (wN rfl) rfl callee35 rfl (by decide) rfl rfl (fun E1 w1 S1 => c_piece_bend E1 w1 (w64 (x102 - x107)) 4 r112 hx113 S1) rfl (lb rfl) fun u122 a w S => ?_
      obtain rfl : u122 = .agg #[.int .u8 r112.s.Kind, .bool r112.s.Purl, iv r112.s.A, iv r112.s.B, iv r112.uses] := S.mem.know (i := 0) (e := fRep r_piece_edge (u122) r112) rfl
      refine leafL ⟨rfl, _, _, .inl ⟨60, (.agg #[.int .u8 r112.s.Kind, .bool r112.s.Purl, iv r112.s.A, iv r112.s.B, iv r112.uses]), [], rfl, S, hz_of rfl, ?_⟩⟩
      refine node_by (A := anc_piece_Chart_2) (nf := [12, 13, 14]) (Y := [12]) 15 (by kernel_rfl) (by kernel_rfl) (by kernel_rfl) (by kernel_rfl) (by kernel_rfl) [12, 0, 1, 2, 3, 4, 5, 6, 7, 8, 9, 10, 11] (by kernel_rfl) (by decide) (by decide) (aD 0 14 12 (by decide) (aD 1 13 12 (by decide) (aD 2 12 12 (by decide) (aD 3 11 12 (by decide) (aD 4 10 12 (by decide) (aD 5 9 12 (by decide) (aD 6 8 12 (by decide) (aD 7 7 12 (by decide) (aD 8 6 12 (by decide) (aD 9 5 12 (by decide) (aD 10 4 12 (by decide) (aD 11 3 12 (by decide) (aY 12 2 (by decide) (aN 13 1 (by decide) ?_ (aB 14 0 13 (by decide) (trivial)))))))))))))))) [] (fun q hq => by cases hq) (fun hY => absurd (hY 13 (by decide)) (by decide))
      refine ⟨_, [], rfl, (srcs_of [] rfl rfl rfl), fun G a w S => ?_⟩
      refine sAlloc (.agg #[.int .u8 0, .bool false, iv 0, iv 0, iv 0]) S (wN rfl) rfl rfl [.int .u8 0, .bool false, iv 0, iv 0, iv 0] rfl rfl (lb rfl) fun a b123 w S => ?_
      refine leafL ⟨rfl, _, _, .inl ⟨8, (.pointer (some ⟨b123, 0, none⟩)), [], rfl, S, hz_of rfl, ?_⟩⟩
      refine node_by (A := anc_piece_Chart_2) (nf := [12, 13, 14]) (Y := [13, 12]) 15 (by kernel_rfl) (by kernel_rfl) (by kernel_rfl) (by kernel_rfl) (by kernel_rfl) [13, 12, 0, 1, 2, 3, 4, 5, 6, 7, 8, 9, 10, 11] (by kernel_rfl) (by decide) (by decide) (aD 0 14 12 (by decide) (aD 1 13 12 (by decide) (aD 2 12 12 (by decide) (aD 3 11 12 (by decide) (aD 4 10 12 (by decide) (aD 5 9 12 (by decide) (aD 6 8 12 (by decide) (aD 7 7 12 (by decide) (aD 8 6 12 (by decide) (aD 9 5 12 (by decide) (aD 10 4 12 (by decide) (aD 11 3 12 (by decide) (aY 12 2 (by decide) (aY 13 1 (by decide) (aN 14 0 (by decide) ?_ (trivial)))))))))))))))) [] (fun q hq => by cases hq) (fun hY => absurd (hY 14 (by decide)) (by decide))
      refine ⟨_, [(8, .pointer (some ⟨b123, 0, none⟩)), (60, .agg #[.int .u8 r112.s.Kind, .bool r112.s.Purl, iv r112.s.A, iv r112.s.B, iv r112.uses])], rfl, (srcs_of [some 0, some 1] rfl rfl rfl), fun G a w S => ?_⟩
      refine sStore (p := b123) (off := 0) (T := 84) (vs := [.int .u8 0, .bool false, iv 0, iv 0, iv 0]) (v := .agg #[.int .u8 r112.s.Kind, .bool r112.s.Purl, iv r112.s.A, iv r112.s.B, iv r112.uses]) 0 [.int .u8 r112.s.Kind, .bool r112.s.Purl, iv r112.s.A, iv r112.s.B, iv r112.uses] S (wN rfl) rfl rfl rfl rfl rfl rfl rfl (by simp) rfl fun a w S => ?_
      refine leafL ⟨rfl, _, _, .inr ⟨[], rfl, S, hz_of rfl, ?_⟩⟩
      refine node_by (A := anc_piece_Chart_2) (nf := [12, 13, 14]) (Y := [14, 13, 12]) 15 (by kernel_rfl) (by kernel_rfl) (by kernel_rfl) (by kernel_rfl) (by kernel_rfl) [13, 12, 0, 1, 2, 3, 4, 5, 6, 7, 8, 9, 10, 11] (by kernel_rfl) (by decide) (by decide) (aD 0 14 14 (by decide) (aD 1 13 14 (by decide) (aD 2 12 14 (by decide) (aD 3 11 14 (by decide) (aD 4 10 14 (by decide) (aD 5 9 14 (by decide) (aD 6 8 14 (by decide) (aD 7 7 14 (by decide) (aD 8 6 14 (by decide) (aD 9 5 14 (by decide) (aD 10 4 14 (by decide) (aD 11 3 14 (by decide) (aY 12 2 (by decide) (aY 13 1 (by decide) (aY 14 0 (by decide) (trivial)))))))))))))))) [(1, .pointer (some ⟨b10, 0, none⟩)), (2, .pointer (some ⟨b11, 0, none⟩)), (5, .pointer (some ⟨b37, 0, none⟩)), (6, iv s44), (7, .pointer (some ⟨b62, 0, none⟩)), (8, .pointer (some ⟨b123, 0, none⟩))] (fin_of [none, none, none, none, none, some 0] rfl (by kernel_rfl) (by kernel_rfl)) (fun _ a w S => ?_)
      exact leafT (⟨r112.s.Kind, r112.s.Purl, r112.s.A, r112.s.B, r112.uses, Option.some.inj h, b123, S.fix [1, 2, 3, 4, 0, 5] [7, 8] (by decide) rfl rfl rfl⟩)
    refine ⟨_, [], rfl, (srcs_of [] rfl rfl rfl), fun G a w S => ?_⟩
    refine sAlloc (.agg #[.int .u8 0, .bool false, iv 0, iv 0, iv 0]) S (wN rfl) rfl rfl [.int .u8 0, .bool false, iv 0, iv 0, iv 0] rfl rfl (lb rfl) fun a b124 w S => ?_
    refine leafL ⟨rfl, _, _, .inl ⟨8, (.pointer (some ⟨b124, 0, none⟩)), [], rfl, S, hz_of rfl, ?_⟩⟩
    refine node_by (A := anc_piece_Chart_2) (nf := [12, 13, 14]) (Y := [13]) 15 (by kernel_rfl) (by kernel_rfl) (by kernel_rfl) (by kernel_rfl) (by kernel_rfl) [13, 0, 1, 2, 3, 4, 5, 6, 7, 8, 9, 10, 11] (by kernel_rfl) (by decide) (by decide) (aF 0 14 (by decide) ?_ (aF 1 13 (by decide) ?_ (aF 2 12 (by decide) ?_ (aF 3 11 (by decide) ?_ (aF 4 10 (by decide) ?_ (aF 5 9 (by decide) ?_ (aF 6 8 (by decide) ?_ (aF 7 7 (by decide) ?_ (aF 8 6 (by decide) ?_ (aF 9 5 (by decide) ?_ (aF 10 4 (by decide) ?_ (aF 11 3 (by decide) ?_ (aN 12 2 (by decide) ?_ (aY 13 1 (by decide) (aB 14 0 12 (by decide) (trivial)))))))))))))))) [] (fun q hq => by cases hq) (fun hY => absurd (hY 12 (by decide)) (by decide))
    · refine fI 48 (.pointer (some ⟨b10, 0, none⟩)) [(1, .pointer (some ⟨b10, 0, none⟩))] 1 [none] rfl rfl rfl rfl rfl rfl fun G a w S => ?_
      refine sField (b := b10) (off := 0) 0 0 S (wN rfl) rfl rfl rfl rfl rfl (lb rfl) fun a S => ?_
      exact leafL ⟨rfl, S⟩
    · refine fI 49 (.slice ad5 p0.Left.length cp6) [(48, .pointer (some ⟨b10, 0, none⟩))] 2 [some 1] rfl rfl rfl rfl rfl rfl fun G a w S => ?_
      refine sLoad1 (p := b10) (off := 0) (T := 36) (vs := [.slice ad5 p0.Left.length cp6, .slice ad7 p0.Right.length cp8]) 1 (.slice ad5 p0.Left.length cp6) S (wN rfl) rfl rfl rfl rfl rfl rfl (lb rfl) fun a S => ?_
      exact leafL ⟨rfl, S⟩
    · refine fI 50 (iv s44) [(6, iv s44)] 3 [none] rfl rfl rfl rfl rfl rfl fun G a w S => ?_
      refine sMove (iv s44) S (wN rfl) (.inl rfl) rfl rfl (lb rfl) fun a S => ?_
      exact leafL ⟨rfl, S⟩
    · refine fI 51 (iv (w64 (s44 - 1))) [(50, iv s44)] 4 [some 3] rfl rfl rfl rfl rfl rfl fun G a w S => ?_
      refine sBin (iv (w64 (s44 - 1))) S (wN rfl) rfl rfl rfl (bSub _ _ _ _ s44 1) rfl (lb rfl) fun a S => ?_
      exact leafL ⟨rfl, S⟩
    · refine fI 52 q116 [(49, .slice ad5 p0.Left.length cp6), (51, iv (w64 (s44 - 1)))] 5 [some 2, some 4] rfl rfl rfl rfl rfl rfl fun G a w S => ?_
      refine sIdxV (v := .slice ad5 p0.Left.length cp6) (k := .i64) (j := w64 (s44 - 1)) S (wN rfl) rfl rfl rfl hq117 rfl (lb rfl) fun a S => ?_
      exact leafL ⟨rfl, S⟩
    · refine fI 53 (iv x102) [(52, q116)] 6 [some 5] rfl rfl rfl rfl rfl rfl fun G a w S => ?_
      refine sLoadV1 (vq := q116) 3 (iv x102) S (wN rfl) rfl rfl rfl rfl rfl (lb rfl) fun a S => ?_
      exact leafL ⟨rfl, S⟩
    · refine fI 54 (.pointer (some ⟨b10, 0, none⟩)) [(1, .pointer (some ⟨b10, 0, none⟩))] 7 [none] rfl rfl rfl rfl rfl rfl fun G a w S => ?_
      refine sField (b := b10) (off := 0) 0 0 S (wN rfl) rfl rfl rfl rfl rfl (lb rfl) fun a S => ?_
      exact leafL ⟨rfl, S⟩
    · refine fI 55 (.slice ad5 p0.Left.length cp6) [(54, .pointer (some ⟨b10, 0, none⟩))] 8 [some 7] rfl rfl rfl rfl rfl rfl fun G a w S => ?_
      refine sLoad1 (p := b10) (off := 0) (T := 36) (vs := [.slice ad5 p0.Left.length cp6, .slice ad7 p0.Right.length cp8]) 1 (.slice ad5 p0.Left.length cp6) S (wN rfl) rfl rfl rfl rfl rfl rfl (lb rfl) fun a S => ?_
      exact leafL ⟨rfl, S⟩
    · refine fI 56 (iv s44) [(6, iv s44)] 9 [none] rfl rfl rfl rfl rfl rfl fun G a w S => ?_
      refine sMove (iv s44) S (wN rfl) (.inl rfl) rfl rfl (lb rfl) fun a S => ?_
      exact leafL ⟨rfl, S⟩
    · refine fI 57 q119 [(55, .slice ad5 p0.Left.length cp6), (56, iv s44)] 10 [some 8, some 9] rfl rfl rfl rfl rfl rfl fun G a w S => ?_
      refine sIdxV (v := .slice ad5 p0.Left.length cp6) (k := .i64) (j := s44) S (wN rfl) rfl rfl rfl hq120 rfl (lb rfl) fun a S => ?_
      exact leafL ⟨rfl, S⟩
    · refine fI 58 (iv x107) [(57, q119)] 11 [some 10] rfl rfl rfl rfl rfl rfl fun G a w S => ?_
      refine sLoadV1 (vq := q119) 0 (iv x107) S (wN rfl) rfl rfl rfl rfl rfl (lb rfl) fun a S => ?_
      exact leafL ⟨rfl, S⟩
    · refine fI 59 (iv (w64 (x102 - x107))) [(53, iv x102), (58, iv x107)] 12 [some 6, some 11] rfl rfl rfl rfl rfl rfl fun G a w S => ?_
      refine sBin (iv (w64 (x102 - x107))) S (wN rfl) rfl rfl rfl (bSub _ _ _ _ x102 x107) rfl (lb rfl) fun a S => ?_
      exact leafL ⟨rfl, S⟩
    refine ⟨_, [(59, iv (w64 (x102 - x107)))], rfl, (srcs_of [some 12] rfl rfl rfl), fun G a w S => ?_⟩
    refine sCall (X := Value) (f := 35) (vs := [iv (w64 (x102 - x107)), .int .u8 4]) (val := c_piece_bend_val r112) (B' := fun _ => []) (D' := c_piece_bend_D r112) [] [eBox b124 84 [.int .u8 0, .bool false, iv 0, iv 0, iv 0], eBox b10 36 [.slice ad5 p0.Left.length cp6, .slice ad7 p0.Right.length cp8], eBox b11 58 [iv 0, .slice none 0 0], eBox b37 58 [iv (w64 (x20 - x25)), .slice ad46 s45.length cp47], eBox b62 84 [.int .u8 o63, .bool o64, iv o65, iv o66, iv o67], eRow r_api_Row 80 (.slice ad46 s45.length cp47) s45] [] [0, 1, 2, 3, 4, 5] [] S (wN rfl) rfl callee35 rfl (by decide) rfl rfl (fun E1 w1 S1 => c_piece_bend E1 w1 (w64 (x102 - x107)) 4 r112 hx113 S1) rfl (lb rfl) fun u125 a w S => ?_
    obtain rfl : u125 = .agg #[.int .u8 r112.s.Kind, .bool r112.s.Purl, iv r112.s.A, iv r112.s.B, iv r112.uses] := S.mem.know (i := 0) (e := fRep r_piece_edge (u125) r112) rfl
    refine leafL ⟨rfl, _, _, .inl ⟨60, (.agg #[.int .u8 r112.s.Kind, .bool r112.s.Purl, iv r112.s.A, iv r112.s.B, iv r112.uses]), [], rfl, S, hz_of rfl, ?_⟩⟩
    refine node_by (A := anc_piece_Chart_2) (nf := [12, 13, 14]) (Y := [12, 13]) 15 (by kernel_rfl) (by kernel_rfl) (by kernel_rfl) (by kernel_rfl) (by kernel_rfl) [12, 13, 0, 1, 2, 3, 4, 5, 6, 7, 8, 9, 10, 11] (by kernel_rfl) (by decide) (by decide) (aD 0 14 12 (by decide) (aD 1 13 12 (by decide) (aD 2 12 12 (by decide) (aD 3 11 12 (by decide) (aD 4 10 12 (by decide) (aD 5 9 12 (by decide) (aD 6 8 12 (by decide) (aD 7 7 12 (by decide) (aD 8 6 12 (by decide) (aD 9 5 12 (by decide) (aD 10 4 12 (by decide) (aD 11 3 12 (by decide) (aY 12 2 (by decide) (aY 13 1 (by decide) (aN 14 0 (by decide) ?_ (trivial)))))))))))))))) [] (fun q hq => by cases hq) (fun hY => absurd (hY 14 (by decide)) (by decide))
    refine ⟨_, [(8, .pointer (some ⟨b124, 0, none⟩)), (60, .agg #[.int .u8 r112.s.Kind, .bool r112.s.Purl, iv r112.s.A, iv r112.s.B, iv r112.uses])], rfl, (srcs_of [some 1, some 0] rfl rfl rfl), fun G a w S => ?_⟩
    refine sStore (p := b124) (off := 0) (T := 84) (vs := [.int .u8 0, .bool false, iv 0, iv 0, iv 0]) (v := .agg #[.int .u8 r112.s.Kind, .bool r112.s.Purl, iv r112.s.A, iv r112.s.B, iv r112.uses]) 0 [.int .u8 r112.s.Kind, .bool r112.s.Purl, iv r112.s.A, iv r112.s.B, iv r112.uses] S (wN rfl) rfl rfl rfl rfl rfl rfl rfl (by simp) rfl fun a w S => ?_
    refine leafL ⟨rfl, _, _, .inr ⟨[], rfl, S, hz_of rfl, ?_⟩⟩
    refine node_by (A := anc_piece_Chart_2) (nf := [12, 13, 14]) (Y := [14, 12, 13]) 15 (by kernel_rfl) (by kernel_rfl) (by kernel_rfl) (by kernel_rfl) (by kernel_rfl) [12, 13, 0, 1, 2, 3, 4, 5, 6, 7, 8, 9, 10, 11] (by kernel_rfl) (by decide) (by decide) (aD 0 14 14 (by decide) (aD 1 13 14 (by decide) (aD 2 12 14 (by decide) (aD 3 11 14 (by decide) (aD 4 10 14 (by decide) (aD 5 9 14 (by decide) (aD 6 8 14 (by decide) (aD 7 7 14 (by decide) (aD 8 6 14 (by decide) (aD 9 5 14 (by decide) (aD 10 4 14 (by decide) (aD 11 3 14 (by decide) (aY 12 2 (by decide) (aY 13 1 (by decide) (aY 14 0 (by decide) (trivial)))))))))))))))) [(1, .pointer (some ⟨b10, 0, none⟩)), (2, .pointer (some ⟨b11, 0, none⟩)), (5, .pointer (some ⟨b37, 0, none⟩)), (6, iv s44), (7, .pointer (some ⟨b62, 0, none⟩)), (8, .pointer (some ⟨b124, 0, none⟩))] (fin_of [none, none, none, none, none, some 1] rfl (by kernel_rfl) (by kernel_rfl)) (fun _ a w S => ?_)
    exact leafT (⟨r112.s.Kind, r112.s.Purl, r112.s.A, r112.s.B, r112.uses, Option.some.inj h, b124, S.fix [1, 2, 3, 4, 0, 5] [7, 8] (by decide) rfl rfl rfl⟩)
  obtain ⟨o95, o96, o97, o98, o99, rfl, b94, S⟩ := hI
  have h := g101
  clear g101
  try dsimp only at h
  refine sSeq (fun K126 hK126 => ?_)
  obtain ⟨x127, hx128, h⟩ := bindSome h
  obtain ⟨x132, hx133, h⟩ := bindSome h
  obtain ⟨q137, hq138, S⟩ := pIdx (P := Try.prog) (r := (rI .i64)) (v := .slice ad7 p0.Right.length cp8) (xs := p0.Right) (j := w64 (s44 - 1)) 34 3 1 S Try.underlying34 rfl rfl hx128
  obtain ⟨u139, S⟩ := pLoad (r := (rI .i64)) (q := q137) (x := x127) 0 S rfl
  obtain rfl : u139 = iv x127 := S.mem.know (i := 1) (e := fRep (rI .i64) (u139) x127) rfl
  obtain ⟨q140, hq141, S⟩ := pIdx (P := Try.prog) (r := (rI .i64)) (v := .slice ad5 p0.Left.length cp6) (xs := p0.Left) (j := w64 (s44 - 1)) 34 3 3 S Try.underlying34 rfl rfl hx133
  obtain ⟨u142, S⟩ := pLoad (r := (rI .i64)) (q := q140) (x := x132) 0 S rfl
  obtain rfl : u142 = iv x132 := S.mem.know (i := 1) (e := fRep (rI .i64) (u142) x132) rfl
  refine sDraw (nf := []) (W := [(0, 61, .pointer (some ⟨b10, 1, none⟩)), (1, 62, .slice ad7 p0.Right.length cp8), (2, 63, iv s44), (3, 64, iv (w64 (s44 - 1))), (4, 65, q137), (5, 66, iv x127), (6, 67, .pointer (some ⟨b10, 0, none⟩)), (7, 68, .slice ad5 p0.Left.length cp6), (8, 69, iv s44), (9, 70, iv (w64 (s44 - 1))), (10, 71, q140), (11, 72, iv x132), (12, 73, iv (w64 (x127 - x132))), (13, 74, .pointer (some ⟨b62, 4, none⟩)), (14, 75, iv o67), (15, 76, iv (w64 ((w64 (x127 - x132)) - o67))), (16, 77, .pointer (some ⟨b94, 4, none⟩)), (17, 78, iv o99), (18, 79, iv (w64 ((w64 ((w64 (x127 - x132)) - o67)) - o99))), (19, 9, iv (w64 ((w64 ((w64 (x127 - x132)) - o67)) - o99)))]) rfl S ?_
  refine node_by (A := anc_piece_Chart_3) (nf := []) (Y := []) (W := [(0, 61, .pointer (some ⟨b10, 1, none⟩)), (1, 62, .slice ad7 p0.Right.length cp8), (2, 63, iv s44), (3, 64, iv (w64 (s44 - 1))), (4, 65, q137), (5, 66, iv x127), (6, 67, .pointer (some ⟨b10, 0, none⟩)), (7, 68, .slice ad5 p0.Left.length cp6), (8, 69, iv s44), (9, 70, iv (w64 (s44 - 1))), (10, 71, q140), (11, 72, iv x132), (12, 73, iv (w64 (x127 - x132))), (13, 74, .pointer (some ⟨b62, 4, none⟩)), (14, 75, iv o67), (15, 76, iv (w64 ((w64 (x127 - x132)) - o67))), (16, 77, .pointer (some ⟨b94, 4, none⟩)), (17, 78, iv o99), (18, 79, iv (w64 ((w64 ((w64 (x127 - x132)) - o67)) - o99))), (19, 9, iv (w64 ((w64 ((w64 (x127 - x132)) - o67)) - o99)))]) 20 (by kernel_rfl) (by kernel_rfl) (by kernel_rfl) (by kernel_rfl) (by kernel_rfl) [0, 1, 2, 3, 4, 5, 6, 7, 8, 9, 10, 11, 12, 13, 14, 15, 16, 17, 18, 19] (by kernel_rfl) (by decide) (by decide) (aF 0 19 (by decide) ?_ (aF 1 18 (by decide) ?_ (aF 2 17 (by decide) ?_ (aF 3 16 (by decide) ?_ (aF 4 15 (by decide) ?_ (aF 5 14 (by decide) ?_ (aF 6 13 (by decide) ?_ (aF 7 12 (by decide) ?_ (aF 8 11 (by decide) ?_ (aF 9 10 (by decide) ?_ (aF 10 9 (by decide) ?_ (aF 11 8 (by decide) ?_ (aF 12 7 (by decide) ?_ (aF 13 6 (by decide) ?_ (aF 14 5 (by decide) ?_ (aF 15 4 (by decide) ?_ (aF 16 3 (by decide) ?_ (aF 17 2 (by decide) ?_ (aF 18 1 (by decide) ?_ (aF 19 0 (by decide) ?_ (trivial))))))))))))))))))))) [(1, .pointer (some ⟨b10, 0, none⟩)), (2, .pointer (some ⟨b11, 0, none⟩)), (5, .pointer (some ⟨b37, 0, none⟩)), (6, iv s44), (7, .pointer (some ⟨b62, 0, none⟩)), (8, .pointer (some ⟨b94, 0, none⟩)), (9, iv (w64 ((w64 ((w64 (x127 - x132)) - o67)) - o99)))] (fin_of [none, none, none, none, none, none, some 19] rfl (by kernel_rfl) (by kernel_rfl)) (fun _ a w S => ?_)
  · refine fI 61 (.pointer (some ⟨b10, 1, none⟩)) [(1, .pointer (some ⟨b10, 0, none⟩))] 0 [none] rfl rfl rfl rfl rfl rfl fun G a w S => ?_
    refine sField (b := b10) (off := 0) 1 1 S (wN rfl) rfl rfl rfl rfl rfl (lb rfl) fun a S => ?_
    exact leafL ⟨rfl, S⟩
  · refine fI 62 (.slice ad7 p0.Right.length cp8) [(61, .pointer (some ⟨b10, 1, none⟩))] 1 [some 0] rfl rfl rfl rfl rfl rfl fun G a w S => ?_
    refine sLoad1 (p := b10) (off := 1) (T := 36) (vs := [.slice ad5 p0.Left.length cp6, .slice ad7 p0.Right.length cp8]) 0 (.slice ad7 p0.Right.length cp8) S (wN rfl) rfl rfl rfl rfl rfl rfl (lb rfl) fun a S => ?_
    exact leafL ⟨rfl, S⟩
  · refine fI 63 (iv s44) [(6, iv s44)] 2 [none] rfl rfl rfl rfl rfl rfl fun G a w S => ?_
    refine sMove (iv s44) S (wN rfl) (.inl rfl) rfl rfl (lb rfl) fun a S => ?_
    exact leafL ⟨rfl, S⟩
  · refine fI 64 (iv (w64 (s44 - 1))) [(63, iv s44)] 3 [some 2] rfl rfl rfl rfl rfl rfl fun G a w S => ?_
    refine sBin (iv (w64 (s44 - 1))) S (wN rfl) rfl rfl rfl (bSub _ _ _ _ s44 1) rfl (lb rfl) fun a S => ?_
    exact leafL ⟨rfl, S⟩
  · refine fI 65 q137 [(62, .slice ad7 p0.Right.length cp8), (64, iv (w64 (s44 - 1)))] 4 [some 1, some 3] rfl rfl rfl rfl rfl rfl fun G a w S => ?_
    refine sIdxV (v := .slice ad7 p0.Right.length cp8) (k := .i64) (j := w64 (s44 - 1)) S (wN rfl) rfl rfl rfl hq138 rfl (lb rfl) fun a S => ?_
    exact leafL ⟨rfl, S⟩
  · refine fI 66 (iv x127) [(65, q137)] 5 [some 4] rfl rfl rfl rfl rfl rfl fun G a w S => ?_
    refine sLoadV1 (vq := q137) 3 (iv x127) S (wN rfl) rfl rfl rfl rfl rfl (lb rfl) fun a S => ?_
    exact leafL ⟨rfl, S⟩
  · refine fI 67 (.pointer (some ⟨b10, 0, none⟩)) [(1, .pointer (some ⟨b10, 0, none⟩))] 6 [none] rfl rfl rfl rfl rfl rfl fun G a w S => ?_
    refine sField (b := b10) (off := 0) 0 0 S (wN rfl) rfl rfl rfl rfl rfl (lb rfl) fun a S => ?_
    exact leafL ⟨rfl, S⟩
  · refine fI 68 (.slice ad5 p0.Left.length cp6) [(67, .pointer (some ⟨b10, 0, none⟩))] 7 [some 6] rfl rfl rfl rfl rfl rfl fun G a w S => ?_
    refine sLoad1 (p := b10) (off := 0) (T := 36) (vs := [.slice ad5 p0.Left.length cp6, .slice ad7 p0.Right.length cp8]) 0 (.slice ad5 p0.Left.length cp6) S (wN rfl) rfl rfl rfl rfl rfl rfl (lb rfl) fun a S => ?_
    exact leafL ⟨rfl, S⟩
  · refine fI 69 (iv s44) [(6, iv s44)] 8 [none] rfl rfl rfl rfl rfl rfl fun G a w S => ?_
    refine sMove (iv s44) S (wN rfl) (.inl rfl) rfl rfl (lb rfl) fun a S => ?_
    exact leafL ⟨rfl, S⟩
  · refine fI 70 (iv (w64 (s44 - 1))) [(69, iv s44)] 9 [some 8] rfl rfl rfl rfl rfl rfl fun G a w S => ?_
    refine sBin (iv (w64 (s44 - 1))) S (wN rfl) rfl rfl rfl (bSub _ _ _ _ s44 1) rfl (lb rfl) fun a S => ?_
    exact leafL ⟨rfl, S⟩
  · refine fI 71 q140 [(68, .slice ad5 p0.Left.length cp6), (70, iv (w64 (s44 - 1)))] 10 [some 7, some 9] rfl rfl rfl rfl rfl rfl fun G a w S => ?_
    refine sIdxV (v := .slice ad5 p0.Left.length cp6) (k := .i64) (j := w64 (s44 - 1)) S (wN rfl) rfl rfl rfl hq141 rfl (lb rfl) fun a S => ?_
    exact leafL ⟨rfl, S⟩
  · refine fI 72 (iv x132) [(71, q140)] 11 [some 10] rfl rfl rfl rfl rfl rfl fun G a w S => ?_
    refine sLoadV1 (vq := q140) 0 (iv x132) S (wN rfl) rfl rfl rfl rfl rfl (lb rfl) fun a S => ?_
    exact leafL ⟨rfl, S⟩
  · refine fI 73 (iv (w64 (x127 - x132))) [(66, iv x127), (72, iv x132)] 12 [some 5, some 11] rfl rfl rfl rfl rfl rfl fun G a w S => ?_
    refine sBin (iv (w64 (x127 - x132))) S (wN rfl) rfl rfl rfl (bSub _ _ _ _ x127 x132) rfl (lb rfl) fun a S => ?_
    exact leafL ⟨rfl, S⟩
  · refine fI 74 (.pointer (some ⟨b62, 4, none⟩)) [(7, .pointer (some ⟨b62, 0, none⟩))] 13 [none] rfl rfl rfl rfl rfl rfl fun G a w S => ?_
    refine sField (b := b62) (off := 0) 4 4 S (wN rfl) rfl rfl rfl rfl rfl (lb rfl) fun a S => ?_
    exact leafL ⟨rfl, S⟩
  · refine fI 75 (iv o67) [(74, .pointer (some ⟨b62, 4, none⟩))] 14 [some 13] rfl rfl rfl rfl rfl rfl fun G a w S => ?_
    refine sLoad1 (p := b62) (off := 4) (T := 84) (vs := [.int .u8 o63, .bool o64, iv o65, iv o66, iv o67]) 3 (iv o67) S (wN rfl) rfl rfl rfl rfl rfl rfl (lb rfl) fun a S => ?_
    exact leafL ⟨rfl, S⟩
  · refine fI 76 (iv (w64 ((w64 (x127 - x132)) - o67))) [(73, iv (w64 (x127 - x132))), (75, iv o67)] 15 [some 12, some 14] rfl rfl rfl rfl rfl rfl fun G a w S => ?_
    refine sBin (iv (w64 ((w64 (x127 - x132)) - o67))) S (wN rfl) rfl rfl rfl (bSub _ _ _ _ (w64 (x127 - x132)) o67) rfl (lb rfl) fun a S => ?_
    exact leafL ⟨rfl, S⟩
  · refine fI 77 (.pointer (some ⟨b94, 4, none⟩)) [(8, .pointer (some ⟨b94, 0, none⟩))] 16 [none] rfl rfl rfl rfl rfl rfl fun G a w S => ?_
    refine sField (b := b94) (off := 0) 4 4 S (wN rfl) rfl rfl rfl rfl rfl (lb rfl) fun a S => ?_
    exact leafL ⟨rfl, S⟩
  · refine fI 78 (iv o99) [(77, .pointer (some ⟨b94, 4, none⟩))] 17 [some 16] rfl rfl rfl rfl rfl rfl fun G a w S => ?_
    refine sLoad1 (p := b94) (off := 4) (T := 84) (vs := [.int .u8 o95, .bool o96, iv o97, iv o98, iv o99]) 4 (iv o99) S (wN rfl) rfl rfl rfl rfl rfl rfl (lb rfl) fun a S => ?_
    exact leafL ⟨rfl, S⟩
  · refine fI 79 (iv (w64 ((w64 ((w64 (x127 - x132)) - o67)) - o99))) [(76, iv (w64 ((w64 (x127 - x132)) - o67))), (78, iv o99)] 18 [some 15, some 17] rfl rfl rfl rfl rfl rfl fun G a w S => ?_
    refine sBin (iv (w64 ((w64 ((w64 (x127 - x132)) - o67)) - o99))) S (wN rfl) rfl rfl rfl (bSub _ _ _ _ (w64 ((w64 (x127 - x132)) - o67)) o99) rfl (lb rfl) fun a S => ?_
    exact leafL ⟨rfl, S⟩
  · refine fI 9 (iv (w64 ((w64 ((w64 (x127 - x132)) - o67)) - o99))) [(79, iv (w64 ((w64 ((w64 (x127 - x132)) - o67)) - o99)))] 19 [some 18] rfl rfl rfl rfl rfl rfl fun G a w S => ?_
    refine sMove (iv (w64 ((w64 ((w64 (x127 - x132)) - o67)) - o99))) S (wN rfl) (.inr rfl) rfl rfl (lb rfl) fun a S => ?_
    exact leafL ⟨rfl, S⟩
  refine leafT (hK126 _ _ ?_)
  refine sSeq (fun K143 hK143 => ?_)
  refine sSeq (fun K144 hK144 => ?_)
  refine sRegion ?_
  refine sMove (iv (w64 ((w64 ((w64 (x127 - x132)) - o67)) - o99))) S (wN rfl) (.inl rfl) rfl rfl (lb rfl) fun a S => ?_
  refine sBin (.bool (decide ((w64 ((w64 ((w64 (x127 - x132)) - o67)) - o99)) < 1))) S (wN rfl) rfl rfl rfl (bLt _ _ _ _ .i64 (w64 ((w64 ((w64 (x127 - x132)) - o67)) - o99)) 1) rfl (lb rfl) fun a S => ?_
  refine leafL (leafT (hK144 _ _ ?_))
  rcases iteSome h with ⟨hc145, h⟩ | ⟨hc145, h⟩
  · refine sCondT S rfl hc145 ?_
    refine sSeq (fun K146 hK146 => ?_)
    refine sRegion ?_
    refine sBuild [] [iv 0, .slice none 0 0] S (wN rfl) rfl rfl rfl rfl (lb rfl) fun a S => ?_
    refine sStore (p := b11) (off := 0) (T := 58) (vs := [iv 0, .slice none 0 0]) (v := .agg #[iv 0, .slice none 0 0]) 1 [iv 0, .slice none 0 0] S (wN rfl) rfl rfl rfl rfl rfl rfl rfl (by simp) rfl fun a w S => ?_
    refine sMove (iv 22) S (wN rfl) (.inr rfl) rfl rfl (lb rfl) fun a S => ?_
    refine leafL (leafT (hK146 _ _ ?_))
    obtain rfl := Option.some.inj h
    have h := g61
    clear g61
    try dsimp only at h
    obtain rfl := Option.some.inj h
    obtain rfl := hu48 _ rfl
    have h := g49
    clear g49
    try dsimp only at h
    obtain rfl := Option.some.inj h
    have h := g42
    clear g42
    try dsimp only at h
    obtain rfl := Option.some.inj h
    have S := S.learn (fRep (rL r_api_Row) (.slice none 0 0) ([] : (List api_Row))) (rL_nil _ _ _)
    have S := S.learn (fRep r_api_Chart (.agg #[iv 0, .slice none 0 0]) (api_Chart.mk 0 ([] : (List api_Row)))) ⟨_, rfl, S.mem.know (i := 0) (e := fRep (rL r_api_Row) (.slice none 0 0) ([] : (List api_Row))) rfl⟩
    exact wp_ret (rThen (rBlock (rThen (rThen (rBlock (rThen (sRet (.tuple #[.agg #[iv 0, .slice none 0 0], iv 22]) S (rsl2 rfl (rvN (c := 2) (t := 58) (T := 58) (p := b11) 0 [iv 0, .slice none 0 0] S rfl rfl rfl rfl) (rvT (t := 3) (v := iv 22) S rfl)) ⟨(.agg #[iv 0, .slice none 0 0]), rfl, S.mem.sel [] [0] (by decide) rfl rfl⟩)))))))
  refine sCondF S rfl hc145 ?_
  refine wp_skip (leafT (hK143 _ _ ?_))
  refine sSeq (fun K147 hK147 => ?_)
  refine sRegion ?_
  refine sMove (.slice none 0 0) S (wN rfl) (.inr rfl) rfl rfl (lb rfl) fun a S => ?_
  refine leafL (leafT (hK147 _ _ ?_))
  obtain ⟨t151, h, g152⟩ := bindSome h
  refine sCut (fun a w => ∃ o148, o148 = t151 ∧ ∃ ad149, ∃ cp150, St [] E [] w0 127 a w [(1, .pointer (some ⟨b10, 0, none⟩)), (2, .pointer (some ⟨b11, 0, none⟩)), (5, .pointer (some ⟨b37, 0, none⟩)), (6, iv s44), (8, .pointer (some ⟨b94, 0, none⟩)), (9, iv (w64 ((w64 ((w64 (x127 - x132)) - o67)) - o99))), (10, .slice ad149 o148.length cp150)] [eBox b10 36 [.slice ad5 p0.Left.length cp6, .slice ad7 p0.Right.length cp8], eBox b11 58 [iv 0, .slice none 0 0], eBox b37 58 [iv (w64 (x20 - x25)), .slice ad46 s45.length cp47], eBox b94 84 [.int .u8 o95, .bool o96, iv o97, iv o98, iv o99], eRow r_api_Stitch 82 (.slice ad149 o148.length cp150) o148, eRow r_api_Row 80 (.slice ad46 s45.length cp47) s45] [fRep (rL (rI .i64)) (.slice ad5 p0.Left.length cp6) p0.Left, fRep (rL (rI .i64)) (.slice ad7 p0.Right.length cp8) p0.Right]) ?_ (fun a w hI => ?_)
  · refine sSeq (fun K153 hK153 => ?_)
    refine sRegion ?_
    refine sField (b := b62) (off := 0) 0 0 S (wN rfl) rfl rfl rfl rfl rfl (lb rfl) fun a S => ?_
    refine sField (b := b62) (off := 0) 0 0 S (wN rfl) rfl rfl rfl rfl rfl (lb rfl) fun a S => ?_
    refine sLoad1 (p := b62) (off := 0) (T := 84) (vs := [.int .u8 o63, .bool o64, iv o65, iv o66, iv o67]) 3 (.int .u8 o63) S (wN rfl) rfl rfl rfl rfl rfl rfl (lb rfl) fun a S => ?_
    refine sBin (.bool (o63 != 0)) S (wN rfl) rfl rfl rfl (bNe _ _ _ _ .u8 o63 0) rfl (lb rfl) fun a S => ?_
    refine leafL (leafT (hK153 _ _ ?_))
    rcases iteSome h with ⟨hc154, h⟩ | ⟨hc154, h⟩
    rotate_left
    · refine sCondF S rfl hc154 ?_
      have S := S.nilRow r_api_Stitch 82 (α := api_Stitch)
      exact wp_skip (leafT (⟨([] : List api_Stitch), Option.some.inj h, none, 0, S.fix [1, 2, 3, 5, 0, 6] [6, 7] (by decide) rfl rfl rfl⟩))
    refine sCondT S rfl hc154 ?_
    refine sRegion ?_
    refine sMove (.slice none 0 0) S (wN rfl) (.inl rfl) rfl rfl (lb rfl) fun a S => ?_
    refine sField (b := b62) (off := 0) 0 0 S (wN rfl) rfl rfl rfl rfl rfl (lb rfl) fun a S => ?_
    refine sLoadN (p := b62) (off := 0) (T := 84) (vs := [.int .u8 o63, .bool o64, iv o65, iv o66, iv o67]) 3 [.int .u8 o63, .bool o64, iv o65, iv o66] S (wN rfl) rfl rfl rfl rfl rfl rfl rfl (lb rfl) fun a S => ?_
    have S := S.learn (fRep r_api_Stitch (.agg #[.int .u8 o63, .bool o64, iv o65, iv o66]) (api_Stitch.mk o63 o64 o65 o66)) rfl
    refine sLit (r := r_api_Stitch) (T := 82) (xs := [(api_Stitch.mk o63 o64 o65 o66)]) [(0, .agg #[.int .u8 o63, .bool o64, iv o65, iv o66])] 1 [.agg #[.int .u8 o63, .bool o64, iv o65, iv o66]] [.int .u8 o63, .bool o64, iv o65, iv o66] (.agg #[.int .u8 0, .bool false, iv 0, iv 0]) 24 S (wN rfl) rfl rfl Try.underlying78 rfl (by decide) (by decide) (by kernel_rfl) rfl (fun E1 w1 hE => All.cons (r_api_Stitch.mono hE (S.mem.know (i := 0) (e := fRep r_api_Stitch (.agg #[.int .u8 o63, .bool o64, iv o65, iv o66]) (api_Stitch.mk o63 o64 o65 o66)) rfl)) (All.nil _ _ _)) rfl rfl (lb rfl) fun a w ad155 cp156 S => ?_
    have S := S.nilRow r_api_Stitch 82 (α := api_Stitch)
    obtain ⟨l157, hx158, h⟩ := bindSome h
    refine sApp (r := r_api_Stitch) (T := 82) (xs := ([] : List api_Stitch)) (ys := [(api_Stitch.mk o63 o64 o65 o66)]) (v := .slice none 0 0) (u := .slice ad155 [(api_Stitch.mk o63 o64 o65 o66)].length cp156) 0 (.agg #[.int .u8 0, .bool false, iv 0, iv 0]) 24 S (wN rfl) rfl Try.underlying78 rfl rfl (by decide) rfl rfl rfl (src_R (T := 82) 1 S.mem rfl) hx158 rfl (lb rfl) fun a w ad159 cp160 S => ?_
    refine sMove (.slice ad159 l157.length cp160) S (wN rfl) (.inr rfl) rfl rfl (lb rfl) fun a S => ?_
    exact leafL (leafT (⟨l157, Option.some.inj h, ad159, cp160, S.fix [2, 3, 4, 6, 0, 7] [7, 8] (by decide) rfl rfl rfl⟩))
  obtain ⟨o148, rfl, ad149, cp150, S⟩ := hI
  have h := g152
  clear g152
  try dsimp only at h
  obtain ⟨t164, h, g165⟩ := bindSome h
  refine sCut (fun a w => ∃ o161, o161 = t164 ∧ ∃ ad162, ∃ cp163, St [] E [] w0 127 a w [(1, .pointer (some ⟨b10, 0, none⟩)), (2, .pointer (some ⟨b11, 0, none⟩)), (5, .pointer (some ⟨b37, 0, none⟩)), (6, iv s44), (8, .pointer (some ⟨b94, 0, none⟩)), (10, .slice ad162 o161.length cp163)] [eBox b10 36 [.slice ad5 p0.Left.length cp6, .slice ad7 p0.Right.length cp8], eBox b11 58 [iv 0, .slice none 0 0], eBox b37 58 [iv (w64 (x20 - x25)), .slice ad46 s45.length cp47], eBox b94 84 [.int .u8 o95, .bool o96, iv o97, iv o98, iv o99], eRow r_api_Stitch 82 (.slice ad162 o161.length cp163) o161, eRow r_api_Row 80 (.slice ad46 s45.length cp47) s45] [fRep (rL (rI .i64)) (.slice ad5 p0.Left.length cp6) p0.Left, fRep (rL (rI .i64)) (.slice ad7 p0.Right.length cp8) p0.Right]) ?_ (fun a w hI => ?_)
  · refine sSeq (fun K166 hK166 => ?_)
    refine sRegion ?_
    refine sMove (iv (w64 ((w64 ((w64 (x127 - x132)) - o67)) - o99))) S (wN rfl) (.inl rfl) rfl rfl (lb rfl) fun a S => ?_
    refine sMove (iv 0) S (wN rfl) (.inl rfl) rfl rfl (lb rfl) fun a S => ?_
    refine leafL (leafT (hK166 _ _ ?_))
    refine wp_block ?_
    obtain ⟨t173, hl, g172⟩ := bindSome h
    refine sLoop hl (fun s0 a w => match s0 with | (s167, s170) => ∃ ad168, ∃ cp169, St [] E [] w0 127 a w [(1, .pointer (some ⟨b10, 0, none⟩)), (2, .pointer (some ⟨b11, 0, none⟩)), (5, .pointer (some ⟨b37, 0, none⟩)), (6, iv s44), (8, .pointer (some ⟨b94, 0, none⟩)), (10, .slice ad168 s167.length cp169), (92, iv (w64 ((w64 ((w64 (x127 - x132)) - o67)) - o99))), (93, iv s170)] [eBox b10 36 [.slice ad5 p0.Left.length cp6, .slice ad7 p0.Right.length cp8], eBox b11 58 [iv 0, .slice none 0 0], eBox b37 58 [iv (w64 (x20 - x25)), .slice ad46 s45.length cp47], eBox b94 84 [.int .u8 o95, .bool o96, iv o97, iv o98, iv o99], eRow r_api_Stitch 82 (.slice ad168 s167.length cp169) s167, eRow r_api_Row 80 (.slice ad46 s45.length cp47) s45] [fRep (rL (rI .i64)) (.slice ad5 p0.Left.length cp6) p0.Left, fRep (rL (rI .i64)) (.slice ad7 p0.Right.length cp8) p0.Right]) ⟨ad149, cp150, S.fix [0, 1, 2, 3, 4, 5] [0, 1] (by decide) rfl rfl rfl⟩ ?_
    clear hl h
    intro s0 a w c0 hI h hu171
    obtain ⟨s167, s170⟩ := s0
    unfold piece_Chart_l1 at h
    dsimp only at h hI
    obtain ⟨ad168, cp169, S⟩ := hI
    refine sSeq (fun K177 hK177 => ?_)
    refine sRegion ?_
    refine sBin (.bool (decide (s170 < (w64 ((w64 ((w64 (x127 - x132)) - o67)) - o99))))) S (wN rfl) rfl rfl rfl (bLt _ _ _ _ .i64 s170 (w64 ((w64 ((w64 (x127 - x132)) - o67)) - o99))) rfl (lb rfl) fun a S => ?_
    refine leafL (leafT (hK177 _ _ ?_))
    refine sSeq (fun K178 hK178 => ?_)
    rcases iteSome h with ⟨hc179, h⟩ | ⟨hc179, h⟩
    rotate_left
    · refine sCondF S rfl hc179 ?_
      obtain rfl := Option.some.inj h
      obtain rfl := hu171 _ rfl
      have h := g172
      clear g172
      try dsimp only at h
      exact wp_exit (xThen (xThen (xHit (leafT (⟨s167, Option.some.inj h, ad168, cp169, S.fix [0, 1, 2, 3, 4, 5] [0, 1] (by decide) rfl rfl rfl⟩)))))
    refine sCondT S rfl hc179 ?_
    refine wp_skip (leafT (hK178 _ _ ?_))
    refine sSeq (fun K180 hK180 => ?_)
    refine wp_block ?_
    refine sRegion ?_
    refine sMove (.slice ad168 s167.length cp169) S (wN rfl) (.inl rfl) rfl rfl (lb rfl) fun a S => ?_
    refine sBuild [(0, .int .u8 1)] [.int .u8 1, .bool false, iv 0, iv 0] S (wN rfl) rfl rfl rfl rfl (lb rfl) fun a S => ?_
    have S := S.learn (fRep r_api_Stitch (.agg #[.int .u8 1, .bool false, iv 0, iv 0]) (api_Stitch.mk 1 false 0 0)) rfl
    refine sLit (r := r_api_Stitch) (T := 82) (xs := [(api_Stitch.mk 1 false 0 0)]) [(0, .agg #[.int .u8 1, .bool false, iv 0, iv 0])] 1 [.agg #[.int .u8 1, .bool false, iv 0, iv 0]] [.int .u8 1, .bool false, iv 0, iv 0] (.agg #[.int .u8 0, .bool false, iv 0, iv 0]) 24 S (wN rfl) rfl rfl Try.underlying78 rfl (by decide) (by decide) (by kernel_rfl) rfl (fun E1 w1 hE => All.cons (r_api_Stitch.mono hE (S.mem.know (i := 0) (e := fRep r_api_Stitch (.agg #[.int .u8 1, .bool false, iv 0, iv 0]) (api_Stitch.mk 1 false 0 0)) rfl)) (All.nil _ _ _)) rfl rfl (lb rfl) fun a w ad181 cp182 S => ?_
    obtain ⟨l183, hx184, h⟩ := bindSome h
    refine sApp (r := r_api_Stitch) (T := 82) (xs := s167) (ys := [(api_Stitch.mk 1 false 0 0)]) (v := .slice ad168 s167.length cp169) (u := .slice ad181 [(api_Stitch.mk 1 false 0 0)].length cp182) 5 (.agg #[.int .u8 0, .bool false, iv 0, iv 0]) 24 S (wN rfl) rfl Try.underlying78 rfl rfl (by decide) rfl rfl rfl (src_R (T := 82) 0 S.mem rfl) hx184 rfl (lb rfl) fun a w ad185 cp186 S => ?_
    refine sMove (.slice ad185 l183.length cp186) S (wN rfl) (.inr rfl) rfl rfl (lb rfl) fun a S => ?_
    refine leafL (leafB (leafT (hK180 _ _ ?_)))
    refine sRegion ?_
    refine sBin (iv (w64 (s170 + 1))) S (wN rfl) rfl rfl rfl (bAdd _ _ _ _ s170 1) rfl (lb rfl) fun a S => ?_
    refine sMove (iv (w64 (s170 + 1))) S (wN rfl) (.inl rfl) rfl rfl (lb rfl) fun a S => ?_
    exact leafL (leafT (⟨(l183, w64 (s170 + 1)), (Option.some.inj h).symm, ⟨ad185, cp186, S.fix [2, 3, 4, 5, 0, 6] [1, 2] (by decide) rfl rfl rfl⟩⟩))
  obtain ⟨o161, rfl, ad162, cp163, S⟩ := hI
  have h := g165
  clear g165
  try dsimp only at h
  obtain ⟨t190, h, g191⟩ := bindSome h
  refine sCut (fun a w => ∃ o187, o187 = t190 ∧ ∃ ad188, ∃ cp189, St [] E [] w0 127 a w [(1, .pointer (some ⟨b10, 0, none⟩)), (2, .pointer (some ⟨b11, 0, none⟩)), (5, .pointer (some ⟨b37, 0, none⟩)), (6, iv s44), (10, .slice ad188 o187.length cp189)] [eBox b10 36 [.slice ad5 p0.Left.length cp6, .slice ad7 p0.Right.length cp8], eBox b11 58 [iv 0, .slice none 0 0], eBox b37 58 [iv (w64 (x20 - x25)), .slice ad46 s45.length cp47], eRow r_api_Stitch 82 (.slice ad188 o187.length cp189) o187, eRow r_api_Row 80 (.slice ad46 s45.length cp47) s45] [fRep (rL (rI .i64)) (.slice ad5 p0.Left.length cp6) p0.Left, fRep (rL (rI .i64)) (.slice ad7 p0.Right.length cp8) p0.Right]) ?_ (fun a w hI => ?_)
  · refine sSeq (fun K192 hK192 => ?_)
    refine sRegion ?_
    refine sField (b := b94) (off := 0) 0 0 S (wN rfl) rfl rfl rfl rfl rfl (lb rfl) fun a S => ?_
    refine sField (b := b94) (off := 0) 0 0 S (wN rfl) rfl rfl rfl rfl rfl (lb rfl) fun a S => ?_
    refine sLoad1 (p := b94) (off := 0) (T := 84) (vs := [.int .u8 o95, .bool o96, iv o97, iv o98, iv o99]) 3 (.int .u8 o95) S (wN rfl) rfl rfl rfl rfl rfl rfl (lb rfl) fun a S => ?_
    refine sBin (.bool (o95 != 0)) S (wN rfl) rfl rfl rfl (bNe _ _ _ _ .u8 o95 0) rfl (lb rfl) fun a S => ?_
    refine leafL (leafT (hK192 _ _ ?_))
    rcases iteSome h with ⟨hc193, h⟩ | ⟨hc193, h⟩
    rotate_left
    · refine sCondF S rfl hc193 ?_
      exact wp_skip (leafT (⟨o161, Option.some.inj h, ad162, cp163, S.fix [0, 1, 2, 4, 5] [0, 1] (by decide) rfl rfl rfl⟩))
    refine sCondT S rfl hc193 ?_
    refine sRegion ?_
    refine sMove (.slice ad162 o161.length cp163) S (wN rfl) (.inl rfl) rfl rfl (lb rfl) fun a S => ?_
    refine sField (b := b94) (off := 0) 0 0 S (wN rfl) rfl rfl rfl rfl rfl (lb rfl) fun a S => ?_
    refine sLoadN (p := b94) (off := 0) (T := 84) (vs := [.int .u8 o95, .bool o96, iv o97, iv o98, iv o99]) 3 [.int .u8 o95, .bool o96, iv o97, iv o98] S (wN rfl) rfl rfl rfl rfl rfl rfl rfl (lb rfl) fun a S => ?_
    have S := S.learn (fRep r_api_Stitch (.agg #[.int .u8 o95, .bool o96, iv o97, iv o98]) (api_Stitch.mk o95 o96 o97 o98)) rfl
    refine sLit (r := r_api_Stitch) (T := 82) (xs := [(api_Stitch.mk o95 o96 o97 o98)]) [(0, .agg #[.int .u8 o95, .bool o96, iv o97, iv o98])] 1 [.agg #[.int .u8 o95, .bool o96, iv o97, iv o98]] [.int .u8 o95, .bool o96, iv o97, iv o98] (.agg #[.int .u8 0, .bool false, iv 0, iv 0]) 24 S (wN rfl) rfl rfl Try.underlying78 rfl (by decide) (by decide) (by kernel_rfl) rfl (fun E1 w1 hE => All.cons (r_api_Stitch.mono hE (S.mem.know (i := 0) (e := fRep r_api_Stitch (.agg #[.int .u8 o95, .bool o96, iv o97, iv o98]) (api_Stitch.mk o95 o96 o97 o98)) rfl)) (All.nil _ _ _)) rfl rfl (lb rfl) fun a w ad194 cp195 S => ?_
    obtain ⟨l196, hx197, h⟩ := bindSome h
    refine sApp (r := r_api_Stitch) (T := 82) (xs := o161) (ys := [(api_Stitch.mk o95 o96 o97 o98)]) (v := .slice ad162 o161.length cp163) (u := .slice ad194 [(api_Stitch.mk o95 o96 o97 o98)].length cp195) 5 (.agg #[.int .u8 0, .bool false, iv 0, iv 0]) 24 S (wN rfl) rfl Try.underlying78 rfl rfl (by decide) rfl rfl rfl (src_R (T := 82) 0 S.mem rfl) hx197 rfl (lb rfl) fun a w ad198 cp199 S => ?_
    refine sMove (.slice ad198 l196.length cp199) S (wN rfl) (.inr rfl) rfl rfl (lb rfl) fun a S => ?_
    exact leafL (leafT (⟨l196, Option.some.inj h, ad198, cp199, S.fix [2, 3, 4, 0, 6] [1, 2] (by decide) rfl rfl rfl⟩))
  obtain ⟨o187, rfl, ad188, cp189, S⟩ := hI
  have h := g191
  clear g191
  try dsimp only at h
  refine sSeq (fun K200 hK200 => ?_)
  refine sRegion ?_
  refine sMove (iv s44) S (wN rfl) (.inl rfl) rfl rfl (lb rfl) fun a S => ?_
  obtain ⟨z201, hx202, h⟩ := bindSome h
  refine sBin (iv z201) S (wN rfl) rfl rfl rfl (bRem _ _ _ _ (x := s44) (y := 2) hx202) rfl (lb rfl) fun a S => ?_
  refine sBin (.bool (z201 == 1)) S (wN rfl) rfl rfl rfl (bEq _ _ _ _ .i64 z201 1) rfl (lb rfl) fun a S => ?_
  refine sMove (.bool (z201 == 1)) S (wN rfl) (.inr rfl) rfl rfl (lb rfl) fun a S => ?_
  refine leafL (leafT (hK200 _ _ ?_))
  obtain ⟨t206, h, g207⟩ := bindSome h
  refine sCut (fun a w => ∃ o203, o203 = t206 ∧ ∃ ad204, ∃ cp205, St [] E [] w0 127 a w [(1, .pointer (some ⟨b10, 0, none⟩)), (2, .pointer (some ⟨b11, 0, none⟩)), (5, .pointer (some ⟨b37, 0, none⟩)), (6, iv s44), (10, .slice ad204 o203.length cp205), (11, .bool (z201 == 1))] [eBox b10 36 [.slice ad5 p0.Left.length cp6, .slice ad7 p0.Right.length cp8], eBox b11 58 [iv 0, .slice none 0 0], eBox b37 58 [iv (w64 (x20 - x25)), .slice ad46 s45.length cp47], eRow r_api_Row 80 (.slice ad46 s45.length cp47) s45] [fRep (rL r_api_Stitch) (.slice ad204 o203.length cp205) o203, fRep (rL (rI .i64)) (.slice ad5 p0.Left.length cp6) p0.Left, fRep (rL (rI .i64)) (.slice ad7 p0.Right.length cp8) p0.Right]) ?_ (fun a w hI => ?_)
  · refine sSeq (fun K208 hK208 => ?_)
    refine sRegion ?_
    refine sMove (.bool (z201 == 1)) S (wN rfl) (.inl rfl) rfl rfl (lb rfl) fun a S => ?_
    refine leafL (leafT (hK208 _ _ ?_))
    rcases iteSome h with ⟨hc209, h⟩ | ⟨hc209, h⟩
    rotate_left
    · refine sCondF S rfl hc209 ?_
      have S := S.shutR (r := r_api_Stitch) (T := 82) (v := .slice ad188 o187.length cp189) (xs := o187) 3 rfl
      exact wp_skip (leafT (⟨o187, Option.some.inj h, ad188, cp189, S.fix [0, 1, 2, 3] [0, 1, 2] (by decide) rfl rfl rfl⟩))
    refine sCondT S rfl hc209 ?_
    refine sRegion ?_
    refine sMove (.slice ad188 o187.length cp189) S (wN rfl) (.inl rfl) rfl rfl (lb rfl) fun a S => ?_
    obtain ⟨r210, hx211, h⟩ := bindSome h
    have S := S.shutR (r := r_api_Stitch) (T := 82) (v := .slice ad188 o187.length cp189) (xs := o187) 3 rfl
    refine sCall (X := Value) (f := 36) (vs := [.slice ad188 o187.length cp189]) (val := c_stitch_Turn_val r210) (B' := fun _ => []) (D' := c_stitch_Turn_D r210) [] [eBox b10 36 [.slice ad5 p0.Left.length cp6, .slice ad7 p0.Right.length cp8], eBox b11 58 [iv 0, .slice none 0 0], eBox b37 58 [iv (w64 (x20 - x25)), .slice ad46 s45.length cp47], eRow r_api_Row 80 (.slice ad46 s45.length cp47) s45] [fRep (rL r_api_Stitch) (.slice ad188 o187.length cp189) o187] [0, 1, 2, 3] [0] S (wN rfl) rfl callee36 rfl (by decide) rfl rfl (fun E1 w1 S1 => c_stitch_Turn E1 w1 o187 (.slice ad188 o187.length cp189) r210 hx211 S1) rfl (lb rfl) fun u212 a w S => ?_
    obtain ⟨ad213, cp214, _, rfl, _⟩ := S.mem.know (i := 0) (e := fRep (rL r_api_Stitch) (u212) r210.1) rfl
    refine sMove (.tuple #[.slice ad213 r210.1.length cp214, iv r210.2]) S (wN rfl) (.inl rfl) rfl rfl (lb rfl) fun a S => ?_
    refine sExtract (vs := [.slice ad213 r210.1.length cp214, iv r210.2]) (.slice ad213 r210.1.length cp214) S (wN rfl) rfl rfl rfl rfl (lb rfl) fun a S => ?_
    refine sExtract (vs := [.slice ad213 r210.1.length cp214, iv r210.2]) (iv r210.2) S (wN rfl) rfl rfl rfl rfl (lb rfl) fun a S => ?_
    refine sMove (.slice ad213 r210.1.length cp214) S (wN rfl) (.inr rfl) rfl rfl (lb rfl) fun a S => ?_
    exact leafL (leafT (⟨r210.1, Option.some.inj h, ad213, cp214, S.fix [0, 1, 2, 3] [0, 2, 3] (by decide) rfl rfl rfl⟩))
  obtain ⟨o203, rfl, ad204, cp205, S⟩ := hI
  have h := g207
  clear g207
  try dsimp only at h
  refine sRegion ?_
  refine sField (b := b37) (off := 0) 1 1 S (wN rfl) rfl rfl rfl rfl rfl (lb rfl) fun a S => ?_
  refine sLoad1 (p := b37) (off := 1) (T := 58) (vs := [iv (w64 (x20 - x25)), .slice ad46 s45.length cp47]) 2 (.slice ad46 s45.length cp47) S (wN rfl) rfl rfl rfl rfl rfl rfl (lb rfl) fun a S => ?_
  refine sMove (.bool (z201 == 1)) S (wN rfl) (.inl rfl) rfl rfl (lb rfl) fun a S => ?_
  refine sMove (.slice ad204 o203.length cp205) S (wN rfl) (.inl rfl) rfl rfl (lb rfl) fun a S => ?_
  refine sBuild [(0, .bool (z201 == 1)), (1, .slice ad204 o203.length cp205)] [.bool (z201 == 1), .slice ad204 o203.length cp205] S (wN rfl) rfl rfl rfl rfl (lb rfl) fun a S => ?_
  have S := S.learn (fRep r_api_Row (.agg #[.bool (z201 == 1), .slice ad204 o203.length cp205]) (api_Row.mk (z201 == 1) o203)) ⟨_, rfl, S.mem.know (i := 0) (e := fRep (rL r_api_Stitch) (.slice ad204 o203.length cp205) o203) rfl⟩
  refine sLit (r := r_api_Row) (T := 80) (xs := [(api_Row.mk (z201 == 1) o203)]) [(0, .agg #[.bool (z201 == 1), .slice ad204 o203.length cp205])] 1 [.agg #[.bool (z201 == 1), .slice ad204 o203.length cp205]] [.bool (z201 == 1), .slice ad204 o203.length cp205] (.agg #[.bool false, .slice none 0 0]) 32 S (wN rfl) rfl rfl Try.underlying56 rfl (by decide) (by decide) (by kernel_rfl) rfl (fun E1 w1 hE => All.cons (r_api_Row.mono hE (S.mem.know (i := 0) (e := fRep r_api_Row (.agg #[.bool (z201 == 1), .slice ad204 o203.length cp205]) (api_Row.mk (z201 == 1) o203)) rfl)) (All.nil _ _ _)) rfl rfl (lb rfl) fun a w ad215 cp216 S => ?_
  obtain ⟨l217, hx218, h⟩ := bindSome h
  refine sApp (r := r_api_Row) (T := 80) (xs := s45) (ys := [(api_Row.mk (z201 == 1) o203)]) (v := .slice ad46 s45.length cp47) (u := .slice ad215 [(api_Row.mk (z201 == 1) o203)].length cp216) 4 (.agg #[.bool false, .slice none 0 0]) 32 S (wN rfl) rfl Try.underlying56 rfl rfl (by decide) rfl rfl rfl (src_R (T := 80) 0 S.mem rfl) hx218 rfl (lb rfl) fun a w ad219 cp220 S => ?_
  refine sField (b := b37) (off := 0) 1 1 S (wN rfl) rfl rfl rfl rfl rfl (lb rfl) fun a S => ?_
  refine sStore (p := b37) (off := 1) (T := 58) (vs := [iv (w64 (x20 - x25)), .slice ad46 s45.length cp47]) (v := .slice ad219 l217.length cp220) 4 [.slice ad219 l217.length cp220] S (wN rfl) rfl rfl rfl rfl rfl rfl rfl (by simp) rfl fun a w S => ?_
  exact leafL (leafB (leafT (⟨l217, Option.some.inj h, ad219, cp220, S.fix [3, 4, 0, 1] [2, 3] (by decide) rfl rfl rfl⟩)))

end Go.Proofs.Ytmedbnjhgkcndaa
namespace Go.Proofs.Ytmedbnjhgkcndaa
open Go.RowKit
set_option linter.unusedVariables false

theorem pok_iff {p : api_Piece} : pok p = true ↔ p.Left.length = p.Right.length ∧ 1 ≤ p.Left.length ∧ p.Left.length ≤ 100 ∧ ∀ k, k < p.Left.length → (-500 ≤ p.Left.getD k 0 ∧ p.Left.getD k 0 ≤ 500) ∧ (-500 ≤ p.Right.getD k 0 ∧ p.Right.getD k 0 ≤ 500) ∧ p.Left.getD k 0 < p.Right.getD k 0 ∧ p.Right.getD k 0 - p.Left.getD k 0 ≤ 200 := by
  simp only [pok, pokAt, Bool.and_eq_true, decide_eq_true_eq, List.all_eq_true, List.mem_range, col_spec]
def bS (d kd : Int) : api_Stitch := if d = 0 then ⟨0, false, 0, 0⟩ else if 4 ≤ d then ⟨9, false, d, 0⟩ else if 0 < d then ⟨5, false, d + 1, 0⟩ else if -4 < d then ⟨kd, false, 1 - d, 0⟩ else ⟨10, false, -d, 0⟩
def bU (d : Int) : Int := if d = 0 then 0 else if 4 ≤ d then 0 else if 0 < d then 1 else if -4 < d then 1 - d else -d
theorem bend_cases (d : Int) : d = 0 ∨ 4 ≤ d ∨ (0 < d ∧ d < 4) ∨ (-4 < d ∧ d < 0) ∨ d ≤ -4 := by omega
theorem bend_eq {d : Int} (kd : Int) (h0 : -1000 ≤ d) (h1 : d ≤ 1000) : F_piece_bend d kd = some ⟨bS d kd, bU d⟩ := by
  unfold F_piece_bend bS bU
  rcases bend_cases d with h | h | h | h | h
  · simp [h]
  · rw [bF (show ¬ d = 0 by omega), dT h, if_neg (show ¬ d = 0 by omega), if_neg (show ¬ d = 0 by omega), if_pos h, if_pos h]; rfl
  · rw [bF (show ¬ d = 0 by omega), dF (show ¬ 4 ≤ d by omega), dT h.1, if_neg (show ¬ d = 0 by omega), if_neg (show ¬ d = 0 by omega), if_neg (show ¬ 4 ≤ d by omega), if_neg (show ¬ 4 ≤ d by omega), if_pos h.1, if_pos h.1, w64_of (by omega) (by omega)]; rfl
  · rw [bF (show ¬ d = 0 by omega), dF (show ¬ 4 ≤ d by omega), dF (show ¬ 0 < d by omega), dT h.1, if_neg (show ¬ d = 0 by omega), if_neg (show ¬ d = 0 by omega), if_neg (show ¬ 4 ≤ d by omega), if_neg (show ¬ 4 ≤ d by omega), if_neg (show ¬ 0 < d by omega), if_neg (show ¬ 0 < d by omega), if_pos h.1, if_pos h.1, w64_of (x := 1 - d) (by omega) (by omega)]; rfl
  · rw [bF (show ¬ d = 0 by omega), dF (show ¬ 4 ≤ d by omega), dF (show ¬ 0 < d by omega), dF (show ¬ -4 < d by omega), if_neg (show ¬ d = 0 by omega), if_neg (show ¬ d = 0 by omega), if_neg (show ¬ 4 ≤ d by omega), if_neg (show ¬ 4 ≤ d by omega), if_neg (show ¬ 0 < d by omega), if_neg (show ¬ 0 < d by omega), if_neg (show ¬ -4 < d by omega), if_neg (show ¬ -4 < d by omega), w64_of (x := 0 - d) (by omega) (by omega), show 0 - d = -d by omega]; rfl
theorem bU_bd (d : Int) : 0 ≤ bU d ∧ 0 ≤ bU d + d ∧ (d ≠ 0 → 1 ≤ bU d ∨ 4 ≤ bU d + d) := by
  unfold bU
  rcases bend_cases d with h | h | h | h | h
  · simp [h]
  · rw [if_neg (by omega), if_pos h]; omega
  · rw [if_neg (by omega), if_neg (by omega), if_pos h.1]; omega
  · rw [if_neg (by omega), if_neg (by omega), if_neg (by omega), if_pos h.1]; omega
  · rw [if_neg (by omega), if_neg (by omega), if_neg (by omega), if_neg (by omega)]; omega
theorem bU_le {d : Int} (h0 : -1000 ≤ d) (h1 : d ≤ 1000) : 0 ≤ bU d ∧ bU d ≤ 1001 := by
  unfold bU
  rcases bend_cases d with h | h | h | h | h
  · simp [h]
  · rw [if_neg (by omega), if_pos h]; omega
  · rw [if_neg (by omega), if_neg (by omega), if_pos h.1]; omega
  · rw [if_neg (by omega), if_neg (by omega), if_neg (by omega), if_pos h.1]; omega
  · rw [if_neg (by omega), if_neg (by omega), if_neg (by omega), if_neg (by omega)]; omega
theorem bS_ok {d kd : Int} (hd : d ≠ 0) (hk : kd = 3 ∨ kd = 4) (h0 : -200 ≤ d) (h1 : d ≤ 200) : okS (bS d kd) ∧ usedS (bS d kd) = bU d ∧ madeS (bS d kd) = bU d + d ∧ (bS d kd).Purl = false ∧ (bS d kd).Kind ≠ 1 ∧ (bS d kd).Kind ≠ 0 := by
  unfold bS bU
  rcases bend_cases d with h | h | h | h | h
  · exact absurd h hd
  · rw [if_neg hd, if_neg hd, if_pos h, if_pos h]
    refine ⟨?_, ?_, ?_, rfl, ?_, ?_⟩ <;> simp [okS, usedS, madeS] <;> omega
  · rw [if_neg hd, if_neg hd, if_neg (show ¬ 4 ≤ d by omega), if_neg (show ¬ 4 ≤ d by omega), if_pos h.1, if_pos h.1]
    refine ⟨?_, ?_, ?_, rfl, ?_, ?_⟩ <;> simp [okS, usedS, madeS] <;> omega
  · rw [if_neg hd, if_neg hd, if_neg (show ¬ 4 ≤ d by omega), if_neg (show ¬ 4 ≤ d by omega), if_neg (show ¬ 0 < d by omega), if_neg (show ¬ 0 < d by omega), if_pos h.1, if_pos h.1]
    rcases hk with rfl | rfl <;> refine ⟨?_, ?_, ?_, rfl, ?_, ?_⟩ <;> simp [okS, usedS, madeS] <;> omega
  · rw [if_neg hd, if_neg hd, if_neg (show ¬ 4 ≤ d by omega), if_neg (show ¬ 4 ≤ d by omega), if_neg (show ¬ 0 < d by omega), if_neg (show ¬ 0 < d by omega), if_neg (show ¬ -4 < d by omega), if_neg (show ¬ -4 < d by omega)]
    refine ⟨?_, ?_, ?_, rfl, ?_, ?_⟩ <;> simp [okS, usedS, madeS] <;> omega
def edge (d kd : Int) : List api_Stitch := if d = 0 then [] else [bS d kd]
def kns : api_Stitch := ⟨1, false, 0, 0⟩
theorem edge_spec {d kd : Int} (hk : kd = 3 ∨ kd = 4) (h0 : -200 ≤ d) (h1 : d ≤ 200) : allOk (edge d kd) ∧ sm usedS (edge d kd) = bU d ∧ sm madeS (edge d kd) = bU d + d ∧ (edge d kd).length = (if d = 0 then 0 else 1) := by
  unfold edge
  by_cases h : d = 0
  · subst h
    exact ⟨fun p hp => (by cases hp), rfl, rfl, rfl⟩
  · have := bS_ok h hk h0 h1
    rw [if_neg h]
    refine ⟨fun p hp => ?_, ?_, ?_, by simp [h]⟩
    · have hp : p = bS d kd := by simpa using hp
      rw [hp]; exact this.1
    · simp only [sm, this.2.1]; omega
    · simp only [sm, this.2.2.1]; omega
theorem edge_app {d kd : Int} (s : List api_Stitch) (hk : kd = 3 ∨ kd = 4) (hs : s.length ≤ 1000) :
    (if ((bS d kd).Kind != 0) = true then Option.bind (appO s [api_Stitch.mk (bS d kd).Kind (bS d kd).Purl (bS d kd).A (bS d kd).B]) fun l => some l else some s) = some (s ++ edge d kd) := by
  unfold edge
  by_cases h : d = 0
  · subst h
    rw [if_pos rfl, List.append_nil]
    rfl
  · have hK : (bS d kd).Kind ≠ 0 := by
      unfold bS
      rcases bend_cases d with g | g | g | g | g
      · exact absurd g h
      · rw [if_neg h, if_pos g]; simp
      · rw [if_neg h, if_neg (by omega), if_pos g.1]; simp
      · rw [if_neg h, if_neg (by omega), if_neg (by omega), if_pos g.1]; rcases hk with rfl | rfl <;> simp
      · rw [if_neg h, if_neg (by omega), if_neg (by omega), if_neg (by omega)]; simp
    rw [if_pos (nT hK), if_neg h, appO_of (by simp; omega)]
    rfl
def dR (p : api_Piece) (k : Nat) : Int := p.Right.getD (k + 1) 0 - p.Right.getD k 0
def dL (p : api_Piece) (k : Nat) : Int := p.Left.getD k 0 - p.Left.getD (k + 1) 0
def wd (p : api_Piece) (k : Nat) : Int := p.Right.getD k 0 - p.Left.getD k 0
def nk (p : api_Piece) (k : Nat) : Int := wd p k - bU (dR p k) - bU (dL p k)
def cel (p : api_Piece) (k : Nat) : List api_Stitch := edge (dR p k) 3 ++ List.replicate (nk p k).toNat kns ++ edge (dL p k) 4
def crow (p : api_Piece) (k : Nat) : api_Row := ⟨decide (k % 2 = 0), if k % 2 = 0 then ((cel p k).map othS).reverse else cel p k⟩
theorem sm_rep (f : api_Stitch → Int) (x : api_Stitch) (n : Nat) : sm f (List.replicate n x) = n * f x := by
  induction n with
  | zero => simp [sm]
  | succ n ih => rw [List.replicate_succ]; simp only [sm, ih]; rw [Int.natCast_add, Int.add_mul]; simp; omega
theorem wd_succ (p : api_Piece) (k : Nat) : wd p (k + 1) = wd p k + dR p k + dL p k := by unfold wd dR dL; omega
theorem cel_bd {p : api_Piece} (hp : pok p = true) {k : Nat} (hk : k + 1 < p.Left.length) (hn : 1 ≤ nk p k) :
    (-200 ≤ dR p k ∧ dR p k ≤ 200) ∧ (-200 ≤ dL p k ∧ dL p k ≤ 200) ∧ 1 ≤ wd p k ∧ wd p k ≤ 200 ∧ 1 ≤ wd p (k + 1) ∧ wd p (k + 1) ≤ 200 ∧ bU (dR p k) + bU (dL p k) + nk p k = wd p k := by
  obtain ⟨a, b, c, d⟩ := pok_iff.1 hp
  have d0 := d k (by omega)
  have d1 := d (k + 1) hk
  have w0 : 1 ≤ wd p k ∧ wd p k ≤ 200 := by unfold wd; omega
  have w1 : 1 ≤ wd p (k + 1) ∧ wd p (k + 1) ≤ 200 := by unfold wd; omega
  have ws := wd_succ p k
  have hnk : nk p k = wd p k - bU (dR p k) - bU (dL p k) := rfl
  have r := bU_bd (dR p k)
  have l := bU_bd (dL p k)
  omega
theorem cel_ok {p : api_Piece} (hp : pok p = true) {k : Nat} (hk : k + 1 < p.Left.length) (hn : 1 ≤ nk p k) :
    allS (cel p k) = 0 ∧ sm usedS (cel p k) = wd p k ∧ sm madeS (cel p k) = wd p (k + 1) ∧ ((cel p k).length : Int) ≤ nk p k + 2 ∧ (cel p k).length ≤ 200 := by
  obtain ⟨r, l, a0, a1, b0, b1, e⟩ := cel_bd hp hk hn
  have er := edge_spec (kd := 3) (.inl rfl) r.1 r.2
  have el := edge_spec (kd := 4) (.inr rfl) l.1 l.2
  have ws := wd_succ p k
  have ub := bU_bd (dR p k)
  have lb := bU_bd (dL p k)
  have hN : ((nk p k).toNat : Int) = nk p k := by omega
  have hu : sm usedS (cel p k) = wd p k := by
    unfold cel
    rw [sm_append, sm_append, er.2.1, el.2.1, sm_rep, hN]
    have : usedS kns = 1 := rfl
    rw [this]; omega
  have hm : sm madeS (cel p k) = wd p (k + 1) := by
    unfold cel
    rw [sm_append, sm_append, er.2.2.1, el.2.2.1, sm_rep, hN]
    have : madeS kns = 1 := rfl
    rw [this]; omega
  have hlen : (cel p k).length = (edge (dR p k) 3).length + (nk p k).toNat + (edge (dL p k) 4).length := by unfold cel; simp; omega
  rw [er.2.2.2, el.2.2.2] at hlen
  have hlen2 : (cel p k).length ≤ 200 := by
    by_cases c1 : dR p k = 0
    · by_cases c2 : dL p k = 0
      · rw [if_pos c1, if_pos c2] at hlen; omega
      · have := lb.2.2 c2; rw [if_pos c1, if_neg c2] at hlen; omega
    · have c1' := ub.2.2 c1
      by_cases c2 : dL p k = 0
      · rw [if_neg c1, if_pos c2] at hlen; omega
      · have := lb.2.2 c2; rw [if_neg c1, if_neg c2] at hlen; omega
  have hok : allOk (cel p k) := by
    intro x hx
    unfold cel at hx
    rw [List.mem_append, List.mem_append] at hx
    rcases hx with (hx | hx) | hx
    · exact er.1 x hx
    · rw [List.eq_of_mem_replicate hx]; exact .inl ⟨.inl rfl, rfl, rfl⟩
    · exact el.1 x hx
  refine ⟨?_, hu, hm, ?_, hlen2⟩
  · unfold allS
    rw [if_neg (by omega), if_pos hok, if_neg (by omega)]
  · by_cases c1 : dR p k = 0 <;> by_cases c2 : dL p k = 0 <;> simp only [c1, c2, if_true, if_false] at hlen <;> omega
theorem ok_wf {l : List api_Stitch} (h : allOk l) : ∀ p, p ∈ l → wfS p := by
  intro p hp
  have := okS_bd (h p hp)
  unfold wfS
  omega
theorem rem_two (n : Nat) : remI (n : Int) 2 = some ((n % 2 : Nat) : Int) := by unfold remI; rw [if_neg (by omega)]; rfl
theorem chart_step {p : api_Piece} (hp : pok p = true) {k : Nat} (hk : k + 1 < p.Left.length) {s : List api_Row} (hs : s.length ≤ 1000) :
    piece_Chart_l2 p (((k + 1 : Nat) : Int), s) = some (if 1 ≤ nk p k then .inl (((k + 1 + 1 : Nat) : Int), s ++ [crow p k]) else .inr (.inl (⟨0, []⟩, 22))) := by
  obtain ⟨a, b, c, d⟩ := pok_iff.1 hp
  have d0 := d k (by omega)
  have d1 := d (k + 1) hk
  have hj : w64 (((k + 1 : Nat) : Int) - 1) = (k : Int) := by rw [w64_of (by omega) (by omega)]; omega
  have e1 : w64 (p.Right.getD (k + 1) 0 - p.Right.getD k 0) = dR p k := w64_of (by omega) (by omega)
  have e2 : w64 (p.Left.getD k 0 - p.Left.getD (k + 1) 0) = dL p k := w64_of (by omega) (by omega)
  have e3 : w64 (p.Right.getD k 0 - p.Left.getD k 0) = wd p k := w64_of (by omega) (by omega)
  have rb : -1000 ≤ dR p k ∧ dR p k ≤ 1000 := by unfold dR; omega
  have lb : -1000 ≤ dL p k ∧ dL p k ≤ 1000 := by unfold dL; omega
  have ub := bU_le rb.1 rb.2
  have vb := bU_le lb.1 lb.2
  have wb : 0 ≤ wd p k ∧ wd p k ≤ 200 := by unfold wd; omega
  have e4 : w64 (w64 (wd p k - bU (dR p k)) - bU (dL p k)) = nk p k := by
    unfold nk
    rw [w64_of (x := wd p k - bU (dR p k)) (by omega) (by omega), w64_of (by omega) (by omega)]
  unfold piece_Chart_l2
  simp only [dT (show ((k + 1 : Nat) : Int) < (p.Left.length : Int) by omega), if_true, hj, idxO_D (0 : Int) hk, idxO_D (0 : Int) (show k < p.Left.length by omega), idxO_D (0 : Int) (show k + 1 < p.Right.length by omega), idxO_D (0 : Int) (show k < p.Right.length by omega), Option.bind_some, e1, e2, e3, bend_eq _ rb.1 rb.2, bend_eq _ lb.1 lb.2, e4]
  by_cases hn : 1 ≤ nk p k
  case neg => rw [dT (show nk p k < 1 by omega), if_neg hn]; rfl
  obtain ⟨c1, c2, c3, c4, c5⟩ := cel_ok hp hk hn
  obtain ⟨b1, b2, -⟩ := cel_bd hp hk hn
  have er := edge_spec (kd := 3) (.inl rfl) b1.1 b1.2
  have hlen : (cel p k).length = (edge (dR p k) 3).length + (nk p k).toNat + (edge (dL p k) 4).length := by unfold cel; simp; omega
  have hin : whileO (piece_Chart_l1 (p.Right.getD k 0) (p.Left.getD k 0) (bU (dR p k)) (bU (dL p k))) (edge (dR p k) 3, 0) = some (edge (dR p k) 3 ++ List.replicate (nk p k).toNat kns) := by
    have key : ∃ t, whileO (piece_Chart_l1 (p.Right.getD k 0) (p.Left.getD k 0) (bU (dR p k)) (bU (dL p k))) (edge (dR p k) 3, 0) = some t ∧ t = edge (dR p k) 3 ++ List.replicate (nk p k).toNat kns := by
      refine loop_st (nk p k).toNat (fun j s => s = edge (dR p k) 3 ++ List.replicate j kns) _ (by simp) ?_ ?_
      · rintro j s hj' rfl
        refine .inl ⟨edge (dR p k) 3 ++ List.replicate (j + 1) kns, ?_, rfl⟩
        unfold piece_Chart_l1
        simp only [e3, e4, dT (show (j : Int) < nk p k by omega), if_true]
        rw [appO_of (by simp; omega)]
        simp only [Option.bind_some, w64_succ (show j < 9223372036854775807 by omega), List.append_assoc, List.replicate_succ']
        rfl
      · rintro s rfl
        refine ⟨_, ?_, rfl⟩
        unfold piece_Chart_l1
        simp only [e3, e4, dF (show ¬ ((nk p k).toNat : Int) < nk p k by omega), Bool.false_eq_true, if_false]
    obtain ⟨t, t1, rfl⟩ := key
    exact t1
  have h1 := edge_app (d := dR p k) [] (kd := 3) (.inl rfl) (by simp)
  have h2 := edge_app (d := dL p k) (edge (dR p k) 3 ++ List.replicate (nk p k).toNat kns) (kd := 4) (.inr rfl) (by rw [List.length_append, List.length_replicate]; omega)
  rw [List.nil_append] at h1
  have hc : edge (dR p k) 3 ++ List.replicate (nk p k).toNat kns ++ edge (dL p k) 4 = cel p k := rfl
  rw [hc] at h2
  have hT := turn_eq (ok_wf (allS_ok c1).2.1)
  rw [if_pos c1] at hT
  rw [dF (show ¬ nk p k < 1 by omega), if_pos hn]
  simp only [Bool.false_eq_true, if_false, h1, hin, h2, Option.bind_some, rem_two]
  have hrow : (if (((k + 1) % 2 : Nat) : Int) == 1 then (some ((cel p k).map othS).reverse) else some (cel p k)) = some (crow p k).Cells := by
    unfold crow
    by_cases g : k % 2 = 0
    · rw [bT (show (((k + 1) % 2 : Nat) : Int) = 1 by omega), if_pos g]; rfl
    · rw [bF (show ¬ (((k + 1) % 2 : Nat) : Int) = 1 by omega), if_neg g]; rfl
  have hback : ((((k + 1) % 2 : Nat) : Int) == 1) = (crow p k).Back := by
    unfold crow
    by_cases g : k % 2 = 0
    · rw [bT (show (((k + 1) % 2 : Nat) : Int) = 1 by omega)]; simp [g]
    · rw [bF (show ¬ (((k + 1) % 2 : Nat) : Int) = 1 by omega)]; simp [g]
  simp only [hT, Option.bind_some, hrow, hback]
  rw [hback] at hrow
  try simp only [hrow, Option.bind_some]
  rw [appO_of (by simp; omega)]
  simp only [Option.bind_some, w64_succ (show k + 1 < 9223372036854775807 by omega)]
def chOk (p : api_Piece) : Prop := ∀ k, k < p.Left.length - 1 → 1 ≤ nk p k
instance (p : api_Piece) : Decidable (chOk p) := by unfold chOk; infer_instance
def chart (p : api_Piece) : api_Chart := ⟨wd p 0, (List.range (p.Left.length - 1)).map (crow p)⟩
theorem chart_eq (p : api_Piece) (h1 : p.Left.length ≤ 1000000) (h2 : p.Right.length ≤ 1000000) : F_piece_Chart p = some (if pok p = true then (if chOk p then (chart p, 0) else (⟨0, []⟩, 22)) else (⟨0, []⟩, 8)) := by
  unfold F_piece_Chart
  rw [(pcheck_eq p h1 h2).1]
  cases hp : pok p with
  | false => rfl
  | true =>
    obtain ⟨a, b, c, d⟩ := pok_iff.1 hp
    have d0 := d 0 (by omega)
    have e3 : w64 (p.Right.getD 0 0 - p.Left.getD 0 0) = wd p 0 := w64_of (by omega) (by omega)
    have hw : ∃ t, whileO (piece_Chart_l2 p) (1, ([] : List api_Row)) = some t ∧ ((chOk p ∧ t = .inr (chart p).Rows) ∨ (¬ chOk p ∧ t = .inl (⟨0, []⟩, 22))) := by
      refine loop_at (p.Left.length - 1) (fun k s => (((k + 1 : Nat) : Int), s)) (fun k s => s = (List.range k).map (crow p) ∧ ∀ j, j < k → 1 ≤ nk p j) _ ⟨rfl, fun j hj => absurd hj (Nat.not_lt_zero j)⟩ ?_ ?_
      · rintro k s hk ⟨rfl, hI⟩
        rw [chart_step hp (by omega) (by simp; omega)]
        by_cases hn : 1 ≤ nk p k
        · rw [if_pos hn]
          refine .inl ⟨_, rfl, ?_, fun j hj => ?_⟩
          · rw [List.range_succ, List.map_append]; rfl
          · by_cases e : j = k
            · subst e; exact hn
            · exact hI j (by omega)
        · rw [if_neg hn]
          exact .inr ⟨_, rfl, .inr ⟨fun h => hn (h k hk), rfl⟩⟩
      · rintro s ⟨rfl, hI⟩
        refine ⟨.inr (chart p).Rows, ?_, .inl ⟨hI, rfl⟩⟩
        unfold piece_Chart_l2
        simp only [dF (show ¬ ((p.Left.length - 1 + 1 : Nat) : Int) < (p.Left.length : Int) by omega), Bool.false_eq_true, if_false]
        rfl
    obtain ⟨t, t1, t2⟩ := hw
    have i0 : idxO p.Right 0 = some (p.Right.getD 0 0) := idxO_D (k := 0) (0 : Int) (by omega)
    have i1 : idxO p.Left 0 = some (p.Left.getD 0 0) := idxO_D (k := 0) (0 : Int) (by omega)
    simp only [if_true, Option.bind_some, nF (rfl : (0 : Int) = 0), Bool.false_eq_true, if_false, i0, i1, t1, e3]
    rcases t2 with ⟨g, rfl⟩ | ⟨g, rfl⟩
    · rw [if_pos g]; rfl
    · rw [if_neg g]; rfl

end Go.Proofs.Ytmedbnjhgkcndaa
namespace Go.Proofs.Ytmedbnjhgkcndaa
open Go.RowKit
set_option linter.unusedVariables false

theorem crow_ok {p : api_Piece} (hp : pok p = true) {k : Nat} (hk : k + 1 < p.Left.length) (hn : 1 ≤ nk p k) :
    allS (crow p k).Cells = 0 ∧ sm usedS (crow p k).Cells = wd p k ∧ sm madeS (crow p k).Cells = wd p (k + 1) ∧ (crow p k).Cells.length = (cel p k).length := by
  obtain ⟨c1, c2, c3, c4, c5⟩ := cel_ok hp hk hn
  unfold crow
  by_cases g : k % 2 = 0
  · have t := turned_ok c1
    simp only [g, if_true]
    exact ⟨t.1, t.2.1.trans c2, t.2.2.trans c3, by simp⟩
  · simp only [g, if_false]
    exact ⟨c1, c2, c3, trivial⟩
def plain (c : api_Stitch) : Prop := c.Purl = false ∧ c.Kind ≠ 2 ∧ c.Kind ≠ 6 ∧ c.Kind ≠ 7
end Go.Proofs.Ytmedbnjhgkcndaa
namespace Go.Proofs.Ytmedbnjhgkcndaa
open Go.RowKit
set_option linter.unusedVariables false

def anc_slices_Equal___api_Stitch_api_Stitch__0 : List (List Nat) := [[], [], [0, 1], [0, 1, 2], [], [], [4, 5], [4, 5, 6], [0, 1, 2, 3, 4, 5, 6, 7]]
noncomputable def slices_Equal___api_Stitch_api_Stitch__l1 (p0 : (List api_Stitch)) (p1 : (List api_Stitch)) : Int → Option (Int ⊕ (Bool ⊕ Unit)) := fun s0 => match s0 with
  | s13 =>
    if decide (s13 < (p0.length : Int)) then
      Option.bind (idxO p0 s13) fun x23 =>
      Option.bind (idxO p1 s13) fun x28 =>
      if !((x23.Kind == x28.Kind) && ((x23.Purl == x28.Purl) && ((x23.A == x28.A) && ((x23.B == x28.B) && true)))) then
        some (.inr (.inl false))
      else
        some (.inl (w64 (s13 + 1)))
    else
      some (.inr (.inr ()))
noncomputable def F_slices_Equal___api_Stitch_api_Stitch_ (p0 : (List api_Stitch)) (p1 : (List api_Stitch)) : Option Bool :=
  if (p0.length : Int) != (p1.length : Int) then
    some false
  else
    Option.bind (α := Unit ⊕ Bool) (
      Option.bind (whileO (slices_Equal___api_Stitch_api_Stitch__l1 p0 p1) 0) fun z0 => match z0 with
        | .inl z =>
          some (.inr z)
        | .inr _ =>
          some (.inl ())) fun z0 => match z0 with
      | .inl _ =>
        some true
      | .inr z =>
        some z
set_option maxHeartbeats 4000000 in
set_option maxRecDepth 100000 in
theorem c_slices_Equal___api_Stitch_api_Stitch_ (E : Nat → Prop) (w0 : World) (p0 : (List api_Stitch)) (v0 : Value) (p1 : (List api_Stitch)) (v1 : Value) (r : Bool) (h : F_slices_Equal___api_Stitch_api_Stitch_ p0 p1 = some r) (S : St0 E [] w0 w0 [] [fRep (rL r_api_Stitch) (v0) p0, fRep (rL r_api_Stitch) (v1) p1]) :
    Calls Try.prog 60 #[v0, v1] w0 (Ret (X := Unit) E [] w0 (fun _ => .bool r) (fun _ => []) (fun _ => [])) := by
  unfold F_slices_Equal___api_Stitch_api_Stitch_ at h
  obtain ⟨ad1, cp2, _, rfl, _⟩ := S.know (i := 0) (e := fRep (rL r_api_Stitch) (v0) p0) rfl
  obtain ⟨ad3, cp4, _, rfl, _⟩ := S.know (i := 1) (e := fRep (rL r_api_Stitch) (v1) p1) rfl
  refine sEnter (args := [.slice ad1 p0.length cp2, .slice ad3 p1.length cp4]) 26 Try.func60 rfl rfl (by simp) S (fun a S => ?_)
  refine sSeq (fun K5 hK5 => ?_)
  refine sRegion ?_
  refine sMove (.bool false) S (wN rfl) (.inr rfl) rfl rfl (lb rfl) fun a S => ?_
  refine leafL (leafT (hK5 _ _ ?_))
  refine sSeq (fun K6 hK6 => ?_)
  refine sSeq (fun K7 hK7 => ?_)
  refine sRegion ?_
  refine sMove (.slice ad1 p0.length cp2) S (wN rfl) (.inl rfl) rfl rfl (lb rfl) fun a S => ?_
  refine sLen (ad := ad1) (m := p0.length) (c := cp2) S (wN rfl) rfl Try.underlying78 rfl rfl (lb rfl) fun a S => ?_
  refine sMove (.slice ad3 p1.length cp4) S (wN rfl) (.inl rfl) rfl rfl (lb rfl) fun a S => ?_
  refine sLen (ad := ad3) (m := p1.length) (c := cp4) S (wN rfl) rfl Try.underlying78 rfl rfl (lb rfl) fun a S => ?_
  refine sBin (.bool ((p0.length : Int) != (p1.length : Int))) S (wN rfl) rfl rfl rfl (bNe _ _ _ _ .i64 (p0.length : Int) (p1.length : Int)) rfl (lb rfl) fun a S => ?_
  refine leafL (leafT (hK7 _ _ ?_))
  rcases iteSome h with ⟨hc8, h⟩ | ⟨hc8, h⟩
  · refine sCondT S rfl hc8 ?_
    refine sSeq (fun K9 hK9 => ?_)
    refine sRegion ?_
    refine sMove (.bool false) S (wN rfl) (.inr rfl) rfl rfl (lb rfl) fun a S => ?_
    refine leafL (leafT (hK9 _ _ ?_))
    obtain rfl := Option.some.inj h
    exact wp_ret (rThen (sRet (.bool false) S (rsl1 rfl (rvT (t := 4) (v := .bool false) S rfl)) ⟨(), rfl, S.mem.sel [] [] (by decide) rfl rfl⟩))
  refine sCondF S rfl hc8 ?_
  refine wp_skip (leafT (hK6 _ _ ?_))
  obtain ⟨t10, h, g11⟩ := bindSome h
  refine sCut (fun a w => .inl () = t10 ∧ St [] E [] w0 26 a w [] [] []) ?_ (fun a w hI => ?_)
  rotate_left
  · obtain ⟨rfl, S⟩ := hI
    have h := g11
    clear g11
    try dsimp only at h
    refine sSeq (fun K41 hK41 => ?_)
    refine sRegion ?_
    refine sMove (.bool true) S (wN rfl) (.inr rfl) rfl rfl (lb rfl) fun a S => ?_
    refine leafL (leafT (hK41 _ _ ?_))
    obtain rfl := Option.some.inj h
    exact wp_ret (sRet (.bool true) S (rsl1 rfl (rvT (t := 4) (v := .bool true) S rfl)) ⟨(), rfl, S.mem.sel [] [] (by decide) rfl rfl⟩)
  refine sSeq (fun K12 hK12 => ?_)
  refine sRegion ?_
  refine sMove (.slice ad1 p0.length cp2) S (wN rfl) (.inl rfl) rfl rfl (lb rfl) fun a S => ?_
  refine sLen (ad := ad1) (m := p0.length) (c := cp2) S (wN rfl) rfl Try.underlying78 rfl rfl (lb rfl) fun a S => ?_
  refine sMove (iv 0) S (wN rfl) (.inl rfl) rfl rfl (lb rfl) fun a S => ?_
  refine leafL (leafT (hK12 _ _ ?_))
  refine wp_block ?_
  obtain ⟨t16, hl, g15⟩ := bindSome h
  refine sLoop hl (fun s0 a w => match s0 with | s13 => St [] E [] w0 26 a w [(0, .slice ad1 p0.length cp2), (1, .slice ad3 p1.length cp4), (12, iv (p0.length : Int)), (13, iv s13)] [] [fRep (rL r_api_Stitch) (.slice ad1 p0.length cp2) p0, fRep (rL r_api_Stitch) (.slice ad3 p1.length cp4) p1]) (S.fix [] [0, 1] (by decide) rfl rfl rfl) ?_
  clear hl h
  intro s13 a w c0 hI h hu14
  unfold slices_Equal___api_Stitch_api_Stitch__l1 at h
  dsimp only at h hI
  have S := hI
  refine sSeq (fun K17 hK17 => ?_)
  refine sRegion ?_
  refine sBin (.bool (decide (s13 < (p0.length : Int)))) S (wN rfl) rfl rfl rfl (bLt _ _ _ _ .i64 s13 (p0.length : Int)) rfl (lb rfl) fun a S => ?_
  refine leafL (leafT (hK17 _ _ ?_))
  refine sSeq (fun K18 hK18 => ?_)
  rcases iteSome h with ⟨hc19, h⟩ | ⟨hc19, h⟩
  rotate_left
  · refine sCondF S rfl hc19 ?_
    obtain rfl := Option.some.inj h
    obtain rfl := hu14 _ rfl
    have h := g15
    clear g15
    try dsimp only at h
    exact wp_exit (xThen (xThen (xHit (leafT (⟨Option.some.inj h, S.fix [] [] (by decide) rfl rfl rfl⟩)))))
  refine sCondT S rfl hc19 ?_
  refine wp_skip (leafT (hK18 _ _ ?_))
  refine sSeq (fun K20 hK20 => ?_)
  refine wp_block ?_
  refine sSeq (fun K21 hK21 => ?_)
  refine sRegion ?_
  refine sMove (iv s13) S (wN rfl) (.inl rfl) rfl rfl (lb rfl) fun a S => ?_
  refine sMove (iv s13) S (wN rfl) (.inr rfl) rfl rfl (lb rfl) fun a S => ?_
  refine leafL (leafT (hK21 _ _ ?_))
  refine sSeq (fun K22 hK22 => ?_)
  obtain ⟨x23, hx24, h⟩ := bindSome h
  obtain ⟨x28, hx29, h⟩ := bindSome h
  obtain ⟨q33, hq34, S⟩ := pIdx (P := Try.prog) (r := r_api_Stitch) (v := .slice ad1 p0.length cp2) (xs := p0) (j := s13) 78 82 0 S Try.underlying78 rfl rfl hx24
  obtain ⟨u35, S⟩ := pLoad (r := r_api_Stitch) (q := q33) (x := x23) 0 S rfl
  obtain rfl : u35 = .agg #[.int .u8 x23.Kind, .bool x23.Purl, iv x23.A, iv x23.B] := S.mem.know (i := 1) (e := fRep r_api_Stitch (u35) x23) rfl
  obtain ⟨q36, hq37, S⟩ := pIdx (P := Try.prog) (r := r_api_Stitch) (v := .slice ad3 p1.length cp4) (xs := p1) (j := s13) 78 82 4 S Try.underlying78 rfl rfl hx29
  obtain ⟨u38, S⟩ := pLoad (r := r_api_Stitch) (q := q36) (x := x28) 0 S rfl
  obtain rfl : u38 = .agg #[.int .u8 x28.Kind, .bool x28.Purl, iv x28.A, iv x28.B] := S.mem.know (i := 1) (e := fRep r_api_Stitch (u38) x28) rfl
  refine sDraw (nf := []) (W := [(0, 16, .slice ad1 p0.length cp2), (1, 17, iv s13), (2, 18, q33), (3, 19, .agg #[.int .u8 x23.Kind, .bool x23.Purl, iv x23.A, iv x23.B]), (4, 20, .slice ad3 p1.length cp4), (5, 21, iv s13), (6, 22, q36), (7, 23, .agg #[.int .u8 x28.Kind, .bool x28.Purl, iv x28.A, iv x28.B]), (8, 24, .bool (!((x23.Kind == x28.Kind) && ((x23.Purl == x28.Purl) && ((x23.A == x28.A) && ((x23.B == x28.B) && true))))))]) rfl S ?_
  refine node_by (A := anc_slices_Equal___api_Stitch_api_Stitch__0) (nf := []) (Y := []) (W := [(0, 16, .slice ad1 p0.length cp2), (1, 17, iv s13), (2, 18, q33), (3, 19, .agg #[.int .u8 x23.Kind, .bool x23.Purl, iv x23.A, iv x23.B]), (4, 20, .slice ad3 p1.length cp4), (5, 21, iv s13), (6, 22, q36), (7, 23, .agg #[.int .u8 x28.Kind, .bool x28.Purl, iv x28.A, iv x28.B]), (8, 24, .bool (!((x23.Kind == x28.Kind) && ((x23.Purl == x28.Purl) && ((x23.A == x28.A) && ((x23.B == x28.B) && true))))))]) 9 (by kernel_rfl) (by kernel_rfl) (by kernel_rfl) (by kernel_rfl) (by kernel_rfl) [0, 1, 2, 3, 4, 5, 6, 7, 8] (by kernel_rfl) (by decide) (by decide) (aF 0 8 (by decide) ?_ (aF 1 7 (by decide) ?_ (aF 2 6 (by decide) ?_ (aF 3 5 (by decide) ?_ (aF 4 4 (by decide) ?_ (aF 5 3 (by decide) ?_ (aF 6 2 (by decide) ?_ (aF 7 1 (by decide) ?_ (aF 8 0 (by decide) ?_ (trivial)))))))))) [(0, .slice ad1 p0.length cp2), (1, .slice ad3 p1.length cp4), (12, iv (p0.length : Int)), (13, iv s13), (24, .bool (!((x23.Kind == x28.Kind) && ((x23.Purl == x28.Purl) && ((x23.A == x28.A) && ((x23.B == x28.B) && true))))))] (fin_of [none, none, none, none, some 8] rfl (by kernel_rfl) (by kernel_rfl)) (fun _ a w S => ?_)
  · refine fI 16 (.slice ad1 p0.length cp2) [(0, .slice ad1 p0.length cp2)] 0 [none] rfl rfl rfl rfl rfl rfl fun G a w S => ?_
    refine sMove (.slice ad1 p0.length cp2) S (wN rfl) (.inl rfl) rfl rfl (lb rfl) fun a S => ?_
    exact leafL ⟨rfl, S⟩
  · refine fI 17 (iv s13) [(5, iv s13)] 1 [none] rfl rfl rfl rfl rfl rfl fun G a w S => ?_
    refine sMove (iv s13) S (wN rfl) (.inl rfl) rfl rfl (lb rfl) fun a S => ?_
    exact leafL ⟨rfl, S⟩
  · refine fI 18 q33 [(16, .slice ad1 p0.length cp2), (17, iv s13)] 2 [some 0, some 1] rfl rfl rfl rfl rfl rfl fun G a w S => ?_
    refine sIdxV (v := .slice ad1 p0.length cp2) (k := .i64) (j := s13) S (wN rfl) rfl rfl rfl hq34 rfl (lb rfl) fun a S => ?_
    exact leafL ⟨rfl, S⟩
  · refine fI 19 (.agg #[.int .u8 x23.Kind, .bool x23.Purl, iv x23.A, iv x23.B]) [(18, q33)] 3 [some 2] rfl rfl rfl rfl rfl rfl fun G a w S => ?_
    refine sLoadVN (vq := q33) 3 [.int .u8 x23.Kind, .bool x23.Purl, iv x23.A, iv x23.B] S (wN rfl) rfl rfl rfl rfl rfl rfl (lb rfl) fun a S => ?_
    exact leafL ⟨rfl, S⟩
  · refine fI 20 (.slice ad3 p1.length cp4) [(1, .slice ad3 p1.length cp4)] 4 [none] rfl rfl rfl rfl rfl rfl fun G a w S => ?_
    refine sMove (.slice ad3 p1.length cp4) S (wN rfl) (.inl rfl) rfl rfl (lb rfl) fun a S => ?_
    exact leafL ⟨rfl, S⟩
  · refine fI 21 (iv s13) [(5, iv s13)] 5 [none] rfl rfl rfl rfl rfl rfl fun G a w S => ?_
    refine sMove (iv s13) S (wN rfl) (.inl rfl) rfl rfl (lb rfl) fun a S => ?_
    exact leafL ⟨rfl, S⟩
  · refine fI 22 q36 [(20, .slice ad3 p1.length cp4), (21, iv s13)] 6 [some 4, some 5] rfl rfl rfl rfl rfl rfl fun G a w S => ?_
    refine sIdxV (v := .slice ad3 p1.length cp4) (k := .i64) (j := s13) S (wN rfl) rfl rfl rfl hq37 rfl (lb rfl) fun a S => ?_
    exact leafL ⟨rfl, S⟩
  · refine fI 23 (.agg #[.int .u8 x28.Kind, .bool x28.Purl, iv x28.A, iv x28.B]) [(22, q36)] 7 [some 6] rfl rfl rfl rfl rfl rfl fun G a w S => ?_
    refine sLoadVN (vq := q36) 0 [.int .u8 x28.Kind, .bool x28.Purl, iv x28.A, iv x28.B] S (wN rfl) rfl rfl rfl rfl rfl rfl (lb rfl) fun a S => ?_
    exact leafL ⟨rfl, S⟩
  · refine fI 24 (.bool (!((x23.Kind == x28.Kind) && ((x23.Purl == x28.Purl) && ((x23.A == x28.A) && ((x23.B == x28.B) && true)))))) [(19, .agg #[.int .u8 x23.Kind, .bool x23.Purl, iv x23.A, iv x23.B]), (23, .agg #[.int .u8 x28.Kind, .bool x28.Purl, iv x28.A, iv x28.B])] 8 [some 3, some 7] rfl rfl rfl rfl rfl rfl fun G a w S => ?_
    refine sBin (.bool (!((x23.Kind == x28.Kind) && ((x23.Purl == x28.Purl) && ((x23.A == x28.A) && ((x23.B == x28.B) && true)))))) S (wN rfl) rfl rfl rfl (bNeV _ _ _ _ #[.int .u8 x23.Kind, .bool x23.Purl, iv x23.A, iv x23.B] #[.int .u8 x28.Kind, .bool x28.Purl, iv x28.A, iv x28.B] ((x23.Kind == x28.Kind) && ((x23.Purl == x28.Purl) && ((x23.A == x28.A) && ((x23.B == x28.B) && true)))) (by kernel_rfl) (eqlV_of (by kernel_rfl))) rfl (lb rfl) fun a S => ?_
    exact leafL ⟨rfl, S⟩
  refine leafT (hK22 _ _ ?_)
  rcases iteSome h with ⟨hc39, h⟩ | ⟨hc39, h⟩
  rotate_left
  · refine sCondF S rfl hc39 ?_
    refine wp_skip (leafB (leafT (hK20 _ _ ?_)))
    refine sRegion ?_
    refine sBin (iv (w64 (s13 + 1))) S (wN rfl) rfl rfl rfl (bAdd _ _ _ _ s13 1) rfl (lb rfl) fun a S => ?_
    refine sMove (iv (w64 (s13 + 1))) S (wN rfl) (.inl rfl) rfl rfl (lb rfl) fun a S => ?_
    exact leafL (leafT (⟨w64 (s13 + 1), (Option.some.inj h).symm, (S.fix [] [6, 7] (by decide) rfl rfl rfl)⟩))
  refine sCondT S rfl hc39 ?_
  refine sSeq (fun K40 hK40 => ?_)
  refine sRegion ?_
  refine sMove (.bool false) S (wN rfl) (.inr rfl) rfl rfl (lb rfl) fun a S => ?_
  refine leafL (leafT (hK40 _ _ ?_))
  obtain rfl := Option.some.inj h
  obtain rfl := hu14 _ rfl
  have h := g15
  clear g15
  try dsimp only at h
  obtain rfl := Option.some.inj h
  have h := g11
  clear g11
  try dsimp only at h
  obtain rfl := Option.some.inj h
  exact wp_ret (rBlock (rThen (rThen (rBlock (rThen (sRet (.bool false) S (rsl1 rfl (rvT (t := 4) (v := .bool false) S rfl)) ⟨(), rfl, S.mem.sel [] [] (by decide) rfl rfl⟩))))))

end Go.Proofs.Ytmedbnjhgkcndaa
namespace Go.Proofs.Ytmedbnjhgkcndaa
open Go.RowKit
set_option linter.unusedVariables false

noncomputable def F_stitch_Same (p0 : (List api_Stitch)) (p1 : (List api_Stitch)) : Option Bool :=
  Option.bind (F_slices_Equal___api_Stitch_api_Stitch_ p0 p1) fun r7 =>
  some r7
set_option maxHeartbeats 4000000 in
set_option maxRecDepth 100000 in
theorem c_stitch_Same (E : Nat → Prop) (w0 : World) (p0 : (List api_Stitch)) (v0 : Value) (p1 : (List api_Stitch)) (v1 : Value) (r : Bool) (h : F_stitch_Same p0 p1 = some r) (S : St0 E [] w0 w0 [] [fRep (rL r_api_Stitch) (v0) p0, fRep (rL r_api_Stitch) (v1) p1]) :
    Calls Try.prog 41 #[v0, v1] w0 (Ret (X := Unit) E [] w0 (fun _ => .bool r) (fun _ => []) (fun _ => [])) := by
  unfold F_stitch_Same at h
  obtain ⟨ad1, cp2, _, rfl, _⟩ := S.know (i := 0) (e := fRep (rL r_api_Stitch) (v0) p0) rfl
  obtain ⟨ad3, cp4, _, rfl, _⟩ := S.know (i := 1) (e := fRep (rL r_api_Stitch) (v1) p1) rfl
  refine sEnter (args := [.slice ad1 p0.length cp2, .slice ad3 p1.length cp4]) 8 Try.func41 rfl rfl (by simp) S (fun a S => ?_)
  refine sSeq (fun K5 hK5 => ?_)
  refine sRegion ?_
  refine sMove (.bool false) S (wN rfl) (.inr rfl) rfl rfl (lb rfl) fun a S => ?_
  refine leafL (leafT (hK5 _ _ ?_))
  refine sSeq (fun K6 hK6 => ?_)
  refine sRegion ?_
  refine sMove (.slice ad1 p0.length cp2) S (wN rfl) (.inl rfl) rfl rfl (lb rfl) fun a S => ?_
  refine sMove (.slice ad3 p1.length cp4) S (wN rfl) (.inl rfl) rfl rfl (lb rfl) fun a S => ?_
  obtain ⟨r7, hx8, h⟩ := bindSome h
  have S1 := S.mem
  refine sCallQ (X := Unit) (f := 60) (vs := [.slice ad1 p0.length cp2, .slice ad3 p1.length cp4]) (val := fun _ => .bool r7) S (wN rfl) rfl callee60 rfl (S1.quiet [0, 1] rfl) (fun E1 w1 S1 => c_slices_Equal___api_Stitch_api_Stitch_ E1 w1 p0 (.slice ad1 p0.length cp2) p1 (.slice ad3 p1.length cp4) r7 hx8 S1) rfl (lb rfl) fun _ a w S => ?_
  refine sMove (.bool r7) S (wN rfl) (.inr rfl) rfl rfl (lb rfl) fun a S => ?_
  refine leafL (leafT (hK6 _ _ ?_))
  obtain rfl := Option.some.inj h
  exact wp_ret (sRet (.bool r7) S (rsl1 rfl (rvT (t := 4) (v := .bool r7) S rfl)) ⟨(), rfl, S.mem.sel [] [] (by decide) rfl rfl⟩)

end Go.Proofs.Ytmedbnjhgkcndaa
namespace Go.Proofs.Ytmedbnjhgkcndaa
open Go.RowKit
set_option linter.unusedVariables false

def anc_raddleref25_Same_0 : List (List Nat) := [[], [], [0, 1], [0, 1, 2], [], [], [4, 5], [4, 5, 6], [0, 1, 2, 3, 4, 5, 6, 7]]
noncomputable def raddleref25_Same_l1 (p0 : (List api_Stitch)) (p1 : (List api_Stitch)) : Int → Option (Int ⊕ (Bool ⊕ Unit)) := fun s0 => match s0 with
  | s13 =>
    if decide (s13 < (p0.length : Int)) then
      Option.bind (idxO p0 s13) fun x22 =>
      Option.bind (idxO p1 s13) fun x27 =>
      if !((x22.Kind == x27.Kind) && ((x22.Purl == x27.Purl) && ((x22.A == x27.A) && ((x22.B == x27.B) && true)))) then
        some (.inr (.inl false))
      else
        some (.inl (w64 (s13 + 1)))
    else
      some (.inr (.inr ()))
noncomputable def F_raddleref25_Same (p0 : (List api_Stitch)) (p1 : (List api_Stitch)) : Option Bool :=
  if (p0.length : Int) != (p1.length : Int) then
    some false
  else
    Option.bind (α := Unit ⊕ Bool) (
      Option.bind (whileO (raddleref25_Same_l1 p0 p1) 0) fun z0 => match z0 with
        | .inl z =>
          some (.inr z)
        | .inr _ =>
          some (.inl ())) fun z0 => match z0 with
      | .inl _ =>
        some true
      | .inr z =>
        some z
set_option maxHeartbeats 4000000 in
set_option maxRecDepth 100000 in
theorem c_raddleref25_Same (E : Nat → Prop) (w0 : World) (p0 : (List api_Stitch)) (v0 : Value) (p1 : (List api_Stitch)) (v1 : Value) (r : Bool) (h : F_raddleref25_Same p0 p1 = some r) (S : St0 E [] w0 w0 [] [fRep (rL r_api_Stitch) (v0) p0, fRep (rL r_api_Stitch) (v1) p1]) :
    Calls Try.prog 44 #[v0, v1] w0 (Ret (X := Unit) E [] w0 (fun _ => .bool r) (fun _ => []) (fun _ => [])) := by
  unfold F_raddleref25_Same at h
  obtain ⟨ad1, cp2, _, rfl, _⟩ := S.know (i := 0) (e := fRep (rL r_api_Stitch) (v0) p0) rfl
  obtain ⟨ad3, cp4, _, rfl, _⟩ := S.know (i := 1) (e := fRep (rL r_api_Stitch) (v1) p1) rfl
  refine sEnter (args := [.slice ad1 p0.length cp2, .slice ad3 p1.length cp4]) 26 Try.func44 rfl rfl (by simp) S (fun a S => ?_)
  refine sSeq (fun K5 hK5 => ?_)
  refine sRegion ?_
  refine sMove (.bool false) S (wN rfl) (.inr rfl) rfl rfl (lb rfl) fun a S => ?_
  refine leafL (leafT (hK5 _ _ ?_))
  refine sSeq (fun K6 hK6 => ?_)
  refine sSeq (fun K7 hK7 => ?_)
  refine sRegion ?_
  refine sMove (.slice ad1 p0.length cp2) S (wN rfl) (.inl rfl) rfl rfl (lb rfl) fun a S => ?_
  refine sLen (ad := ad1) (m := p0.length) (c := cp2) S (wN rfl) rfl Try.underlying78 rfl rfl (lb rfl) fun a S => ?_
  refine sMove (.slice ad3 p1.length cp4) S (wN rfl) (.inl rfl) rfl rfl (lb rfl) fun a S => ?_
  refine sLen (ad := ad3) (m := p1.length) (c := cp4) S (wN rfl) rfl Try.underlying78 rfl rfl (lb rfl) fun a S => ?_
  refine sBin (.bool ((p0.length : Int) != (p1.length : Int))) S (wN rfl) rfl rfl rfl (bNe _ _ _ _ .i64 (p0.length : Int) (p1.length : Int)) rfl (lb rfl) fun a S => ?_
  refine leafL (leafT (hK7 _ _ ?_))
  rcases iteSome h with ⟨hc8, h⟩ | ⟨hc8, h⟩
  · refine sCondT S rfl hc8 ?_
    refine sSeq (fun K9 hK9 => ?_)
    refine sRegion ?_
    refine sMove (.bool false) S (wN rfl) (.inr rfl) rfl rfl (lb rfl) fun a S => ?_
    refine leafL (leafT (hK9 _ _ ?_))
    obtain rfl := Option.some.inj h
    exact wp_ret (rThen (sRet (.bool false) S (rsl1 rfl (rvT (t := 4) (v := .bool false) S rfl)) ⟨(), rfl, S.mem.sel [] [] (by decide) rfl rfl⟩))
  refine sCondF S rfl hc8 ?_
  refine wp_skip (leafT (hK6 _ _ ?_))
  obtain ⟨t10, h, g11⟩ := bindSome h
  refine sCut (fun a w => .inl () = t10 ∧ St [] E [] w0 26 a w [] [] []) ?_ (fun a w hI => ?_)
  rotate_left
  · obtain ⟨rfl, S⟩ := hI
    have h := g11
    clear g11
    try dsimp only at h
    refine sSeq (fun K40 hK40 => ?_)
    refine sRegion ?_
    refine sMove (.bool true) S (wN rfl) (.inr rfl) rfl rfl (lb rfl) fun a S => ?_
    refine leafL (leafT (hK40 _ _ ?_))
    obtain rfl := Option.some.inj h
    exact wp_ret (sRet (.bool true) S (rsl1 rfl (rvT (t := 4) (v := .bool true) S rfl)) ⟨(), rfl, S.mem.sel [] [] (by decide) rfl rfl⟩)
  refine sSeq (fun K12 hK12 => ?_)
  refine sRegion ?_
  refine sMove (iv 0) S (wN rfl) (.inr rfl) rfl rfl (lb rfl) fun a S => ?_
  refine leafL (leafT (hK12 _ _ ?_))
  refine wp_block ?_
  obtain ⟨t16, hl, g15⟩ := bindSome h
  refine sLoop hl (fun s0 a w => match s0 with | s13 => St [] E [] w0 26 a w [(0, .slice ad1 p0.length cp2), (1, .slice ad3 p1.length cp4), (5, iv s13)] [] [fRep (rL r_api_Stitch) (.slice ad1 p0.length cp2) p0, fRep (rL r_api_Stitch) (.slice ad3 p1.length cp4) p1]) (S.fix [] [0, 1] (by decide) rfl rfl rfl) ?_
  clear hl h
  intro s13 a w c0 hI h hu14
  unfold raddleref25_Same_l1 at h
  dsimp only at h hI
  have S := hI
  refine sSeq (fun K17 hK17 => ?_)
  refine sSeq (fun K18 hK18 => ?_)
  refine sRegion ?_
  refine sMove (iv s13) S (wN rfl) (.inl rfl) rfl rfl (lb rfl) fun a S => ?_
  refine sMove (.slice ad1 p0.length cp2) S (wN rfl) (.inl rfl) rfl rfl (lb rfl) fun a S => ?_
  refine sLen (ad := ad1) (m := p0.length) (c := cp2) S (wN rfl) rfl Try.underlying78 rfl rfl (lb rfl) fun a S => ?_
  refine sBin (.bool (decide (s13 < (p0.length : Int)))) S (wN rfl) rfl rfl rfl (bLt _ _ _ _ .i64 s13 (p0.length : Int)) rfl (lb rfl) fun a S => ?_
  refine leafL (leafT (hK18 _ _ ?_))
  rcases iteSome h with ⟨hc19, h⟩ | ⟨hc19, h⟩
  rotate_left
  · refine sCondF S rfl hc19 ?_
    obtain rfl := Option.some.inj h
    obtain rfl := hu14 _ rfl
    have h := g15
    clear g15
    try dsimp only at h
    exact wp_exit (xThen (xThen (xHit (leafT (⟨Option.some.inj h, S.fix [] [] (by decide) rfl rfl rfl⟩)))))
  refine sCondT S rfl hc19 ?_
  refine wp_skip (leafT (hK17 _ _ ?_))
  refine sSeq (fun K20 hK20 => ?_)
  refine wp_block ?_
  refine sSeq (fun K21 hK21 => ?_)
  obtain ⟨x22, hx23, h⟩ := bindSome h
  obtain ⟨x27, hx28, h⟩ := bindSome h
  obtain ⟨q32, hq33, S⟩ := pIdx (P := Try.prog) (r := r_api_Stitch) (v := .slice ad1 p0.length cp2) (xs := p0) (j := s13) 78 82 0 S Try.underlying78 rfl rfl hx23
  obtain ⟨u34, S⟩ := pLoad (r := r_api_Stitch) (q := q32) (x := x22) 0 S rfl
  obtain rfl : u34 = .agg #[.int .u8 x22.Kind, .bool x22.Purl, iv x22.A, iv x22.B] := S.mem.know (i := 1) (e := fRep r_api_Stitch (u34) x22) rfl
  obtain ⟨q35, hq36, S⟩ := pIdx (P := Try.prog) (r := r_api_Stitch) (v := .slice ad3 p1.length cp4) (xs := p1) (j := s13) 78 82 4 S Try.underlying78 rfl rfl hx28
  obtain ⟨u37, S⟩ := pLoad (r := r_api_Stitch) (q := q35) (x := x27) 0 S rfl
  obtain rfl : u37 = .agg #[.int .u8 x27.Kind, .bool x27.Purl, iv x27.A, iv x27.B] := S.mem.know (i := 1) (e := fRep r_api_Stitch (u37) x27) rfl
  refine sDraw (nf := []) (W := [(0, 17, .slice ad1 p0.length cp2), (1, 18, iv s13), (2, 19, q32), (3, 20, .agg #[.int .u8 x22.Kind, .bool x22.Purl, iv x22.A, iv x22.B]), (4, 21, .slice ad3 p1.length cp4), (5, 22, iv s13), (6, 23, q35), (7, 24, .agg #[.int .u8 x27.Kind, .bool x27.Purl, iv x27.A, iv x27.B]), (8, 25, .bool (!((x22.Kind == x27.Kind) && ((x22.Purl == x27.Purl) && ((x22.A == x27.A) && ((x22.B == x27.B) && true))))))]) rfl S ?_
  refine node_by (A := anc_raddleref25_Same_0) (nf := []) (Y := []) (W := [(0, 17, .slice ad1 p0.length cp2), (1, 18, iv s13), (2, 19, q32), (3, 20, .agg #[.int .u8 x22.Kind, .bool x22.Purl, iv x22.A, iv x22.B]), (4, 21, .slice ad3 p1.length cp4), (5, 22, iv s13), (6, 23, q35), (7, 24, .agg #[.int .u8 x27.Kind, .bool x27.Purl, iv x27.A, iv x27.B]), (8, 25, .bool (!((x22.Kind == x27.Kind) && ((x22.Purl == x27.Purl) && ((x22.A == x27.A) && ((x22.B == x27.B) && true))))))]) 9 (by kernel_rfl) (by kernel_rfl) (by kernel_rfl) (by kernel_rfl) (by kernel_rfl) [0, 1, 2, 3, 4, 5, 6, 7, 8] (by kernel_rfl) (by decide) (by decide) (aF 0 8 (by decide) ?_ (aF 1 7 (by decide) ?_ (aF 2 6 (by decide) ?_ (aF 3 5 (by decide) ?_ (aF 4 4 (by decide) ?_ (aF 5 3 (by decide) ?_ (aF 6 2 (by decide) ?_ (aF 7 1 (by decide) ?_ (aF 8 0 (by decide) ?_ (trivial)))))))))) [(0, .slice ad1 p0.length cp2), (1, .slice ad3 p1.length cp4), (5, iv s13), (25, .bool (!((x22.Kind == x27.Kind) && ((x22.Purl == x27.Purl) && ((x22.A == x27.A) && ((x22.B == x27.B) && true))))))] (fin_of [none, none, none, some 8] rfl (by kernel_rfl) (by kernel_rfl)) (fun _ a w S => ?_)
  · refine fI 17 (.slice ad1 p0.length cp2) [(0, .slice ad1 p0.length cp2)] 0 [none] rfl rfl rfl rfl rfl rfl fun G a w S => ?_
    refine sMove (.slice ad1 p0.length cp2) S (wN rfl) (.inl rfl) rfl rfl (lb rfl) fun a S => ?_
    exact leafL ⟨rfl, S⟩
  · refine fI 18 (iv s13) [(5, iv s13)] 1 [none] rfl rfl rfl rfl rfl rfl fun G a w S => ?_
    refine sMove (iv s13) S (wN rfl) (.inl rfl) rfl rfl (lb rfl) fun a S => ?_
    exact leafL ⟨rfl, S⟩
  · refine fI 19 q32 [(17, .slice ad1 p0.length cp2), (18, iv s13)] 2 [some 0, some 1] rfl rfl rfl rfl rfl rfl fun G a w S => ?_
    refine sIdxV (v := .slice ad1 p0.length cp2) (k := .i64) (j := s13) S (wN rfl) rfl rfl rfl hq33 rfl (lb rfl) fun a S => ?_
    exact leafL ⟨rfl, S⟩
  · refine fI 20 (.agg #[.int .u8 x22.Kind, .bool x22.Purl, iv x22.A, iv x22.B]) [(19, q32)] 3 [some 2] rfl rfl rfl rfl rfl rfl fun G a w S => ?_
    refine sLoadVN (vq := q32) 3 [.int .u8 x22.Kind, .bool x22.Purl, iv x22.A, iv x22.B] S (wN rfl) rfl rfl rfl rfl rfl rfl (lb rfl) fun a S => ?_
    exact leafL ⟨rfl, S⟩
  · refine fI 21 (.slice ad3 p1.length cp4) [(1, .slice ad3 p1.length cp4)] 4 [none] rfl rfl rfl rfl rfl rfl fun G a w S => ?_
    refine sMove (.slice ad3 p1.length cp4) S (wN rfl) (.inl rfl) rfl rfl (lb rfl) fun a S => ?_
    exact leafL ⟨rfl, S⟩
  · refine fI 22 (iv s13) [(5, iv s13)] 5 [none] rfl rfl rfl rfl rfl rfl fun G a w S => ?_
    refine sMove (iv s13) S (wN rfl) (.inl rfl) rfl rfl (lb rfl) fun a S => ?_
    exact leafL ⟨rfl, S⟩
  · refine fI 23 q35 [(21, .slice ad3 p1.length cp4), (22, iv s13)] 6 [some 4, some 5] rfl rfl rfl rfl rfl rfl fun G a w S => ?_
    refine sIdxV (v := .slice ad3 p1.length cp4) (k := .i64) (j := s13) S (wN rfl) rfl rfl rfl hq36 rfl (lb rfl) fun a S => ?_
    exact leafL ⟨rfl, S⟩
  · refine fI 24 (.agg #[.int .u8 x27.Kind, .bool x27.Purl, iv x27.A, iv x27.B]) [(23, q35)] 7 [some 6] rfl rfl rfl rfl rfl rfl fun G a w S => ?_
    refine sLoadVN (vq := q35) 0 [.int .u8 x27.Kind, .bool x27.Purl, iv x27.A, iv x27.B] S (wN rfl) rfl rfl rfl rfl rfl rfl (lb rfl) fun a S => ?_
    exact leafL ⟨rfl, S⟩
  · refine fI 25 (.bool (!((x22.Kind == x27.Kind) && ((x22.Purl == x27.Purl) && ((x22.A == x27.A) && ((x22.B == x27.B) && true)))))) [(20, .agg #[.int .u8 x22.Kind, .bool x22.Purl, iv x22.A, iv x22.B]), (24, .agg #[.int .u8 x27.Kind, .bool x27.Purl, iv x27.A, iv x27.B])] 8 [some 3, some 7] rfl rfl rfl rfl rfl rfl fun G a w S => ?_
    refine sBin (.bool (!((x22.Kind == x27.Kind) && ((x22.Purl == x27.Purl) && ((x22.A == x27.A) && ((x22.B == x27.B) && true)))))) S (wN rfl) rfl rfl rfl (bNeV _ _ _ _ #[.int .u8 x22.Kind, .bool x22.Purl, iv x22.A, iv x22.B] #[.int .u8 x27.Kind, .bool x27.Purl, iv x27.A, iv x27.B] ((x22.Kind == x27.Kind) && ((x22.Purl == x27.Purl) && ((x22.A == x27.A) && ((x22.B == x27.B) && true)))) (by kernel_rfl) (eqlV_of (by kernel_rfl))) rfl (lb rfl) fun a S => ?_
    exact leafL ⟨rfl, S⟩
  refine leafT (hK21 _ _ ?_)
  rcases iteSome h with ⟨hc38, h⟩ | ⟨hc38, h⟩
  rotate_left
  · refine sCondF S rfl hc38 ?_
    refine wp_skip (leafB (leafT (hK20 _ _ ?_)))
    refine sRegion ?_
    refine sMove (iv s13) S (wN rfl) (.inl rfl) rfl rfl (lb rfl) fun a S => ?_
    refine sBin (iv (w64 (s13 + 1))) S (wN rfl) rfl rfl rfl (bAdd _ _ _ _ s13 1) rfl (lb rfl) fun a S => ?_
    refine sMove (iv (w64 (s13 + 1))) S (wN rfl) (.inr rfl) rfl rfl (lb rfl) fun a S => ?_
    exact leafL (leafT (⟨w64 (s13 + 1), (Option.some.inj h).symm, (S.fix [] [6, 7] (by decide) rfl rfl rfl)⟩))
  refine sCondT S rfl hc38 ?_
  refine sSeq (fun K39 hK39 => ?_)
  refine sRegion ?_
  refine sMove (.bool false) S (wN rfl) (.inr rfl) rfl rfl (lb rfl) fun a S => ?_
  refine leafL (leafT (hK39 _ _ ?_))
  obtain rfl := Option.some.inj h
  obtain rfl := hu14 _ rfl
  have h := g15
  clear g15
  try dsimp only at h
  obtain rfl := Option.some.inj h
  have h := g11
  clear g11
  try dsimp only at h
  obtain rfl := Option.some.inj h
  exact wp_ret (rBlock (rThen (rThen (rBlock (rThen (sRet (.bool false) S (rsl1 rfl (rvT (t := 4) (v := .bool false) S rfl)) ⟨(), rfl, S.mem.sel [] [] (by decide) rfl rfl⟩))))))

end Go.Proofs.Ytmedbnjhgkcndaa
namespace Go.Proofs.Ytmedbnjhgkcndaa
open Go.RowKit
set_option linter.unusedVariables false

def anc_raddleref37_SameChart_0 : List (List Nat) := [[], [0], [], [0, 1, 2], [0, 1, 2, 3], [0, 1, 2, 3, 4], [], [6], [], [6, 7, 8], [6, 7, 8, 9], [6, 7, 8, 9, 10], [0, 1, 2, 3, 4, 5, 6, 7, 8, 9, 10, 11], [0, 1, 2, 3, 4, 5, 6, 7, 8, 9, 10, 11, 12], [0, 1, 2, 3, 4, 5, 6, 7, 8, 9, 10, 11, 12, 13], [0, 1, 2, 3, 4, 5, 6, 7, 8, 9, 10, 11, 12, 13, 14], [0, 1, 2, 3, 4, 5, 6, 7, 8, 9, 10, 11, 12, 13], [0, 1, 2, 3, 4, 5, 6, 7, 8, 9, 10, 11, 12, 13, 14, 15, 16], [0, 1, 2, 3, 4, 5, 6, 7, 8, 9, 10, 11, 12, 13, 14, 15, 16, 17], [0, 1, 2, 3, 4, 5, 6, 7, 8, 9, 10, 11, 12, 13, 14, 15, 16, 17, 18], [0, 1, 2, 3, 4, 5, 6, 7, 8, 9, 10, 11, 12, 13], [0, 1, 2, 3, 4, 5, 6, 7, 8, 9, 10, 11, 12, 13, 20], [0, 1, 2, 3, 4, 5, 6, 7, 8, 9, 10, 11, 12, 13], [0, 1, 2, 3, 4, 5, 6, 7, 8, 9, 10, 11, 12, 13, 20, 21, 22], [0, 1, 2, 3, 4, 5, 6, 7, 8, 9, 10, 11, 12, 13, 20, 21, 22, 23], [0, 1, 2, 3, 4, 5, 6, 7, 8, 9, 10, 11, 12, 13, 20, 21, 22, 23, 24], [0, 1, 2, 3, 4, 5, 6, 7, 8, 9, 10, 11, 12, 13, 14, 15, 16, 17, 18, 19, 20, 21, 22, 23, 24, 25], [0, 1, 2, 3, 4, 5, 6, 7, 8, 9, 10, 11, 12, 13, 14, 15, 16, 17, 18, 19, 20, 21, 22, 23, 24, 25, 26], [0, 1, 2, 3, 4, 5, 6, 7, 8, 9, 10, 11, 12, 13, 14, 15, 16, 17, 18, 19, 20, 21, 22, 23, 24, 25, 26, 27]]
noncomputable def raddleref37_SameChart_l1 (p0 : api_Chart) (p1 : api_Chart) : Int → Option (Int ⊕ (Bool ⊕ Unit)) := fun s0 => match s0 with
  | s22 =>
    if decide (s22 < (p0.Rows.length : Int)) then
      Option.bind (α := Bool) (
        Option.bind (idxO p0.Rows s22) fun x33 =>
        Option.bind (idxO p1.Rows s22) fun x40 =>
        if x33.Back != x40.Back then
          some true
        else
          Option.bind (F_raddleref25_Same x33.Cells x40.Cells) fun r72 =>
          some (!r72)) fun o30 =>
      if o30 then
        some (.inr (.inl false))
      else
        some (.inl (w64 (s22 + 1)))
    else
      some (.inr (.inr ()))
noncomputable def F_raddleref37_SameChart (p0 : api_Chart) (p1 : api_Chart) : Option Bool :=
  Option.bind (α := Bool) (
    if p0.Start != p1.Start then
      some true
    else
      some ((p0.Rows.length : Int) != (p1.Rows.length : Int))) fun o13 =>
  if o13 then
    some false
  else
    Option.bind (α := Unit ⊕ Bool) (
      Option.bind (whileO (raddleref37_SameChart_l1 p0 p1) 0) fun z0 => match z0 with
        | .inl z =>
          some (.inr z)
        | .inr _ =>
          some (.inl ())) fun z0 => match z0 with
      | .inl _ =>
        some true
      | .inr z =>
        some z
set_option maxHeartbeats 4000000 in
set_option maxRecDepth 100000 in
theorem c_raddleref37_SameChart (E : Nat → Prop) (w0 : World) (p0 : api_Chart) (v0 : Value) (p1 : api_Chart) (v1 : Value) (r : Bool) (h : F_raddleref37_SameChart p0 p1 = some r) (S : St0 E [] w0 w0 [] [fRep r_api_Chart (v0) p0, fRep r_api_Chart (v1) p1]) :
    Calls Try.prog 26 #[v0, v1] w0 (Ret (X := Unit) E [] w0 (fun _ => .bool r) (fun _ => []) (fun _ => [])) := by
  unfold F_raddleref37_SameChart at h
  obtain ⟨u1, rfl, hu2⟩ := S.know (i := 0) (e := fRep r_api_Chart (v0) p0) rfl
  have S := S.learn (fRep (rL r_api_Row) u1 p0.Rows) hu2
  obtain ⟨ad3, cp4, _, rfl, _⟩ := hu2
  obtain ⟨u5, rfl, hu6⟩ := S.know (i := 2) (e := fRep r_api_Chart (v1) p1) rfl
  have S := S.learn (fRep (rL r_api_Row) u5 p1.Rows) hu6
  obtain ⟨ad7, cp8, _, rfl, _⟩ := hu6
  refine sEnter (args := [.agg #[iv p0.Start, .slice ad3 p0.Rows.length cp4], .agg #[iv p1.Start, .slice ad7 p1.Rows.length cp8]]) 56 Try.func26 rfl rfl (by simp) S (fun a S => ?_)
  refine sSeq (fun K9 hK9 => ?_)
  refine sRegion ?_
  refine sBox (v := .agg #[iv p0.Start, .slice ad3 p0.Rows.length cp4]) S (wN rfl) rfl rfl [iv p0.Start, .slice ad3 p0.Rows.length cp4] rfl rfl (lb rfl) fun a b10 w S => ?_
  refine sBox (v := .agg #[iv p1.Start, .slice ad7 p1.Rows.length cp8]) S (wN rfl) rfl rfl [iv p1.Start, .slice ad7 p1.Rows.length cp8] rfl rfl (lb rfl) fun a b11 w S => ?_
  refine sMove (.bool false) S (wN rfl) (.inr rfl) rfl rfl (lb rfl) fun a S => ?_
  refine leafL (leafT (hK9 _ _ ?_))
  refine sSeq (fun K12 hK12 => ?_)
  obtain ⟨t14, h, g15⟩ := bindSome h
  refine sCut (fun a w => ∃ o13, o13 = t14 ∧ St [] E [] w0 56 a w [(2, .pointer (some ⟨b10, 0, none⟩)), (3, .pointer (some ⟨b11, 0, none⟩)), (19, .bool o13)] [eBox b10 58 [iv p0.Start, .slice ad3 p0.Rows.length cp4], eBox b11 58 [iv p1.Start, .slice ad7 p1.Rows.length cp8]] [fRep (rL r_api_Row) (.slice ad3 p0.Rows.length cp4) p0.Rows, fRep (rL r_api_Row) (.slice ad7 p1.Rows.length cp8) p1.Rows]) ?_ (fun a w hI => ?_)
  · refine sRegion ?_
    refine sField (b := b10) (off := 0) 0 0 S (wN rfl) rfl rfl rfl rfl rfl (lb rfl) fun a S => ?_
    refine sLoad1 (p := b10) (off := 0) (T := 58) (vs := [iv p0.Start, .slice ad3 p0.Rows.length cp4]) 1 (iv p0.Start) S (wN rfl) rfl rfl rfl rfl rfl rfl (lb rfl) fun a S => ?_
    refine sField (b := b11) (off := 0) 0 0 S (wN rfl) rfl rfl rfl rfl rfl (lb rfl) fun a S => ?_
    refine sLoad1 (p := b11) (off := 0) (T := 58) (vs := [iv p1.Start, .slice ad7 p1.Rows.length cp8]) 0 (iv p1.Start) S (wN rfl) rfl rfl rfl rfl rfl rfl (lb rfl) fun a S => ?_
    refine sBin (.bool (p0.Start != p1.Start)) S (wN rfl) rfl rfl rfl (bNe _ _ _ _ .i64 p0.Start p1.Start) rfl (lb rfl) fun a S => ?_
    refine sMove (.bool (p0.Start != p1.Start)) S (wN rfl) (.inl rfl) rfl rfl (lb rfl) fun a S => ?_
    rcases iteSome h with ⟨hc16, h⟩ | ⟨hc16, h⟩
    · refine sSkip 5 false 11 12 S rfl rfl rfl hc16 rfl (lb rfl) fun a S => ?_
      refine sSkip 5 false 11 13 S rfl rfl rfl hc16 rfl (lb rfl) fun a S => ?_
      refine sSkip 5 false 11 14 S rfl rfl rfl hc16 rfl (lb rfl) fun a S => ?_
      refine sSkip 5 false 11 15 S rfl rfl rfl hc16 rfl (lb rfl) fun a S => ?_
      refine sSkip 5 false 11 16 S rfl rfl rfl hc16 rfl (lb rfl) fun a S => ?_
      refine sSkip 5 false 11 17 S rfl rfl rfl hc16 rfl (lb rfl) fun a S => ?_
      refine sSkip 5 false 11 18 S rfl rfl rfl hc16 rfl (lb rfl) fun a S => ?_
      refine sPickT (.bool true) S (wN rfl) rfl rfl hc16 rfl rfl (lb rfl) fun a S => ?_
      exact leafL (leafT (⟨true, Option.some.inj h, S.fix [1, 0] [1, 0] (by decide) rfl rfl rfl⟩))
    refine sField (b := b10) (off := 0) 1 1 S (wG 5 false 11 rfl rfl rfl hc16) rfl rfl rfl rfl rfl (lb rfl) fun a S => ?_
    refine sLoad1 (p := b10) (off := 1) (T := 58) (vs := [iv p0.Start, .slice ad3 p0.Rows.length cp4]) 1 (.slice ad3 p0.Rows.length cp4) S (wG 5 false 11 rfl rfl rfl hc16) rfl rfl rfl rfl rfl rfl (lb rfl) fun a S => ?_
    refine sLen (ad := ad3) (m := p0.Rows.length) (c := cp4) S (wG 5 false 11 rfl rfl rfl hc16) rfl Try.underlying56 rfl rfl (lb rfl) fun a S => ?_
    refine sField (b := b11) (off := 0) 1 1 S (wG 5 false 11 rfl rfl rfl hc16) rfl rfl rfl rfl rfl (lb rfl) fun a S => ?_
    refine sLoad1 (p := b11) (off := 1) (T := 58) (vs := [iv p1.Start, .slice ad7 p1.Rows.length cp8]) 0 (.slice ad7 p1.Rows.length cp8) S (wG 5 false 11 rfl rfl rfl hc16) rfl rfl rfl rfl rfl rfl (lb rfl) fun a S => ?_
    refine sLen (ad := ad7) (m := p1.Rows.length) (c := cp8) S (wG 5 false 11 rfl rfl rfl hc16) rfl Try.underlying56 rfl rfl (lb rfl) fun a S => ?_
    refine sBin (.bool ((p0.Rows.length : Int) != (p1.Rows.length : Int))) S (wG 5 false 11 rfl rfl rfl hc16) rfl rfl rfl (bNe _ _ _ _ .i64 (p0.Rows.length : Int) (p1.Rows.length : Int)) rfl (lb rfl) fun a S => ?_
    refine sPickF (.bool ((p0.Rows.length : Int) != (p1.Rows.length : Int))) S (wN rfl) rfl rfl hc16 rfl rfl (lb rfl) fun a S => ?_
    exact leafL (leafT (⟨(p0.Rows.length : Int) != (p1.Rows.length : Int), Option.some.inj h, S.fix [1, 0] [1, 0] (by decide) rfl rfl rfl⟩))
  obtain ⟨o13, rfl, S⟩ := hI
  have h := g15
  clear g15
  try dsimp only at h
  rcases iteSome h with ⟨hc17, h⟩ | ⟨hc17, h⟩
  · refine sCondT S rfl hc17 ?_
    refine sSeq (fun K18 hK18 => ?_)
    refine sRegion ?_
    refine sMove (.bool false) S (wN rfl) (.inr rfl) rfl rfl (lb rfl) fun a S => ?_
    refine leafL (leafT (hK18 _ _ ?_))
    obtain rfl := Option.some.inj h
    exact wp_ret (rThen (sRet (.bool false) S (rsl1 rfl (rvT (t := 4) (v := .bool false) S rfl)) ⟨(), rfl, S.mem.sel [] [] (by decide) rfl rfl⟩))
  refine sCondF S rfl hc17 ?_
  refine wp_skip (leafT (hK12 _ _ ?_))
  obtain ⟨t19, h, g20⟩ := bindSome h
  refine sCut (fun a w => .inl () = t19 ∧ St [] E [] w0 56 a w [] [] []) ?_ (fun a w hI => ?_)
  rotate_left
  · obtain ⟨rfl, S⟩ := hI
    have h := g20
    clear g20
    try dsimp only at h
    refine sSeq (fun K100 hK100 => ?_)
    refine sRegion ?_
    refine sMove (.bool true) S (wN rfl) (.inr rfl) rfl rfl (lb rfl) fun a S => ?_
    refine leafL (leafT (hK100 _ _ ?_))
    obtain rfl := Option.some.inj h
    exact wp_ret (sRet (.bool true) S (rsl1 rfl (rvT (t := 4) (v := .bool true) S rfl)) ⟨(), rfl, S.mem.sel [] [] (by decide) rfl rfl⟩)
  refine sSeq (fun K21 hK21 => ?_)
  refine sRegion ?_
  refine sMove (iv 0) S (wN rfl) (.inr rfl) rfl rfl (lb rfl) fun a S => ?_
  refine leafL (leafT (hK21 _ _ ?_))
  refine wp_block ?_
  obtain ⟨t25, hl, g24⟩ := bindSome h
  refine sLoop hl (fun s0 a w => match s0 with | s22 => St [] E [] w0 56 a w [(2, .pointer (some ⟨b10, 0, none⟩)), (3, .pointer (some ⟨b11, 0, none⟩)), (5, iv s22)] [eBox b10 58 [iv p0.Start, .slice ad3 p0.Rows.length cp4], eBox b11 58 [iv p1.Start, .slice ad7 p1.Rows.length cp8]] [fRep (rL r_api_Row) (.slice ad3 p0.Rows.length cp4) p0.Rows, fRep (rL r_api_Row) (.slice ad7 p1.Rows.length cp8) p1.Rows]) (S.fix [0, 1] [0, 1] (by decide) rfl rfl rfl) ?_
  clear hl h
  intro s22 a w c0 hI h hu23
  unfold raddleref37_SameChart_l1 at h
  dsimp only at h hI
  have S := hI
  refine sSeq (fun K26 hK26 => ?_)
  refine sSeq (fun K27 hK27 => ?_)
  refine sRegion ?_
  refine sMove (iv s22) S (wN rfl) (.inl rfl) rfl rfl (lb rfl) fun a S => ?_
  refine sField (b := b10) (off := 0) 1 1 S (wN rfl) rfl rfl rfl rfl rfl (lb rfl) fun a S => ?_
  refine sLoad1 (p := b10) (off := 1) (T := 58) (vs := [iv p0.Start, .slice ad3 p0.Rows.length cp4]) 0 (.slice ad3 p0.Rows.length cp4) S (wN rfl) rfl rfl rfl rfl rfl rfl (lb rfl) fun a S => ?_
  refine sLen (ad := ad3) (m := p0.Rows.length) (c := cp4) S (wN rfl) rfl Try.underlying56 rfl rfl (lb rfl) fun a S => ?_
  refine sBin (.bool (decide (s22 < (p0.Rows.length : Int)))) S (wN rfl) rfl rfl rfl (bLt _ _ _ _ .i64 s22 (p0.Rows.length : Int)) rfl (lb rfl) fun a S => ?_
  refine leafL (leafT (hK27 _ _ ?_))
  rcases iteSome h with ⟨hc28, h⟩ | ⟨hc28, h⟩
  rotate_left
  · refine sCondF S rfl hc28 ?_
    obtain rfl := Option.some.inj h
    obtain rfl := hu23 _ rfl
    have h := g24
    clear g24
    try dsimp only at h
    exact wp_exit (xThen (xThen (xHit (leafT (⟨Option.some.inj h, S.fix [] [] (by decide) rfl rfl rfl⟩)))))
  refine sCondT S rfl hc28 ?_
  refine wp_skip (leafT (hK26 _ _ ?_))
  refine sSeq (fun K29 hK29 => ?_)
  refine wp_block ?_
  obtain ⟨t31, h, g32⟩ := bindSome h
  refine sCut (fun a w => ∃ o30, o30 = t31 ∧ St [] E [] w0 56 a w [(2, .pointer (some ⟨b10, 0, none⟩)), (3, .pointer (some ⟨b11, 0, none⟩)), (5, iv s22), (55, .bool o30)] [eBox b10 58 [iv p0.Start, .slice ad3 p0.Rows.length cp4], eBox b11 58 [iv p1.Start, .slice ad7 p1.Rows.length cp8]] [fRep (rL r_api_Row) (.slice ad3 p0.Rows.length cp4) p0.Rows, fRep (rL r_api_Row) (.slice ad7 p1.Rows.length cp8) p1.Rows]) ?_ (fun a w hI => ?_)
  rotate_left
  · obtain ⟨o30, rfl, S⟩ := hI
    have h := g32
    clear g32
    try dsimp only at h
    rcases iteSome h with ⟨hc98, h⟩ | ⟨hc98, h⟩
    rotate_left
    · refine sCondF S rfl hc98 ?_
      refine wp_skip (leafB (leafT (hK29 _ _ ?_)))
      refine sRegion ?_
      refine sMove (iv s22) S (wN rfl) (.inl rfl) rfl rfl (lb rfl) fun a S => ?_
      refine sBin (iv (w64 (s22 + 1))) S (wN rfl) rfl rfl rfl (bAdd _ _ _ _ s22 1) rfl (lb rfl) fun a S => ?_
      refine sMove (iv (w64 (s22 + 1))) S (wN rfl) (.inr rfl) rfl rfl (lb rfl) fun a S => ?_
      exact leafL (leafT (⟨w64 (s22 + 1), (Option.some.inj h).symm, (S.fix [0, 1] [0, 1] (by decide) rfl rfl rfl)⟩))
    refine sCondT S rfl hc98 ?_
    refine sSeq (fun K99 hK99 => ?_)
    refine sRegion ?_
    refine sMove (.bool false) S (wN rfl) (.inr rfl) rfl rfl (lb rfl) fun a S => ?_
    refine leafL (leafT (hK99 _ _ ?_))
    obtain rfl := Option.some.inj h
    obtain rfl := hu23 _ rfl
    have h := g24
    clear g24
    try dsimp only at h
    obtain rfl := Option.some.inj h
    have h := g20
    clear g20
    try dsimp only at h
    obtain rfl := Option.some.inj h
    exact wp_ret (rBlock (rThen (rThen (rBlock (rThen (sRet (.bool false) S (rsl1 rfl (rvT (t := 4) (v := .bool false) S rfl)) ⟨(), rfl, S.mem.sel [] [] (by decide) rfl rfl⟩))))))
  obtain ⟨x33, hx34, h⟩ := bindSome h
  obtain ⟨x40, hx41, h⟩ := bindSome h
  rcases iteSome h with ⟨hc47, h⟩ | ⟨hc47, h⟩
  · obtain ⟨q48, hq49, S⟩ := pIdx (P := Try.prog) (r := r_api_Row) (v := .slice ad3 p0.Rows.length cp4) (xs := p0.Rows) (j := s22) 56 80 0 S Try.underlying56 rfl rfl hx34
    obtain ⟨q50, hq51, S⟩ := pFld (P := Try.prog) (r := r_api_Row) (s2 := rB) (g := (·.Back)) (q := q48) (z := x33) 80 0 0 0 S rfl rfl comp_api_Row_Back
    obtain ⟨u52, S⟩ := pLoad (r := rB) (q := q50) (x := x33.Back) 0 S rfl
    obtain rfl : u52 = .bool x33.Back := S.mem.know (i := 1) (e := fRep rB (u52) x33.Back) rfl
    obtain ⟨q53, hq54, S⟩ := pIdx (P := Try.prog) (r := r_api_Row) (v := .slice ad7 p1.Rows.length cp8) (xs := p1.Rows) (j := s22) 56 80 5 S Try.underlying56 rfl rfl hx41
    obtain ⟨q55, hq56, S⟩ := pFld (P := Try.prog) (r := r_api_Row) (s2 := rB) (g := (·.Back)) (q := q53) (z := x40) 80 0 0 0 S rfl rfl comp_api_Row_Back
    obtain ⟨u57, S⟩ := pLoad (r := rB) (q := q55) (x := x40.Back) 0 S rfl
    obtain rfl : u57 = .bool x40.Back := S.mem.know (i := 1) (e := fRep rB (u57) x40.Back) rfl
    refine sDraw (nf := []) (W := [(0, 27, .pointer (some ⟨b10, 1, none⟩)), (1, 28, .slice ad3 p0.Rows.length cp4), (2, 29, iv s22), (3, 30, q48), (4, 31, q50), (5, 32, .bool x33.Back), (6, 33, .pointer (some ⟨b11, 1, none⟩)), (7, 34, .slice ad7 p1.Rows.length cp8), (8, 35, iv s22), (9, 36, q53), (10, 37, q55), (11, 38, .bool x40.Back), (12, 39, .bool (x33.Back != x40.Back)), (13, 40, .bool (x33.Back != x40.Back)), (14, 41, undef), (15, 42, undef), (16, 43, undef), (17, 44, undef), (18, 45, undef), (19, 46, undef), (20, 47, undef), (21, 48, undef), (22, 49, undef), (23, 50, undef), (24, 51, undef), (25, 52, undef), (26, 53, undef), (27, 54, undef), (28, 55, .bool true)]) rfl S ?_
    refine node_by (A := anc_raddleref37_SameChart_0) (nf := []) (Y := []) (W := [(0, 27, .pointer (some ⟨b10, 1, none⟩)), (1, 28, .slice ad3 p0.Rows.length cp4), (2, 29, iv s22), (3, 30, q48), (4, 31, q50), (5, 32, .bool x33.Back), (6, 33, .pointer (some ⟨b11, 1, none⟩)), (7, 34, .slice ad7 p1.Rows.length cp8), (8, 35, iv s22), (9, 36, q53), (10, 37, q55), (11, 38, .bool x40.Back), (12, 39, .bool (x33.Back != x40.Back)), (13, 40, .bool (x33.Back != x40.Back)), (14, 41, undef), (15, 42, undef), (16, 43, undef), (17, 44, undef), (18, 45, undef), (19, 46, undef), (20, 47, undef), (21, 48, undef), (22, 49, undef), (23, 50, undef), (24, 51, undef), (25, 52, undef), (26, 53, undef), (27, 54, undef), (28, 55, .bool true)]) 29 (by kernel_rfl) (by kernel_rfl) (by kernel_rfl) (by kernel_rfl) (by kernel_rfl) [0, 1, 2, 3, 4, 5, 6, 7, 8, 9, 10, 11, 12, 13, 14, 15, 16, 17, 18, 19, 20, 21, 22, 23, 24, 25, 26, 27, 28] (by kernel_rfl) (by decide) (by decide) (aF 0 28 (by decide) ?_ (aF 1 27 (by decide) ?_ (aF 2 26 (by decide) ?_ (aF 3 25 (by decide) ?_ (aF 4 24 (by decide) ?_ (aF 5 23 (by decide) ?_ (aF 6 22 (by decide) ?_ (aF 7 21 (by decide) ?_ (aF 8 20 (by decide) ?_ (aF 9 19 (by decide) ?_ (aF 10 18 (by decide) ?_ (aF 11 17 (by decide) ?_ (aF 12 16 (by decide) ?_ (aF 13 15 (by decide) ?_ (aF 14 14 (by decide) ?_ (aF 15 13 (by decide) ?_ (aF 16 12 (by decide) ?_ (aF 17 11 (by decide) ?_ (aF 18 10 (by decide) ?_ (aF 19 9 (by decide) ?_ (aF 20 8 (by decide) ?_ (aF 21 7 (by decide) ?_ (aF 22 6 (by decide) ?_ (aF 23 5 (by decide) ?_ (aF 24 4 (by decide) ?_ (aF 25 3 (by decide) ?_ (aF 26 2 (by decide) ?_ (aF 27 1 (by decide) ?_ (aF 28 0 (by decide) ?_ (trivial)))))))))))))))))))))))))))))) [(2, .pointer (some ⟨b10, 0, none⟩)), (3, .pointer (some ⟨b11, 0, none⟩)), (5, iv s22), (41, undef), (42, undef), (43, undef), (44, undef), (45, undef), (46, undef), (47, undef), (48, undef), (49, undef), (50, undef), (51, undef), (52, undef), (53, undef), (54, undef), (55, .bool true)] (fin_of [none, none, none, some 14, some 15, some 16, some 17, some 18, some 19, some 20, some 21, some 22, some 23, some 24, some 25, some 26, some 27, some 28] rfl (by kernel_rfl) (by kernel_rfl)) (fun _ a w S => ?_)
    · refine fI 27 (.pointer (some ⟨b10, 1, none⟩)) [(2, .pointer (some ⟨b10, 0, none⟩))] 0 [none] rfl rfl rfl rfl rfl rfl fun G a w S => ?_
      refine sField (b := b10) (off := 0) 1 1 S (wN rfl) rfl rfl rfl rfl rfl (lb rfl) fun a S => ?_
      exact leafL ⟨rfl, S⟩
    · refine fI 28 (.slice ad3 p0.Rows.length cp4) [(27, .pointer (some ⟨b10, 1, none⟩))] 1 [some 0] rfl rfl rfl rfl rfl rfl fun G a w S => ?_
      refine sLoad1 (p := b10) (off := 1) (T := 58) (vs := [iv p0.Start, .slice ad3 p0.Rows.length cp4]) 0 (.slice ad3 p0.Rows.length cp4) S (wN rfl) rfl rfl rfl rfl rfl rfl (lb rfl) fun a S => ?_
      exact leafL ⟨rfl, S⟩
    · refine fI 29 (iv s22) [(5, iv s22)] 2 [none] rfl rfl rfl rfl rfl rfl fun G a w S => ?_
      refine sMove (iv s22) S (wN rfl) (.inl rfl) rfl rfl (lb rfl) fun a S => ?_
      exact leafL ⟨rfl, S⟩
    · refine fI 30 q48 [(28, .slice ad3 p0.Rows.length cp4), (29, iv s22)] 3 [some 1, some 2] rfl rfl rfl rfl rfl rfl fun G a w S => ?_
      refine sIdxV (v := .slice ad3 p0.Rows.length cp4) (k := .i64) (j := s22) S (wN rfl) rfl rfl rfl hq49 rfl (lb rfl) fun a S => ?_
      exact leafL ⟨rfl, S⟩
    · refine fI 31 q50 [(30, q48)] 4 [some 3] rfl rfl rfl rfl rfl rfl fun G a w S => ?_
      refine sFldV (q := q48) S (wN rfl) rfl rfl hq51 rfl (lb rfl) fun a S => ?_
      exact leafL ⟨rfl, S⟩
    · refine fI 32 (.bool x33.Back) [(31, q50)] 5 [some 4] rfl rfl rfl rfl rfl rfl fun G a w S => ?_
      refine sLoadV1 (vq := q50) 4 (.bool x33.Back) S (wN rfl) rfl rfl rfl rfl rfl (lb rfl) fun a S => ?_
      exact leafL ⟨rfl, S⟩
    · refine fI 33 (.pointer (some ⟨b11, 1, none⟩)) [(3, .pointer (some ⟨b11, 0, none⟩))] 6 [none] rfl rfl rfl rfl rfl rfl fun G a w S => ?_
      refine sField (b := b11) (off := 0) 1 1 S (wN rfl) rfl rfl rfl rfl rfl (lb rfl) fun a S => ?_
      exact leafL ⟨rfl, S⟩
    · refine fI 34 (.slice ad7 p1.Rows.length cp8) [(33, .pointer (some ⟨b11, 1, none⟩))] 7 [some 6] rfl rfl rfl rfl rfl rfl fun G a w S => ?_
      refine sLoad1 (p := b11) (off := 1) (T := 58) (vs := [iv p1.Start, .slice ad7 p1.Rows.length cp8]) 1 (.slice ad7 p1.Rows.length cp8) S (wN rfl) rfl rfl rfl rfl rfl rfl (lb rfl) fun a S => ?_
      exact leafL ⟨rfl, S⟩
    · refine fI 35 (iv s22) [(5, iv s22)] 8 [none] rfl rfl rfl rfl rfl rfl fun G a w S => ?_
      refine sMove (iv s22) S (wN rfl) (.inl rfl) rfl rfl (lb rfl) fun a S => ?_
      exact leafL ⟨rfl, S⟩
    · refine fI 36 q53 [(34, .slice ad7 p1.Rows.length cp8), (35, iv s22)] 9 [some 7, some 8] rfl rfl rfl rfl rfl rfl fun G a w S => ?_
      refine sIdxV (v := .slice ad7 p1.Rows.length cp8) (k := .i64) (j := s22) S (wN rfl) rfl rfl rfl hq54 rfl (lb rfl) fun a S => ?_
      exact leafL ⟨rfl, S⟩
    · refine fI 37 q55 [(36, q53)] 10 [some 9] rfl rfl rfl rfl rfl rfl fun G a w S => ?_
      refine sFldV (q := q53) S (wN rfl) rfl rfl hq56 rfl (lb rfl) fun a S => ?_
      exact leafL ⟨rfl, S⟩
    · refine fI 38 (.bool x40.Back) [(37, q55)] 11 [some 10] rfl rfl rfl rfl rfl rfl fun G a w S => ?_
      refine sLoadV1 (vq := q55) 0 (.bool x40.Back) S (wN rfl) rfl rfl rfl rfl rfl (lb rfl) fun a S => ?_
      exact leafL ⟨rfl, S⟩
    · refine fI 39 (.bool (x33.Back != x40.Back)) [(32, .bool x33.Back), (38, .bool x40.Back)] 12 [some 5, some 11] rfl rfl rfl rfl rfl rfl fun G a w S => ?_
      refine sBin (.bool (x33.Back != x40.Back)) S (wN rfl) rfl rfl rfl (bNeB _ _ _ _ Try.underlying4 x33.Back x40.Back) rfl (lb rfl) fun a S => ?_
      exact leafL ⟨rfl, S⟩
    · refine fI 40 (.bool (x33.Back != x40.Back)) [(39, .bool (x33.Back != x40.Back))] 13 [some 12] rfl rfl rfl rfl rfl rfl fun G a w S => ?_
      refine sMove (.bool (x33.Back != x40.Back)) S (wN rfl) (.inl rfl) rfl rfl (lb rfl) fun a S => ?_
      exact leafL ⟨rfl, S⟩
    · refine fI 41 undef [(2, .pointer (some ⟨b10, 0, none⟩)), (40, .bool (x33.Back != x40.Back))] 14 [none, some 13] rfl rfl rfl rfl rfl rfl fun G a w S => ?_
      refine sSkip 13 false 40 41 S rfl rfl rfl hc47 rfl (lb rfl) fun a S => ?_
      exact leafL ⟨rfl, S⟩
    · refine fI 42 undef [(41, undef), (40, .bool (x33.Back != x40.Back))] 15 [some 14, some 13] rfl rfl rfl rfl rfl rfl fun G a w S => ?_
      refine sSkip 13 false 40 42 S rfl rfl rfl hc47 rfl (lb rfl) fun a S => ?_
      exact leafL ⟨rfl, S⟩
    · refine fI 43 undef [(5, iv s22), (40, .bool (x33.Back != x40.Back))] 16 [none, some 13] rfl rfl rfl rfl rfl rfl fun G a w S => ?_
      refine sSkip 13 false 40 43 S rfl rfl rfl hc47 rfl (lb rfl) fun a S => ?_
      exact leafL ⟨rfl, S⟩
    · refine fI 44 undef [(42, undef), (43, undef), (40, .bool (x33.Back != x40.Back))] 17 [some 15, some 16, some 13] rfl rfl rfl rfl rfl rfl fun G a w S => ?_
      refine sSkip 13 false 40 44 S rfl rfl rfl hc47 rfl (lb rfl) fun a S => ?_
      exact leafL ⟨rfl, S⟩
    · refine fI 45 undef [(44, undef), (40, .bool (x33.Back != x40.Back))] 18 [some 17, some 13] rfl rfl rfl rfl rfl rfl fun G a w S => ?_
      refine sSkip 13 false 40 45 S rfl rfl rfl hc47 rfl (lb rfl) fun a S => ?_
      exact leafL ⟨rfl, S⟩
    · refine fI 46 undef [(45, undef), (40, .bool (x33.Back != x40.Back))] 19 [some 18, some 13] rfl rfl rfl rfl rfl rfl fun G a w S => ?_
      refine sSkip 13 false 40 46 S rfl rfl rfl hc47 rfl (lb rfl) fun a S => ?_
      exact leafL ⟨rfl, S⟩
    · refine fI 47 undef [(3, .pointer (some ⟨b11, 0, none⟩)), (40, .bool (x33.Back != x40.Back))] 20 [none, some 13] rfl rfl rfl rfl rfl rfl fun G a w S => ?_
      refine sSkip 13 false 40 47 S rfl rfl rfl hc47 rfl (lb rfl) fun a S => ?_
      exact leafL ⟨rfl, S⟩
    · refine fI 48 undef [(47, undef), (40, .bool (x33.Back != x40.Back))] 21 [some 20, some 13] rfl rfl rfl rfl rfl rfl fun G a w S => ?_
      refine sSkip 13 false 40 48 S rfl rfl rfl hc47 rfl (lb rfl) fun a S => ?_
      exact leafL ⟨rfl, S⟩
    · refine fI 49 undef [(5, iv s22), (40, .bool (x33.Back != x40.Back))] 22 [none, some 13] rfl rfl rfl rfl rfl rfl fun G a w S => ?_
      refine sSkip 13 false 40 49 S rfl rfl rfl hc47 rfl (lb rfl) fun a S => ?_
      exact leafL ⟨rfl, S⟩
    · refine fI 50 undef [(48, undef), (49, undef), (40, .bool (x33.Back != x40.Back))] 23 [some 21, some 22, some 13] rfl rfl rfl rfl rfl rfl fun G a w S => ?_
      refine sSkip 13 false 40 50 S rfl rfl rfl hc47 rfl (lb rfl) fun a S => ?_
      exact leafL ⟨rfl, S⟩
    · refine fI 51 undef [(50, undef), (40, .bool (x33.Back != x40.Back))] 24 [some 23, some 13] rfl rfl rfl rfl rfl rfl fun G a w S => ?_
      refine sSkip 13 false 40 51 S rfl rfl rfl hc47 rfl (lb rfl) fun a S => ?_
      exact leafL ⟨rfl, S⟩
    · refine fI 52 undef [(51, undef), (40, .bool (x33.Back != x40.Back))] 25 [some 24, some 13] rfl rfl rfl rfl rfl rfl fun G a w S => ?_
      refine sSkip 13 false 40 52 S rfl rfl rfl hc47 rfl (lb rfl) fun a S => ?_
      exact leafL ⟨rfl, S⟩
    · refine fI 53 undef [(46, undef), (52, undef), (40, .bool (x33.Back != x40.Back))] 26 [some 19, some 25, some 13] rfl rfl rfl rfl rfl rfl fun G a w S => ?_
      refine sSkip 13 false 40 53 S rfl rfl rfl hc47 rfl (lb rfl) fun a S => ?_
      exact leafL ⟨rfl, S⟩
    · refine fI 54 undef [(53, undef), (40, .bool (x33.Back != x40.Back))] 27 [some 26, some 13] rfl rfl rfl rfl rfl rfl fun G a w S => ?_
      refine sSkip 13 false 40 54 S rfl rfl rfl hc47 rfl (lb rfl) fun a S => ?_
      exact leafL ⟨rfl, S⟩
    · refine fI 55 (.bool true) [(40, .bool (x33.Back != x40.Back)), (54, undef)] 28 [some 13, some 27] rfl rfl rfl rfl rfl rfl fun G a w S => ?_
      refine sPickT (.bool true) S (wN rfl) rfl rfl hc47 rfl rfl (lb rfl) fun a S => ?_
      exact leafL ⟨rfl, S⟩
    exact leafT (⟨true, Option.some.inj h, S.fix [0, 1] [8, 9] (by decide) rfl rfl rfl⟩)
  obtain ⟨r72, hx73, h⟩ := bindSome h
  obtain ⟨q74, hq75, S⟩ := pIdx (P := Try.prog) (r := r_api_Row) (v := .slice ad3 p0.Rows.length cp4) (xs := p0.Rows) (j := s22) 56 80 0 S Try.underlying56 rfl rfl hx34
  obtain ⟨q76, hq77, S⟩ := pFld (P := Try.prog) (r := r_api_Row) (s2 := rB) (g := (·.Back)) (q := q74) (z := x33) 80 0 0 0 S rfl rfl comp_api_Row_Back
  obtain ⟨u78, S⟩ := pLoad (r := rB) (q := q76) (x := x33.Back) 0 S rfl
  obtain rfl : u78 = .bool x33.Back := S.mem.know (i := 1) (e := fRep rB (u78) x33.Back) rfl
  obtain ⟨q79, hq80, S⟩ := pIdx (P := Try.prog) (r := r_api_Row) (v := .slice ad7 p1.Rows.length cp8) (xs := p1.Rows) (j := s22) 56 80 5 S Try.underlying56 rfl rfl hx41
  obtain ⟨q81, hq82, S⟩ := pFld (P := Try.prog) (r := r_api_Row) (s2 := rB) (g := (·.Back)) (q := q79) (z := x40) 80 0 0 0 S rfl rfl comp_api_Row_Back
  obtain ⟨u83, S⟩ := pLoad (r := rB) (q := q81) (x := x40.Back) 0 S rfl
  obtain rfl : u83 = .bool x40.Back := S.mem.know (i := 1) (e := fRep rB (u83) x40.Back) rfl
  obtain ⟨q84, hq85, S⟩ := pIdx (P := Try.prog) (r := r_api_Row) (v := .slice ad3 p0.Rows.length cp4) (xs := p0.Rows) (j := s22) 56 80 8 S Try.underlying56 rfl rfl hx34
  obtain ⟨q86, hq87, S⟩ := pFld (P := Try.prog) (r := r_api_Row) (s2 := (rL r_api_Stitch)) (g := (·.Cells)) (q := q84) (z := x33) 80 1 0 1 S rfl rfl comp_api_Row_Cells
  obtain ⟨u88, S⟩ := pLoad (r := (rL r_api_Stitch)) (q := q86) (x := x33.Cells) 0 S rfl
  obtain ⟨ad89, cp90, _, rfl, _⟩ := S.mem.know (i := 1) (e := fRep (rL r_api_Stitch) (u88) x33.Cells) rfl
  obtain ⟨q91, hq92, S⟩ := pIdx (P := Try.prog) (r := r_api_Row) (v := .slice ad7 p1.Rows.length cp8) (xs := p1.Rows) (j := s22) 56 80 13 S Try.underlying56 rfl rfl hx41
  obtain ⟨q93, hq94, S⟩ := pFld (P := Try.prog) (r := r_api_Row) (s2 := (rL r_api_Stitch)) (g := (·.Cells)) (q := q91) (z := x40) 80 1 0 1 S rfl rfl comp_api_Row_Cells
  obtain ⟨u95, S⟩ := pLoad (r := (rL r_api_Stitch)) (q := q93) (x := x40.Cells) 0 S rfl
  obtain ⟨ad96, cp97, _, rfl, _⟩ := S.mem.know (i := 1) (e := fRep (rL r_api_Stitch) (u95) x40.Cells) rfl
  refine sDraw (nf := []) (W := [(0, 27, .pointer (some ⟨b10, 1, none⟩)), (1, 28, .slice ad3 p0.Rows.length cp4), (2, 29, iv s22), (3, 30, q74), (4, 31, q76), (5, 32, .bool x33.Back), (6, 33, .pointer (some ⟨b11, 1, none⟩)), (7, 34, .slice ad7 p1.Rows.length cp8), (8, 35, iv s22), (9, 36, q79), (10, 37, q81), (11, 38, .bool x40.Back), (12, 39, .bool (x33.Back != x40.Back)), (13, 40, .bool (x33.Back != x40.Back)), (14, 41, .pointer (some ⟨b10, 1, none⟩)), (15, 42, .slice ad3 p0.Rows.length cp4), (16, 43, iv s22), (17, 44, q84), (18, 45, q86), (19, 46, .slice ad89 x33.Cells.length cp90), (20, 47, .pointer (some ⟨b11, 1, none⟩)), (21, 48, .slice ad7 p1.Rows.length cp8), (22, 49, iv s22), (23, 50, q91), (24, 51, q93), (25, 52, .slice ad96 x40.Cells.length cp97), (26, 53, .bool r72), (27, 54, .bool (!r72)), (28, 55, .bool (!r72))]) rfl S ?_
  refine node_by (A := anc_raddleref37_SameChart_0) (nf := []) (Y := []) (W := [(0, 27, .pointer (some ⟨b10, 1, none⟩)), (1, 28, .slice ad3 p0.Rows.length cp4), (2, 29, iv s22), (3, 30, q74), (4, 31, q76), (5, 32, .bool x33.Back), (6, 33, .pointer (some ⟨b11, 1, none⟩)), (7, 34, .slice ad7 p1.Rows.length cp8), (8, 35, iv s22), (9, 36, q79), (10, 37, q81), (11, 38, .bool x40.Back), (12, 39, .bool (x33.Back != x40.Back)), (13, 40, .bool (x33.Back != x40.Back)), (14, 41, .pointer (some ⟨b10, 1, none⟩)), (15, 42, .slice ad3 p0.Rows.length cp4), (16, 43, iv s22), (17, 44, q84), (18, 45, q86), (19, 46, .slice ad89 x33.Cells.length cp90), (20, 47, .pointer (some ⟨b11, 1, none⟩)), (21, 48, .slice ad7 p1.Rows.length cp8), (22, 49, iv s22), (23, 50, q91), (24, 51, q93), (25, 52, .slice ad96 x40.Cells.length cp97), (26, 53, .bool r72), (27, 54, .bool (!r72)), (28, 55, .bool (!r72))]) 29 (by kernel_rfl) (by kernel_rfl) (by kernel_rfl) (by kernel_rfl) (by kernel_rfl) [0, 1, 2, 3, 4, 5, 6, 7, 8, 9, 10, 11, 12, 13, 14, 15, 16, 17, 18, 19, 20, 21, 22, 23, 24, 25, 26, 27, 28] (by kernel_rfl) (by decide) (by decide) (aF 0 28 (by decide) ?_ (aF 1 27 (by decide) ?_ (aF 2 26 (by decide) ?_ (aF 3 25 (by decide) ?_ (aF 4 24 (by decide) ?_ (aF 5 23 (by decide) ?_ (aF 6 22 (by decide) ?_ (aF 7 21 (by decide) ?_ (aF 8 20 (by decide) ?_ (aF 9 19 (by decide) ?_ (aF 10 18 (by decide) ?_ (aF 11 17 (by decide) ?_ (aF 12 16 (by decide) ?_ (aF 13 15 (by decide) ?_ (aF 14 14 (by decide) ?_ (aF 15 13 (by decide) ?_ (aF 16 12 (by decide) ?_ (aF 17 11 (by decide) ?_ (aF 18 10 (by decide) ?_ (aF 19 9 (by decide) ?_ (aF 20 8 (by decide) ?_ (aF 21 7 (by decide) ?_ (aF 22 6 (by decide) ?_ (aF 23 5 (by decide) ?_ (aF 24 4 (by decide) ?_ (aF 25 3 (by decide) ?_ (aF 26 2 (by decide) ?_ (aF 27 1 (by decide) ?_ (aF 28 0 (by decide) ?_ (trivial)))))))))))))))))))))))))))))) [(2, .pointer (some ⟨b10, 0, none⟩)), (3, .pointer (some ⟨b11, 0, none⟩)), (5, iv s22), (41, .pointer (some ⟨b10, 1, none⟩)), (42, .slice ad3 p0.Rows.length cp4), (43, iv s22), (44, q84), (45, q86), (46, .slice ad89 x33.Cells.length cp90), (47, .pointer (some ⟨b11, 1, none⟩)), (48, .slice ad7 p1.Rows.length cp8), (49, iv s22), (50, q91), (51, q93), (52, .slice ad96 x40.Cells.length cp97), (53, .bool r72), (54, .bool (!r72)), (55, .bool (!r72))] (fin_of [none, none, none, some 14, some 15, some 16, some 17, some 18, some 19, some 20, some 21, some 22, some 23, some 24, some 25, some 26, some 27, some 28] rfl (by kernel_rfl) (by kernel_rfl)) (fun _ a w S => ?_)
  · refine fI 27 (.pointer (some ⟨b10, 1, none⟩)) [(2, .pointer (some ⟨b10, 0, none⟩))] 0 [none] rfl rfl rfl rfl rfl rfl fun G a w S => ?_
    refine sField (b := b10) (off := 0) 1 1 S (wN rfl) rfl rfl rfl rfl rfl (lb rfl) fun a S => ?_
    exact leafL ⟨rfl, S⟩
  · refine fI 28 (.slice ad3 p0.Rows.length cp4) [(27, .pointer (some ⟨b10, 1, none⟩))] 1 [some 0] rfl rfl rfl rfl rfl rfl fun G a w S => ?_
    refine sLoad1 (p := b10) (off := 1) (T := 58) (vs := [iv p0.Start, .slice ad3 p0.Rows.length cp4]) 0 (.slice ad3 p0.Rows.length cp4) S (wN rfl) rfl rfl rfl rfl rfl rfl (lb rfl) fun a S => ?_
    exact leafL ⟨rfl, S⟩
  · refine fI 29 (iv s22) [(5, iv s22)] 2 [none] rfl rfl rfl rfl rfl rfl fun G a w S => ?_
    refine sMove (iv s22) S (wN rfl) (.inl rfl) rfl rfl (lb rfl) fun a S => ?_
    exact leafL ⟨rfl, S⟩
  · refine fI 30 q74 [(28, .slice ad3 p0.Rows.length cp4), (29, iv s22)] 3 [some 1, some 2] rfl rfl rfl rfl rfl rfl fun G a w S => ?_
    refine sIdxV (v := .slice ad3 p0.Rows.length cp4) (k := .i64) (j := s22) S (wN rfl) rfl rfl rfl hq75 rfl (lb rfl) fun a S => ?_
    exact leafL ⟨rfl, S⟩
  · refine fI 31 q76 [(30, q74)] 4 [some 3] rfl rfl rfl rfl rfl rfl fun G a w S => ?_
    refine sFldV (q := q74) S (wN rfl) rfl rfl hq77 rfl (lb rfl) fun a S => ?_
    exact leafL ⟨rfl, S⟩
  · refine fI 32 (.bool x33.Back) [(31, q76)] 5 [some 4] rfl rfl rfl rfl rfl rfl fun G a w S => ?_
    refine sLoadV1 (vq := q76) 12 (.bool x33.Back) S (wN rfl) rfl rfl rfl rfl rfl (lb rfl) fun a S => ?_
    exact leafL ⟨rfl, S⟩
  · refine fI 33 (.pointer (some ⟨b11, 1, none⟩)) [(3, .pointer (some ⟨b11, 0, none⟩))] 6 [none] rfl rfl rfl rfl rfl rfl fun G a w S => ?_
    refine sField (b := b11) (off := 0) 1 1 S (wN rfl) rfl rfl rfl rfl rfl (lb rfl) fun a S => ?_
    exact leafL ⟨rfl, S⟩
  · refine fI 34 (.slice ad7 p1.Rows.length cp8) [(33, .pointer (some ⟨b11, 1, none⟩))] 7 [some 6] rfl rfl rfl rfl rfl rfl fun G a w S => ?_
    refine sLoad1 (p := b11) (off := 1) (T := 58) (vs := [iv p1.Start, .slice ad7 p1.Rows.length cp8]) 1 (.slice ad7 p1.Rows.length cp8) S (wN rfl) rfl rfl rfl rfl rfl rfl (lb rfl) fun a S => ?_
    exact leafL ⟨rfl, S⟩
  · refine fI 35 (iv s22) [(5, iv s22)] 8 [none] rfl rfl rfl rfl rfl rfl fun G a w S => ?_
    refine sMove (iv s22) S (wN rfl) (.inl rfl) rfl rfl (lb rfl) fun a S => ?_
    exact leafL ⟨rfl, S⟩
  · refine fI 36 q79 [(34, .slice ad7 p1.Rows.length cp8), (35, iv s22)] 9 [some 7, some 8] rfl rfl rfl rfl rfl rfl fun G a w S => ?_
    refine sIdxV (v := .slice ad7 p1.Rows.length cp8) (k := .i64) (j := s22) S (wN rfl) rfl rfl rfl hq80 rfl (lb rfl) fun a S => ?_
    exact leafL ⟨rfl, S⟩
  · refine fI 37 q81 [(36, q79)] 10 [some 9] rfl rfl rfl rfl rfl rfl fun G a w S => ?_
    refine sFldV (q := q79) S (wN rfl) rfl rfl hq82 rfl (lb rfl) fun a S => ?_
    exact leafL ⟨rfl, S⟩
  · refine fI 38 (.bool x40.Back) [(37, q81)] 11 [some 10] rfl rfl rfl rfl rfl rfl fun G a w S => ?_
    refine sLoadV1 (vq := q81) 8 (.bool x40.Back) S (wN rfl) rfl rfl rfl rfl rfl (lb rfl) fun a S => ?_
    exact leafL ⟨rfl, S⟩
  · refine fI 39 (.bool (x33.Back != x40.Back)) [(32, .bool x33.Back), (38, .bool x40.Back)] 12 [some 5, some 11] rfl rfl rfl rfl rfl rfl fun G a w S => ?_
    refine sBin (.bool (x33.Back != x40.Back)) S (wN rfl) rfl rfl rfl (bNeB _ _ _ _ Try.underlying4 x33.Back x40.Back) rfl (lb rfl) fun a S => ?_
    exact leafL ⟨rfl, S⟩
  · refine fI 40 (.bool (x33.Back != x40.Back)) [(39, .bool (x33.Back != x40.Back))] 13 [some 12] rfl rfl rfl rfl rfl rfl fun G a w S => ?_
    refine sMove (.bool (x33.Back != x40.Back)) S (wN rfl) (.inl rfl) rfl rfl (lb rfl) fun a S => ?_
    exact leafL ⟨rfl, S⟩
  · refine fI 41 (.pointer (some ⟨b10, 1, none⟩)) [(2, .pointer (some ⟨b10, 0, none⟩)), (40, .bool (x33.Back != x40.Back))] 14 [none, some 13] rfl rfl rfl rfl rfl rfl fun G a w S => ?_
    refine sField (b := b10) (off := 0) 1 1 S (wG 13 false 40 rfl rfl rfl hc47) rfl rfl rfl rfl rfl (lb rfl) fun a S => ?_
    exact leafL ⟨rfl, S⟩
  · refine fI 42 (.slice ad3 p0.Rows.length cp4) [(41, .pointer (some ⟨b10, 1, none⟩)), (40, .bool (x33.Back != x40.Back))] 15 [some 14, some 13] rfl rfl rfl rfl rfl rfl fun G a w S => ?_
    refine sLoad1 (p := b10) (off := 1) (T := 58) (vs := [iv p0.Start, .slice ad3 p0.Rows.length cp4]) 0 (.slice ad3 p0.Rows.length cp4) S (wG 13 false 40 rfl rfl rfl hc47) rfl rfl rfl rfl rfl rfl (lb rfl) fun a S => ?_
    exact leafL ⟨rfl, S⟩
  · refine fI 43 (iv s22) [(5, iv s22), (40, .bool (x33.Back != x40.Back))] 16 [none, some 13] rfl rfl rfl rfl rfl rfl fun G a w S => ?_
    refine sMove (iv s22) S (wG 13 false 40 rfl rfl rfl hc47) (.inl rfl) rfl rfl (lb rfl) fun a S => ?_
    exact leafL ⟨rfl, S⟩
  · refine fI 44 q84 [(42, .slice ad3 p0.Rows.length cp4), (43, iv s22), (40, .bool (x33.Back != x40.Back))] 17 [some 15, some 16, some 13] rfl rfl rfl rfl rfl rfl fun G a w S => ?_
    refine sIdxV (v := .slice ad3 p0.Rows.length cp4) (k := .i64) (j := s22) S (wG 13 false 40 rfl rfl rfl hc47) rfl rfl rfl hq85 rfl (lb rfl) fun a S => ?_
    exact leafL ⟨rfl, S⟩
  · refine fI 45 q86 [(44, q84), (40, .bool (x33.Back != x40.Back))] 18 [some 17, some 13] rfl rfl rfl rfl rfl rfl fun G a w S => ?_
    refine sFldV (q := q84) S (wG 13 false 40 rfl rfl rfl hc47) rfl rfl hq87 rfl (lb rfl) fun a S => ?_
    exact leafL ⟨rfl, S⟩
  · refine fI 46 (.slice ad89 x33.Cells.length cp90) [(45, q86), (40, .bool (x33.Back != x40.Back))] 19 [some 18, some 13] rfl rfl rfl rfl rfl rfl fun G a w S => ?_
    refine sLoadV1 (vq := q86) 4 (.slice ad89 x33.Cells.length cp90) S (wG 13 false 40 rfl rfl rfl hc47) rfl rfl rfl rfl rfl (lb rfl) fun a S => ?_
    exact leafL ⟨rfl, S⟩
  · refine fI 47 (.pointer (some ⟨b11, 1, none⟩)) [(3, .pointer (some ⟨b11, 0, none⟩)), (40, .bool (x33.Back != x40.Back))] 20 [none, some 13] rfl rfl rfl rfl rfl rfl fun G a w S => ?_
    refine sField (b := b11) (off := 0) 1 1 S (wG 13 false 40 rfl rfl rfl hc47) rfl rfl rfl rfl rfl (lb rfl) fun a S => ?_
    exact leafL ⟨rfl, S⟩
  · refine fI 48 (.slice ad7 p1.Rows.length cp8) [(47, .pointer (some ⟨b11, 1, none⟩)), (40, .bool (x33.Back != x40.Back))] 21 [some 20, some 13] rfl rfl rfl rfl rfl rfl fun G a w S => ?_
    refine sLoad1 (p := b11) (off := 1) (T := 58) (vs := [iv p1.Start, .slice ad7 p1.Rows.length cp8]) 1 (.slice ad7 p1.Rows.length cp8) S (wG 13 false 40 rfl rfl rfl hc47) rfl rfl rfl rfl rfl rfl (lb rfl) fun a S => ?_
    exact leafL ⟨rfl, S⟩
  · refine fI 49 (iv s22) [(5, iv s22), (40, .bool (x33.Back != x40.Back))] 22 [none, some 13] rfl rfl rfl rfl rfl rfl fun G a w S => ?_
    refine sMove (iv s22) S (wG 13 false 40 rfl rfl rfl hc47) (.inl rfl) rfl rfl (lb rfl) fun a S => ?_
    exact leafL ⟨rfl, S⟩
  · refine fI 50 q91 [(48, .slice ad7 p1.Rows.length cp8), (49, iv s22), (40, .bool (x33.Back != x40.Back))] 23 [some 21, some 22, some 13] rfl rfl rfl rfl rfl rfl fun G a w S => ?_
    refine sIdxV (v := .slice ad7 p1.Rows.length cp8) (k := .i64) (j := s22) S (wG 13 false 40 rfl rfl rfl hc47) rfl rfl rfl hq92 rfl (lb rfl) fun a S => ?_
    exact leafL ⟨rfl, S⟩
  · refine fI 51 q93 [(50, q91), (40, .bool (x33.Back != x40.Back))] 24 [some 23, some 13] rfl rfl rfl rfl rfl rfl fun G a w S => ?_
    refine sFldV (q := q91) S (wG 13 false 40 rfl rfl rfl hc47) rfl rfl hq94 rfl (lb rfl) fun a S => ?_
    exact leafL ⟨rfl, S⟩
  · refine fI 52 (.slice ad96 x40.Cells.length cp97) [(51, q93), (40, .bool (x33.Back != x40.Back))] 25 [some 24, some 13] rfl rfl rfl rfl rfl rfl fun G a w S => ?_
    refine sLoadV1 (vq := q93) 0 (.slice ad96 x40.Cells.length cp97) S (wG 13 false 40 rfl rfl rfl hc47) rfl rfl rfl rfl rfl (lb rfl) fun a S => ?_
    exact leafL ⟨rfl, S⟩
  · refine fI 53 (.bool r72) [(46, .slice ad89 x33.Cells.length cp90), (52, .slice ad96 x40.Cells.length cp97), (40, .bool (x33.Back != x40.Back))] 26 [some 19, some 25, some 13] rfl rfl rfl rfl rfl rfl fun G a w S => ?_
    have S1 := S.mem
    refine sCallQ (X := Unit) (f := 44) (vs := [.slice ad89 x33.Cells.length cp90, .slice ad96 x40.Cells.length cp97]) (val := fun _ => .bool r72) S (wG 13 false 40 rfl rfl rfl hc47) rfl callee44 rfl (S1.quiet [5, 1] rfl) (fun E1 w1 S1 => c_raddleref25_Same E1 w1 x33.Cells (.slice ad89 x33.Cells.length cp90) x40.Cells (.slice ad96 x40.Cells.length cp97) r72 hx73 S1) rfl (lb rfl) fun _ a w S => ?_
    exact leafL ⟨rfl, S⟩
  · refine fI 54 (.bool (!r72)) [(53, .bool r72), (40, .bool (x33.Back != x40.Back))] 27 [some 26, some 13] rfl rfl rfl rfl rfl rfl fun G a w S => ?_
    refine sNot (b := r72) S (wG 13 false 40 rfl rfl rfl hc47) rfl rfl rfl (lb rfl) fun a S => ?_
    exact leafL ⟨rfl, S⟩
  · refine fI 55 (.bool (!r72)) [(40, .bool (x33.Back != x40.Back)), (54, .bool (!r72))] 28 [some 13, some 27] rfl rfl rfl rfl rfl rfl fun G a w S => ?_
    refine sPickF (.bool (!r72)) S (wN rfl) rfl rfl hc47 rfl rfl (lb rfl) fun a S => ?_
    exact leafL ⟨rfl, S⟩
  exact leafT (⟨!r72, Option.some.inj h, S.fix [0, 1] [16, 17] (by decide) rfl rfl rfl⟩)

end Go.Proofs.Ytmedbnjhgkcndaa
namespace Go.Proofs.Ytmedbnjhgkcndaa
open Go.RowKit
set_option linter.unusedVariables false

/-- a loop that compares two lists -/
theorem loop_eq {α τ : Type} {B : Int → Option (Int ⊕ τ)} (a b : List α) (hl : a.length = b.length) (good bad : τ)
    (h : ∀ k (hk : k < a.length), ∃ t : Bool, (t = true ↔ a[k] = b[k]'(by omega)) ∧ B (k : Int) = some (if t = true then .inl ((k + 1 : Nat) : Int) else .inr bad)) (hn : B (a.length : Int) = some (.inr good)) :
    ∃ t : Bool, (t = true ↔ a = b) ∧ whileO B 0 = some (if t = true then good else bad) := by
  have key : ∃ u, whileO B 0 = some u ∧ ∃ t : Bool, (t = true ↔ a = b) ∧ u = (if t = true then good else bad) := by
    refine loop_ix a.length (fun k => ∀ j, j < k → a[j]? = b[j]?) _ (fun j hj => absurd hj (Nat.not_lt_zero j)) ?_ ?_
    · intro k hk hI
      obtain ⟨t, h1, h2⟩ := h k hk
      cases t with
      | true =>
        refine .inl ⟨by rw [h2, if_pos rfl], fun j hj => ?_⟩
        by_cases e : j = k
        · subst e
          rw [List.getElem?_eq_getElem hk, List.getElem?_eq_getElem (by omega), h1.1 rfl]
        · exact hI j (by omega)
      | false =>
        refine .inr ⟨bad, by rw [h2]; rfl, false, ⟨fun h => (by cases h), fun h => ?_⟩, rfl⟩
        subst h
        exact absurd (h1.2 rfl) (by simp)
    · intro hI
      refine ⟨good, hn, true, ⟨fun _ => ?_, fun _ => rfl⟩, rfl⟩
      apply List.ext_getElem?
      intro j
      by_cases hj : j < a.length
      · exact hI j hj
      · rw [List.getElem?_eq_none (by omega), List.getElem?_eq_none (by omega)]
  obtain ⟨u, h1, t, h2, rfl⟩ := key
  exact ⟨t, h2, h1⟩
theorem eqS_iff (x y : api_Stitch) : ((x.Kind == y.Kind) && ((x.Purl == y.Purl) && ((x.A == y.A) && ((x.B == y.B) && true)))) = true ↔ x = y := by
  cases x; cases y; simp
theorem same_eq (a b : List api_Stitch) (hl : a.length ≤ 9223372036854775807) : ∃ t : Bool, (t = true ↔ a = b) ∧ F_stitch_Same a b = some t := by
  unfold F_stitch_Same F_slices_Equal___api_Stitch_api_Stitch_
  by_cases h : a.length = b.length
  case neg =>
    exact ⟨false, ⟨fun h => (by cases h), fun e => absurd (congrArg List.length e) h⟩, by simp only [nT (show ¬ (a.length : Int) = (b.length : Int) by omega), if_true, Option.bind_some]⟩
  simp only [nF (show (a.length : Int) = (b.length : Int) by omega), Bool.false_eq_true, if_false]
  have key : ∃ t : Bool, (t = true ↔ a = b) ∧ whileO (slices_Equal___api_Stitch_api_Stitch__l1 a b) 0 = some (if t = true then .inr () else .inl false) := by
    refine loop_eq a b h _ _ (fun k hk => ?_) ?_
    · refine ⟨_, eqS_iff a[k] (b[k]'(by omega)), ?_⟩
      unfold slices_Equal___api_Stitch_api_Stitch__l1
      simp only [dT (show (k : Int) < (a.length : Int) by omega), if_true, idxO_nat hk, idxO_nat (show k < b.length by omega), Option.bind_some, w64_succ (show k < 9223372036854775807 by omega)]
      cases ((a[k].Kind == (b[k]'(by omega)).Kind) && ((a[k].Purl == (b[k]'(by omega)).Purl) && ((a[k].A == (b[k]'(by omega)).A) && ((a[k].B == (b[k]'(by omega)).B) && true)))) <;> rfl
    · unfold slices_Equal___api_Stitch_api_Stitch__l1
      simp only [dF (show ¬ (a.length : Int) < (a.length : Int) by omega), Bool.false_eq_true, if_false]
  obtain ⟨t, t1, t2⟩ := key
  refine ⟨t, t1, ?_⟩
  rw [t2]
  cases t <;> rfl
theorem rsame_eq (a b : List api_Stitch) (hl : a.length ≤ 9223372036854775807) : ∃ t : Bool, (t = true ↔ a = b) ∧ F_raddleref25_Same a b = some t := by
  unfold F_raddleref25_Same
  by_cases h : a.length = b.length
  case neg =>
    exact ⟨false, ⟨fun h => (by cases h), fun e => absurd (congrArg List.length e) h⟩, by simp only [nT (show ¬ (a.length : Int) = (b.length : Int) by omega), if_true]⟩
  simp only [nF (show (a.length : Int) = (b.length : Int) by omega), Bool.false_eq_true, if_false]
  have key : ∃ t : Bool, (t = true ↔ a = b) ∧ whileO (raddleref25_Same_l1 a b) 0 = some (if t = true then .inr () else .inl false) := by
    refine loop_eq a b h _ _ (fun k hk => ?_) ?_
    · refine ⟨_, eqS_iff a[k] (b[k]'(by omega)), ?_⟩
      unfold raddleref25_Same_l1
      simp only [dT (show (k : Int) < (a.length : Int) by omega), if_true, idxO_nat hk, idxO_nat (show k < b.length by omega), Option.bind_some, w64_succ (show k < 9223372036854775807 by omega)]
      cases ((a[k].Kind == (b[k]'(by omega)).Kind) && ((a[k].Purl == (b[k]'(by omega)).Purl) && ((a[k].A == (b[k]'(by omega)).A) && ((a[k].B == (b[k]'(by omega)).B) && true)))) <;> rfl
    · unfold raddleref25_Same_l1
      simp only [dF (show ¬ (a.length : Int) < (a.length : Int) by omega), Bool.false_eq_true, if_false]
  obtain ⟨t, t1, t2⟩ := key
  refine ⟨t, t1, ?_⟩
  rw [t2]
  cases t <;> rfl
theorem row_ext {x y : api_Row} : x = y ↔ x.Back = y.Back ∧ x.Cells = y.Cells := by cases x; cases y; simp
theorem samechart_eq (a b : api_Chart) (hl : a.Rows.length ≤ 9223372036854775807) (hc : ∀ r, r ∈ a.Rows → r.Cells.length ≤ 9223372036854775807) : ∃ t : Bool, (t = true ↔ a = b) ∧ F_raddleref37_SameChart a b = some t := by
  have ext : a = b ↔ a.Start = b.Start ∧ a.Rows = b.Rows := by cases a; cases b; simp
  unfold F_raddleref37_SameChart
  by_cases h0 : a.Start = b.Start
  case neg =>
    exact ⟨false, ⟨fun h => (by cases h), fun e => absurd (ext.1 e).1 h0⟩, by simp only [nT h0, if_true, Option.bind_some]⟩
  by_cases h : a.Rows.length = b.Rows.length
  case neg =>
    exact ⟨false, ⟨fun h => (by cases h), fun e => absurd (congrArg List.length (ext.1 e).2) h⟩, by simp only [nF h0, Bool.false_eq_true, if_false, nT (show ¬ (a.Rows.length : Int) = (b.Rows.length : Int) by omega), if_true, Option.bind_some]⟩
  simp only [nF h0, nF (show (a.Rows.length : Int) = (b.Rows.length : Int) by omega), Bool.false_eq_true, if_false, Option.bind_some]
  have key : ∃ t : Bool, (t = true ↔ a.Rows = b.Rows) ∧ whileO (raddleref37_SameChart_l1 a b) 0 = some (if t = true then .inr () else .inl false) := by
    refine loop_eq a.Rows b.Rows h _ _ (fun k hk => ?_) ?_
    · obtain ⟨t, t1, t2⟩ := rsame_eq a.Rows[k].Cells (b.Rows[k]'(by omega)).Cells (hc _ (List.getElem_mem hk))
      by_cases hb : a.Rows[k].Back = (b.Rows[k]'(by omega)).Back
      · refine ⟨t, t1.trans ⟨fun e => row_ext.2 ⟨hb, e⟩, fun e => (row_ext.1 e).2⟩, ?_⟩
        unfold raddleref37_SameChart_l1
        simp only [dT (show (k : Int) < (a.Rows.length : Int) by omega), if_true, idxO_nat hk, idxO_nat (show k < b.Rows.length by omega), Option.bind_some, w64_succ (show k < 9223372036854775807 by omega), hb, bne_self_eq_false, Bool.false_eq_true, if_false, t2]
        cases t <;> rfl
      · refine ⟨false, ⟨fun h => (by cases h), fun e => absurd (row_ext.1 e).1 hb⟩, ?_⟩
        unfold raddleref37_SameChart_l1
        simp only [dT (show (k : Int) < (a.Rows.length : Int) by omega), if_true, idxO_nat hk, idxO_nat (show k < b.Rows.length by omega), Option.bind_some, bne_iff_ne.2 hb, Bool.false_eq_true, if_false]
    · unfold raddleref37_SameChart_l1
      simp only [dF (show ¬ (a.Rows.length : Int) < (a.Rows.length : Int) by omega), Bool.false_eq_true, if_false]
  obtain ⟨t, t1, t2⟩ := key
  refine ⟨t, t1.trans ⟨fun e => ext.2 ⟨h0, e⟩, fun e => (ext.1 e).2⟩, ?_⟩
  rw [t2]
  cases t <;> rfl

end Go.Proofs.Ytmedbnjhgkcndaa
namespace Go.Proofs.Ytmedbnjhgkcndaa
open Go.RowKit
set_option linter.unusedVariables false

noncomputable def F_piece_grows (p0 : api_Stitch) : Option Int :=
  if p0.Kind == 5 then
    some (w64 (p0.A - 1))
  else
    if p0.Kind == 9 then
      some p0.A
    else
      Option.bind (α := Bool) (
        if p0.Kind == 3 then
          some (p0.Kind == 3)
        else
          some (p0.Kind == 4)) fun o11 =>
      if o11 then
        some (w64 (1 - p0.A))
      else
        if p0.Kind == 10 then
          some (w64 (0 - p0.A))
        else
          some 0
set_option maxHeartbeats 4000000 in
set_option maxRecDepth 100000 in
theorem c_piece_grows (E : Nat → Prop) (w0 : World) (p0 : api_Stitch) (v0 : Value) (r : Int) (h : F_piece_grows p0 = some r) (S : St0 E [] w0 w0 [] [fRep r_api_Stitch (v0) p0]) :
    Calls Try.prog 40 #[v0] w0 (Ret (X := Unit) E [] w0 (fun _ => .int .i64 r) (fun _ => []) (fun _ => [])) := by
  unfold F_piece_grows at h
  obtain rfl : v0 = .agg #[.int .u8 p0.Kind, .bool p0.Purl, iv p0.A, iv p0.B] := S.know (i := 0) (e := fRep r_api_Stitch (v0) p0) rfl
  refine sEnter (args := [.agg #[.int .u8 p0.Kind, .bool p0.Purl, iv p0.A, iv p0.B]]) 25 Try.func40 rfl rfl (by simp) S (fun a S => ?_)
  refine sSeq (fun K1 hK1 => ?_)
  refine sRegion ?_
  refine sBox (v := .agg #[.int .u8 p0.Kind, .bool p0.Purl, iv p0.A, iv p0.B]) S (wN rfl) rfl rfl [.int .u8 p0.Kind, .bool p0.Purl, iv p0.A, iv p0.B] rfl rfl (lb rfl) fun a b2 w S => ?_
  refine sMove (iv 0) S (wN rfl) (.inr rfl) rfl rfl (lb rfl) fun a S => ?_
  refine leafL (leafT (hK1 _ _ ?_))
  refine sSeq (fun K3 hK3 => ?_)
  refine sSeq (fun K4 hK4 => ?_)
  refine sRegion ?_
  refine sField (b := b2) (off := 0) 0 0 S (wN rfl) rfl rfl rfl rfl rfl (lb rfl) fun a S => ?_
  refine sLoad1 (p := b2) (off := 0) (T := 82) (vs := [.int .u8 p0.Kind, .bool p0.Purl, iv p0.A, iv p0.B]) 0 (.int .u8 p0.Kind) S (wN rfl) rfl rfl rfl rfl rfl rfl (lb rfl) fun a S => ?_
  refine leafL (leafT (hK4 _ _ ?_))
  refine wp_block ?_
  refine sSeq (fun K5 hK5 => ?_)
  refine sRegion ?_
  refine sBin (.bool (p0.Kind == 5)) S (wN rfl) rfl rfl rfl (bEq _ _ _ _ .u8 p0.Kind 5) rfl (lb rfl) fun a S => ?_
  refine sMove (.bool (p0.Kind == 5)) S (wN rfl) (.inr rfl) rfl rfl (lb rfl) fun a S => ?_
  refine leafL (leafT (hK5 _ _ ?_))
  rcases iteSome h with ⟨hc6, h⟩ | ⟨hc6, h⟩
  · refine sCondT S rfl hc6 ?_
    refine sSeq (fun K7 hK7 => ?_)
    refine sRegion ?_
    refine sField (b := b2) (off := 0) 2 2 S (wN rfl) rfl rfl rfl rfl rfl (lb rfl) fun a S => ?_
    refine sLoad1 (p := b2) (off := 2) (T := 82) (vs := [.int .u8 p0.Kind, .bool p0.Purl, iv p0.A, iv p0.B]) 0 (iv p0.A) S (wN rfl) rfl rfl rfl rfl rfl rfl (lb rfl) fun a S => ?_
    refine sBin (iv (w64 (p0.A - 1))) S (wN rfl) rfl rfl rfl (bSub _ _ _ _ p0.A 1) rfl (lb rfl) fun a S => ?_
    refine sMove (iv (w64 (p0.A - 1))) S (wN rfl) (.inr rfl) rfl rfl (lb rfl) fun a S => ?_
    refine leafL (leafT (hK7 _ _ ?_))
    obtain rfl := Option.some.inj h
    exact wp_ret (rBlock (rThen (sRet (iv (w64 (p0.A - 1))) S (rsl1 rfl (rvT (t := 2) (v := iv (w64 (p0.A - 1))) S rfl)) ⟨(), rfl, S.mem.sel [] [] (by decide) rfl rfl⟩)))
  refine sCondF S rfl hc6 ?_
  refine sSeq (fun K8 hK8 => ?_)
  refine sRegion ?_
  refine sBin (.bool (p0.Kind == 9)) S (wN rfl) rfl rfl rfl (bEq _ _ _ _ .u8 p0.Kind 9) rfl (lb rfl) fun a S => ?_
  refine sMove (.bool (p0.Kind == 9)) S (wN rfl) (.inr rfl) rfl rfl (lb rfl) fun a S => ?_
  refine leafL (leafT (hK8 _ _ ?_))
  rcases iteSome h with ⟨hc9, h⟩ | ⟨hc9, h⟩
  · refine sCondT S rfl hc9 ?_
    refine sSeq (fun K10 hK10 => ?_)
    refine sRegion ?_
    refine sField (b := b2) (off := 0) 2 2 S (wN rfl) rfl rfl rfl rfl rfl (lb rfl) fun a S => ?_
    refine sLoad1 (p := b2) (off := 2) (T := 82) (vs := [.int .u8 p0.Kind, .bool p0.Purl, iv p0.A, iv p0.B]) 0 (iv p0.A) S (wN rfl) rfl rfl rfl rfl rfl rfl (lb rfl) fun a S => ?_
    refine sMove (iv p0.A) S (wN rfl) (.inr rfl) rfl rfl (lb rfl) fun a S => ?_
    refine leafL (leafT (hK10 _ _ ?_))
    obtain rfl := Option.some.inj h
    exact wp_ret (rBlock (rThen (sRet (iv p0.A) S (rsl1 rfl (rvT (t := 2) (v := iv p0.A) S rfl)) ⟨(), rfl, S.mem.sel [] [] (by decide) rfl rfl⟩)))
  refine sCondF S rfl hc9 ?_
  obtain ⟨t12, h, g13⟩ := bindSome h
  refine sCut (fun a w => ∃ o11, o11 = t12 ∧ St [] E [] w0 25 a w [(1, .pointer (some ⟨b2, 0, none⟩)), (4, .int .u8 p0.Kind), (14, .bool o11)] [eBox b2 82 [.int .u8 p0.Kind, .bool p0.Purl, iv p0.A, iv p0.B]] []) ?_ (fun a w hI => ?_)
  · refine sSeq (fun K14 hK14 => ?_)
    refine sRegion ?_
    refine sBin (.bool (p0.Kind == 3)) S (wN rfl) rfl rfl rfl (bEq _ _ _ _ .u8 p0.Kind 3) rfl (lb rfl) fun a S => ?_
    refine sMove (.bool (p0.Kind == 3)) S (wN rfl) (.inr rfl) rfl rfl (lb rfl) fun a S => ?_
    refine leafL (leafT (hK14 _ _ ?_))
    rcases iteSome h with ⟨hc15, h⟩ | ⟨hc15, h⟩
    · refine sCondT S rfl hc15 ?_
      exact wp_skip (leafT (⟨p0.Kind == 3, Option.some.inj h, S.fix [0] [] (by decide) rfl rfl rfl⟩))
    refine sCondF S rfl hc15 ?_
    refine sRegion ?_
    refine sBin (.bool (p0.Kind == 4)) S (wN rfl) rfl rfl rfl (bEq _ _ _ _ .u8 p0.Kind 4) rfl (lb rfl) fun a S => ?_
    refine sMove (.bool (p0.Kind == 4)) S (wN rfl) (.inr rfl) rfl rfl (lb rfl) fun a S => ?_
    exact leafL (leafT (⟨p0.Kind == 4, Option.some.inj h, S.fix [0] [] (by decide) rfl rfl rfl⟩))
  obtain ⟨o11, rfl, S⟩ := hI
  have h := g13
  clear g13
  try dsimp only at h
  rcases iteSome h with ⟨hc16, h⟩ | ⟨hc16, h⟩
  · refine sCondT S rfl hc16 ?_
    refine sSeq (fun K17 hK17 => ?_)
    refine sRegion ?_
    refine sField (b := b2) (off := 0) 2 2 S (wN rfl) rfl rfl rfl rfl rfl (lb rfl) fun a S => ?_
    refine sLoad1 (p := b2) (off := 2) (T := 82) (vs := [.int .u8 p0.Kind, .bool p0.Purl, iv p0.A, iv p0.B]) 0 (iv p0.A) S (wN rfl) rfl rfl rfl rfl rfl rfl (lb rfl) fun a S => ?_
    refine sBin (iv (w64 (1 - p0.A))) S (wN rfl) rfl rfl rfl (bSub _ _ _ _ 1 p0.A) rfl (lb rfl) fun a S => ?_
    refine sMove (iv (w64 (1 - p0.A))) S (wN rfl) (.inr rfl) rfl rfl (lb rfl) fun a S => ?_
    refine leafL (leafT (hK17 _ _ ?_))
    obtain rfl := Option.some.inj h
    exact wp_ret (rBlock (rThen (sRet (iv (w64 (1 - p0.A))) S (rsl1 rfl (rvT (t := 2) (v := iv (w64 (1 - p0.A))) S rfl)) ⟨(), rfl, S.mem.sel [] [] (by decide) rfl rfl⟩)))
  refine sCondF S rfl hc16 ?_
  refine sSeq (fun K18 hK18 => ?_)
  refine sRegion ?_
  refine sBin (.bool (p0.Kind == 10)) S (wN rfl) rfl rfl rfl (bEq _ _ _ _ .u8 p0.Kind 10) rfl (lb rfl) fun a S => ?_
  refine sMove (.bool (p0.Kind == 10)) S (wN rfl) (.inr rfl) rfl rfl (lb rfl) fun a S => ?_
  refine leafL (leafT (hK18 _ _ ?_))
  rcases iteSome h with ⟨hc19, h⟩ | ⟨hc19, h⟩
  rotate_left
  · refine sCondF S rfl hc19 ?_
    refine wp_skip (leafB (leafT (hK3 _ _ ?_)))
    refine sSeq (fun K21 hK21 => ?_)
    refine sRegion ?_
    refine sMove (iv 0) S (wN rfl) (.inr rfl) rfl rfl (lb rfl) fun a S => ?_
    refine leafL (leafT (hK21 _ _ ?_))
    obtain rfl := Option.some.inj h
    exact wp_ret (sRet (iv 0) S (rsl1 rfl (rvT (t := 2) (v := iv 0) S rfl)) ⟨(), rfl, S.mem.sel [] [] (by decide) rfl rfl⟩)
  refine sCondT S rfl hc19 ?_
  refine sSeq (fun K20 hK20 => ?_)
  refine sRegion ?_
  refine sField (b := b2) (off := 0) 2 2 S (wN rfl) rfl rfl rfl rfl rfl (lb rfl) fun a S => ?_
  refine sLoad1 (p := b2) (off := 2) (T := 82) (vs := [.int .u8 p0.Kind, .bool p0.Purl, iv p0.A, iv p0.B]) 0 (iv p0.A) S (wN rfl) rfl rfl rfl rfl rfl rfl (lb rfl) fun a S => ?_
  refine sNeg (b := p0.A) S (wN rfl) rfl rfl rfl (lb rfl) fun a S => ?_
  refine sMove (iv (w64 (0 - p0.A))) S (wN rfl) (.inr rfl) rfl rfl (lb rfl) fun a S => ?_
  refine leafL (leafT (hK20 _ _ ?_))
  obtain rfl := Option.some.inj h
  exact wp_ret (rBlock (rThen (sRet (iv (w64 (0 - p0.A))) S (rsl1 rfl (rvT (t := 2) (v := iv (w64 (0 - p0.A))) S rfl)) ⟨(), rfl, S.mem.sel [] [] (by decide) rfl rfl⟩)))

end Go.Proofs.Ytmedbnjhgkcndaa
