/- Several texts in one: G24 G25 G6 LPT LPTv FrPieceMirrors -/
import Derived.WalkKit
import Derived.Maps.AppendAt
import Derived.Deep.AppendLies
import Derived.KernelRfl
import Derived.Laws.OwnMore
import Derived.Great.BuildSlice
import Derived.Orders
import Derived.Laws.StructEq
import Derived.ChangeKeysEq
import Derived.Defers
import Derived.Laws.BytesString
import Derived.RangeFuncNested
import Derived.RangeFuncBound
import Derived.RangeFuncCalls
import Derived.RangeFuncLeaves
import Derived.OrdersIn
import Derived.LoopNIn
import Derived.Test.YtmedbnjhgkcndaaDoorProg
import Derived.ProofKit
import Derived.OpenShut
import Derived.ChangeOld
import Derived.Deep.Slices
import Derived.Lib.SmallJoins
import Derived.JoinedOf
import Derived.JoinedAt
import Derived.Below
import Derived.Shelf.Strings.Builder1
import Derived.Shelf.Strings.Builder2
import Derived.Shelf.Strings.OnBuilder
import Derived.Test.YtmedbnjhgkcndaaDoorRows
import Derived.LaidMore
import Derived.SevenTiedAt
import Derived.Test.YtmedbnjhgkcndaaDoorCards
import Derived.Test.YtmedbnjhgkcndaaDoorTie
import Derived.Test.YtmedbnjhgkcndaaDoorMPieceMirrors6
namespace Go.Proofs.YtmedbnjhgkcndaaDoor
open Go.RowKit
set_option linter.unusedVariables false

def anc_piece_Mirror_0 : List (List Nat) := [[], [0], [0, 1], [0, 1, 2], [], [4], [4, 5], [4, 5, 6], [0, 1, 2, 3, 4, 5, 6, 7], [], [0, 1, 2, 3, 4, 5, 6, 7, 8, 9]]
def anc_piece_Mirror_1 : List (List Nat) := [[], [0], [], [], [3], [], [], [6], [], [6, 7, 8], [6, 7, 8, 9], [6, 7, 8, 9, 10], [], [12], [], [12, 13, 14], [12, 13, 14, 15], [12, 13, 14, 15, 16], [0, 1, 2, 6, 7, 8, 9, 10, 11, 12, 13, 14, 15, 16], [0, 1, 2, 6, 7, 8, 9, 10, 11, 12, 13, 14, 15, 16, 18], [0, 1, 2, 3, 4, 5, 6, 7, 8, 9, 10, 11, 12, 13, 14, 15, 16, 17, 18, 19], [0, 1, 2, 3, 4, 5, 6, 7, 8, 9, 10, 11, 12, 13, 14, 15, 16, 17, 18, 19, 20]]
noncomputable def piece_Mirror_l1 (p0 : api_Piece) : (Int × List Int × List Int) → Option ((Int × List Int × List Int) ⊕ (List Int × List Int)) := fun s0 => match s0 with
  | (s69, s70, s73) =>
    if decide (s69 < (p0.Left.length : Int)) then
      Option.bind (idxO p0.Right s69) fun x90 =>
      Option.bind (idxO p0.Left s69) fun x95 =>
      Option.bind (idxO s70 s69) fun x100 =>
      Option.bind (setO s70 s69 (w64 (0 - x90))) fun l105 =>
      Option.bind (idxO s73 s69) fun x107 =>
      Option.bind (setO s73 s69 (w64 (0 - x95))) fun l112 =>
      some (.inl (w64 (s69 + 1), l105, l112))
    else
      some (.inr (s70, s73))
noncomputable def F_piece_Mirror (p0 : api_Piece) : Option (api_Piece × Int) :=
  Option.bind (F_piece_Check p0) fun r14 =>
  if r14 != 0 then
    some ((api_Piece.mk ([] : (List Int)) ([] : (List Int))), r14)
  else
    Option.bind (α := (List Int × List Int)) (
      Option.bind (makeO (p0.Left.length : Int) (0 : Int)) fun m30 =>
      some (m30, m30)) fun (o20, o23) =>
    Option.bind (α := (List Int × List Int)) (
      Option.bind (whileO (piece_Mirror_l1 p0) (0, o20, o23)) fun (e79, e82) =>
        some (e79, e82)) fun (o60, o63) =>
    some ((api_Piece.mk o60 o63), 0)
def c_piece_Mirror_val (r : (api_Piece × Int)) (x : Value) : Value := .tuple #[x, .int .i64 r.2]
def c_piece_Mirror_D (r : (api_Piece × Int)) (x : Value) : List Fact := [fRep r_api_Piece x r.1]
set_option maxHeartbeats 4000000 in
set_option maxRecDepth 100000 in
theorem c_piece_Mirror (E : Nat → Prop) (w0 : World) (p0 : api_Piece) (v0 : Value) (r : (api_Piece × Int)) (h : F_piece_Mirror p0 = some r) (S : St0 E [] w0 w0 [] [fRep r_api_Piece (v0) p0]) :
    Calls Tryd.prog 24 #[v0] w0 (Ret (X := Value) E [] w0 (c_piece_Mirror_val r) (fun _ => []) (c_piece_Mirror_D r)) := by
  unfold F_piece_Mirror at h
  obtain ⟨u1, u2, rfl, hu3, hu4⟩ := S.know (i := 0) (e := fRep r_api_Piece (v0) p0) rfl
  have S := S.learn (fRep (rL (rI .i64)) u1 p0.Left) hu3
  obtain ⟨ad5, cp6, _, rfl, _⟩ := hu3
  have S := S.learn (fRep (rL (rI .i64)) u2 p0.Right) hu4
  obtain ⟨ad7, cp8, _, rfl, _⟩ := hu4
  refine sEnter (args := [.agg #[.slice ad5 p0.Left.length cp6, .slice ad7 p0.Right.length cp8]]) 50 Tryd.func24 rfl rfl (by simp) S (fun a S => ?_)
  refine sSeq (fun K9 hK9 => ?_)
  refine sRegion ?_
  refine sBox (v := .agg #[.slice ad5 p0.Left.length cp6, .slice ad7 p0.Right.length cp8]) S (wN rfl) rfl rfl [.slice ad5 p0.Left.length cp6, .slice ad7 p0.Right.length cp8] rfl rfl (lb rfl) fun a b10 w S => ?_
  refine sAlloc (.agg #[.slice none 0 0, .slice none 0 0]) S (wN rfl) rfl rfl [.slice none 0 0, .slice none 0 0] rfl rfl (lb rfl) fun a b11 w S => ?_
  refine sMove (iv 0) S (wN rfl) (.inr rfl) rfl rfl (lb rfl) fun a S => ?_
  refine leafL (leafT (hK9 _ _ ?_))
  refine sSeq (fun K12 hK12 => ?_)
  refine sSeq (fun K13 hK13 => ?_)
  refine sRegion ?_
  refine sLoadN (p := b10) (off := 0) (T := 30) (vs := [.slice ad5 p0.Left.length cp6, .slice ad7 p0.Right.length cp8]) 1 [.slice ad5 p0.Left.length cp6, .slice ad7 p0.Right.length cp8] S (wN rfl) rfl rfl rfl rfl rfl rfl rfl (lb rfl) fun a S => ?_
  obtain ⟨r14, hx15, h⟩ := bindSome h
  have S1 := S.mem
  refine sCallQ (X := Unit) (f := 13) (vs := [.agg #[.slice ad5 p0.Left.length cp6, .slice ad7 p0.Right.length cp8]]) (val := fun _ => iv r14) S (wN rfl) rfl callee13 rfl (S1.quiet [2] rfl) (fun E1 w1 S1 => c_piece_Check E1 w1 p0 (.agg #[.slice ad5 p0.Left.length cp6, .slice ad7 p0.Right.length cp8]) r14 hx15 S1) rfl (lb rfl) fun _ a w S => ?_
  refine sMove (iv r14) S (wN rfl) (.inr rfl) rfl rfl (lb rfl) fun a S => ?_
  refine leafL (leafT (hK13 _ _ ?_))
  refine sSeq (fun K16 hK16 => ?_)
  refine sRegion ?_
  refine sMove (iv r14) S (wN rfl) (.inl rfl) rfl rfl (lb rfl) fun a S => ?_
  refine sBin (.bool (r14 != 0)) S (wN rfl) rfl rfl rfl (bNe _ _ _ _ .i64 r14 0) rfl (lb rfl) fun a S => ?_
  refine leafL (leafT (hK16 _ _ ?_))
  rcases iteSome h with ⟨hc17, h⟩ | ⟨hc17, h⟩
  · refine sCondT S rfl hc17 ?_
    refine sSeq (fun K18 hK18 => ?_)
    refine sRegion ?_
    refine sBuild [] [.slice none 0 0, .slice none 0 0] S (wN rfl) rfl rfl rfl rfl (lb rfl) fun a S => ?_
    refine sMove (iv r14) S (wN rfl) (.inl rfl) rfl rfl (lb rfl) fun a S => ?_
    refine sStore (p := b11) (off := 0) (T := 30) (vs := [.slice none 0 0, .slice none 0 0]) (v := .agg #[.slice none 0 0, .slice none 0 0]) 0 [.slice none 0 0, .slice none 0 0] S (wN rfl) rfl rfl rfl rfl rfl rfl rfl (by simp) rfl fun a w S => ?_
    refine sMove (iv r14) S (wN rfl) (.inr rfl) rfl rfl (lb rfl) fun a S => ?_
    refine leafL (leafT (hK18 _ _ ?_))
    obtain rfl := Option.some.inj h
    have S := S.learn (fRep (rL (rI .i64)) (.slice none 0 0) ([] : (List Int))) (rL_nil _ _ _)
    have S := S.learn (fRep r_api_Piece (.agg #[.slice none 0 0, .slice none 0 0]) (api_Piece.mk ([] : (List Int)) ([] : (List Int)))) ⟨_, _, rfl, S.mem.know (i := 0) (e := fRep (rL (rI .i64)) (.slice none 0 0) ([] : (List Int))) rfl, S.mem.know (i := 0) (e := fRep (rL (rI .i64)) (.slice none 0 0) ([] : (List Int))) rfl⟩
    exact wp_ret (rThen (sRet (.tuple #[.agg #[.slice none 0 0, .slice none 0 0], iv r14]) S (rsl2 rfl (rvN (c := 2) (t := 30) (T := 30) (p := b11) 0 [.slice none 0 0, .slice none 0 0] S rfl rfl rfl rfl) (rvT (t := 3) (v := iv r14) S rfl)) ⟨(.agg #[.slice none 0 0, .slice none 0 0]), rfl, S.mem.sel [] [0] (by decide) rfl rfl⟩))
  refine sCondF S rfl hc17 ?_
  refine wp_skip (leafT (hK12 _ _ ?_))
  obtain ⟨t26, h, g27⟩ := bindSome h
  refine sCut (fun a w => ∃ o20, ∃ o23, (o20, o23) = t26 ∧ ∃ b19, ∃ ad21, ∃ cp22, ∃ ad24, ∃ cp25, St [] E [] w0 50 a w [(1, .pointer (some ⟨b10, 0, none⟩)), (2, .pointer (some ⟨b11, 0, none⟩)), (5, .pointer (some ⟨b19, 0, none⟩))] [eBox b10 30 [.slice ad5 p0.Left.length cp6, .slice ad7 p0.Right.length cp8], eBox b11 30 [.slice none 0 0, .slice none 0 0], eBox b19 30 [.slice ad21 o20.length cp22, .slice ad24 o23.length cp25], eRow (rI .i64) 3 (.slice ad21 o20.length cp22) o20, eRow (rI .i64) 3 (.slice ad24 o23.length cp25) o23] [fRep (rL (rI .i64)) (.slice ad5 p0.Left.length cp6) p0.Left, fRep (rL (rI .i64)) (.slice ad7 p0.Right.length cp8) p0.Right]) ?_ (fun a w hI => ?_)
  rotate_left
  · obtain ⟨o20, o23, rfl, b19, ad21, cp22, ad24, cp25, S⟩ := hI
    have h := g27
    clear g27
    try dsimp only at h
    obtain ⟨t66, h, g67⟩ := bindSome h
    refine sCut (fun a w => ∃ o60, ∃ o63, (o60, o63) = t66 ∧ ∃ ad61, ∃ cp62, ∃ ad64, ∃ cp65, St [] E [] w0 50 a w [(2, .pointer (some ⟨b11, 0, none⟩)), (5, .pointer (some ⟨b19, 0, none⟩))] [eBox b11 30 [.slice none 0 0, .slice none 0 0], eBox b19 30 [.slice ad61 o60.length cp62, .slice ad64 o63.length cp65], eRow (rI .i64) 3 (.slice ad61 o60.length cp62) o60, eRow (rI .i64) 3 (.slice ad64 o63.length cp65) o63] []) ?_ (fun a w hI => ?_)
    rotate_left
    · obtain ⟨o60, o63, rfl, ad61, cp62, ad64, cp65, S⟩ := hI
      have h := g67
      clear g67
      try dsimp only at h
      refine sSeq (fun K126 hK126 => ?_)
      refine sRegion ?_
      refine sLoadN (p := b19) (off := 0) (T := 30) (vs := [.slice ad61 o60.length cp62, .slice ad64 o63.length cp65]) 1 [.slice ad61 o60.length cp62, .slice ad64 o63.length cp65] S (wN rfl) rfl rfl rfl rfl rfl rfl rfl (lb rfl) fun a S => ?_
      refine sStore (p := b11) (off := 0) (T := 30) (vs := [.slice none 0 0, .slice none 0 0]) (v := .agg #[.slice ad61 o60.length cp62, .slice ad64 o63.length cp65]) 0 [.slice ad61 o60.length cp62, .slice ad64 o63.length cp65] S (wN rfl) rfl rfl rfl rfl rfl rfl rfl (by simp) rfl fun a w S => ?_
      refine sMove (iv 0) S (wN rfl) (.inr rfl) rfl rfl (lb rfl) fun a S => ?_
      refine leafL (leafT (hK126 _ _ ?_))
      obtain rfl := Option.some.inj h
      have S := S.shutR (r := (rI .i64)) (T := 3) (v := .slice ad61 o60.length cp62) (xs := o60) 2 rfl
      have S := S.shutR (r := (rI .i64)) (T := 3) (v := .slice ad64 o63.length cp65) (xs := o63) 2 rfl
      have S := S.learn (fRep r_api_Piece (.agg #[.slice ad61 o60.length cp62, .slice ad64 o63.length cp65]) (api_Piece.mk o60 o63)) ⟨_, _, rfl, S.mem.know (i := 1) (e := fRep (rL (rI .i64)) (.slice ad61 o60.length cp62) o60) rfl, S.mem.know (i := 0) (e := fRep (rL (rI .i64)) (.slice ad64 o63.length cp65) o63) rfl⟩
      exact wp_ret (sRet (.tuple #[.agg #[.slice ad61 o60.length cp62, .slice ad64 o63.length cp65], iv 0]) S (rsl2 rfl (rvN (c := 2) (t := 30) (T := 30) (p := b11) 0 [.slice ad61 o60.length cp62, .slice ad64 o63.length cp65] S rfl rfl rfl rfl) (rvT (t := 3) (v := iv 0) S rfl)) ⟨(.agg #[.slice ad61 o60.length cp62, .slice ad64 o63.length cp65]), rfl, S.mem.sel [] [0] (by decide) rfl rfl⟩)
    refine sSeq (fun K68 hK68 => ?_)
    refine sRegion ?_
    refine sField (b := b10) (off := 0) 0 0 S (wN rfl) rfl rfl rfl rfl rfl (lb rfl) fun a S => ?_
    refine sLoad1 (p := b10) (off := 0) (T := 30) (vs := [.slice ad5 p0.Left.length cp6, .slice ad7 p0.Right.length cp8]) 0 (.slice ad5 p0.Left.length cp6) S (wN rfl) rfl rfl rfl rfl rfl rfl (lb rfl) fun a S => ?_
    refine sLen (ad := ad5) (m := p0.Left.length) (c := cp6) S (wN rfl) rfl Tryd.underlying28 rfl rfl (lb rfl) fun a S => ?_
    refine sMove (iv 0) S (wN rfl) (.inl rfl) rfl rfl (lb rfl) fun a S => ?_
    refine leafL (leafT (hK68 _ _ ?_))
    refine wp_block ?_
    obtain ⟨t78, hl, g77⟩ := bindSome h
    refine sLoop hl (fun s0 a w => match s0 with | (s69, s70, s73) => ∃ ad71, ∃ cp72, ∃ ad74, ∃ cp75, St [] E [] w0 50 a w [(1, .pointer (some ⟨b10, 0, none⟩)), (2, .pointer (some ⟨b11, 0, none⟩)), (5, .pointer (some ⟨b19, 0, none⟩)), (24, iv (p0.Left.length : Int)), (25, iv s69)] [eBox b10 30 [.slice ad5 p0.Left.length cp6, .slice ad7 p0.Right.length cp8], eBox b11 30 [.slice none 0 0, .slice none 0 0], eBox b19 30 [.slice ad71 s70.length cp72, .slice ad74 s73.length cp75], eRow (rI .i64) 3 (.slice ad71 s70.length cp72) s70, eRow (rI .i64) 3 (.slice ad74 s73.length cp75) s73] [fRep (rL (rI .i64)) (.slice ad5 p0.Left.length cp6) p0.Left, fRep (rL (rI .i64)) (.slice ad7 p0.Right.length cp8) p0.Right]) ⟨ad21, cp22, ad24, cp25, S.fix [0, 1, 2, 3, 4] [0, 1] (by decide) rfl rfl rfl⟩ ?_
    clear hl h
    intro s0 a w c0 hI h hu76
    obtain ⟨s69, s70, s73⟩ := s0
    unfold piece_Mirror_l1 at h
    dsimp only at h hI
    obtain ⟨ad71, cp72, ad74, cp75, S⟩ := hI
    refine sSeq (fun K85 hK85 => ?_)
    refine sRegion ?_
    refine sBin (.bool (decide (s69 < (p0.Left.length : Int)))) S (wN rfl) rfl rfl rfl (bLt _ _ _ _ .i64 s69 (p0.Left.length : Int)) rfl (lb rfl) fun a S => ?_
    refine leafL (leafT (hK85 _ _ ?_))
    refine sSeq (fun K86 hK86 => ?_)
    rcases iteSome h with ⟨hc87, h⟩ | ⟨hc87, h⟩
    rotate_left
    · refine sCondF S rfl hc87 ?_
      obtain rfl := Option.some.inj h
      obtain rfl := hu76 _ rfl
      have h := g77
      clear g77
      try dsimp only at h
      exact wp_exit (xThen (xThen (xHit (leafT (⟨s70, s73, Option.some.inj h, ad71, cp72, ad74, cp75, S.fix [1, 2, 3, 4] [] (by decide) rfl rfl rfl⟩)))))
    refine sCondT S rfl hc87 ?_
    refine wp_skip (leafT (hK86 _ _ ?_))
    refine sSeq (fun K88 hK88 => ?_)
    refine wp_block ?_
    refine sSeq (fun K89 hK89 => ?_)
    refine sRegion ?_
    refine sMove (iv s69) S (wN rfl) (.inl rfl) rfl rfl (lb rfl) fun a S => ?_
    refine sMove (iv s69) S (wN rfl) (.inr rfl) rfl rfl (lb rfl) fun a S => ?_
    refine leafL (leafT (hK89 _ _ ?_))
    obtain ⟨x90, hx91, h⟩ := bindSome h
    obtain ⟨x95, hx96, h⟩ := bindSome h
    obtain ⟨x100, hx101, h⟩ := bindSome h
    obtain ⟨l105, hx106, h⟩ := bindSome h
    obtain ⟨x107, hx108, h⟩ := bindSome h
    obtain ⟨l112, hx113, h⟩ := bindSome h
    obtain ⟨q114, hq115, S⟩ := pIdx (P := Tryd.prog) (r := (rI .i64)) (v := .slice ad7 p0.Right.length cp8) (xs := p0.Right) (j := s69) 28 3 1 S Tryd.underlying28 rfl rfl hx91
    obtain ⟨u116, S⟩ := pLoad (r := (rI .i64)) (q := q114) (x := x90) 0 S rfl
    obtain rfl : u116 = iv x90 := S.mem.know (i := 1) (e := fRep (rI .i64) (u116) x90) rfl
    obtain ⟨q117, hq118, S⟩ := pIdx (P := Tryd.prog) (r := (rI .i64)) (v := .slice ad5 p0.Left.length cp6) (xs := p0.Left) (j := s69) 28 3 3 S Tryd.underlying28 rfl rfl hx96
    obtain ⟨u119, S⟩ := pLoad (r := (rI .i64)) (q := q117) (x := x95) 0 S rfl
    obtain rfl : u119 = iv x95 := S.mem.know (i := 1) (e := fRep (rI .i64) (u119) x95) rfl
    obtain ⟨q120, hq121, hp122⟩ := pIdxR (P := Tryd.prog) (r := (rI .i64)) (T := 3) (v := .slice ad71 s70.length cp72) (xs := s70) (j := s69) 28 3 3 S Tryd.underlying28 rfl rfl hx101
    refine sDraw (nf := [19, 21]) (W := [(0, 28, .pointer (some ⟨b19, 0, none⟩)), (1, 29, .slice ad71 s70.length cp72), (2, 30, iv s69), (3, 31, .pointer (some ⟨b19, 1, none⟩)), (4, 32, .slice ad74 s73.length cp75), (5, 33, iv s69), (6, 34, .pointer (some ⟨b10, 1, none⟩)), (7, 35, .slice ad7 p0.Right.length cp8), (8, 36, iv s69), (9, 37, q114), (10, 38, iv x90), (11, 39, iv (w64 (0 - x90))), (12, 40, .pointer (some ⟨b10, 0, none⟩)), (13, 41, .slice ad5 p0.Left.length cp6), (14, 42, iv s69), (15, 43, q117), (16, 44, iv x95), (17, 45, iv (w64 (0 - x95))), (18, 46, q120)]) rfl S ?_
    refine node_by (A := anc_piece_Mirror_1) (nf := [19, 21]) (Y := []) (W := [(0, 28, .pointer (some ⟨b19, 0, none⟩)), (1, 29, .slice ad71 s70.length cp72), (2, 30, iv s69), (3, 31, .pointer (some ⟨b19, 1, none⟩)), (4, 32, .slice ad74 s73.length cp75), (5, 33, iv s69), (6, 34, .pointer (some ⟨b10, 1, none⟩)), (7, 35, .slice ad7 p0.Right.length cp8), (8, 36, iv s69), (9, 37, q114), (10, 38, iv x90), (11, 39, iv (w64 (0 - x90))), (12, 40, .pointer (some ⟨b10, 0, none⟩)), (13, 41, .slice ad5 p0.Left.length cp6), (14, 42, iv s69), (15, 43, q117), (16, 44, iv x95), (17, 45, iv (w64 (0 - x95))), (18, 46, q120)]) 22 (by kernel_rfl) (by kernel_rfl) (by kernel_rfl) (by kernel_rfl) (by kernel_rfl) [0, 1, 2, 3, 4, 5, 6, 7, 8, 9, 10, 11, 12, 13, 14, 15, 16, 17, 18] (by kernel_rfl) (by decide) (by decide) (aF 0 21 (by decide) ?_ (aF 1 20 (by decide) ?_ (aF 2 19 (by decide) ?_ (aF 3 18 (by decide) ?_ (aF 4 17 (by decide) ?_ (aF 5 16 (by decide) ?_ (aF 6 15 (by decide) ?_ (aF 7 14 (by decide) ?_ (aF 8 13 (by decide) ?_ (aF 9 12 (by decide) ?_ (aF 10 11 (by decide) ?_ (aF 11 10 (by decide) ?_ (aF 12 9 (by decide) ?_ (aF 13 8 (by decide) ?_ (aF 14 7 (by decide) ?_ (aF 15 6 (by decide) ?_ (aF 16 5 (by decide) ?_ (aF 17 4 (by decide) ?_ (aF 18 3 (by decide) ?_ (aN 19 2 (by decide) ?_ (aE 20 1 19 (by decide) (aB 21 0 19 (by decide) (trivial))))))))))))))))))))))) [] (fun q hq => by cases hq) (fun hY => absurd (hY 19 (by decide)) (by decide))
    · refine fI 28 (.pointer (some ⟨b19, 0, none⟩)) [(5, .pointer (some ⟨b19, 0, none⟩))] 0 [none] rfl rfl rfl rfl rfl rfl fun G a w S => ?_
      refine sField (b := b19) (off := 0) 0 0 S (wN rfl) rfl rfl rfl rfl rfl (lb rfl) fun a S => ?_
      exact leafL ⟨rfl, S⟩
    · refine fI 29 (.slice ad71 s70.length cp72) [(28, .pointer (some ⟨b19, 0, none⟩))] 1 [some 0] rfl rfl rfl rfl rfl rfl fun G a w S => ?_
      refine sLoad1 (p := b19) (off := 0) (T := 30) (vs := [.slice ad71 s70.length cp72, .slice ad74 s73.length cp75]) 2 (.slice ad71 s70.length cp72) S (wN rfl) rfl rfl rfl rfl rfl rfl (lb rfl) fun a S => ?_
      exact leafL ⟨rfl, S⟩
    · refine fI 30 (iv s69) [(6, iv s69)] 2 [none] rfl rfl rfl rfl rfl rfl fun G a w S => ?_
      refine sMove (iv s69) S (wN rfl) (.inl rfl) rfl rfl (lb rfl) fun a S => ?_
      exact leafL ⟨rfl, S⟩
    · refine fI 31 (.pointer (some ⟨b19, 1, none⟩)) [(5, .pointer (some ⟨b19, 0, none⟩))] 3 [none] rfl rfl rfl rfl rfl rfl fun G a w S => ?_
      refine sField (b := b19) (off := 0) 1 1 S (wN rfl) rfl rfl rfl rfl rfl (lb rfl) fun a S => ?_
      exact leafL ⟨rfl, S⟩
    · refine fI 32 (.slice ad74 s73.length cp75) [(31, .pointer (some ⟨b19, 1, none⟩))] 4 [some 3] rfl rfl rfl rfl rfl rfl fun G a w S => ?_
      refine sLoad1 (p := b19) (off := 1) (T := 30) (vs := [.slice ad71 s70.length cp72, .slice ad74 s73.length cp75]) 2 (.slice ad74 s73.length cp75) S (wN rfl) rfl rfl rfl rfl rfl rfl (lb rfl) fun a S => ?_
      exact leafL ⟨rfl, S⟩
    · refine fI 33 (iv s69) [(6, iv s69)] 5 [none] rfl rfl rfl rfl rfl rfl fun G a w S => ?_
      refine sMove (iv s69) S (wN rfl) (.inl rfl) rfl rfl (lb rfl) fun a S => ?_
      exact leafL ⟨rfl, S⟩
    · refine fI 34 (.pointer (some ⟨b10, 1, none⟩)) [(1, .pointer (some ⟨b10, 0, none⟩))] 6 [none] rfl rfl rfl rfl rfl rfl fun G a w S => ?_
      refine sField (b := b10) (off := 0) 1 1 S (wN rfl) rfl rfl rfl rfl rfl (lb rfl) fun a S => ?_
      exact leafL ⟨rfl, S⟩
    · refine fI 35 (.slice ad7 p0.Right.length cp8) [(34, .pointer (some ⟨b10, 1, none⟩))] 7 [some 6] rfl rfl rfl rfl rfl rfl fun G a w S => ?_
      refine sLoad1 (p := b10) (off := 1) (T := 30) (vs := [.slice ad5 p0.Left.length cp6, .slice ad7 p0.Right.length cp8]) 0 (.slice ad7 p0.Right.length cp8) S (wN rfl) rfl rfl rfl rfl rfl rfl (lb rfl) fun a S => ?_
      exact leafL ⟨rfl, S⟩
    · refine fI 36 (iv s69) [(6, iv s69)] 8 [none] rfl rfl rfl rfl rfl rfl fun G a w S => ?_
      refine sMove (iv s69) S (wN rfl) (.inl rfl) rfl rfl (lb rfl) fun a S => ?_
      exact leafL ⟨rfl, S⟩
    · refine fI 37 q114 [(35, .slice ad7 p0.Right.length cp8), (36, iv s69)] 9 [some 7, some 8] rfl rfl rfl rfl rfl rfl fun G a w S => ?_
      refine sIdxV (v := .slice ad7 p0.Right.length cp8) (k := .i64) (j := s69) S (wN rfl) rfl rfl rfl hq115 rfl (lb rfl) fun a S => ?_
      exact leafL ⟨rfl, S⟩
    · refine fI 38 (iv x90) [(37, q114)] 10 [some 9] rfl rfl rfl rfl rfl rfl fun G a w S => ?_
      refine sLoadV1 (vq := q114) 3 (iv x90) S (wN rfl) rfl rfl rfl rfl rfl (lb rfl) fun a S => ?_
      exact leafL ⟨rfl, S⟩
    · refine fI 39 (iv (w64 (0 - x90))) [(38, iv x90)] 11 [some 10] rfl rfl rfl rfl rfl rfl fun G a w S => ?_
      refine sNeg (b := x90) S (wN rfl) rfl rfl rfl (lb rfl) fun a S => ?_
      exact leafL ⟨rfl, S⟩
    · refine fI 40 (.pointer (some ⟨b10, 0, none⟩)) [(1, .pointer (some ⟨b10, 0, none⟩))] 12 [none] rfl rfl rfl rfl rfl rfl fun G a w S => ?_
      refine sField (b := b10) (off := 0) 0 0 S (wN rfl) rfl rfl rfl rfl rfl (lb rfl) fun a S => ?_
      exact leafL ⟨rfl, S⟩
    · refine fI 41 (.slice ad5 p0.Left.length cp6) [(40, .pointer (some ⟨b10, 0, none⟩))] 13 [some 12] rfl rfl rfl rfl rfl rfl fun G a w S => ?_
      refine sLoad1 (p := b10) (off := 0) (T := 30) (vs := [.slice ad5 p0.Left.length cp6, .slice ad7 p0.Right.length cp8]) 0 (.slice ad5 p0.Left.length cp6) S (wN rfl) rfl rfl rfl rfl rfl rfl (lb rfl) fun a S => ?_
      exact leafL ⟨rfl, S⟩
    · refine fI 42 (iv s69) [(6, iv s69)] 14 [none] rfl rfl rfl rfl rfl rfl fun G a w S => ?_
      refine sMove (iv s69) S (wN rfl) (.inl rfl) rfl rfl (lb rfl) fun a S => ?_
      exact leafL ⟨rfl, S⟩
    · refine fI 43 q117 [(41, .slice ad5 p0.Left.length cp6), (42, iv s69)] 15 [some 13, some 14] rfl rfl rfl rfl rfl rfl fun G a w S => ?_
      refine sIdxV (v := .slice ad5 p0.Left.length cp6) (k := .i64) (j := s69) S (wN rfl) rfl rfl rfl hq118 rfl (lb rfl) fun a S => ?_
      exact leafL ⟨rfl, S⟩
    · refine fI 44 (iv x95) [(43, q117)] 16 [some 15] rfl rfl rfl rfl rfl rfl fun G a w S => ?_
      refine sLoadV1 (vq := q117) 0 (iv x95) S (wN rfl) rfl rfl rfl rfl rfl (lb rfl) fun a S => ?_
      exact leafL ⟨rfl, S⟩
    · refine fI 45 (iv (w64 (0 - x95))) [(44, iv x95)] 17 [some 16] rfl rfl rfl rfl rfl rfl fun G a w S => ?_
      refine sNeg (b := x95) S (wN rfl) rfl rfl rfl (lb rfl) fun a S => ?_
      exact leafL ⟨rfl, S⟩
    · refine fI 46 q120 [(29, .slice ad71 s70.length cp72), (30, iv s69)] 18 [some 1, some 2] rfl rfl rfl rfl rfl rfl fun G a w S => ?_
      refine sIdxV (v := .slice ad71 s70.length cp72) (k := .i64) (j := s69) S (wN rfl) rfl rfl rfl hq121 rfl (lb rfl) fun a S => ?_
      exact leafL ⟨rfl, S⟩
    refine ⟨_, [(39, iv (w64 (0 - x90))), (46, q120)], rfl, (srcs_of [some 11, some 18] rfl rfl rfl), fun G a w S => ?_⟩
    refine sStoreR (r := (rI .i64)) (T := 3) (xs := s70) (ys := l105) (y := (w64 (0 - x90))) (v := .slice ad71 s70.length cp72) (vq := q120) (u := iv (w64 (0 - x90))) (j := s69) 3 S hp122 (wN rfl) rfl rfl rfl rfl rfl hx106 rfl rfl fun a w S => ?_
    obtain ⟨q123, hq124, hp125⟩ := pIdxR (P := Tryd.prog) (r := (rI .i64)) (T := 3) (v := .slice ad74 s73.length cp75) (xs := s73) (j := s69) 28 3 4 S Tryd.underlying28 rfl rfl hx108
    refine leafL ⟨rfl, _, _, .inr ⟨[(20, 47, q123)], rfl, S, hz_of rfl, ?_⟩⟩
    refine node_by (A := anc_piece_Mirror_1) (nf := [19, 21]) (Y := [19]) 22 (by kernel_rfl) (by kernel_rfl) (by kernel_rfl) (by kernel_rfl) (by kernel_rfl) [20, 0, 1, 2, 3, 4, 5, 6, 7, 8, 9, 10, 11, 12, 13, 14, 15, 16, 17, 18] (by kernel_rfl) (by decide) (by decide) (aD 0 21 19 (by decide) (aD 1 20 19 (by decide) (aD 2 19 19 (by decide) (aF 3 18 (by decide) ?_ (aF 4 17 (by decide) ?_ (aF 5 16 (by decide) ?_ (aD 6 15 19 (by decide) (aD 7 14 19 (by decide) (aD 8 13 19 (by decide) (aD 9 12 19 (by decide) (aD 10 11 19 (by decide) (aD 11 10 19 (by decide) (aD 12 9 19 (by decide) (aD 13 8 19 (by decide) (aD 14 7 19 (by decide) (aD 15 6 19 (by decide) (aD 16 5 19 (by decide) (aF 17 4 (by decide) ?_ (aD 18 3 19 (by decide) (aY 19 2 (by decide) (aF 20 1 (by decide) ?_ (aN 21 0 (by decide) ?_ (trivial))))))))))))))))))))))) [] (fun q hq => by cases hq) (fun hY => absurd (hY 21 (by decide)) (by decide))
    · refine fI 31 (.pointer (some ⟨b19, 1, none⟩)) [(5, .pointer (some ⟨b19, 0, none⟩))] 4 [none] rfl rfl rfl rfl rfl rfl fun G a w S => ?_
      refine sField (b := b19) (off := 0) 1 1 S (wN rfl) rfl rfl rfl rfl rfl (lb rfl) fun a S => ?_
      exact leafL ⟨rfl, S⟩
    · refine fI 32 (.slice ad74 s73.length cp75) [(31, .pointer (some ⟨b19, 1, none⟩))] 5 [some 4] rfl rfl rfl rfl rfl rfl fun G a w S => ?_
      refine sLoad1 (p := b19) (off := 1) (T := 30) (vs := [.slice ad71 s70.length cp72, .slice ad74 s73.length cp75]) 3 (.slice ad74 s73.length cp75) S (wN rfl) rfl rfl rfl rfl rfl rfl (lb rfl) fun a S => ?_
      exact leafL ⟨rfl, S⟩
    · refine fI 33 (iv s69) [(6, iv s69)] 6 [none] rfl rfl rfl rfl rfl rfl fun G a w S => ?_
      refine sMove (iv s69) S (wN rfl) (.inl rfl) rfl rfl (lb rfl) fun a S => ?_
      exact leafL ⟨rfl, S⟩
    · refine fI 45 (iv (w64 (0 - x95))) [(44, iv x95)] 18 [some 17] rfl rfl rfl rfl rfl rfl fun G a w S => ?_
      refine sNeg (b := x95) S (wN rfl) rfl rfl rfl (lb rfl) fun a S => ?_
      exact leafL ⟨rfl, S⟩
    · refine fI 47 q123 [(32, .slice ad74 s73.length cp75), (33, iv s69)] 0 [some 5, some 6] rfl rfl rfl rfl rfl rfl fun G a w S => ?_
      refine sIdxV (v := .slice ad74 s73.length cp75) (k := .i64) (j := s69) S (wN rfl) rfl rfl rfl hq124 rfl (lb rfl) fun a S => ?_
      exact leafL ⟨rfl, S⟩
    refine ⟨_, [(45, iv (w64 (0 - x95))), (47, q123)], rfl, (srcs_of [some 18, some 0] rfl rfl rfl), fun G a w S => ?_⟩
    refine sStoreR (r := (rI .i64)) (T := 3) (xs := s73) (ys := l112) (y := (w64 (0 - x95))) (v := .slice ad74 s73.length cp75) (vq := q123) (u := iv (w64 (0 - x95))) (j := s69) 4 S hp125 (wN rfl) rfl rfl rfl rfl rfl hx113 rfl rfl fun a w S => ?_
    refine leafL ⟨rfl, _, _, .inr ⟨[], rfl, S, hz_of rfl, ?_⟩⟩
    refine node_by (A := anc_piece_Mirror_1) (nf := [19, 21]) (Y := [21, 19]) 22 (by kernel_rfl) (by kernel_rfl) (by kernel_rfl) (by kernel_rfl) (by kernel_rfl) [20, 0, 1, 2, 3, 4, 5, 6, 7, 8, 9, 10, 11, 12, 13, 14, 15, 16, 17, 18] (by kernel_rfl) (by decide) (by decide) (aD 0 21 21 (by decide) (aD 1 20 21 (by decide) (aD 2 19 21 (by decide) (aD 3 18 21 (by decide) (aD 4 17 21 (by decide) (aD 5 16 21 (by decide) (aD 6 15 21 (by decide) (aD 7 14 21 (by decide) (aD 8 13 21 (by decide) (aD 9 12 21 (by decide) (aD 10 11 21 (by decide) (aD 11 10 21 (by decide) (aD 12 9 21 (by decide) (aD 13 8 21 (by decide) (aD 14 7 21 (by decide) (aD 15 6 21 (by decide) (aD 16 5 21 (by decide) (aD 17 4 21 (by decide) (aD 18 3 21 (by decide) (aY 19 2 (by decide) (aD 20 1 21 (by decide) (aY 21 0 (by decide) (trivial))))))))))))))))))))))) [(1, .pointer (some ⟨b10, 0, none⟩)), (2, .pointer (some ⟨b11, 0, none⟩)), (5, .pointer (some ⟨b19, 0, none⟩)), (24, iv (p0.Left.length : Int)), (25, iv s69)] (fin_of [none, none, none, none, none] rfl (by kernel_rfl) (by kernel_rfl)) (fun _ a w S => ?_)
    rw [setO_v hx106 ad71 cp72] at S
    rw [setO_v hx113 ad74 cp75] at S
    refine leafB (leafT (hK88 _ _ ?_))
    refine sRegion ?_
    refine sBin (iv (w64 (s69 + 1))) S (wN rfl) rfl rfl rfl (bAdd _ _ _ _ s69 1) rfl (lb rfl) fun a S => ?_
    refine sMove (iv (w64 (s69 + 1))) S (wN rfl) (.inl rfl) rfl rfl (lb rfl) fun a S => ?_
    exact leafL (leafT (⟨(w64 (s69 + 1), l105, l112), (Option.some.inj h).symm, ⟨ad71, cp72, ad74, cp75, S.fix [2, 3, 4, 1, 0] [6, 7] (by decide) rfl rfl rfl⟩⟩))
  obtain ⟨m30, hx31, h⟩ := bindSome h
  refine sDraw (nf := [3, 7, 9, 10]) (W := [(0, 13, .pointer (some ⟨b10, 0, none⟩)), (1, 14, .slice ad5 p0.Left.length cp6), (2, 15, iv (p0.Left.length : Int)), (4, 17, .pointer (some ⟨b10, 0, none⟩)), (5, 18, .slice ad5 p0.Left.length cp6), (6, 19, iv (p0.Left.length : Int))]) rfl S ?_
  refine node_by (A := anc_piece_Mirror_0) (nf := [3, 7, 9, 10]) (Y := []) (W := [(0, 13, .pointer (some ⟨b10, 0, none⟩)), (1, 14, .slice ad5 p0.Left.length cp6), (2, 15, iv (p0.Left.length : Int)), (4, 17, .pointer (some ⟨b10, 0, none⟩)), (5, 18, .slice ad5 p0.Left.length cp6), (6, 19, iv (p0.Left.length : Int))]) 11 (by kernel_rfl) (by kernel_rfl) (by kernel_rfl) (by kernel_rfl) (by kernel_rfl) [0, 1, 2, 4, 5, 6] (by kernel_rfl) (by decide) (by decide) (aF 0 10 (by decide) ?_ (aF 1 9 (by decide) ?_ (aF 2 8 (by decide) ?_ (aN 3 7 (by decide) ?_ (aF 4 6 (by decide) ?_ (aF 5 5 (by decide) ?_ (aF 6 4 (by decide) ?_ (aN 7 3 (by decide) ?_ (aE 8 2 3 (by decide) (aN 9 1 (by decide) ?_ (aB 10 0 3 (by decide) (trivial)))))))))))) [] (fun q hq => by cases hq) (fun hY => absurd (hY 3 (by decide)) (by decide))
  · refine fI 13 (.pointer (some ⟨b10, 0, none⟩)) [(1, .pointer (some ⟨b10, 0, none⟩))] 0 [none] rfl rfl rfl rfl rfl rfl fun G a w S => ?_
    refine sField (b := b10) (off := 0) 0 0 S (wN rfl) rfl rfl rfl rfl rfl (lb rfl) fun a S => ?_
    exact leafL ⟨rfl, S⟩
  · refine fI 14 (.slice ad5 p0.Left.length cp6) [(13, .pointer (some ⟨b10, 0, none⟩))] 1 [some 0] rfl rfl rfl rfl rfl rfl fun G a w S => ?_
    refine sLoad1 (p := b10) (off := 0) (T := 30) (vs := [.slice ad5 p0.Left.length cp6, .slice ad7 p0.Right.length cp8]) 1 (.slice ad5 p0.Left.length cp6) S (wN rfl) rfl rfl rfl rfl rfl rfl (lb rfl) fun a S => ?_
    exact leafL ⟨rfl, S⟩
  · refine fI 15 (iv (p0.Left.length : Int)) [(14, .slice ad5 p0.Left.length cp6)] 2 [some 1] rfl rfl rfl rfl rfl rfl fun G a w S => ?_
    refine sLen (ad := ad5) (m := p0.Left.length) (c := cp6) S (wN rfl) rfl Tryd.underlying28 rfl rfl (lb rfl) fun a S => ?_
    exact leafL ⟨rfl, S⟩
  · refine ⟨_, [(15, iv (p0.Left.length : Int))], rfl, (srcs_of [some 2] rfl rfl rfl), fun G a w S => ?_⟩
    refine sMake (r := (rI .i64)) (m := (p0.Left.length : Int)) (xs := m30) (iv 0) (0 : Int) 8 S (wN rfl) rfl Tryd.underlying28 rfl rfl (by decide) (fun _ _ => rfl) rfl rfl hx31 rfl (lb rfl) fun a w ad35 cp36 S => ?_
    refine leafL ⟨rfl, _, _, .inl ⟨16, (.slice ad35 m30.length cp36), [], rfl, S, hz_of rfl, ?_⟩⟩
    refine node_by (A := anc_piece_Mirror_0) (nf := [3, 7, 9, 10]) (Y := [3]) 11 (by kernel_rfl) (by kernel_rfl) (by kernel_rfl) (by kernel_rfl) (by kernel_rfl) [3, 0, 1, 2, 4, 5, 6] (by kernel_rfl) (by decide) (by decide) (aD 0 10 3 (by decide) (aD 1 9 3 (by decide) (aD 2 8 3 (by decide) (aY 3 7 (by decide) (aF 4 6 (by decide) ?_ (aF 5 5 (by decide) ?_ (aF 6 4 (by decide) ?_ (aN 7 3 (by decide) ?_ (aE 8 2 7 (by decide) (aN 9 1 (by decide) ?_ (aB 10 0 7 (by decide) (trivial)))))))))))) [] (fun q hq => by cases hq) (fun hY => absurd (hY 7 (by decide)) (by decide))
    · refine fI 17 (.pointer (some ⟨b10, 0, none⟩)) [(1, .pointer (some ⟨b10, 0, none⟩))] 4 [none] rfl rfl rfl rfl rfl rfl fun G a w S => ?_
      refine sField (b := b10) (off := 0) 0 0 S (wN rfl) rfl rfl rfl rfl rfl (lb rfl) fun a S => ?_
      exact leafL ⟨rfl, S⟩
    · refine fI 18 (.slice ad5 p0.Left.length cp6) [(17, .pointer (some ⟨b10, 0, none⟩))] 5 [some 4] rfl rfl rfl rfl rfl rfl fun G a w S => ?_
      refine sLoad1 (p := b10) (off := 0) (T := 30) (vs := [.slice ad5 p0.Left.length cp6, .slice ad7 p0.Right.length cp8]) 2 (.slice ad5 p0.Left.length cp6) S (wN rfl) rfl rfl rfl rfl rfl rfl (lb rfl) fun a S => ?_
      exact leafL ⟨rfl, S⟩
    · refine fI 19 (iv (p0.Left.length : Int)) [(18, .slice ad5 p0.Left.length cp6)] 6 [some 5] rfl rfl rfl rfl rfl rfl fun G a w S => ?_
      refine sLen (ad := ad5) (m := p0.Left.length) (c := cp6) S (wN rfl) rfl Tryd.underlying28 rfl rfl (lb rfl) fun a S => ?_
      exact leafL ⟨rfl, S⟩
    · refine ⟨_, [(19, iv (p0.Left.length : Int))], rfl, (srcs_of [some 6] rfl rfl rfl), fun G a w S => ?_⟩
      refine sMake (r := (rI .i64)) (m := (p0.Left.length : Int)) (xs := m30) (iv 0) (0 : Int) 8 S (wN rfl) rfl Tryd.underlying28 rfl rfl (by decide) (fun _ _ => rfl) rfl rfl hx31 rfl (lb rfl) fun a w ad37 cp38 S => ?_
      refine leafL ⟨rfl, _, _, .inl ⟨20, (.slice ad37 m30.length cp38), [(8, 21, .agg #[.slice ad35 m30.length cp36, .slice ad37 m30.length cp38])], rfl, S, hz_of rfl, ?_⟩⟩
      refine node_by (A := anc_piece_Mirror_0) (nf := [3, 7, 9, 10]) (Y := [7, 3]) 11 (by kernel_rfl) (by kernel_rfl) (by kernel_rfl) (by kernel_rfl) (by kernel_rfl) [8, 7, 3, 0, 1, 2, 4, 5, 6] (by kernel_rfl) (by decide) (by decide) (aD 0 10 3 (by decide) (aD 1 9 3 (by decide) (aD 2 8 3 (by decide) (aY 3 7 (by decide) (aD 4 6 7 (by decide) (aD 5 5 7 (by decide) (aD 6 4 7 (by decide) (aY 7 3 (by decide) (aF 8 2 (by decide) ?_ (aN 9 1 (by decide) ?_ (aB 10 0 9 (by decide) (trivial)))))))))))) [] (fun q hq => by cases hq) (fun hY => absurd (hY 9 (by decide)) (by decide))
      · refine fI 21 (.agg #[.slice ad35 m30.length cp36, .slice ad37 m30.length cp38]) [(16, .slice ad35 m30.length cp36), (20, .slice ad37 m30.length cp38)] 0 [some 2, some 1] rfl rfl rfl rfl rfl rfl fun G a w S => ?_
        refine sBuild [(0, .slice ad35 m30.length cp36), (1, .slice ad37 m30.length cp38)] [.slice ad35 m30.length cp36, .slice ad37 m30.length cp38] S (wN rfl) rfl rfl rfl rfl (lb rfl) fun a S => ?_
        exact leafL ⟨rfl, S⟩
      refine ⟨_, [], rfl, (srcs_of [] rfl rfl rfl), fun G a w S => ?_⟩
      refine sAlloc (.agg #[.slice none 0 0, .slice none 0 0]) S (wN rfl) rfl rfl [.slice none 0 0, .slice none 0 0] rfl rfl (lb rfl) fun a b39 w S => ?_
      refine leafL ⟨rfl, _, _, .inl ⟨5, (.pointer (some ⟨b39, 0, none⟩)), [], rfl, S, hz_of rfl, ?_⟩⟩
      refine node_by (A := anc_piece_Mirror_0) (nf := [3, 7, 9, 10]) (Y := [9, 7, 3]) 11 (by kernel_rfl) (by kernel_rfl) (by kernel_rfl) (by kernel_rfl) (by kernel_rfl) [9, 8, 7, 3, 0, 1, 2, 4, 5, 6] (by kernel_rfl) (by decide) (by decide) (aD 0 10 3 (by decide) (aD 1 9 3 (by decide) (aD 2 8 3 (by decide) (aY 3 7 (by decide) (aD 4 6 7 (by decide) (aD 5 5 7 (by decide) (aD 6 4 7 (by decide) (aY 7 3 (by decide) (aF 8 2 (by decide) ?_ (aY 9 1 (by decide) (aN 10 0 (by decide) ?_ (trivial)))))))))))) [] (fun q hq => by cases hq) (fun hY => absurd (hY 10 (by decide)) (by decide))
      · refine fI 21 (.agg #[.slice ad35 m30.length cp36, .slice ad37 m30.length cp38]) [(16, .slice ad35 m30.length cp36), (20, .slice ad37 m30.length cp38)] 1 [some 3, some 2] rfl rfl rfl rfl rfl rfl fun G a w S => ?_
        refine sBuild [(0, .slice ad35 m30.length cp36), (1, .slice ad37 m30.length cp38)] [.slice ad35 m30.length cp36, .slice ad37 m30.length cp38] S (wN rfl) rfl rfl rfl rfl (lb rfl) fun a S => ?_
        exact leafL ⟨rfl, S⟩
      refine ⟨_, [(5, .pointer (some ⟨b39, 0, none⟩)), (21, .agg #[.slice ad35 m30.length cp36, .slice ad37 m30.length cp38])], rfl, (srcs_of [some 0, some 1] rfl rfl rfl), fun G a w S => ?_⟩
      refine sStore (p := b39) (off := 0) (T := 30) (vs := [.slice none 0 0, .slice none 0 0]) (v := .agg #[.slice ad35 m30.length cp36, .slice ad37 m30.length cp38]) 0 [.slice ad35 m30.length cp36, .slice ad37 m30.length cp38] S (wN rfl) rfl rfl rfl rfl rfl rfl rfl (by simp) rfl fun a w S => ?_
      refine leafL ⟨rfl, _, _, .inr ⟨[], rfl, S, hz_of rfl, ?_⟩⟩
      refine node_by (A := anc_piece_Mirror_0) (nf := [3, 7, 9, 10]) (Y := [10, 9, 7, 3]) 11 (by kernel_rfl) (by kernel_rfl) (by kernel_rfl) (by kernel_rfl) (by kernel_rfl) [9, 8, 7, 3, 0, 1, 2, 4, 5, 6] (by kernel_rfl) (by decide) (by decide) (aD 0 10 10 (by decide) (aD 1 9 10 (by decide) (aD 2 8 10 (by decide) (aY 3 7 (by decide) (aD 4 6 10 (by decide) (aD 5 5 10 (by decide) (aD 6 4 10 (by decide) (aY 7 3 (by decide) (aD 8 2 10 (by decide) (aY 9 1 (by decide) (aY 10 0 (by decide) (trivial)))))))))))) [(1, .pointer (some ⟨b10, 0, none⟩)), (2, .pointer (some ⟨b11, 0, none⟩)), (5, .pointer (some ⟨b39, 0, none⟩))] (fin_of [none, none, some 0] rfl (by kernel_rfl) (by kernel_rfl)) (fun _ a w S => ?_)
      exact leafT (⟨m30, m30, Option.some.inj h, b39, ad35, cp36, ad37, cp38, S.fix [4, 3, 0, 2, 1] [1, 0] (by decide) rfl rfl rfl⟩)
    refine ⟨_, [], rfl, (srcs_of [] rfl rfl rfl), fun G a w S => ?_⟩
    refine sAlloc (.agg #[.slice none 0 0, .slice none 0 0]) S (wN rfl) rfl rfl [.slice none 0 0, .slice none 0 0] rfl rfl (lb rfl) fun a b40 w S => ?_
    refine leafL ⟨rfl, _, _, .inl ⟨5, (.pointer (some ⟨b40, 0, none⟩)), [], rfl, S, hz_of rfl, ?_⟩⟩
    refine node_by (A := anc_piece_Mirror_0) (nf := [3, 7, 9, 10]) (Y := [9, 3]) 11 (by kernel_rfl) (by kernel_rfl) (by kernel_rfl) (by kernel_rfl) (by kernel_rfl) [9, 3, 0, 1, 2, 4, 5, 6] (by kernel_rfl) (by decide) (by decide) (aD 0 10 3 (by decide) (aD 1 9 3 (by decide) (aD 2 8 3 (by decide) (aY 3 7 (by decide) (aF 4 6 (by decide) ?_ (aF 5 5 (by decide) ?_ (aF 6 4 (by decide) ?_ (aN 7 3 (by decide) ?_ (aE 8 2 7 (by decide) (aY 9 1 (by decide) (aB 10 0 7 (by decide) (trivial)))))))))))) [] (fun q hq => by cases hq) (fun hY => absurd (hY 7 (by decide)) (by decide))
    · refine fI 17 (.pointer (some ⟨b10, 0, none⟩)) [(1, .pointer (some ⟨b10, 0, none⟩))] 5 [none] rfl rfl rfl rfl rfl rfl fun G a w S => ?_
      refine sField (b := b10) (off := 0) 0 0 S (wN rfl) rfl rfl rfl rfl rfl (lb rfl) fun a S => ?_
      exact leafL ⟨rfl, S⟩
    · refine fI 18 (.slice ad5 p0.Left.length cp6) [(17, .pointer (some ⟨b10, 0, none⟩))] 6 [some 5] rfl rfl rfl rfl rfl rfl fun G a w S => ?_
      refine sLoad1 (p := b10) (off := 0) (T := 30) (vs := [.slice ad5 p0.Left.length cp6, .slice ad7 p0.Right.length cp8]) 3 (.slice ad5 p0.Left.length cp6) S (wN rfl) rfl rfl rfl rfl rfl rfl (lb rfl) fun a S => ?_
      exact leafL ⟨rfl, S⟩
    · refine fI 19 (iv (p0.Left.length : Int)) [(18, .slice ad5 p0.Left.length cp6)] 7 [some 6] rfl rfl rfl rfl rfl rfl fun G a w S => ?_
      refine sLen (ad := ad5) (m := p0.Left.length) (c := cp6) S (wN rfl) rfl Tryd.underlying28 rfl rfl (lb rfl) fun a S => ?_
      exact leafL ⟨rfl, S⟩
    refine ⟨_, [(19, iv (p0.Left.length : Int))], rfl, (srcs_of [some 7] rfl rfl rfl), fun G a w S => ?_⟩
    refine sMake (r := (rI .i64)) (m := (p0.Left.length : Int)) (xs := m30) (iv 0) (0 : Int) 8 S (wN rfl) rfl Tryd.underlying28 rfl rfl (by decide) (fun _ _ => rfl) rfl rfl hx31 rfl (lb rfl) fun a w ad41 cp42 S => ?_
    refine leafL ⟨rfl, _, _, .inl ⟨20, (.slice ad41 m30.length cp42), [(8, 21, .agg #[.slice ad35 m30.length cp36, .slice ad41 m30.length cp42])], rfl, S, hz_of rfl, ?_⟩⟩
    refine node_by (A := anc_piece_Mirror_0) (nf := [3, 7, 9, 10]) (Y := [7, 9, 3]) 11 (by kernel_rfl) (by kernel_rfl) (by kernel_rfl) (by kernel_rfl) (by kernel_rfl) [8, 7, 9, 3, 0, 1, 2, 4, 5, 6] (by kernel_rfl) (by decide) (by decide) (aD 0 10 3 (by decide) (aD 1 9 3 (by decide) (aD 2 8 3 (by decide) (aY 3 7 (by decide) (aD 4 6 7 (by decide) (aD 5 5 7 (by decide) (aD 6 4 7 (by decide) (aY 7 3 (by decide) (aF 8 2 (by decide) ?_ (aY 9 1 (by decide) (aN 10 0 (by decide) ?_ (trivial)))))))))))) [] (fun q hq => by cases hq) (fun hY => absurd (hY 10 (by decide)) (by decide))
    · refine fI 21 (.agg #[.slice ad35 m30.length cp36, .slice ad41 m30.length cp42]) [(16, .slice ad35 m30.length cp36), (20, .slice ad41 m30.length cp42)] 0 [some 3, some 1] rfl rfl rfl rfl rfl rfl fun G a w S => ?_
      refine sBuild [(0, .slice ad35 m30.length cp36), (1, .slice ad41 m30.length cp42)] [.slice ad35 m30.length cp36, .slice ad41 m30.length cp42] S (wN rfl) rfl rfl rfl rfl (lb rfl) fun a S => ?_
      exact leafL ⟨rfl, S⟩
    refine ⟨_, [(5, .pointer (some ⟨b40, 0, none⟩)), (21, .agg #[.slice ad35 m30.length cp36, .slice ad41 m30.length cp42])], rfl, (srcs_of [some 2, some 0] rfl rfl rfl), fun G a w S => ?_⟩
    refine sStore (p := b40) (off := 0) (T := 30) (vs := [.slice none 0 0, .slice none 0 0]) (v := .agg #[.slice ad35 m30.length cp36, .slice ad41 m30.length cp42]) 1 [.slice ad35 m30.length cp36, .slice ad41 m30.length cp42] S (wN rfl) rfl rfl rfl rfl rfl rfl rfl (by simp) rfl fun a w S => ?_
    refine leafL ⟨rfl, _, _, .inr ⟨[], rfl, S, hz_of rfl, ?_⟩⟩
    refine node_by (A := anc_piece_Mirror_0) (nf := [3, 7, 9, 10]) (Y := [10, 7, 9, 3]) 11 (by kernel_rfl) (by kernel_rfl) (by kernel_rfl) (by kernel_rfl) (by kernel_rfl) [8, 7, 9, 3, 0, 1, 2, 4, 5, 6] (by kernel_rfl) (by decide) (by decide) (aD 0 10 10 (by decide) (aD 1 9 10 (by decide) (aD 2 8 10 (by decide) (aY 3 7 (by decide) (aD 4 6 10 (by decide) (aD 5 5 10 (by decide) (aD 6 4 10 (by decide) (aY 7 3 (by decide) (aD 8 2 10 (by decide) (aY 9 1 (by decide) (aY 10 0 (by decide) (trivial)))))))))))) [(1, .pointer (some ⟨b10, 0, none⟩)), (2, .pointer (some ⟨b11, 0, none⟩)), (5, .pointer (some ⟨b40, 0, none⟩))] (fin_of [none, none, some 2] rfl (by kernel_rfl) (by kernel_rfl)) (fun _ a w S => ?_)
    exact leafT (⟨m30, m30, Option.some.inj h, b40, ad35, cp36, ad41, cp42, S.fix [4, 3, 0, 2, 1] [1, 0] (by decide) rfl rfl rfl⟩)
  · refine fI 17 (.pointer (some ⟨b10, 0, none⟩)) [(1, .pointer (some ⟨b10, 0, none⟩))] 3 [none] rfl rfl rfl rfl rfl rfl fun G a w S => ?_
    refine sField (b := b10) (off := 0) 0 0 S (wN rfl) rfl rfl rfl rfl rfl (lb rfl) fun a S => ?_
    exact leafL ⟨rfl, S⟩
  · refine fI 18 (.slice ad5 p0.Left.length cp6) [(17, .pointer (some ⟨b10, 0, none⟩))] 4 [some 3] rfl rfl rfl rfl rfl rfl fun G a w S => ?_
    refine sLoad1 (p := b10) (off := 0) (T := 30) (vs := [.slice ad5 p0.Left.length cp6, .slice ad7 p0.Right.length cp8]) 1 (.slice ad5 p0.Left.length cp6) S (wN rfl) rfl rfl rfl rfl rfl rfl (lb rfl) fun a S => ?_
    exact leafL ⟨rfl, S⟩
  · refine fI 19 (iv (p0.Left.length : Int)) [(18, .slice ad5 p0.Left.length cp6)] 5 [some 4] rfl rfl rfl rfl rfl rfl fun G a w S => ?_
    refine sLen (ad := ad5) (m := p0.Left.length) (c := cp6) S (wN rfl) rfl Tryd.underlying28 rfl rfl (lb rfl) fun a S => ?_
    exact leafL ⟨rfl, S⟩
  · refine ⟨_, [(19, iv (p0.Left.length : Int))], rfl, (srcs_of [some 5] rfl rfl rfl), fun G a w S => ?_⟩
    refine sMake (r := (rI .i64)) (m := (p0.Left.length : Int)) (xs := m30) (iv 0) (0 : Int) 8 S (wN rfl) rfl Tryd.underlying28 rfl rfl (by decide) (fun _ _ => rfl) rfl rfl hx31 rfl (lb rfl) fun a w ad43 cp44 S => ?_
    refine leafL ⟨rfl, _, _, .inl ⟨20, (.slice ad43 m30.length cp44), [], rfl, S, hz_of rfl, ?_⟩⟩
    refine node_by (A := anc_piece_Mirror_0) (nf := [3, 7, 9, 10]) (Y := [7]) 11 (by kernel_rfl) (by kernel_rfl) (by kernel_rfl) (by kernel_rfl) (by kernel_rfl) [7, 0, 1, 2, 4, 5, 6] (by kernel_rfl) (by decide) (by decide) (aF 0 10 (by decide) ?_ (aF 1 9 (by decide) ?_ (aF 2 8 (by decide) ?_ (aN 3 7 (by decide) ?_ (aD 4 6 7 (by decide) (aD 5 5 7 (by decide) (aD 6 4 7 (by decide) (aY 7 3 (by decide) (aE 8 2 3 (by decide) (aN 9 1 (by decide) ?_ (aB 10 0 3 (by decide) (trivial)))))))))))) [] (fun q hq => by cases hq) (fun hY => absurd (hY 3 (by decide)) (by decide))
    · refine fI 13 (.pointer (some ⟨b10, 0, none⟩)) [(1, .pointer (some ⟨b10, 0, none⟩))] 1 [none] rfl rfl rfl rfl rfl rfl fun G a w S => ?_
      refine sField (b := b10) (off := 0) 0 0 S (wN rfl) rfl rfl rfl rfl rfl (lb rfl) fun a S => ?_
      exact leafL ⟨rfl, S⟩
    · refine fI 14 (.slice ad5 p0.Left.length cp6) [(13, .pointer (some ⟨b10, 0, none⟩))] 2 [some 1] rfl rfl rfl rfl rfl rfl fun G a w S => ?_
      refine sLoad1 (p := b10) (off := 0) (T := 30) (vs := [.slice ad5 p0.Left.length cp6, .slice ad7 p0.Right.length cp8]) 2 (.slice ad5 p0.Left.length cp6) S (wN rfl) rfl rfl rfl rfl rfl rfl (lb rfl) fun a S => ?_
      exact leafL ⟨rfl, S⟩
    · refine fI 15 (iv (p0.Left.length : Int)) [(14, .slice ad5 p0.Left.length cp6)] 3 [some 2] rfl rfl rfl rfl rfl rfl fun G a w S => ?_
      refine sLen (ad := ad5) (m := p0.Left.length) (c := cp6) S (wN rfl) rfl Tryd.underlying28 rfl rfl (lb rfl) fun a S => ?_
      exact leafL ⟨rfl, S⟩
    · refine ⟨_, [(15, iv (p0.Left.length : Int))], rfl, (srcs_of [some 3] rfl rfl rfl), fun G a w S => ?_⟩
      refine sMake (r := (rI .i64)) (m := (p0.Left.length : Int)) (xs := m30) (iv 0) (0 : Int) 8 S (wN rfl) rfl Tryd.underlying28 rfl rfl (by decide) (fun _ _ => rfl) rfl rfl hx31 rfl (lb rfl) fun a w ad45 cp46 S => ?_
      refine leafL ⟨rfl, _, _, .inl ⟨16, (.slice ad45 m30.length cp46), [(8, 21, .agg #[.slice ad45 m30.length cp46, .slice ad43 m30.length cp44])], rfl, S, hz_of rfl, ?_⟩⟩
      refine node_by (A := anc_piece_Mirror_0) (nf := [3, 7, 9, 10]) (Y := [3, 7]) 11 (by kernel_rfl) (by kernel_rfl) (by kernel_rfl) (by kernel_rfl) (by kernel_rfl) [8, 3, 7, 0, 1, 2, 4, 5, 6] (by kernel_rfl) (by decide) (by decide) (aD 0 10 3 (by decide) (aD 1 9 3 (by decide) (aD 2 8 3 (by decide) (aY 3 7 (by decide) (aD 4 6 7 (by decide) (aD 5 5 7 (by decide) (aD 6 4 7 (by decide) (aY 7 3 (by decide) (aF 8 2 (by decide) ?_ (aN 9 1 (by decide) ?_ (aB 10 0 9 (by decide) (trivial)))))))))))) [] (fun q hq => by cases hq) (fun hY => absurd (hY 9 (by decide)) (by decide))
      · refine fI 21 (.agg #[.slice ad45 m30.length cp46, .slice ad43 m30.length cp44]) [(16, .slice ad45 m30.length cp46), (20, .slice ad43 m30.length cp44)] 0 [some 1, some 2] rfl rfl rfl rfl rfl rfl fun G a w S => ?_
        refine sBuild [(0, .slice ad45 m30.length cp46), (1, .slice ad43 m30.length cp44)] [.slice ad45 m30.length cp46, .slice ad43 m30.length cp44] S (wN rfl) rfl rfl rfl rfl (lb rfl) fun a S => ?_
        exact leafL ⟨rfl, S⟩
      refine ⟨_, [], rfl, (srcs_of [] rfl rfl rfl), fun G a w S => ?_⟩
      refine sAlloc (.agg #[.slice none 0 0, .slice none 0 0]) S (wN rfl) rfl rfl [.slice none 0 0, .slice none 0 0] rfl rfl (lb rfl) fun a b47 w S => ?_
      refine leafL ⟨rfl, _, _, .inl ⟨5, (.pointer (some ⟨b47, 0, none⟩)), [], rfl, S, hz_of rfl, ?_⟩⟩
      refine node_by (A := anc_piece_Mirror_0) (nf := [3, 7, 9, 10]) (Y := [9, 3, 7]) 11 (by kernel_rfl) (by kernel_rfl) (by kernel_rfl) (by kernel_rfl) (by kernel_rfl) [9, 8, 3, 7, 0, 1, 2, 4, 5, 6] (by kernel_rfl) (by decide) (by decide) (aD 0 10 3 (by decide) (aD 1 9 3 (by decide) (aD 2 8 3 (by decide) (aY 3 7 (by decide) (aD 4 6 7 (by decide) (aD 5 5 7 (by decide) (aD 6 4 7 (by decide) (aY 7 3 (by decide) (aF 8 2 (by decide) ?_ (aY 9 1 (by decide) (aN 10 0 (by decide) ?_ (trivial)))))))))))) [] (fun q hq => by cases hq) (fun hY => absurd (hY 10 (by decide)) (by decide))
      · refine fI 21 (.agg #[.slice ad45 m30.length cp46, .slice ad43 m30.length cp44]) [(16, .slice ad45 m30.length cp46), (20, .slice ad43 m30.length cp44)] 1 [some 2, some 3] rfl rfl rfl rfl rfl rfl fun G a w S => ?_
        refine sBuild [(0, .slice ad45 m30.length cp46), (1, .slice ad43 m30.length cp44)] [.slice ad45 m30.length cp46, .slice ad43 m30.length cp44] S (wN rfl) rfl rfl rfl rfl (lb rfl) fun a S => ?_
        exact leafL ⟨rfl, S⟩
      refine ⟨_, [(5, .pointer (some ⟨b47, 0, none⟩)), (21, .agg #[.slice ad45 m30.length cp46, .slice ad43 m30.length cp44])], rfl, (srcs_of [some 0, some 1] rfl rfl rfl), fun G a w S => ?_⟩
      refine sStore (p := b47) (off := 0) (T := 30) (vs := [.slice none 0 0, .slice none 0 0]) (v := .agg #[.slice ad45 m30.length cp46, .slice ad43 m30.length cp44]) 0 [.slice ad45 m30.length cp46, .slice ad43 m30.length cp44] S (wN rfl) rfl rfl rfl rfl rfl rfl rfl (by simp) rfl fun a w S => ?_
      refine leafL ⟨rfl, _, _, .inr ⟨[], rfl, S, hz_of rfl, ?_⟩⟩
      refine node_by (A := anc_piece_Mirror_0) (nf := [3, 7, 9, 10]) (Y := [10, 9, 3, 7]) 11 (by kernel_rfl) (by kernel_rfl) (by kernel_rfl) (by kernel_rfl) (by kernel_rfl) [9, 8, 3, 7, 0, 1, 2, 4, 5, 6] (by kernel_rfl) (by decide) (by decide) (aD 0 10 10 (by decide) (aD 1 9 10 (by decide) (aD 2 8 10 (by decide) (aY 3 7 (by decide) (aD 4 6 10 (by decide) (aD 5 5 10 (by decide) (aD 6 4 10 (by decide) (aY 7 3 (by decide) (aD 8 2 10 (by decide) (aY 9 1 (by decide) (aY 10 0 (by decide) (trivial)))))))))))) [(1, .pointer (some ⟨b10, 0, none⟩)), (2, .pointer (some ⟨b11, 0, none⟩)), (5, .pointer (some ⟨b47, 0, none⟩))] (fin_of [none, none, some 0] rfl (by kernel_rfl) (by kernel_rfl)) (fun _ a w S => ?_)
      exact leafT (⟨m30, m30, Option.some.inj h, b47, ad45, cp46, ad43, cp44, S.fix [4, 3, 0, 1, 2] [1, 0] (by decide) rfl rfl rfl⟩)
    refine ⟨_, [], rfl, (srcs_of [] rfl rfl rfl), fun G a w S => ?_⟩
    refine sAlloc (.agg #[.slice none 0 0, .slice none 0 0]) S (wN rfl) rfl rfl [.slice none 0 0, .slice none 0 0] rfl rfl (lb rfl) fun a b48 w S => ?_
    refine leafL ⟨rfl, _, _, .inl ⟨5, (.pointer (some ⟨b48, 0, none⟩)), [], rfl, S, hz_of rfl, ?_⟩⟩
    refine node_by (A := anc_piece_Mirror_0) (nf := [3, 7, 9, 10]) (Y := [9, 7]) 11 (by kernel_rfl) (by kernel_rfl) (by kernel_rfl) (by kernel_rfl) (by kernel_rfl) [9, 7, 0, 1, 2, 4, 5, 6] (by kernel_rfl) (by decide) (by decide) (aF 0 10 (by decide) ?_ (aF 1 9 (by decide) ?_ (aF 2 8 (by decide) ?_ (aN 3 7 (by decide) ?_ (aD 4 6 7 (by decide) (aD 5 5 7 (by decide) (aD 6 4 7 (by decide) (aY 7 3 (by decide) (aE 8 2 3 (by decide) (aY 9 1 (by decide) (aB 10 0 3 (by decide) (trivial)))))))))))) [] (fun q hq => by cases hq) (fun hY => absurd (hY 3 (by decide)) (by decide))
    · refine fI 13 (.pointer (some ⟨b10, 0, none⟩)) [(1, .pointer (some ⟨b10, 0, none⟩))] 2 [none] rfl rfl rfl rfl rfl rfl fun G a w S => ?_
      refine sField (b := b10) (off := 0) 0 0 S (wN rfl) rfl rfl rfl rfl rfl (lb rfl) fun a S => ?_
      exact leafL ⟨rfl, S⟩
    · refine fI 14 (.slice ad5 p0.Left.length cp6) [(13, .pointer (some ⟨b10, 0, none⟩))] 3 [some 2] rfl rfl rfl rfl rfl rfl fun G a w S => ?_
      refine sLoad1 (p := b10) (off := 0) (T := 30) (vs := [.slice ad5 p0.Left.length cp6, .slice ad7 p0.Right.length cp8]) 3 (.slice ad5 p0.Left.length cp6) S (wN rfl) rfl rfl rfl rfl rfl rfl (lb rfl) fun a S => ?_
      exact leafL ⟨rfl, S⟩
    · refine fI 15 (iv (p0.Left.length : Int)) [(14, .slice ad5 p0.Left.length cp6)] 4 [some 3] rfl rfl rfl rfl rfl rfl fun G a w S => ?_
      refine sLen (ad := ad5) (m := p0.Left.length) (c := cp6) S (wN rfl) rfl Tryd.underlying28 rfl rfl (lb rfl) fun a S => ?_
      exact leafL ⟨rfl, S⟩
    refine ⟨_, [(15, iv (p0.Left.length : Int))], rfl, (srcs_of [some 4] rfl rfl rfl), fun G a w S => ?_⟩
    refine sMake (r := (rI .i64)) (m := (p0.Left.length : Int)) (xs := m30) (iv 0) (0 : Int) 8 S (wN rfl) rfl Tryd.underlying28 rfl rfl (by decide) (fun _ _ => rfl) rfl rfl hx31 rfl (lb rfl) fun a w ad49 cp50 S => ?_
    refine leafL ⟨rfl, _, _, .inl ⟨16, (.slice ad49 m30.length cp50), [(8, 21, .agg #[.slice ad49 m30.length cp50, .slice ad43 m30.length cp44])], rfl, S, hz_of rfl, ?_⟩⟩
    refine node_by (A := anc_piece_Mirror_0) (nf := [3, 7, 9, 10]) (Y := [3, 9, 7]) 11 (by kernel_rfl) (by kernel_rfl) (by kernel_rfl) (by kernel_rfl) (by kernel_rfl) [8, 3, 9, 7, 0, 1, 2, 4, 5, 6] (by kernel_rfl) (by decide) (by decide) (aD 0 10 3 (by decide) (aD 1 9 3 (by decide) (aD 2 8 3 (by decide) (aY 3 7 (by decide) (aD 4 6 7 (by decide) (aD 5 5 7 (by decide) (aD 6 4 7 (by decide) (aY 7 3 (by decide) (aF 8 2 (by decide) ?_ (aY 9 1 (by decide) (aN 10 0 (by decide) ?_ (trivial)))))))))))) [] (fun q hq => by cases hq) (fun hY => absurd (hY 10 (by decide)) (by decide))
    · refine fI 21 (.agg #[.slice ad49 m30.length cp50, .slice ad43 m30.length cp44]) [(16, .slice ad49 m30.length cp50), (20, .slice ad43 m30.length cp44)] 0 [some 1, some 3] rfl rfl rfl rfl rfl rfl fun G a w S => ?_
      refine sBuild [(0, .slice ad49 m30.length cp50), (1, .slice ad43 m30.length cp44)] [.slice ad49 m30.length cp50, .slice ad43 m30.length cp44] S (wN rfl) rfl rfl rfl rfl (lb rfl) fun a S => ?_
      exact leafL ⟨rfl, S⟩
    refine ⟨_, [(5, .pointer (some ⟨b48, 0, none⟩)), (21, .agg #[.slice ad49 m30.length cp50, .slice ad43 m30.length cp44])], rfl, (srcs_of [some 2, some 0] rfl rfl rfl), fun G a w S => ?_⟩
    refine sStore (p := b48) (off := 0) (T := 30) (vs := [.slice none 0 0, .slice none 0 0]) (v := .agg #[.slice ad49 m30.length cp50, .slice ad43 m30.length cp44]) 1 [.slice ad49 m30.length cp50, .slice ad43 m30.length cp44] S (wN rfl) rfl rfl rfl rfl rfl rfl rfl (by simp) rfl fun a w S => ?_
    refine leafL ⟨rfl, _, _, .inr ⟨[], rfl, S, hz_of rfl, ?_⟩⟩
    refine node_by (A := anc_piece_Mirror_0) (nf := [3, 7, 9, 10]) (Y := [10, 3, 9, 7]) 11 (by kernel_rfl) (by kernel_rfl) (by kernel_rfl) (by kernel_rfl) (by kernel_rfl) [8, 3, 9, 7, 0, 1, 2, 4, 5, 6] (by kernel_rfl) (by decide) (by decide) (aD 0 10 10 (by decide) (aD 1 9 10 (by decide) (aD 2 8 10 (by decide) (aY 3 7 (by decide) (aD 4 6 10 (by decide) (aD 5 5 10 (by decide) (aD 6 4 10 (by decide) (aY 7 3 (by decide) (aD 8 2 10 (by decide) (aY 9 1 (by decide) (aY 10 0 (by decide) (trivial)))))))))))) [(1, .pointer (some ⟨b10, 0, none⟩)), (2, .pointer (some ⟨b11, 0, none⟩)), (5, .pointer (some ⟨b48, 0, none⟩))] (fin_of [none, none, some 2] rfl (by kernel_rfl) (by kernel_rfl)) (fun _ a w S => ?_)
    exact leafT (⟨m30, m30, Option.some.inj h, b48, ad49, cp50, ad43, cp44, S.fix [4, 3, 0, 1, 2] [1, 0] (by decide) rfl rfl rfl⟩)
  refine ⟨_, [], rfl, (srcs_of [] rfl rfl rfl), fun G a w S => ?_⟩
  refine sAlloc (.agg #[.slice none 0 0, .slice none 0 0]) S (wN rfl) rfl rfl [.slice none 0 0, .slice none 0 0] rfl rfl (lb rfl) fun a b51 w S => ?_
  refine leafL ⟨rfl, _, _, .inl ⟨5, (.pointer (some ⟨b51, 0, none⟩)), [], rfl, S, hz_of rfl, ?_⟩⟩
  refine node_by (A := anc_piece_Mirror_0) (nf := [3, 7, 9, 10]) (Y := [9]) 11 (by kernel_rfl) (by kernel_rfl) (by kernel_rfl) (by kernel_rfl) (by kernel_rfl) [9, 0, 1, 2, 4, 5, 6] (by kernel_rfl) (by decide) (by decide) (aF 0 10 (by decide) ?_ (aF 1 9 (by decide) ?_ (aF 2 8 (by decide) ?_ (aN 3 7 (by decide) ?_ (aF 4 6 (by decide) ?_ (aF 5 5 (by decide) ?_ (aF 6 4 (by decide) ?_ (aN 7 3 (by decide) ?_ (aE 8 2 3 (by decide) (aY 9 1 (by decide) (aB 10 0 3 (by decide) (trivial)))))))))))) [] (fun q hq => by cases hq) (fun hY => absurd (hY 3 (by decide)) (by decide))
  · refine fI 13 (.pointer (some ⟨b10, 0, none⟩)) [(1, .pointer (some ⟨b10, 0, none⟩))] 1 [none] rfl rfl rfl rfl rfl rfl fun G a w S => ?_
    refine sField (b := b10) (off := 0) 0 0 S (wN rfl) rfl rfl rfl rfl rfl (lb rfl) fun a S => ?_
    exact leafL ⟨rfl, S⟩
  · refine fI 14 (.slice ad5 p0.Left.length cp6) [(13, .pointer (some ⟨b10, 0, none⟩))] 2 [some 1] rfl rfl rfl rfl rfl rfl fun G a w S => ?_
    refine sLoad1 (p := b10) (off := 0) (T := 30) (vs := [.slice ad5 p0.Left.length cp6, .slice ad7 p0.Right.length cp8]) 2 (.slice ad5 p0.Left.length cp6) S (wN rfl) rfl rfl rfl rfl rfl rfl (lb rfl) fun a S => ?_
    exact leafL ⟨rfl, S⟩
  · refine fI 15 (iv (p0.Left.length : Int)) [(14, .slice ad5 p0.Left.length cp6)] 3 [some 2] rfl rfl rfl rfl rfl rfl fun G a w S => ?_
    refine sLen (ad := ad5) (m := p0.Left.length) (c := cp6) S (wN rfl) rfl Tryd.underlying28 rfl rfl (lb rfl) fun a S => ?_
    exact leafL ⟨rfl, S⟩
  · refine ⟨_, [(15, iv (p0.Left.length : Int))], rfl, (srcs_of [some 3] rfl rfl rfl), fun G a w S => ?_⟩
    refine sMake (r := (rI .i64)) (m := (p0.Left.length : Int)) (xs := m30) (iv 0) (0 : Int) 8 S (wN rfl) rfl Tryd.underlying28 rfl rfl (by decide) (fun _ _ => rfl) rfl rfl hx31 rfl (lb rfl) fun a w ad52 cp53 S => ?_
    refine leafL ⟨rfl, _, _, .inl ⟨16, (.slice ad52 m30.length cp53), [], rfl, S, hz_of rfl, ?_⟩⟩
    refine node_by (A := anc_piece_Mirror_0) (nf := [3, 7, 9, 10]) (Y := [3, 9]) 11 (by kernel_rfl) (by kernel_rfl) (by kernel_rfl) (by kernel_rfl) (by kernel_rfl) [3, 9, 0, 1, 2, 4, 5, 6] (by kernel_rfl) (by decide) (by decide) (aD 0 10 3 (by decide) (aD 1 9 3 (by decide) (aD 2 8 3 (by decide) (aY 3 7 (by decide) (aF 4 6 (by decide) ?_ (aF 5 5 (by decide) ?_ (aF 6 4 (by decide) ?_ (aN 7 3 (by decide) ?_ (aE 8 2 7 (by decide) (aY 9 1 (by decide) (aB 10 0 7 (by decide) (trivial)))))))))))) [] (fun q hq => by cases hq) (fun hY => absurd (hY 7 (by decide)) (by decide))
    · refine fI 17 (.pointer (some ⟨b10, 0, none⟩)) [(1, .pointer (some ⟨b10, 0, none⟩))] 5 [none] rfl rfl rfl rfl rfl rfl fun G a w S => ?_
      refine sField (b := b10) (off := 0) 0 0 S (wN rfl) rfl rfl rfl rfl rfl (lb rfl) fun a S => ?_
      exact leafL ⟨rfl, S⟩
    · refine fI 18 (.slice ad5 p0.Left.length cp6) [(17, .pointer (some ⟨b10, 0, none⟩))] 6 [some 5] rfl rfl rfl rfl rfl rfl fun G a w S => ?_
      refine sLoad1 (p := b10) (off := 0) (T := 30) (vs := [.slice ad5 p0.Left.length cp6, .slice ad7 p0.Right.length cp8]) 3 (.slice ad5 p0.Left.length cp6) S (wN rfl) rfl rfl rfl rfl rfl rfl (lb rfl) fun a S => ?_
      exact leafL ⟨rfl, S⟩
    · refine fI 19 (iv (p0.Left.length : Int)) [(18, .slice ad5 p0.Left.length cp6)] 7 [some 6] rfl rfl rfl rfl rfl rfl fun G a w S => ?_
      refine sLen (ad := ad5) (m := p0.Left.length) (c := cp6) S (wN rfl) rfl Tryd.underlying28 rfl rfl (lb rfl) fun a S => ?_
      exact leafL ⟨rfl, S⟩
    refine ⟨_, [(19, iv (p0.Left.length : Int))], rfl, (srcs_of [some 7] rfl rfl rfl), fun G a w S => ?_⟩
    refine sMake (r := (rI .i64)) (m := (p0.Left.length : Int)) (xs := m30) (iv 0) (0 : Int) 8 S (wN rfl) rfl Tryd.underlying28 rfl rfl (by decide) (fun _ _ => rfl) rfl rfl hx31 rfl (lb rfl) fun a w ad54 cp55 S => ?_
    refine leafL ⟨rfl, _, _, .inl ⟨20, (.slice ad54 m30.length cp55), [(8, 21, .agg #[.slice ad52 m30.length cp53, .slice ad54 m30.length cp55])], rfl, S, hz_of rfl, ?_⟩⟩
    refine node_by (A := anc_piece_Mirror_0) (nf := [3, 7, 9, 10]) (Y := [7, 3, 9]) 11 (by kernel_rfl) (by kernel_rfl) (by kernel_rfl) (by kernel_rfl) (by kernel_rfl) [8, 7, 3, 9, 0, 1, 2, 4, 5, 6] (by kernel_rfl) (by decide) (by decide) (aD 0 10 3 (by decide) (aD 1 9 3 (by decide) (aD 2 8 3 (by decide) (aY 3 7 (by decide) (aD 4 6 7 (by decide) (aD 5 5 7 (by decide) (aD 6 4 7 (by decide) (aY 7 3 (by decide) (aF 8 2 (by decide) ?_ (aY 9 1 (by decide) (aN 10 0 (by decide) ?_ (trivial)))))))))))) [] (fun q hq => by cases hq) (fun hY => absurd (hY 10 (by decide)) (by decide))
    · refine fI 21 (.agg #[.slice ad52 m30.length cp53, .slice ad54 m30.length cp55]) [(16, .slice ad52 m30.length cp53), (20, .slice ad54 m30.length cp55)] 0 [some 2, some 1] rfl rfl rfl rfl rfl rfl fun G a w S => ?_
      refine sBuild [(0, .slice ad52 m30.length cp53), (1, .slice ad54 m30.length cp55)] [.slice ad52 m30.length cp53, .slice ad54 m30.length cp55] S (wN rfl) rfl rfl rfl rfl (lb rfl) fun a S => ?_
      exact leafL ⟨rfl, S⟩
    refine ⟨_, [(5, .pointer (some ⟨b51, 0, none⟩)), (21, .agg #[.slice ad52 m30.length cp53, .slice ad54 m30.length cp55])], rfl, (srcs_of [some 3, some 0] rfl rfl rfl), fun G a w S => ?_⟩
    refine sStore (p := b51) (off := 0) (T := 30) (vs := [.slice none 0 0, .slice none 0 0]) (v := .agg #[.slice ad52 m30.length cp53, .slice ad54 m30.length cp55]) 2 [.slice ad52 m30.length cp53, .slice ad54 m30.length cp55] S (wN rfl) rfl rfl rfl rfl rfl rfl rfl (by simp) rfl fun a w S => ?_
    refine leafL ⟨rfl, _, _, .inr ⟨[], rfl, S, hz_of rfl, ?_⟩⟩
    refine node_by (A := anc_piece_Mirror_0) (nf := [3, 7, 9, 10]) (Y := [10, 7, 3, 9]) 11 (by kernel_rfl) (by kernel_rfl) (by kernel_rfl) (by kernel_rfl) (by kernel_rfl) [8, 7, 3, 9, 0, 1, 2, 4, 5, 6] (by kernel_rfl) (by decide) (by decide) (aD 0 10 10 (by decide) (aD 1 9 10 (by decide) (aD 2 8 10 (by decide) (aY 3 7 (by decide) (aD 4 6 10 (by decide) (aD 5 5 10 (by decide) (aD 6 4 10 (by decide) (aY 7 3 (by decide) (aD 8 2 10 (by decide) (aY 9 1 (by decide) (aY 10 0 (by decide) (trivial)))))))))))) [(1, .pointer (some ⟨b10, 0, none⟩)), (2, .pointer (some ⟨b11, 0, none⟩)), (5, .pointer (some ⟨b51, 0, none⟩))] (fin_of [none, none, some 3] rfl (by kernel_rfl) (by kernel_rfl)) (fun _ a w S => ?_)
    exact leafT (⟨m30, m30, Option.some.inj h, b51, ad52, cp53, ad54, cp55, S.fix [4, 3, 0, 2, 1] [1, 0] (by decide) rfl rfl rfl⟩)
  · refine fI 17 (.pointer (some ⟨b10, 0, none⟩)) [(1, .pointer (some ⟨b10, 0, none⟩))] 4 [none] rfl rfl rfl rfl rfl rfl fun G a w S => ?_
    refine sField (b := b10) (off := 0) 0 0 S (wN rfl) rfl rfl rfl rfl rfl (lb rfl) fun a S => ?_
    exact leafL ⟨rfl, S⟩
  · refine fI 18 (.slice ad5 p0.Left.length cp6) [(17, .pointer (some ⟨b10, 0, none⟩))] 5 [some 4] rfl rfl rfl rfl rfl rfl fun G a w S => ?_
    refine sLoad1 (p := b10) (off := 0) (T := 30) (vs := [.slice ad5 p0.Left.length cp6, .slice ad7 p0.Right.length cp8]) 2 (.slice ad5 p0.Left.length cp6) S (wN rfl) rfl rfl rfl rfl rfl rfl (lb rfl) fun a S => ?_
    exact leafL ⟨rfl, S⟩
  · refine fI 19 (iv (p0.Left.length : Int)) [(18, .slice ad5 p0.Left.length cp6)] 6 [some 5] rfl rfl rfl rfl rfl rfl fun G a w S => ?_
    refine sLen (ad := ad5) (m := p0.Left.length) (c := cp6) S (wN rfl) rfl Tryd.underlying28 rfl rfl (lb rfl) fun a S => ?_
    exact leafL ⟨rfl, S⟩
  refine ⟨_, [(19, iv (p0.Left.length : Int))], rfl, (srcs_of [some 6] rfl rfl rfl), fun G a w S => ?_⟩
  refine sMake (r := (rI .i64)) (m := (p0.Left.length : Int)) (xs := m30) (iv 0) (0 : Int) 8 S (wN rfl) rfl Tryd.underlying28 rfl rfl (by decide) (fun _ _ => rfl) rfl rfl hx31 rfl (lb rfl) fun a w ad56 cp57 S => ?_
  refine leafL ⟨rfl, _, _, .inl ⟨20, (.slice ad56 m30.length cp57), [], rfl, S, hz_of rfl, ?_⟩⟩
  refine node_by (A := anc_piece_Mirror_0) (nf := [3, 7, 9, 10]) (Y := [7, 9]) 11 (by kernel_rfl) (by kernel_rfl) (by kernel_rfl) (by kernel_rfl) (by kernel_rfl) [7, 9, 0, 1, 2, 4, 5, 6] (by kernel_rfl) (by decide) (by decide) (aF 0 10 (by decide) ?_ (aF 1 9 (by decide) ?_ (aF 2 8 (by decide) ?_ (aN 3 7 (by decide) ?_ (aD 4 6 7 (by decide) (aD 5 5 7 (by decide) (aD 6 4 7 (by decide) (aY 7 3 (by decide) (aE 8 2 3 (by decide) (aY 9 1 (by decide) (aB 10 0 3 (by decide) (trivial)))))))))))) [] (fun q hq => by cases hq) (fun hY => absurd (hY 3 (by decide)) (by decide))
  · refine fI 13 (.pointer (some ⟨b10, 0, none⟩)) [(1, .pointer (some ⟨b10, 0, none⟩))] 2 [none] rfl rfl rfl rfl rfl rfl fun G a w S => ?_
    refine sField (b := b10) (off := 0) 0 0 S (wN rfl) rfl rfl rfl rfl rfl (lb rfl) fun a S => ?_
    exact leafL ⟨rfl, S⟩
  · refine fI 14 (.slice ad5 p0.Left.length cp6) [(13, .pointer (some ⟨b10, 0, none⟩))] 3 [some 2] rfl rfl rfl rfl rfl rfl fun G a w S => ?_
    refine sLoad1 (p := b10) (off := 0) (T := 30) (vs := [.slice ad5 p0.Left.length cp6, .slice ad7 p0.Right.length cp8]) 3 (.slice ad5 p0.Left.length cp6) S (wN rfl) rfl rfl rfl rfl rfl rfl (lb rfl) fun a S => ?_
    exact leafL ⟨rfl, S⟩
  · refine fI 15 (iv (p0.Left.length : Int)) [(14, .slice ad5 p0.Left.length cp6)] 4 [some 3] rfl rfl rfl rfl rfl rfl fun G a w S => ?_
    refine sLen (ad := ad5) (m := p0.Left.length) (c := cp6) S (wN rfl) rfl Tryd.underlying28 rfl rfl (lb rfl) fun a S => ?_
    exact leafL ⟨rfl, S⟩
  refine ⟨_, [(15, iv (p0.Left.length : Int))], rfl, (srcs_of [some 4] rfl rfl rfl), fun G a w S => ?_⟩
  refine sMake (r := (rI .i64)) (m := (p0.Left.length : Int)) (xs := m30) (iv 0) (0 : Int) 8 S (wN rfl) rfl Tryd.underlying28 rfl rfl (by decide) (fun _ _ => rfl) rfl rfl hx31 rfl (lb rfl) fun a w ad58 cp59 S => ?_
  refine leafL ⟨rfl, _, _, .inl ⟨16, (.slice ad58 m30.length cp59), [(8, 21, .agg #[.slice ad58 m30.length cp59, .slice ad56 m30.length cp57])], rfl, S, hz_of rfl, ?_⟩⟩
  refine node_by (A := anc_piece_Mirror_0) (nf := [3, 7, 9, 10]) (Y := [3, 7, 9]) 11 (by kernel_rfl) (by kernel_rfl) (by kernel_rfl) (by kernel_rfl) (by kernel_rfl) [8, 3, 7, 9, 0, 1, 2, 4, 5, 6] (by kernel_rfl) (by decide) (by decide) (aD 0 10 3 (by decide) (aD 1 9 3 (by decide) (aD 2 8 3 (by decide) (aY 3 7 (by decide) (aD 4 6 7 (by decide) (aD 5 5 7 (by decide) (aD 6 4 7 (by decide) (aY 7 3 (by decide) (aF 8 2 (by decide) ?_ (aY 9 1 (by decide) (aN 10 0 (by decide) ?_ (trivial)))))))))))) [] (fun q hq => by cases hq) (fun hY => absurd (hY 10 (by decide)) (by decide))
  · refine fI 21 (.agg #[.slice ad58 m30.length cp59, .slice ad56 m30.length cp57]) [(16, .slice ad58 m30.length cp59), (20, .slice ad56 m30.length cp57)] 0 [some 1, some 2] rfl rfl rfl rfl rfl rfl fun G a w S => ?_
    refine sBuild [(0, .slice ad58 m30.length cp59), (1, .slice ad56 m30.length cp57)] [.slice ad58 m30.length cp59, .slice ad56 m30.length cp57] S (wN rfl) rfl rfl rfl rfl (lb rfl) fun a S => ?_
    exact leafL ⟨rfl, S⟩
  refine ⟨_, [(5, .pointer (some ⟨b51, 0, none⟩)), (21, .agg #[.slice ad58 m30.length cp59, .slice ad56 m30.length cp57])], rfl, (srcs_of [some 3, some 0] rfl rfl rfl), fun G a w S => ?_⟩
  refine sStore (p := b51) (off := 0) (T := 30) (vs := [.slice none 0 0, .slice none 0 0]) (v := .agg #[.slice ad58 m30.length cp59, .slice ad56 m30.length cp57]) 2 [.slice ad58 m30.length cp59, .slice ad56 m30.length cp57] S (wN rfl) rfl rfl rfl rfl rfl rfl rfl (by simp) rfl fun a w S => ?_
  refine leafL ⟨rfl, _, _, .inr ⟨[], rfl, S, hz_of rfl, ?_⟩⟩
  refine node_by (A := anc_piece_Mirror_0) (nf := [3, 7, 9, 10]) (Y := [10, 3, 7, 9]) 11 (by kernel_rfl) (by kernel_rfl) (by kernel_rfl) (by kernel_rfl) (by kernel_rfl) [8, 3, 7, 9, 0, 1, 2, 4, 5, 6] (by kernel_rfl) (by decide) (by decide) (aD 0 10 10 (by decide) (aD 1 9 10 (by decide) (aD 2 8 10 (by decide) (aY 3 7 (by decide) (aD 4 6 10 (by decide) (aD 5 5 10 (by decide) (aD 6 4 10 (by decide) (aY 7 3 (by decide) (aD 8 2 10 (by decide) (aY 9 1 (by decide) (aY 10 0 (by decide) (trivial)))))))))))) [(1, .pointer (some ⟨b10, 0, none⟩)), (2, .pointer (some ⟨b11, 0, none⟩)), (5, .pointer (some ⟨b51, 0, none⟩))] (fin_of [none, none, some 3] rfl (by kernel_rfl) (by kernel_rfl)) (fun _ a w S => ?_)
  exact leafT (⟨m30, m30, Option.some.inj h, b51, ad58, cp59, ad56, cp57, S.fix [4, 3, 0, 1, 2] [1, 0] (by decide) rfl rfl rfl⟩)

end Go.Proofs.YtmedbnjhgkcndaaDoor
namespace Go.Proofs.YtmedbnjhgkcndaaDoor
open Go.RowKit
set_option linter.unusedVariables false

def anc_piece_Changes_0 : List (List Nat) := [[], [], [1], [], [1, 2, 3], [1, 2, 3, 4], [], [6], [], [8], [6, 7, 8, 9], [6, 7, 8, 9, 10], [1, 2, 3, 4, 5, 6, 7, 8, 9, 10, 11], [], [13], [], [13, 14, 15], [13, 14, 15, 16], [], [18], [], [20], [18, 19, 20, 21], [18, 19, 20, 21, 22], [13, 14, 15, 16, 17, 18, 19, 20, 21, 22, 23], [1, 2, 3, 4, 5, 6, 7, 8, 9, 10, 11, 12, 13, 14, 15, 16, 17, 18, 19, 20, 21, 22, 23, 24], [1, 2, 3, 4, 5, 6, 7, 8, 9, 10, 11, 12, 13, 14, 15, 16, 17, 18, 19, 20, 21, 22, 23, 24, 25], [0, 1, 2, 3, 4, 5, 6, 7, 8, 9, 10, 11, 12, 13, 14, 15, 16, 17, 18, 19, 20, 21, 22, 23, 24, 25, 26], [0, 1, 2, 3, 4, 5, 6, 7, 8, 9, 10, 11, 12, 13, 14, 15, 16, 17, 18, 19, 20, 21, 22, 23, 24, 25, 26, 27]]
noncomputable def piece_Changes_l1 (p0 : api_Piece) : (List (Int × Int) × Int) → Option ((List (Int × Int) × Int) ⊕ List (Int × Int)) := fun s0 => match s0 with
  | (s29, s32) =>
    if decide (s32 < (p0.Left.length : Int)) then
      Option.bind (idxO p0.Left s32) fun x43 =>
      Option.bind (idxO p0.Left (w64 (s32 - 1))) fun x48 =>
      Option.bind (idxO p0.Right s32) fun x53 =>
      Option.bind (idxO p0.Right (w64 (s32 - 1))) fun x58 =>
      Option.bind (appO s29 [(w64 (x43 - x48), w64 (x53 - x58))]) fun l65 =>
      some (.inl (l65, w64 (s32 + 1)))
    else
      some (.inr s29)
noncomputable def F_piece_Changes (p0 : api_Piece) : Option ((List (Int × Int)) × Int) :=
  Option.bind (F_piece_Check p0) fun r13 =>
  if r13 != 0 then
    some (([] : (List (Int × Int))), r13)
  else
    Option.bind (capO (p0.Left.length : Int)) fun z21 =>
    Option.bind (α := List (Int × Int)) (
      Option.bind (whileO (piece_Changes_l1 p0) (([] : List (Int × Int)), 1)) fun e36 =>
        some e36) fun o23 =>
    some (o23, 0)
def c_piece_Changes_val (r : ((List (Int × Int)) × Int)) (x : Value) : Value := .tuple #[x, .int .i64 r.2]
def c_piece_Changes_D (r : ((List (Int × Int)) × Int)) (x : Value) : List Fact := [fRep (rL r_A2_Int) x r.1]
set_option maxHeartbeats 4000000 in
set_option maxRecDepth 100000 in
theorem c_piece_Changes (E : Nat → Prop) (w0 : World) (p0 : api_Piece) (v0 : Value) (r : ((List (Int × Int)) × Int)) (h : F_piece_Changes p0 = some r) (S : St0 E [] w0 w0 [] [fRep r_api_Piece (v0) p0]) :
    Calls Tryd.prog 25 #[v0] w0 (Ret (X := Value) E [] w0 (c_piece_Changes_val r) (fun _ => []) (c_piece_Changes_D r)) := by
  unfold F_piece_Changes at h
  obtain ⟨u1, u2, rfl, hu3, hu4⟩ := S.know (i := 0) (e := fRep r_api_Piece (v0) p0) rfl
  have S := S.learn (fRep (rL (rI .i64)) u1 p0.Left) hu3
  obtain ⟨ad5, cp6, _, rfl, _⟩ := hu3
  have S := S.learn (fRep (rL (rI .i64)) u2 p0.Right) hu4
  obtain ⟨ad7, cp8, _, rfl, _⟩ := hu4
  refine sEnter (args := [.agg #[.slice ad5 p0.Left.length cp6, .slice ad7 p0.Right.length cp8]]) 52 Tryd.func25 rfl rfl (by simp) S (fun a S => ?_)
  refine sSeq (fun K9 hK9 => ?_)
  refine sRegion ?_
  refine sBox (v := .agg #[.slice ad5 p0.Left.length cp6, .slice ad7 p0.Right.length cp8]) S (wN rfl) rfl rfl [.slice ad5 p0.Left.length cp6, .slice ad7 p0.Right.length cp8] rfl rfl (lb rfl) fun a b10 w S => ?_
  refine sMove (.slice none 0 0) S (wN rfl) (.inr rfl) rfl rfl (lb rfl) fun a S => ?_
  refine sMove (iv 0) S (wN rfl) (.inr rfl) rfl rfl (lb rfl) fun a S => ?_
  refine leafL (leafT (hK9 _ _ ?_))
  refine sSeq (fun K11 hK11 => ?_)
  refine sSeq (fun K12 hK12 => ?_)
  refine sRegion ?_
  refine sLoadN (p := b10) (off := 0) (T := 30) (vs := [.slice ad5 p0.Left.length cp6, .slice ad7 p0.Right.length cp8]) 0 [.slice ad5 p0.Left.length cp6, .slice ad7 p0.Right.length cp8] S (wN rfl) rfl rfl rfl rfl rfl rfl rfl (lb rfl) fun a S => ?_
  obtain ⟨r13, hx14, h⟩ := bindSome h
  have S1 := S.mem
  refine sCallQ (X := Unit) (f := 13) (vs := [.agg #[.slice ad5 p0.Left.length cp6, .slice ad7 p0.Right.length cp8]]) (val := fun _ => iv r13) S (wN rfl) rfl callee13 rfl (S1.quiet [2] rfl) (fun E1 w1 S1 => c_piece_Check E1 w1 p0 (.agg #[.slice ad5 p0.Left.length cp6, .slice ad7 p0.Right.length cp8]) r13 hx14 S1) rfl (lb rfl) fun _ a w S => ?_
  refine sMove (iv r13) S (wN rfl) (.inr rfl) rfl rfl (lb rfl) fun a S => ?_
  refine leafL (leafT (hK12 _ _ ?_))
  refine sSeq (fun K15 hK15 => ?_)
  refine sRegion ?_
  refine sMove (iv r13) S (wN rfl) (.inl rfl) rfl rfl (lb rfl) fun a S => ?_
  refine sBin (.bool (r13 != 0)) S (wN rfl) rfl rfl rfl (bNe _ _ _ _ .i64 r13 0) rfl (lb rfl) fun a S => ?_
  refine leafL (leafT (hK15 _ _ ?_))
  rcases iteSome h with ⟨hc16, h⟩ | ⟨hc16, h⟩
  · refine sCondT S rfl hc16 ?_
    refine sSeq (fun K17 hK17 => ?_)
    refine sRegion ?_
    refine sMove (iv r13) S (wN rfl) (.inl rfl) rfl rfl (lb rfl) fun a S => ?_
    refine sMove (.slice none 0 0) S (wN rfl) (.inr rfl) rfl rfl (lb rfl) fun a S => ?_
    refine sMove (iv r13) S (wN rfl) (.inr rfl) rfl rfl (lb rfl) fun a S => ?_
    refine leafL (leafT (hK17 _ _ ?_))
    obtain rfl := Option.some.inj h
    have S := S.learn (fRep (rL r_A2_Int) (.slice none 0 0) ([] : (List (Int × Int)))) (rL_nil _ _ _)
    exact wp_ret (rThen (sRet (.tuple #[.slice none 0 0, iv r13]) S (rsl2 rfl (rvT (t := 2) (v := .slice none 0 0) S rfl) (rvT (t := 3) (v := iv r13) S rfl)) ⟨(.slice none 0 0), rfl, S.mem.sel [] [0] (by decide) rfl rfl⟩))
  refine sCondF S rfl hc16 ?_
  refine wp_skip (leafT (hK11 _ _ ?_))
  refine sSeq (fun K18 hK18 => ?_)
  refine sRegion ?_
  refine sField (b := b10) (off := 0) 0 0 S (wN rfl) rfl rfl rfl rfl rfl (lb rfl) fun a S => ?_
  refine sLoad1 (p := b10) (off := 0) (T := 30) (vs := [.slice ad5 p0.Left.length cp6, .slice ad7 p0.Right.length cp8]) 0 (.slice ad5 p0.Left.length cp6) S (wN rfl) rfl rfl rfl rfl rfl rfl (lb rfl) fun a S => ?_
  refine sLen (ad := ad5) (m := p0.Left.length) (c := cp6) S (wN rfl) rfl Tryd.underlying28 rfl rfl (lb rfl) fun a S => ?_
  obtain ⟨z21, hx22, h⟩ := bindSome h
  refine sMake0 r_A2_Int (m := (p0.Left.length : Int)) (u := z21) (.agg #[iv 0, iv 0]) 16 S (wN rfl) rfl Tryd.underlying58 rfl (by decide) rfl rfl hx22 rfl (lb rfl) fun a w ad19 cp20 S => ?_
  refine sMove (.slice ad19 ([] : List (Int × Int)).length cp20) S (wN rfl) (.inr rfl) rfl rfl (lb rfl) fun a S => ?_
  refine leafL (leafT (hK18 _ _ ?_))
  obtain ⟨t26, h, g27⟩ := bindSome h
  refine sCut (fun a w => ∃ o23, o23 = t26 ∧ ∃ ad24, ∃ cp25, St [] E [] w0 52 a w [(5, .slice ad24 o23.length cp25)] [eRow r_A2_Int 61 (.slice ad24 o23.length cp25) o23] []) ?_ (fun a w hI => ?_)
  rotate_left
  · obtain ⟨o23, rfl, ad24, cp25, S⟩ := hI
    have h := g27
    clear g27
    try dsimp only at h
    refine sSeq (fun K85 hK85 => ?_)
    refine sRegion ?_
    refine sMove (.slice ad24 o23.length cp25) S (wN rfl) (.inl rfl) rfl rfl (lb rfl) fun a S => ?_
    refine sMove (.slice ad24 o23.length cp25) S (wN rfl) (.inr rfl) rfl rfl (lb rfl) fun a S => ?_
    refine sMove (iv 0) S (wN rfl) (.inr rfl) rfl rfl (lb rfl) fun a S => ?_
    refine leafL (leafT (hK85 _ _ ?_))
    obtain rfl := Option.some.inj h
    have S := S.shutR (r := r_A2_Int) (T := 61) (v := .slice ad24 o23.length cp25) (xs := o23) 0 rfl
    exact wp_ret (sRet (.tuple #[.slice ad24 o23.length cp25, iv 0]) S (rsl2 rfl (rvT (t := 2) (v := .slice ad24 o23.length cp25) S rfl) (rvT (t := 3) (v := iv 0) S rfl)) ⟨(.slice ad24 o23.length cp25), rfl, S.mem.sel [] [0] (by decide) rfl rfl⟩)
  refine sSeq (fun K28 hK28 => ?_)
  refine sRegion ?_
  refine sMove (iv 1) S (wN rfl) (.inr rfl) rfl rfl (lb rfl) fun a S => ?_
  refine leafL (leafT (hK28 _ _ ?_))
  refine wp_block ?_
  obtain ⟨t35, hl, g34⟩ := bindSome h
  refine sLoop hl (fun s0 a w => match s0 with | (s29, s32) => ∃ ad30, ∃ cp31, St [] E [] w0 52 a w [(1, .pointer (some ⟨b10, 0, none⟩)), (5, .slice ad30 s29.length cp31), (6, iv s32)] [eBox b10 30 [.slice ad5 p0.Left.length cp6, .slice ad7 p0.Right.length cp8], eRow r_A2_Int 61 (.slice ad30 s29.length cp31) s29] [fRep (rL (rI .i64)) (.slice ad5 p0.Left.length cp6) p0.Left, fRep (rL (rI .i64)) (.slice ad7 p0.Right.length cp8) p0.Right]) ⟨ad19, cp20, S.fix [1, 0] [1, 0] (by decide) rfl rfl rfl⟩ ?_
  clear hl h
  intro s0 a w c0 hI h hu33
  obtain ⟨s29, s32⟩ := s0
  unfold piece_Changes_l1 at h
  dsimp only at h hI
  obtain ⟨ad30, cp31, S⟩ := hI
  refine sSeq (fun K39 hK39 => ?_)
  refine sSeq (fun K40 hK40 => ?_)
  refine sRegion ?_
  refine sMove (iv s32) S (wN rfl) (.inl rfl) rfl rfl (lb rfl) fun a S => ?_
  refine sField (b := b10) (off := 0) 0 0 S (wN rfl) rfl rfl rfl rfl rfl (lb rfl) fun a S => ?_
  refine sLoad1 (p := b10) (off := 0) (T := 30) (vs := [.slice ad5 p0.Left.length cp6, .slice ad7 p0.Right.length cp8]) 0 (.slice ad5 p0.Left.length cp6) S (wN rfl) rfl rfl rfl rfl rfl rfl (lb rfl) fun a S => ?_
  refine sLen (ad := ad5) (m := p0.Left.length) (c := cp6) S (wN rfl) rfl Tryd.underlying28 rfl rfl (lb rfl) fun a S => ?_
  refine sBin (.bool (decide (s32 < (p0.Left.length : Int)))) S (wN rfl) rfl rfl rfl (bLt _ _ _ _ .i64 s32 (p0.Left.length : Int)) rfl (lb rfl) fun a S => ?_
  refine leafL (leafT (hK40 _ _ ?_))
  rcases iteSome h with ⟨hc41, h⟩ | ⟨hc41, h⟩
  rotate_left
  · refine sCondF S rfl hc41 ?_
    obtain rfl := Option.some.inj h
    obtain rfl := hu33 _ rfl
    have h := g34
    clear g34
    try dsimp only at h
    exact wp_exit (xThen (xThen (xHit (leafT (⟨s29, Option.some.inj h, ad30, cp31, S.fix [1] [] (by decide) rfl rfl rfl⟩)))))
  refine sCondT S rfl hc41 ?_
  refine wp_skip (leafT (hK39 _ _ ?_))
  refine sSeq (fun K42 hK42 => ?_)
  refine wp_block ?_
  obtain ⟨x43, hx44, h⟩ := bindSome h
  obtain ⟨x48, hx49, h⟩ := bindSome h
  obtain ⟨x53, hx54, h⟩ := bindSome h
  obtain ⟨x58, hx59, h⟩ := bindSome h
  obtain ⟨l65, hx66, h⟩ := bindSome h
  obtain ⟨q69, hq70, S⟩ := pIdx (P := Tryd.prog) (r := (rI .i64)) (v := .slice ad5 p0.Left.length cp6) (xs := p0.Left) (j := s32) 28 3 0 S Tryd.underlying28 rfl rfl hx44
  obtain ⟨u71, S⟩ := pLoad (r := (rI .i64)) (q := q69) (x := x43) 0 S rfl
  obtain rfl : u71 = iv x43 := S.mem.know (i := 1) (e := fRep (rI .i64) (u71) x43) rfl
  obtain ⟨q72, hq73, S⟩ := pIdx (P := Tryd.prog) (r := (rI .i64)) (v := .slice ad5 p0.Left.length cp6) (xs := p0.Left) (j := w64 (s32 - 1)) 28 3 3 S Tryd.underlying28 rfl rfl hx49
  obtain ⟨u74, S⟩ := pLoad (r := (rI .i64)) (q := q72) (x := x48) 0 S rfl
  obtain rfl : u74 = iv x48 := S.mem.know (i := 1) (e := fRep (rI .i64) (u74) x48) rfl
  obtain ⟨q75, hq76, S⟩ := pIdx (P := Tryd.prog) (r := (rI .i64)) (v := .slice ad7 p0.Right.length cp8) (xs := p0.Right) (j := s32) 28 3 7 S Tryd.underlying28 rfl rfl hx54
  obtain ⟨u77, S⟩ := pLoad (r := (rI .i64)) (q := q75) (x := x53) 0 S rfl
  obtain rfl : u77 = iv x53 := S.mem.know (i := 1) (e := fRep (rI .i64) (u77) x53) rfl
  obtain ⟨q78, hq79, S⟩ := pIdx (P := Tryd.prog) (r := (rI .i64)) (v := .slice ad7 p0.Right.length cp8) (xs := p0.Right) (j := w64 (s32 - 1)) 28 3 10 S Tryd.underlying28 rfl rfl hx59
  obtain ⟨u80, S⟩ := pLoad (r := (rI .i64)) (q := q78) (x := x58) 0 S rfl
  obtain rfl : u80 = iv x58 := S.mem.know (i := 1) (e := fRep (rI .i64) (u80) x58) rfl
  refine sDraw (nf := [26, 27]) (W := [(0, 23, .slice ad30 s29.length cp31), (1, 24, .pointer (some ⟨b10, 0, none⟩)), (2, 25, .slice ad5 p0.Left.length cp6), (3, 26, iv s32), (4, 27, q69), (5, 28, iv x43), (6, 29, .pointer (some ⟨b10, 0, none⟩)), (7, 30, .slice ad5 p0.Left.length cp6), (8, 31, iv s32), (9, 32, iv (w64 (s32 - 1))), (10, 33, q72), (11, 34, iv x48), (12, 35, iv (w64 (x43 - x48))), (13, 36, .pointer (some ⟨b10, 1, none⟩)), (14, 37, .slice ad7 p0.Right.length cp8), (15, 38, iv s32), (16, 39, q75), (17, 40, iv x53), (18, 41, .pointer (some ⟨b10, 1, none⟩)), (19, 42, .slice ad7 p0.Right.length cp8), (20, 43, iv s32), (21, 44, iv (w64 (s32 - 1))), (22, 45, q78), (23, 46, iv x58), (24, 47, iv (w64 (x53 - x58))), (25, 48, .agg #[iv (w64 (x43 - x48)), iv (w64 (x53 - x58))])]) rfl S ?_
  refine node_by (A := anc_piece_Changes_0) (nf := [26, 27]) (Y := []) (W := [(0, 23, .slice ad30 s29.length cp31), (1, 24, .pointer (some ⟨b10, 0, none⟩)), (2, 25, .slice ad5 p0.Left.length cp6), (3, 26, iv s32), (4, 27, q69), (5, 28, iv x43), (6, 29, .pointer (some ⟨b10, 0, none⟩)), (7, 30, .slice ad5 p0.Left.length cp6), (8, 31, iv s32), (9, 32, iv (w64 (s32 - 1))), (10, 33, q72), (11, 34, iv x48), (12, 35, iv (w64 (x43 - x48))), (13, 36, .pointer (some ⟨b10, 1, none⟩)), (14, 37, .slice ad7 p0.Right.length cp8), (15, 38, iv s32), (16, 39, q75), (17, 40, iv x53), (18, 41, .pointer (some ⟨b10, 1, none⟩)), (19, 42, .slice ad7 p0.Right.length cp8), (20, 43, iv s32), (21, 44, iv (w64 (s32 - 1))), (22, 45, q78), (23, 46, iv x58), (24, 47, iv (w64 (x53 - x58))), (25, 48, .agg #[iv (w64 (x43 - x48)), iv (w64 (x53 - x58))])]) 29 (by kernel_rfl) (by kernel_rfl) (by kernel_rfl) (by kernel_rfl) (by kernel_rfl) [0, 1, 2, 3, 4, 5, 6, 7, 8, 9, 10, 11, 12, 13, 14, 15, 16, 17, 18, 19, 20, 21, 22, 23, 24, 25] (by kernel_rfl) (by decide) (by decide) (aF 0 28 (by decide) ?_ (aF 1 27 (by decide) ?_ (aF 2 26 (by decide) ?_ (aF 3 25 (by decide) ?_ (aF 4 24 (by decide) ?_ (aF 5 23 (by decide) ?_ (aF 6 22 (by decide) ?_ (aF 7 21 (by decide) ?_ (aF 8 20 (by decide) ?_ (aF 9 19 (by decide) ?_ (aF 10 18 (by decide) ?_ (aF 11 17 (by decide) ?_ (aF 12 16 (by decide) ?_ (aF 13 15 (by decide) ?_ (aF 14 14 (by decide) ?_ (aF 15 13 (by decide) ?_ (aF 16 12 (by decide) ?_ (aF 17 11 (by decide) ?_ (aF 18 10 (by decide) ?_ (aF 19 9 (by decide) ?_ (aF 20 8 (by decide) ?_ (aF 21 7 (by decide) ?_ (aF 22 6 (by decide) ?_ (aF 23 5 (by decide) ?_ (aF 24 4 (by decide) ?_ (aF 25 3 (by decide) ?_ (aN 26 2 (by decide) ?_ (aB 27 1 26 (by decide) (aE 28 0 26 (by decide) (trivial)))))))))))))))))))))))))))))) [] (fun q hq => by cases hq) (fun hY => absurd (hY 26 (by decide)) (by decide))
  · refine fI 23 (.slice ad30 s29.length cp31) [(5, .slice ad30 s29.length cp31)] 0 [none] rfl rfl rfl rfl rfl rfl fun G a w S => ?_
    refine sMove (.slice ad30 s29.length cp31) S (wN rfl) (.inl rfl) rfl rfl (lb rfl) fun a S => ?_
    exact leafL ⟨rfl, S⟩
  · refine fI 24 (.pointer (some ⟨b10, 0, none⟩)) [(1, .pointer (some ⟨b10, 0, none⟩))] 1 [none] rfl rfl rfl rfl rfl rfl fun G a w S => ?_
    refine sField (b := b10) (off := 0) 0 0 S (wN rfl) rfl rfl rfl rfl rfl (lb rfl) fun a S => ?_
    exact leafL ⟨rfl, S⟩
  · refine fI 25 (.slice ad5 p0.Left.length cp6) [(24, .pointer (some ⟨b10, 0, none⟩))] 2 [some 1] rfl rfl rfl rfl rfl rfl fun G a w S => ?_
    refine sLoad1 (p := b10) (off := 0) (T := 30) (vs := [.slice ad5 p0.Left.length cp6, .slice ad7 p0.Right.length cp8]) 0 (.slice ad5 p0.Left.length cp6) S (wN rfl) rfl rfl rfl rfl rfl rfl (lb rfl) fun a S => ?_
    exact leafL ⟨rfl, S⟩
  · refine fI 26 (iv s32) [(6, iv s32)] 3 [none] rfl rfl rfl rfl rfl rfl fun G a w S => ?_
    refine sMove (iv s32) S (wN rfl) (.inl rfl) rfl rfl (lb rfl) fun a S => ?_
    exact leafL ⟨rfl, S⟩
  · refine fI 27 q69 [(25, .slice ad5 p0.Left.length cp6), (26, iv s32)] 4 [some 2, some 3] rfl rfl rfl rfl rfl rfl fun G a w S => ?_
    refine sIdxV (v := .slice ad5 p0.Left.length cp6) (k := .i64) (j := s32) S (wN rfl) rfl rfl rfl hq70 rfl (lb rfl) fun a S => ?_
    exact leafL ⟨rfl, S⟩
  · refine fI 28 (iv x43) [(27, q69)] 5 [some 4] rfl rfl rfl rfl rfl rfl fun G a w S => ?_
    refine sLoadV1 (vq := q69) 9 (iv x43) S (wN rfl) rfl rfl rfl rfl rfl (lb rfl) fun a S => ?_
    exact leafL ⟨rfl, S⟩
  · refine fI 29 (.pointer (some ⟨b10, 0, none⟩)) [(1, .pointer (some ⟨b10, 0, none⟩))] 6 [none] rfl rfl rfl rfl rfl rfl fun G a w S => ?_
    refine sField (b := b10) (off := 0) 0 0 S (wN rfl) rfl rfl rfl rfl rfl (lb rfl) fun a S => ?_
    exact leafL ⟨rfl, S⟩
  · refine fI 30 (.slice ad5 p0.Left.length cp6) [(29, .pointer (some ⟨b10, 0, none⟩))] 7 [some 6] rfl rfl rfl rfl rfl rfl fun G a w S => ?_
    refine sLoad1 (p := b10) (off := 0) (T := 30) (vs := [.slice ad5 p0.Left.length cp6, .slice ad7 p0.Right.length cp8]) 0 (.slice ad5 p0.Left.length cp6) S (wN rfl) rfl rfl rfl rfl rfl rfl (lb rfl) fun a S => ?_
    exact leafL ⟨rfl, S⟩
  · refine fI 31 (iv s32) [(6, iv s32)] 8 [none] rfl rfl rfl rfl rfl rfl fun G a w S => ?_
    refine sMove (iv s32) S (wN rfl) (.inl rfl) rfl rfl (lb rfl) fun a S => ?_
    exact leafL ⟨rfl, S⟩
  · refine fI 32 (iv (w64 (s32 - 1))) [(31, iv s32)] 9 [some 8] rfl rfl rfl rfl rfl rfl fun G a w S => ?_
    refine sBin (iv (w64 (s32 - 1))) S (wN rfl) rfl rfl rfl (bSub _ _ _ _ s32 1) rfl (lb rfl) fun a S => ?_
    exact leafL ⟨rfl, S⟩
  · refine fI 33 q72 [(30, .slice ad5 p0.Left.length cp6), (32, iv (w64 (s32 - 1)))] 10 [some 7, some 9] rfl rfl rfl rfl rfl rfl fun G a w S => ?_
    refine sIdxV (v := .slice ad5 p0.Left.length cp6) (k := .i64) (j := w64 (s32 - 1)) S (wN rfl) rfl rfl rfl hq73 rfl (lb rfl) fun a S => ?_
    exact leafL ⟨rfl, S⟩
  · refine fI 34 (iv x48) [(33, q72)] 11 [some 10] rfl rfl rfl rfl rfl rfl fun G a w S => ?_
    refine sLoadV1 (vq := q72) 6 (iv x48) S (wN rfl) rfl rfl rfl rfl rfl (lb rfl) fun a S => ?_
    exact leafL ⟨rfl, S⟩
  · refine fI 35 (iv (w64 (x43 - x48))) [(28, iv x43), (34, iv x48)] 12 [some 5, some 11] rfl rfl rfl rfl rfl rfl fun G a w S => ?_
    refine sBin (iv (w64 (x43 - x48))) S (wN rfl) rfl rfl rfl (bSub _ _ _ _ x43 x48) rfl (lb rfl) fun a S => ?_
    exact leafL ⟨rfl, S⟩
  · refine fI 36 (.pointer (some ⟨b10, 1, none⟩)) [(1, .pointer (some ⟨b10, 0, none⟩))] 13 [none] rfl rfl rfl rfl rfl rfl fun G a w S => ?_
    refine sField (b := b10) (off := 0) 1 1 S (wN rfl) rfl rfl rfl rfl rfl (lb rfl) fun a S => ?_
    exact leafL ⟨rfl, S⟩
  · refine fI 37 (.slice ad7 p0.Right.length cp8) [(36, .pointer (some ⟨b10, 1, none⟩))] 14 [some 13] rfl rfl rfl rfl rfl rfl fun G a w S => ?_
    refine sLoad1 (p := b10) (off := 1) (T := 30) (vs := [.slice ad5 p0.Left.length cp6, .slice ad7 p0.Right.length cp8]) 0 (.slice ad7 p0.Right.length cp8) S (wN rfl) rfl rfl rfl rfl rfl rfl (lb rfl) fun a S => ?_
    exact leafL ⟨rfl, S⟩
  · refine fI 38 (iv s32) [(6, iv s32)] 15 [none] rfl rfl rfl rfl rfl rfl fun G a w S => ?_
    refine sMove (iv s32) S (wN rfl) (.inl rfl) rfl rfl (lb rfl) fun a S => ?_
    exact leafL ⟨rfl, S⟩
  · refine fI 39 q75 [(37, .slice ad7 p0.Right.length cp8), (38, iv s32)] 16 [some 14, some 15] rfl rfl rfl rfl rfl rfl fun G a w S => ?_
    refine sIdxV (v := .slice ad7 p0.Right.length cp8) (k := .i64) (j := s32) S (wN rfl) rfl rfl rfl hq76 rfl (lb rfl) fun a S => ?_
    exact leafL ⟨rfl, S⟩
  · refine fI 40 (iv x53) [(39, q75)] 17 [some 16] rfl rfl rfl rfl rfl rfl fun G a w S => ?_
    refine sLoadV1 (vq := q75) 3 (iv x53) S (wN rfl) rfl rfl rfl rfl rfl (lb rfl) fun a S => ?_
    exact leafL ⟨rfl, S⟩
  · refine fI 41 (.pointer (some ⟨b10, 1, none⟩)) [(1, .pointer (some ⟨b10, 0, none⟩))] 18 [none] rfl rfl rfl rfl rfl rfl fun G a w S => ?_
    refine sField (b := b10) (off := 0) 1 1 S (wN rfl) rfl rfl rfl rfl rfl (lb rfl) fun a S => ?_
    exact leafL ⟨rfl, S⟩
  · refine fI 42 (.slice ad7 p0.Right.length cp8) [(41, .pointer (some ⟨b10, 1, none⟩))] 19 [some 18] rfl rfl rfl rfl rfl rfl fun G a w S => ?_
    refine sLoad1 (p := b10) (off := 1) (T := 30) (vs := [.slice ad5 p0.Left.length cp6, .slice ad7 p0.Right.length cp8]) 0 (.slice ad7 p0.Right.length cp8) S (wN rfl) rfl rfl rfl rfl rfl rfl (lb rfl) fun a S => ?_
    exact leafL ⟨rfl, S⟩
  · refine fI 43 (iv s32) [(6, iv s32)] 20 [none] rfl rfl rfl rfl rfl rfl fun G a w S => ?_
    refine sMove (iv s32) S (wN rfl) (.inl rfl) rfl rfl (lb rfl) fun a S => ?_
    exact leafL ⟨rfl, S⟩
  · refine fI 44 (iv (w64 (s32 - 1))) [(43, iv s32)] 21 [some 20] rfl rfl rfl rfl rfl rfl fun G a w S => ?_
    refine sBin (iv (w64 (s32 - 1))) S (wN rfl) rfl rfl rfl (bSub _ _ _ _ s32 1) rfl (lb rfl) fun a S => ?_
    exact leafL ⟨rfl, S⟩
  · refine fI 45 q78 [(42, .slice ad7 p0.Right.length cp8), (44, iv (w64 (s32 - 1)))] 22 [some 19, some 21] rfl rfl rfl rfl rfl rfl fun G a w S => ?_
    refine sIdxV (v := .slice ad7 p0.Right.length cp8) (k := .i64) (j := w64 (s32 - 1)) S (wN rfl) rfl rfl rfl hq79 rfl (lb rfl) fun a S => ?_
    exact leafL ⟨rfl, S⟩
  · refine fI 46 (iv x58) [(45, q78)] 23 [some 22] rfl rfl rfl rfl rfl rfl fun G a w S => ?_
    refine sLoadV1 (vq := q78) 0 (iv x58) S (wN rfl) rfl rfl rfl rfl rfl (lb rfl) fun a S => ?_
    exact leafL ⟨rfl, S⟩
  · refine fI 47 (iv (w64 (x53 - x58))) [(40, iv x53), (46, iv x58)] 24 [some 17, some 23] rfl rfl rfl rfl rfl rfl fun G a w S => ?_
    refine sBin (iv (w64 (x53 - x58))) S (wN rfl) rfl rfl rfl (bSub _ _ _ _ x53 x58) rfl (lb rfl) fun a S => ?_
    exact leafL ⟨rfl, S⟩
  · refine fI 48 (.agg #[iv (w64 (x43 - x48)), iv (w64 (x53 - x58))]) [(35, iv (w64 (x43 - x48))), (47, iv (w64 (x53 - x58)))] 25 [some 12, some 24] rfl rfl rfl rfl rfl rfl fun G a w S => ?_
    refine sBuild [(0, iv (w64 (x43 - x48))), (1, iv (w64 (x53 - x58)))] [iv (w64 (x43 - x48)), iv (w64 (x53 - x58))] S (wN rfl) rfl rfl rfl rfl (lb rfl) fun a S => ?_
    exact leafL ⟨rfl, S⟩
  refine ⟨_, [(48, .agg #[iv (w64 (x43 - x48)), iv (w64 (x53 - x58))])], rfl, (srcs_of [some 25] rfl rfl rfl), fun G a w S => ?_⟩
  have S := S.learn (fRep r_A2_Int (.agg #[iv (w64 (x43 - x48)), iv (w64 (x53 - x58))]) (w64 (x43 - x48), w64 (x53 - x58))) rfl
  refine sLit (r := r_A2_Int) (T := 61) (xs := [(w64 (x43 - x48), w64 (x53 - x58))]) [(0, .agg #[iv (w64 (x43 - x48)), iv (w64 (x53 - x58))])] 1 [.agg #[iv (w64 (x43 - x48)), iv (w64 (x53 - x58))]] [iv (w64 (x43 - x48)), iv (w64 (x53 - x58))] (.agg #[iv 0, iv 0]) 16 S (wN rfl) rfl rfl Tryd.underlying58 rfl (by decide) (by decide) (by kernel_rfl) rfl (fun E1 w1 hE => All.cons (r_A2_Int.mono hE (S.mem.know (i := 0) (e := fRep r_A2_Int (.agg #[iv (w64 (x43 - x48)), iv (w64 (x53 - x58))]) (w64 (x43 - x48), w64 (x53 - x58))) rfl)) (All.nil _ _ _)) rfl rfl (lb rfl) fun a w ad81 cp82 S => ?_
  refine leafL ⟨rfl, _, _, .inl ⟨49, (.slice ad81 [(w64 (x43 - x48), w64 (x53 - x58))].length cp82), [], rfl, S, hz_of rfl, ?_⟩⟩
  refine node_by (A := anc_piece_Changes_0) (nf := [26, 27]) (Y := [26]) 29 (by kernel_rfl) (by kernel_rfl) (by kernel_rfl) (by kernel_rfl) (by kernel_rfl) [26, 0, 1, 2, 3, 4, 5, 6, 7, 8, 9, 10, 11, 12, 13, 14, 15, 16, 17, 18, 19, 20, 21, 22, 23, 24, 25] (by kernel_rfl) (by decide) (by decide) (aF 0 28 (by decide) ?_ (aD 1 27 26 (by decide) (aD 2 26 26 (by decide) (aD 3 25 26 (by decide) (aD 4 24 26 (by decide) (aD 5 23 26 (by decide) (aD 6 22 26 (by decide) (aD 7 21 26 (by decide) (aD 8 20 26 (by decide) (aD 9 19 26 (by decide) (aD 10 18 26 (by decide) (aD 11 17 26 (by decide) (aD 12 16 26 (by decide) (aD 13 15 26 (by decide) (aD 14 14 26 (by decide) (aD 15 13 26 (by decide) (aD 16 12 26 (by decide) (aD 17 11 26 (by decide) (aD 18 10 26 (by decide) (aD 19 9 26 (by decide) (aD 20 8 26 (by decide) (aD 21 7 26 (by decide) (aD 22 6 26 (by decide) (aD 23 5 26 (by decide) (aD 24 4 26 (by decide) (aD 25 3 26 (by decide) (aY 26 2 (by decide) (aN 27 1 (by decide) ?_ (aE 28 0 27 (by decide) (trivial)))))))))))))))))))))))))))))) [] (fun q hq => by cases hq) (fun hY => absurd (hY 27 (by decide)) (by decide))
  · refine fI 23 (.slice ad30 s29.length cp31) [(5, .slice ad30 s29.length cp31)] 1 [none] rfl rfl rfl rfl rfl rfl fun G a w S => ?_
    refine sMove (.slice ad30 s29.length cp31) S (wN rfl) (.inl rfl) rfl rfl (lb rfl) fun a S => ?_
    exact leafL ⟨rfl, S⟩
  refine ⟨_, [(23, .slice ad30 s29.length cp31), (49, .slice ad81 [(w64 (x43 - x48), w64 (x53 - x58))].length cp82)], rfl, (srcs_of [some 1, some 0] rfl rfl rfl), fun G a w S => ?_⟩
  refine sApp (r := r_A2_Int) (T := 61) (xs := s29) (ys := [(w64 (x43 - x48), w64 (x53 - x58))]) (v := .slice ad30 s29.length cp31) (u := .slice ad81 [(w64 (x43 - x48), w64 (x53 - x58))].length cp82) 2 (.agg #[iv 0, iv 0]) 16 S (wN rfl) rfl Tryd.underlying58 rfl rfl (by decide) rfl rfl rfl (src_R (T := 61) 0 S.mem rfl) hx66 rfl (lb rfl) fun a w ad83 cp84 S => ?_
  refine leafL ⟨rfl, _, _, .inl ⟨50, (.slice ad83 l65.length cp84), [(28, 5, .slice ad83 l65.length cp84)], rfl, S, hz_of rfl, ?_⟩⟩
  refine node_by (A := anc_piece_Changes_0) (nf := [26, 27]) (Y := [27, 26]) 29 (by kernel_rfl) (by kernel_rfl) (by kernel_rfl) (by kernel_rfl) (by kernel_rfl) [28, 27, 26, 0, 1, 2, 3, 4, 5, 6, 7, 8, 9, 10, 11, 12, 13, 14, 15, 16, 17, 18, 19, 20, 21, 22, 23, 24, 25] (by kernel_rfl) (by decide) (by decide) (aD 0 28 27 (by decide) (aD 1 27 27 (by decide) (aD 2 26 27 (by decide) (aD 3 25 27 (by decide) (aD 4 24 27 (by decide) (aD 5 23 27 (by decide) (aD 6 22 27 (by decide) (aD 7 21 27 (by decide) (aD 8 20 27 (by decide) (aD 9 19 27 (by decide) (aD 10 18 27 (by decide) (aD 11 17 27 (by decide) (aD 12 16 27 (by decide) (aD 13 15 27 (by decide) (aD 14 14 27 (by decide) (aD 15 13 27 (by decide) (aD 16 12 27 (by decide) (aD 17 11 27 (by decide) (aD 18 10 27 (by decide) (aD 19 9 27 (by decide) (aD 20 8 27 (by decide) (aD 21 7 27 (by decide) (aD 22 6 27 (by decide) (aD 23 5 27 (by decide) (aD 24 4 27 (by decide) (aD 25 3 27 (by decide) (aY 26 2 (by decide) (aY 27 1 (by decide) (aF 28 0 (by decide) ?_ (trivial)))))))))))))))))))))))))))))) [(1, .pointer (some ⟨b10, 0, none⟩)), (5, .slice ad83 l65.length cp84), (6, iv s32)] (fin_of [none, some 0, none] rfl (by kernel_rfl) (by kernel_rfl)) (fun _ a w S => ?_)
  · refine fI 5 (.slice ad83 l65.length cp84) [(50, .slice ad83 l65.length cp84)] 0 [some 1] rfl rfl rfl rfl rfl rfl fun G a w S => ?_
    refine sMove (.slice ad83 l65.length cp84) S (wN rfl) (.inr rfl) rfl rfl (lb rfl) fun a S => ?_
    exact leafL ⟨rfl, S⟩
  refine leafB (leafT (hK42 _ _ ?_))
  refine sRegion ?_
  refine sMove (iv s32) S (wN rfl) (.inl rfl) rfl rfl (lb rfl) fun a S => ?_
  refine sBin (iv (w64 (s32 + 1))) S (wN rfl) rfl rfl rfl (bAdd _ _ _ _ s32 1) rfl (lb rfl) fun a S => ?_
  refine sMove (iv (w64 (s32 + 1))) S (wN rfl) (.inr rfl) rfl rfl (lb rfl) fun a S => ?_
  exact leafL (leafT (⟨(l65, w64 (s32 + 1)), (Option.some.inj h).symm, ⟨ad83, cp84, S.fix [2, 0] [13, 14] (by decide) rfl rfl rfl⟩⟩))

end Go.Proofs.YtmedbnjhgkcndaaDoor
namespace Go.Proofs.YtmedbnjhgkcndaaDoor
open Go.RowKit
set_option linter.unusedVariables false

def anc_raddlelaw37_PieceMirrors_0 : List (List Nat) := [[], [], [0, 1], [0, 1, 2], [], [], [4, 5], [4, 5, 6], [4, 5, 6, 7], [4, 5, 6, 7, 8], [], [], [10, 11], [10, 11, 12], [10, 11, 12, 13], [10, 11, 12, 13, 14], [4, 5, 6, 7, 8, 9, 10, 11, 12, 13, 14, 15], [0, 1, 2, 3, 4, 5, 6, 7, 8, 9, 10, 11, 12, 13, 14, 15, 16], [0, 1, 2, 3, 4, 5, 6, 7, 8, 9, 10, 11, 12, 13, 14, 15, 16, 17], [0, 1, 2, 3, 4, 5, 6, 7, 8, 9, 10, 11, 12, 13, 14, 15, 16, 17, 18], [0, 1, 2, 3, 4, 5, 6, 7, 8, 9, 10, 11, 12, 13, 14, 15, 16, 17, 18, 19], [0, 1, 2, 3, 4, 5, 6, 7, 8, 9, 10, 11, 12, 13, 14, 15, 16, 17, 18], [0, 1, 2, 3, 4, 5, 6, 7, 8, 9, 10, 11, 12, 13, 14, 15, 16, 17, 18, 21], [0, 1, 2, 3, 4, 5, 6, 7, 8, 9, 10, 11, 12, 13, 14, 15, 16, 17, 18, 19, 20, 21, 22], [0, 1, 2, 3, 4, 5, 6, 7, 8, 9, 10, 11, 12, 13, 14, 15, 16, 17, 18, 19, 20, 21, 22, 23], [0, 1, 2, 3, 4, 5, 6, 7, 8, 9, 10, 11, 12, 13, 14, 15, 16, 17, 18], [0, 1, 2, 3, 4, 5, 6, 7, 8, 9, 10, 11, 12, 13, 14, 15, 16, 17, 18, 25], [0, 1, 2, 3, 4, 5, 6, 7, 8, 9, 10, 11, 12, 13, 14, 15, 16, 17, 18], [0, 1, 2, 3, 4, 5, 6, 7, 8, 9, 10, 11, 12, 13, 14, 15, 16, 17, 18, 25, 26, 27], [0, 1, 2, 3, 4, 5, 6, 7, 8, 9, 10, 11, 12, 13, 14, 15, 16, 17, 18, 25, 26, 27, 28], [0, 1, 2, 3, 4, 5, 6, 7, 8, 9, 10, 11, 12, 13, 14, 15, 16, 17, 18, 19, 20, 21, 22, 23, 24, 25, 26, 27, 28, 29], [0, 1, 2, 3, 4, 5, 6, 7, 8, 9, 10, 11, 12, 13, 14, 15, 16, 17, 18], [0, 1, 2, 3, 4, 5, 6, 7, 8, 9, 10, 11, 12, 13, 14, 15, 16, 17, 18], [0, 1, 2, 3, 4, 5, 6, 7, 8, 9, 10, 11, 12, 13, 14, 15, 16, 17, 18, 31, 32], [0, 1, 2, 3, 4, 5, 6, 7, 8, 9, 10, 11, 12, 13, 14, 15, 16, 17, 18, 31, 32, 33], [0, 1, 2, 3, 4, 5, 6, 7, 8, 9, 10, 11, 12, 13, 14, 15, 16, 17, 18, 31, 32, 33, 34], [0, 1, 2, 3, 4, 5, 6, 7, 8, 9, 10, 11, 12, 13, 14, 15, 16, 17, 18, 19, 20, 21, 22, 23, 24, 25, 26, 27, 28, 29, 30, 31, 32, 33, 34, 35], [0, 1, 2, 3, 4, 5, 6, 7, 8, 9, 10, 11, 12, 13, 14, 15, 16, 17, 18, 19, 20, 21, 22, 23, 24, 25, 26, 27, 28, 29, 30, 31, 32, 33, 34, 35, 36]]
noncomputable def raddlelaw37_PieceMirrors_l1 (r53 : ((List (Int × Int)) × Int)) (r59 : ((List (Int × Int)) × Int)) (p0 : api_Piece) : Int → Option (Int ⊕ (Bool ⊕ Unit)) := fun s0 => match s0 with
  | s81 =>
    if decide (s81 < (r53.1.length : Int)) then
      Option.bind (α := Bool) (
        Option.bind (idxO r59.1 s81) fun x92 =>
        Option.bind (idxO r53.1 s81) fun x97 =>
        if !((x92.1 == (w64 (0 - x97.2))) && ((x92.2 == (w64 (0 - x97.1))) && true)) then
          some true
        else
          Option.bind (idxO p0.Left (w64 (s81 + 1))) fun x123 =>
          Option.bind (idxO p0.Left s81) fun x128 =>
          some ((w64 (x123 - x128)) != x97.1)) fun o89 =>
      if o89 then
        some (.inr (.inl false))
      else
        some (.inl (w64 (s81 + 1)))
    else
      some (.inr (.inr ()))
noncomputable def F_raddlelaw37_PieceMirrors (p0 : api_Piece) : Option Bool :=
  Option.bind (F_raddlelaw37_alive) fun r12 =>
  Option.bind (α := Bool) (
    Option.bind (F_raddleref37_Great p0) fun r18 =>
    if r18 then
      some true
    else
      Option.bind (F_raddleref37_Check p0) fun r21 =>
      if r21 != 0 then
        some true
      else
        some (!r12)) fun o15 =>
  if o15 then
    some r12
  else
    Option.bind (F_piece_Mirror p0) fun r27 =>
    Option.bind (F_piece_Mirror r27.1) fun r40 =>
    Option.bind (F_piece_Changes p0) fun r53 =>
    Option.bind (F_piece_Changes r27.1) fun r59 =>
    Option.bind (α := Bool) (
      if r27.2 != 0 then
        some true
      else
        if r40.2 != 0 then
          some true
        else
          if r53.2 != 0 then
            some true
          else
            if r59.2 != 0 then
              some true
            else
              Option.bind (F_raddleref37_Same r40.1 p0) fun r72 =>
              if !r72 then
                some true
              else
                if (r53.1.length : Int) != (w64 ((p0.Left.length : Int) - 1)) then
                  some true
                else
                  some ((r59.1.length : Int) != (r53.1.length : Int))) fun o65 =>
    if o65 then
      some false
    else
      Option.bind (α := Unit ⊕ Bool) (
        Option.bind (whileO (raddlelaw37_PieceMirrors_l1 r53 r59 p0) 0) fun z0 => match z0 with
          | .inl z =>
            some (.inr z)
          | .inr _ =>
            some (.inl ())) fun z0 => match z0 with
        | .inl _ =>
          some r12
        | .inr z =>
          some z
set_option maxHeartbeats 4000000 in
set_option maxRecDepth 100000 in
theorem c_raddlelaw37_PieceMirrors (E : Nat → Prop) (w0 : World) (p0 : api_Piece) (v0 : Value) (r : Bool) (h : F_raddlelaw37_PieceMirrors p0 = some r) (S : St0 E [] w0 w0 [] [fRep r_api_Piece (v0) p0]) :
    Calls Tryd.prog 6 #[v0] w0 (Ret (X := Unit) E [] w0 (fun _ => .bool r) (fun _ => []) (fun _ => [])) := by
  unfold F_raddlelaw37_PieceMirrors at h
  obtain ⟨u1, u2, rfl, hu3, hu4⟩ := S.know (i := 0) (e := fRep r_api_Piece (v0) p0) rfl
  have S := S.learn (fRep (rL (rI .i64)) u1 p0.Left) hu3
  obtain ⟨ad5, cp6, _, rfl, _⟩ := hu3
  have S := S.learn (fRep (rL (rI .i64)) u2 p0.Right) hu4
  obtain ⟨ad7, cp8, _, rfl, _⟩ := hu4
  refine sEnter (args := [.agg #[.slice ad5 p0.Left.length cp6, .slice ad7 p0.Right.length cp8]]) 127 Tryd.func6 rfl rfl (by simp) S (fun a S => ?_)
  refine sSeq (fun K9 hK9 => ?_)
  refine sRegion ?_
  refine sBox (v := .agg #[.slice ad5 p0.Left.length cp6, .slice ad7 p0.Right.length cp8]) S (wN rfl) rfl rfl [.slice ad5 p0.Left.length cp6, .slice ad7 p0.Right.length cp8] rfl rfl (lb rfl) fun a b10 w S => ?_
  refine sMove (.bool false) S (wN rfl) (.inr rfl) rfl rfl (lb rfl) fun a S => ?_
  refine leafL (leafT (hK9 _ _ ?_))
  refine sSeq (fun K11 hK11 => ?_)
  refine sRegion ?_
  obtain ⟨r12, hx13, h⟩ := bindSome h
  have S1 := S.mem
  refine sCallQ (X := Unit) (f := 9) (vs := []) (val := fun _ => .bool r12) S (wN rfl) rfl callee9 rfl (S1.quiet [] rfl) (fun E1 w1 S1 => c_raddlelaw37_alive E1 w1  r12 hx13 S1) rfl (lb rfl) fun _ a w S => ?_
  refine sMove (.bool r12) S (wN rfl) (.inr rfl) rfl rfl (lb rfl) fun a S => ?_
  refine leafL (leafT (hK11 _ _ ?_))
  refine sSeq (fun K14 hK14 => ?_)
  obtain ⟨t16, h, g17⟩ := bindSome h
  refine sCut (fun a w => ∃ o15, o15 = t16 ∧ St [] E [] w0 127 a w [(1, .pointer (some ⟨b10, 0, none⟩)), (3, .bool r12), (24, .bool o15)] [eBox b10 30 [.slice ad5 p0.Left.length cp6, .slice ad7 p0.Right.length cp8]] [fRep (rL (rI .i64)) (.slice ad5 p0.Left.length cp6) p0.Left, fRep (rL (rI .i64)) (.slice ad7 p0.Right.length cp8) p0.Right]) ?_ (fun a w hI => ?_)
  · refine sRegion ?_
    refine sLoadN (p := b10) (off := 0) (T := 30) (vs := [.slice ad5 p0.Left.length cp6, .slice ad7 p0.Right.length cp8]) 0 [.slice ad5 p0.Left.length cp6, .slice ad7 p0.Right.length cp8] S (wN rfl) rfl rfl rfl rfl rfl rfl rfl (lb rfl) fun a S => ?_
    obtain ⟨r18, hx19, h⟩ := bindSome h
    have S1 := S.mem
    refine sCallQ (X := Unit) (f := 15) (vs := [.agg #[.slice ad5 p0.Left.length cp6, .slice ad7 p0.Right.length cp8]]) (val := fun _ => .bool r18) S (wN rfl) rfl callee15 rfl (S1.quiet [2] rfl) (fun E1 w1 S1 => c_raddleref37_Great E1 w1 p0 (.agg #[.slice ad5 p0.Left.length cp6, .slice ad7 p0.Right.length cp8]) r18 hx19 S1) rfl (lb rfl) fun _ a w S => ?_
    refine sMove (.bool r18) S (wN rfl) (.inl rfl) rfl rfl (lb rfl) fun a S => ?_
    rcases iteSome h with ⟨hc20, h⟩ | ⟨hc20, h⟩
    · refine sSkip 2 false 16 17 S rfl rfl rfl hc20 rfl (lb rfl) fun a S => ?_
      refine sSkip 2 false 16 18 S rfl rfl rfl hc20 rfl (lb rfl) fun a S => ?_
      refine sSkip 2 false 16 19 S rfl rfl rfl hc20 rfl (lb rfl) fun a S => ?_
      refine sPickT (.bool true) S (wN rfl) rfl rfl hc20 rfl rfl (lb rfl) fun a S => ?_
      refine sMove (.bool true) S (wN rfl) (.inl rfl) rfl rfl (lb rfl) fun a S => ?_
      refine sSkip 7 false 21 22 S rfl rfl rfl rfl rfl (lb rfl) fun a S => ?_
      refine sSkip 7 false 21 23 S rfl rfl rfl rfl rfl (lb rfl) fun a S => ?_
      refine sPickT (.bool true) S (wN rfl) rfl rfl rfl rfl rfl (lb rfl) fun a S => ?_
      exact leafL (leafT (⟨true, Option.some.inj h, S.fix [0] [1, 0] (by decide) rfl rfl rfl⟩))
    refine sLoadN (p := b10) (off := 0) (T := 30) (vs := [.slice ad5 p0.Left.length cp6, .slice ad7 p0.Right.length cp8]) 0 [.slice ad5 p0.Left.length cp6, .slice ad7 p0.Right.length cp8] S (wG 2 false 16 rfl rfl rfl hc20) rfl rfl rfl rfl rfl rfl rfl (lb rfl) fun a S => ?_
    obtain ⟨r21, hx22, h⟩ := bindSome h
    have S1 := S.mem
    refine sCallQ (X := Unit) (f := 21) (vs := [.agg #[.slice ad5 p0.Left.length cp6, .slice ad7 p0.Right.length cp8]]) (val := fun _ => iv r21) S (wG 2 false 16 rfl rfl rfl hc20) rfl callee21 rfl (S1.quiet [2] rfl) (fun E1 w1 S1 => c_raddleref37_Check E1 w1 p0 (.agg #[.slice ad5 p0.Left.length cp6, .slice ad7 p0.Right.length cp8]) r21 hx22 S1) rfl (lb rfl) fun _ a w S => ?_
    refine sBin (.bool (r21 != 0)) S (wG 2 false 16 rfl rfl rfl hc20) rfl rfl rfl (bNe _ _ _ _ .i64 r21 0) rfl (lb rfl) fun a S => ?_
    refine sPickF (.bool (r21 != 0)) S (wN rfl) rfl rfl hc20 rfl rfl (lb rfl) fun a S => ?_
    refine sMove (.bool (r21 != 0)) S (wN rfl) (.inl rfl) rfl rfl (lb rfl) fun a S => ?_
    rcases iteSome h with ⟨hc23, h⟩ | ⟨hc23, h⟩
    · refine sSkip 7 false 21 22 S rfl rfl rfl hc23 rfl (lb rfl) fun a S => ?_
      refine sSkip 7 false 21 23 S rfl rfl rfl hc23 rfl (lb rfl) fun a S => ?_
      refine sPickT (.bool true) S (wN rfl) rfl rfl hc23 rfl rfl (lb rfl) fun a S => ?_
      exact leafL (leafT (⟨true, Option.some.inj h, S.fix [0] [1, 0] (by decide) rfl rfl rfl⟩))
    refine sMove (.bool r12) S (wG 7 false 21 rfl rfl rfl hc23) (.inl rfl) rfl rfl (lb rfl) fun a S => ?_
    refine sNot (b := r12) S (wG 7 false 21 rfl rfl rfl hc23) rfl rfl rfl (lb rfl) fun a S => ?_
    refine sPickF (.bool (!r12)) S (wN rfl) rfl rfl hc23 rfl rfl (lb rfl) fun a S => ?_
    exact leafL (leafT (⟨!r12, Option.some.inj h, S.fix [0] [1, 0] (by decide) rfl rfl rfl⟩))
  obtain ⟨o15, rfl, S⟩ := hI
  have h := g17
  clear g17
  try dsimp only at h
  rcases iteSome h with ⟨hc24, h⟩ | ⟨hc24, h⟩
  · refine sCondT S rfl hc24 ?_
    refine sSeq (fun K25 hK25 => ?_)
    refine sRegion ?_
    refine sMove (.bool r12) S (wN rfl) (.inl rfl) rfl rfl (lb rfl) fun a S => ?_
    refine sMove (.bool r12) S (wN rfl) (.inr rfl) rfl rfl (lb rfl) fun a S => ?_
    refine leafL (leafT (hK25 _ _ ?_))
    obtain rfl := Option.some.inj h
    exact wp_ret (rThen (sRet (.bool r12) S (rsl1 rfl (rvT (t := 2) (v := .bool r12) S rfl)) ⟨(), rfl, S.mem.sel [] [] (by decide) rfl rfl⟩))
  refine sCondF S rfl hc24 ?_
  refine wp_skip (leafT (hK14 _ _ ?_))
  refine sSeq (fun K26 hK26 => ?_)
  refine sRegion ?_
  refine sLoadN (p := b10) (off := 0) (T := 30) (vs := [.slice ad5 p0.Left.length cp6, .slice ad7 p0.Right.length cp8]) 0 [.slice ad5 p0.Left.length cp6, .slice ad7 p0.Right.length cp8] S (wN rfl) rfl rfl rfl rfl rfl rfl rfl (lb rfl) fun a S => ?_
  obtain ⟨r27, hx28, h⟩ := bindSome h
  have S := S.learn (fRep r_api_Piece (.agg #[.slice ad5 p0.Left.length cp6, .slice ad7 p0.Right.length cp8]) p0) ⟨_, _, rfl, S.mem.know (i := 0) (e := fRep (rL (rI .i64)) (.slice ad5 p0.Left.length cp6) p0.Left) rfl, S.mem.know (i := 1) (e := fRep (rL (rI .i64)) (.slice ad7 p0.Right.length cp8) p0.Right) rfl⟩
  refine sCall (X := Value) (f := 24) (vs := [.agg #[.slice ad5 p0.Left.length cp6, .slice ad7 p0.Right.length cp8]]) (val := c_piece_Mirror_val r27) (B' := fun _ => []) (D' := c_piece_Mirror_D r27) [] [eBox b10 30 [.slice ad5 p0.Left.length cp6, .slice ad7 p0.Right.length cp8]] [fRep r_api_Piece (.agg #[.slice ad5 p0.Left.length cp6, .slice ad7 p0.Right.length cp8]) p0] [0] [0] S (wN rfl) rfl callee24 rfl (by decide) rfl rfl (fun E1 w1 S1 => c_piece_Mirror E1 w1 p0 (.agg #[.slice ad5 p0.Left.length cp6, .slice ad7 p0.Right.length cp8]) r27 hx28 S1) rfl (lb rfl) fun u29 a w S => ?_
  obtain ⟨u30, u31, rfl, hu32, hu33⟩ := S.mem.know (i := 0) (e := fRep r_api_Piece (u29) r27.1) rfl
  have S := S.learn (fRep (rL (rI .i64)) u30 r27.1.Left) hu32
  obtain ⟨ad34, cp35, _, rfl, _⟩ := hu32
  have S := S.learn (fRep (rL (rI .i64)) u31 r27.1.Right) hu33
  obtain ⟨ad36, cp37, _, rfl, _⟩ := hu33
  refine sMove (.tuple #[.agg #[.slice ad34 r27.1.Left.length cp35, .slice ad36 r27.1.Right.length cp37], iv r27.2]) S (wN rfl) (.inl rfl) rfl rfl (lb rfl) fun a S => ?_
  refine sExtract (vs := [.agg #[.slice ad34 r27.1.Left.length cp35, .slice ad36 r27.1.Right.length cp37], iv r27.2]) (.agg #[.slice ad34 r27.1.Left.length cp35, .slice ad36 r27.1.Right.length cp37]) S (wN rfl) rfl rfl rfl rfl (lb rfl) fun a S => ?_
  refine sExtract (vs := [.agg #[.slice ad34 r27.1.Left.length cp35, .slice ad36 r27.1.Right.length cp37], iv r27.2]) (iv r27.2) S (wN rfl) rfl rfl rfl rfl (lb rfl) fun a S => ?_
  refine sAlloc (.agg #[.slice none 0 0, .slice none 0 0]) S (wN rfl) rfl rfl [.slice none 0 0, .slice none 0 0] rfl rfl (lb rfl) fun a b38 w S => ?_
  refine sStore (p := b38) (off := 0) (T := 30) (vs := [.slice none 0 0, .slice none 0 0]) (v := .agg #[.slice ad34 r27.1.Left.length cp35, .slice ad36 r27.1.Right.length cp37]) 0 [.slice ad34 r27.1.Left.length cp35, .slice ad36 r27.1.Right.length cp37] S (wN rfl) rfl rfl rfl rfl rfl rfl rfl (by simp) rfl fun a w S => ?_
  refine sMove (iv r27.2) S (wN rfl) (.inr rfl) rfl rfl (lb rfl) fun a S => ?_
  refine leafL (leafT (hK26 _ _ ?_))
  refine sSeq (fun K39 hK39 => ?_)
  refine sRegion ?_
  refine sLoadN (p := b38) (off := 0) (T := 30) (vs := [.slice ad34 r27.1.Left.length cp35, .slice ad36 r27.1.Right.length cp37]) 0 [.slice ad34 r27.1.Left.length cp35, .slice ad36 r27.1.Right.length cp37] S (wN rfl) rfl rfl rfl rfl rfl rfl rfl (lb rfl) fun a S => ?_
  obtain ⟨r40, hx41, h⟩ := bindSome h
  refine sCall (X := Value) (f := 24) (vs := [.agg #[.slice ad34 r27.1.Left.length cp35, .slice ad36 r27.1.Right.length cp37]]) (val := c_piece_Mirror_val r40) (B' := fun _ => []) (D' := c_piece_Mirror_D r40) [] [eBox b38 30 [.slice ad34 r27.1.Left.length cp35, .slice ad36 r27.1.Right.length cp37], eBox b10 30 [.slice ad5 p0.Left.length cp6, .slice ad7 p0.Right.length cp8]] [fRep r_api_Piece (.agg #[.slice ad34 r27.1.Left.length cp35, .slice ad36 r27.1.Right.length cp37]) r27.1] [0, 1] [2] S (wN rfl) rfl callee24 rfl (by decide) rfl rfl (fun E1 w1 S1 => c_piece_Mirror E1 w1 r27.1 (.agg #[.slice ad34 r27.1.Left.length cp35, .slice ad36 r27.1.Right.length cp37]) r40 hx41 S1) rfl (lb rfl) fun u42 a w S => ?_
  obtain ⟨u43, u44, rfl, hu45, hu46⟩ := S.mem.know (i := 0) (e := fRep r_api_Piece (u42) r40.1) rfl
  have S := S.learn (fRep (rL (rI .i64)) u43 r40.1.Left) hu45
  obtain ⟨ad47, cp48, _, rfl, _⟩ := hu45
  have S := S.learn (fRep (rL (rI .i64)) u44 r40.1.Right) hu46
  obtain ⟨ad49, cp50, _, rfl, _⟩ := hu46
  refine sMove (.tuple #[.agg #[.slice ad47 r40.1.Left.length cp48, .slice ad49 r40.1.Right.length cp50], iv r40.2]) S (wN rfl) (.inl rfl) rfl rfl (lb rfl) fun a S => ?_
  refine sExtract (vs := [.agg #[.slice ad47 r40.1.Left.length cp48, .slice ad49 r40.1.Right.length cp50], iv r40.2]) (.agg #[.slice ad47 r40.1.Left.length cp48, .slice ad49 r40.1.Right.length cp50]) S (wN rfl) rfl rfl rfl rfl (lb rfl) fun a S => ?_
  refine sExtract (vs := [.agg #[.slice ad47 r40.1.Left.length cp48, .slice ad49 r40.1.Right.length cp50], iv r40.2]) (iv r40.2) S (wN rfl) rfl rfl rfl rfl (lb rfl) fun a S => ?_
  refine sAlloc (.agg #[.slice none 0 0, .slice none 0 0]) S (wN rfl) rfl rfl [.slice none 0 0, .slice none 0 0] rfl rfl (lb rfl) fun a b51 w S => ?_
  refine sStore (p := b51) (off := 0) (T := 30) (vs := [.slice none 0 0, .slice none 0 0]) (v := .agg #[.slice ad47 r40.1.Left.length cp48, .slice ad49 r40.1.Right.length cp50]) 0 [.slice ad47 r40.1.Left.length cp48, .slice ad49 r40.1.Right.length cp50] S (wN rfl) rfl rfl rfl rfl rfl rfl rfl (by simp) rfl fun a w S => ?_
  refine sMove (iv r40.2) S (wN rfl) (.inr rfl) rfl rfl (lb rfl) fun a S => ?_
  refine leafL (leafT (hK39 _ _ ?_))
  refine sSeq (fun K52 hK52 => ?_)
  refine sRegion ?_
  refine sLoadN (p := b10) (off := 0) (T := 30) (vs := [.slice ad5 p0.Left.length cp6, .slice ad7 p0.Right.length cp8]) 2 [.slice ad5 p0.Left.length cp6, .slice ad7 p0.Right.length cp8] S (wN rfl) rfl rfl rfl rfl rfl rfl rfl (lb rfl) fun a S => ?_
  obtain ⟨r53, hx54, h⟩ := bindSome h
  refine sCall (X := Value) (f := 25) (vs := [.agg #[.slice ad5 p0.Left.length cp6, .slice ad7 p0.Right.length cp8]]) (val := c_piece_Changes_val r53) (B' := fun _ => []) (D' := c_piece_Changes_D r53) [] [eBox b51 30 [.slice ad47 r40.1.Left.length cp48, .slice ad49 r40.1.Right.length cp50], eBox b38 30 [.slice ad34 r27.1.Left.length cp35, .slice ad36 r27.1.Right.length cp37], eBox b10 30 [.slice ad5 p0.Left.length cp6, .slice ad7 p0.Right.length cp8]] [fRep r_api_Piece (.agg #[.slice ad5 p0.Left.length cp6, .slice ad7 p0.Right.length cp8]) p0] [0, 1, 2] [6] S (wN rfl) rfl callee25 rfl (by decide) rfl rfl (fun E1 w1 S1 => c_piece_Changes E1 w1 p0 (.agg #[.slice ad5 p0.Left.length cp6, .slice ad7 p0.Right.length cp8]) r53 hx54 S1) rfl (lb rfl) fun u55 a w S => ?_
  obtain ⟨ad56, cp57, _, rfl, _⟩ := S.mem.know (i := 0) (e := fRep (rL r_A2_Int) (u55) r53.1) rfl
  refine sMove (.tuple #[.slice ad56 r53.1.length cp57, iv r53.2]) S (wN rfl) (.inl rfl) rfl rfl (lb rfl) fun a S => ?_
  refine sExtract (vs := [.slice ad56 r53.1.length cp57, iv r53.2]) (.slice ad56 r53.1.length cp57) S (wN rfl) rfl rfl rfl rfl (lb rfl) fun a S => ?_
  refine sExtract (vs := [.slice ad56 r53.1.length cp57, iv r53.2]) (iv r53.2) S (wN rfl) rfl rfl rfl rfl (lb rfl) fun a S => ?_
  refine sMove (.slice ad56 r53.1.length cp57) S (wN rfl) (.inr rfl) rfl rfl (lb rfl) fun a S => ?_
  refine sMove (iv r53.2) S (wN rfl) (.inr rfl) rfl rfl (lb rfl) fun a S => ?_
  refine leafL (leafT (hK52 _ _ ?_))
  refine sSeq (fun K58 hK58 => ?_)
  refine sRegion ?_
  refine sLoadN (p := b38) (off := 0) (T := 30) (vs := [.slice ad34 r27.1.Left.length cp35, .slice ad36 r27.1.Right.length cp37]) 1 [.slice ad34 r27.1.Left.length cp35, .slice ad36 r27.1.Right.length cp37] S (wN rfl) rfl rfl rfl rfl rfl rfl rfl (lb rfl) fun a S => ?_
  obtain ⟨r59, hx60, h⟩ := bindSome h
  refine sCall (X := Value) (f := 25) (vs := [.agg #[.slice ad34 r27.1.Left.length cp35, .slice ad36 r27.1.Right.length cp37]]) (val := c_piece_Changes_val r59) (B' := fun _ => []) (D' := c_piece_Changes_D r59) [] [eBox b51 30 [.slice ad47 r40.1.Left.length cp48, .slice ad49 r40.1.Right.length cp50], eBox b38 30 [.slice ad34 r27.1.Left.length cp35, .slice ad36 r27.1.Right.length cp37], eBox b10 30 [.slice ad5 p0.Left.length cp6, .slice ad7 p0.Right.length cp8]] [fRep r_api_Piece (.agg #[.slice ad34 r27.1.Left.length cp35, .slice ad36 r27.1.Right.length cp37]) r27.1] [0, 1, 2] [6] S (wN rfl) rfl callee25 rfl (by decide) rfl rfl (fun E1 w1 S1 => c_piece_Changes E1 w1 r27.1 (.agg #[.slice ad34 r27.1.Left.length cp35, .slice ad36 r27.1.Right.length cp37]) r59 hx60 S1) rfl (lb rfl) fun u61 a w S => ?_
  obtain ⟨ad62, cp63, _, rfl, _⟩ := S.mem.know (i := 0) (e := fRep (rL r_A2_Int) (u61) r59.1) rfl
  refine sMove (.tuple #[.slice ad62 r59.1.length cp63, iv r59.2]) S (wN rfl) (.inl rfl) rfl rfl (lb rfl) fun a S => ?_
  refine sExtract (vs := [.slice ad62 r59.1.length cp63, iv r59.2]) (.slice ad62 r59.1.length cp63) S (wN rfl) rfl rfl rfl rfl (lb rfl) fun a S => ?_
  refine sExtract (vs := [.slice ad62 r59.1.length cp63, iv r59.2]) (iv r59.2) S (wN rfl) rfl rfl rfl rfl (lb rfl) fun a S => ?_
  refine sMove (.slice ad62 r59.1.length cp63) S (wN rfl) (.inr rfl) rfl rfl (lb rfl) fun a S => ?_
  refine sMove (iv r59.2) S (wN rfl) (.inr rfl) rfl rfl (lb rfl) fun a S => ?_
  refine leafL (leafT (hK58 _ _ ?_))
  refine sSeq (fun K64 hK64 => ?_)
  obtain ⟨t66, h, g67⟩ := bindSome h
  refine sCut (fun a w => ∃ o65, o65 = t66 ∧ St [] E [] w0 127 a w [(1, .pointer (some ⟨b10, 0, none⟩)), (3, .bool r12), (8, .slice ad56 r53.1.length cp57), (10, .slice ad62 r59.1.length cp63), (81, .bool o65)] [eBox b10 30 [.slice ad5 p0.Left.length cp6, .slice ad7 p0.Right.length cp8]] [fRep (rL r_A2_Int) (.slice ad56 r53.1.length cp57) r53.1, fRep (rL r_A2_Int) (.slice ad62 r59.1.length cp63) r59.1, fRep (rL (rI .i64)) (.slice ad5 p0.Left.length cp6) p0.Left, fRep (rL (rI .i64)) (.slice ad7 p0.Right.length cp8) p0.Right]) ?_ (fun a w hI => ?_)
  · refine sRegion ?_
    refine sMove (iv r27.2) S (wN rfl) (.inl rfl) rfl rfl (lb rfl) fun a S => ?_
    refine sBin (.bool (r27.2 != 0)) S (wN rfl) rfl rfl rfl (bNe _ _ _ _ .i64 r27.2 0) rfl (lb rfl) fun a S => ?_
    refine sMove (.bool (r27.2 != 0)) S (wN rfl) (.inl rfl) rfl rfl (lb rfl) fun a S => ?_
    rcases iteSome h with ⟨hc68, h⟩ | ⟨hc68, h⟩
    · refine sSkip 2 false 48 49 S rfl rfl rfl hc68 rfl (lb rfl) fun a S => ?_
      refine sSkip 2 false 48 50 S rfl rfl rfl hc68 rfl (lb rfl) fun a S => ?_
      refine sPickT (.bool true) S (wN rfl) rfl rfl hc68 rfl rfl (lb rfl) fun a S => ?_
      refine sMove (.bool true) S (wN rfl) (.inl rfl) rfl rfl (lb rfl) fun a S => ?_
      refine sSkip 6 false 52 53 S rfl rfl rfl rfl rfl (lb rfl) fun a S => ?_
      refine sSkip 6 false 52 54 S rfl rfl rfl rfl rfl (lb rfl) fun a S => ?_
      refine sPickT (.bool true) S (wN rfl) rfl rfl rfl rfl rfl (lb rfl) fun a S => ?_
      refine sMove (.bool true) S (wN rfl) (.inl rfl) rfl rfl (lb rfl) fun a S => ?_
      refine sSkip 10 false 56 57 S rfl rfl rfl rfl rfl (lb rfl) fun a S => ?_
      refine sSkip 10 false 56 58 S rfl rfl rfl rfl rfl (lb rfl) fun a S => ?_
      refine sPickT (.bool true) S (wN rfl) rfl rfl rfl rfl rfl (lb rfl) fun a S => ?_
      refine sMove (.bool true) S (wN rfl) (.inl rfl) rfl rfl (lb rfl) fun a S => ?_
      refine sSkip 14 false 60 61 S rfl rfl rfl rfl rfl (lb rfl) fun a S => ?_
      refine sSkip 14 false 60 62 S rfl rfl rfl rfl rfl (lb rfl) fun a S => ?_
      refine sSkip 14 false 60 63 S rfl rfl rfl rfl rfl (lb rfl) fun a S => ?_
      refine sSkip 14 false 60 64 S rfl rfl rfl rfl rfl (lb rfl) fun a S => ?_
      refine sPickT (.bool true) S (wN rfl) rfl rfl rfl rfl rfl (lb rfl) fun a S => ?_
      refine sMove (.bool true) S (wN rfl) (.inl rfl) rfl rfl (lb rfl) fun a S => ?_
      refine sSkip 20 false 66 67 S rfl rfl rfl rfl rfl (lb rfl) fun a S => ?_
      refine sSkip 20 false 66 68 S rfl rfl rfl rfl rfl (lb rfl) fun a S => ?_
      refine sSkip 20 false 66 69 S rfl rfl rfl rfl rfl (lb rfl) fun a S => ?_
      refine sSkip 20 false 66 70 S rfl rfl rfl rfl rfl (lb rfl) fun a S => ?_
      refine sSkip 20 false 66 71 S rfl rfl rfl rfl rfl (lb rfl) fun a S => ?_
      refine sSkip 20 false 66 72 S rfl rfl rfl rfl rfl (lb rfl) fun a S => ?_
      refine sSkip 20 false 66 73 S rfl rfl rfl rfl rfl (lb rfl) fun a S => ?_
      refine sPickT (.bool true) S (wN rfl) rfl rfl rfl rfl rfl (lb rfl) fun a S => ?_
      refine sMove (.bool true) S (wN rfl) (.inl rfl) rfl rfl (lb rfl) fun a S => ?_
      refine sSkip 29 false 75 76 S rfl rfl rfl rfl rfl (lb rfl) fun a S => ?_
      refine sSkip 29 false 75 77 S rfl rfl rfl rfl rfl (lb rfl) fun a S => ?_
      refine sSkip 29 false 75 78 S rfl rfl rfl rfl rfl (lb rfl) fun a S => ?_
      refine sSkip 29 false 75 79 S rfl rfl rfl rfl rfl (lb rfl) fun a S => ?_
      refine sSkip 29 false 75 80 S rfl rfl rfl rfl rfl (lb rfl) fun a S => ?_
      refine sPickT (.bool true) S (wN rfl) rfl rfl rfl rfl rfl (lb rfl) fun a S => ?_
      exact leafL (leafT (⟨true, Option.some.inj h, S.fix [2] [1, 0, 9, 10] (by decide) rfl rfl rfl⟩))
    refine sMove (iv r40.2) S (wG 2 false 48 rfl rfl rfl hc68) (.inl rfl) rfl rfl (lb rfl) fun a S => ?_
    refine sBin (.bool (r40.2 != 0)) S (wG 2 false 48 rfl rfl rfl hc68) rfl rfl rfl (bNe _ _ _ _ .i64 r40.2 0) rfl (lb rfl) fun a S => ?_
    refine sPickF (.bool (r40.2 != 0)) S (wN rfl) rfl rfl hc68 rfl rfl (lb rfl) fun a S => ?_
    refine sMove (.bool (r40.2 != 0)) S (wN rfl) (.inl rfl) rfl rfl (lb rfl) fun a S => ?_
    rcases iteSome h with ⟨hc69, h⟩ | ⟨hc69, h⟩
    · refine sSkip 6 false 52 53 S rfl rfl rfl hc69 rfl (lb rfl) fun a S => ?_
      refine sSkip 6 false 52 54 S rfl rfl rfl hc69 rfl (lb rfl) fun a S => ?_
      refine sPickT (.bool true) S (wN rfl) rfl rfl hc69 rfl rfl (lb rfl) fun a S => ?_
      refine sMove (.bool true) S (wN rfl) (.inl rfl) rfl rfl (lb rfl) fun a S => ?_
      refine sSkip 10 false 56 57 S rfl rfl rfl rfl rfl (lb rfl) fun a S => ?_
      refine sSkip 10 false 56 58 S rfl rfl rfl rfl rfl (lb rfl) fun a S => ?_
      refine sPickT (.bool true) S (wN rfl) rfl rfl rfl rfl rfl (lb rfl) fun a S => ?_
      refine sMove (.bool true) S (wN rfl) (.inl rfl) rfl rfl (lb rfl) fun a S => ?_
      refine sSkip 14 false 60 61 S rfl rfl rfl rfl rfl (lb rfl) fun a S => ?_
      refine sSkip 14 false 60 62 S rfl rfl rfl rfl rfl (lb rfl) fun a S => ?_
      refine sSkip 14 false 60 63 S rfl rfl rfl rfl rfl (lb rfl) fun a S => ?_
      refine sSkip 14 false 60 64 S rfl rfl rfl rfl rfl (lb rfl) fun a S => ?_
      refine sPickT (.bool true) S (wN rfl) rfl rfl rfl rfl rfl (lb rfl) fun a S => ?_
      refine sMove (.bool true) S (wN rfl) (.inl rfl) rfl rfl (lb rfl) fun a S => ?_
      refine sSkip 20 false 66 67 S rfl rfl rfl rfl rfl (lb rfl) fun a S => ?_
      refine sSkip 20 false 66 68 S rfl rfl rfl rfl rfl (lb rfl) fun a S => ?_
      refine sSkip 20 false 66 69 S rfl rfl rfl rfl rfl (lb rfl) fun a S => ?_
      refine sSkip 20 false 66 70 S rfl rfl rfl rfl rfl (lb rfl) fun a S => ?_
      refine sSkip 20 false 66 71 S rfl rfl rfl rfl rfl (lb rfl) fun a S => ?_
      refine sSkip 20 false 66 72 S rfl rfl rfl rfl rfl (lb rfl) fun a S => ?_
      refine sSkip 20 false 66 73 S rfl rfl rfl rfl rfl (lb rfl) fun a S => ?_
      refine sPickT (.bool true) S (wN rfl) rfl rfl rfl rfl rfl (lb rfl) fun a S => ?_
      refine sMove (.bool true) S (wN rfl) (.inl rfl) rfl rfl (lb rfl) fun a S => ?_
      refine sSkip 29 false 75 76 S rfl rfl rfl rfl rfl (lb rfl) fun a S => ?_
      refine sSkip 29 false 75 77 S rfl rfl rfl rfl rfl (lb rfl) fun a S => ?_
      refine sSkip 29 false 75 78 S rfl rfl rfl rfl rfl (lb rfl) fun a S => ?_
      refine sSkip 29 false 75 79 S rfl rfl rfl rfl rfl (lb rfl) fun a S => ?_
      refine sSkip 29 false 75 80 S rfl rfl rfl rfl rfl (lb rfl) fun a S => ?_
      refine sPickT (.bool true) S (wN rfl) rfl rfl rfl rfl rfl (lb rfl) fun a S => ?_
      exact leafL (leafT (⟨true, Option.some.inj h, S.fix [2] [1, 0, 9, 10] (by decide) rfl rfl rfl⟩))
    refine sMove (iv r53.2) S (wG 6 false 52 rfl rfl rfl hc69) (.inl rfl) rfl rfl (lb rfl) fun a S => ?_
    refine sBin (.bool (r53.2 != 0)) S (wG 6 false 52 rfl rfl rfl hc69) rfl rfl rfl (bNe _ _ _ _ .i64 r53.2 0) rfl (lb rfl) fun a S => ?_
    refine sPickF (.bool (r53.2 != 0)) S (wN rfl) rfl rfl hc69 rfl rfl (lb rfl) fun a S => ?_
    refine sMove (.bool (r53.2 != 0)) S (wN rfl) (.inl rfl) rfl rfl (lb rfl) fun a S => ?_
    rcases iteSome h with ⟨hc70, h⟩ | ⟨hc70, h⟩
    · refine sSkip 10 false 56 57 S rfl rfl rfl hc70 rfl (lb rfl) fun a S => ?_
      refine sSkip 10 false 56 58 S rfl rfl rfl hc70 rfl (lb rfl) fun a S => ?_
      refine sPickT (.bool true) S (wN rfl) rfl rfl hc70 rfl rfl (lb rfl) fun a S => ?_
      refine sMove (.bool true) S (wN rfl) (.inl rfl) rfl rfl (lb rfl) fun a S => ?_
      refine sSkip 14 false 60 61 S rfl rfl rfl rfl rfl (lb rfl) fun a S => ?_
      refine sSkip 14 false 60 62 S rfl rfl rfl rfl rfl (lb rfl) fun a S => ?_
      refine sSkip 14 false 60 63 S rfl rfl rfl rfl rfl (lb rfl) fun a S => ?_
      refine sSkip 14 false 60 64 S rfl rfl rfl rfl rfl (lb rfl) fun a S => ?_
      refine sPickT (.bool true) S (wN rfl) rfl rfl rfl rfl rfl (lb rfl) fun a S => ?_
      refine sMove (.bool true) S (wN rfl) (.inl rfl) rfl rfl (lb rfl) fun a S => ?_
      refine sSkip 20 false 66 67 S rfl rfl rfl rfl rfl (lb rfl) fun a S => ?_
      refine sSkip 20 false 66 68 S rfl rfl rfl rfl rfl (lb rfl) fun a S => ?_
      refine sSkip 20 false 66 69 S rfl rfl rfl rfl rfl (lb rfl) fun a S => ?_
      refine sSkip 20 false 66 70 S rfl rfl rfl rfl rfl (lb rfl) fun a S => ?_
      refine sSkip 20 false 66 71 S rfl rfl rfl rfl rfl (lb rfl) fun a S => ?_
      refine sSkip 20 false 66 72 S rfl rfl rfl rfl rfl (lb rfl) fun a S => ?_
      refine sSkip 20 false 66 73 S rfl rfl rfl rfl rfl (lb rfl) fun a S => ?_
      refine sPickT (.bool true) S (wN rfl) rfl rfl rfl rfl rfl (lb rfl) fun a S => ?_
      refine sMove (.bool true) S (wN rfl) (.inl rfl) rfl rfl (lb rfl) fun a S => ?_
      refine sSkip 29 false 75 76 S rfl rfl rfl rfl rfl (lb rfl) fun a S => ?_
      refine sSkip 29 false 75 77 S rfl rfl rfl rfl rfl (lb rfl) fun a S => ?_
      refine sSkip 29 false 75 78 S rfl rfl rfl rfl rfl (lb rfl) fun a S => ?_
      refine sSkip 29 false 75 79 S rfl rfl rfl rfl rfl (lb rfl) fun a S => ?_
      refine sSkip 29 false 75 80 S rfl rfl rfl rfl rfl (lb rfl) fun a S => ?_
      refine sPickT (.bool true) S (wN rfl) rfl rfl rfl rfl rfl (lb rfl) fun a S => ?_
      exact leafL (leafT (⟨true, Option.some.inj h, S.fix [2] [1, 0, 9, 10] (by decide) rfl rfl rfl⟩))
    refine sMove (iv r59.2) S (wG 10 false 56 rfl rfl rfl hc70) (.inl rfl) rfl rfl (lb rfl) fun a S => ?_
    refine sBin (.bool (r59.2 != 0)) S (wG 10 false 56 rfl rfl rfl hc70) rfl rfl rfl (bNe _ _ _ _ .i64 r59.2 0) rfl (lb rfl) fun a S => ?_
    refine sPickF (.bool (r59.2 != 0)) S (wN rfl) rfl rfl hc70 rfl rfl (lb rfl) fun a S => ?_
    refine sMove (.bool (r59.2 != 0)) S (wN rfl) (.inl rfl) rfl rfl (lb rfl) fun a S => ?_
    rcases iteSome h with ⟨hc71, h⟩ | ⟨hc71, h⟩
    · refine sSkip 14 false 60 61 S rfl rfl rfl hc71 rfl (lb rfl) fun a S => ?_
      refine sSkip 14 false 60 62 S rfl rfl rfl hc71 rfl (lb rfl) fun a S => ?_
      refine sSkip 14 false 60 63 S rfl rfl rfl hc71 rfl (lb rfl) fun a S => ?_
      refine sSkip 14 false 60 64 S rfl rfl rfl hc71 rfl (lb rfl) fun a S => ?_
      refine sPickT (.bool true) S (wN rfl) rfl rfl hc71 rfl rfl (lb rfl) fun a S => ?_
      refine sMove (.bool true) S (wN rfl) (.inl rfl) rfl rfl (lb rfl) fun a S => ?_
      refine sSkip 20 false 66 67 S rfl rfl rfl rfl rfl (lb rfl) fun a S => ?_
      refine sSkip 20 false 66 68 S rfl rfl rfl rfl rfl (lb rfl) fun a S => ?_
      refine sSkip 20 false 66 69 S rfl rfl rfl rfl rfl (lb rfl) fun a S => ?_
      refine sSkip 20 false 66 70 S rfl rfl rfl rfl rfl (lb rfl) fun a S => ?_
      refine sSkip 20 false 66 71 S rfl rfl rfl rfl rfl (lb rfl) fun a S => ?_
      refine sSkip 20 false 66 72 S rfl rfl rfl rfl rfl (lb rfl) fun a S => ?_
      refine sSkip 20 false 66 73 S rfl rfl rfl rfl rfl (lb rfl) fun a S => ?_
      refine sPickT (.bool true) S (wN rfl) rfl rfl rfl rfl rfl (lb rfl) fun a S => ?_
      refine sMove (.bool true) S (wN rfl) (.inl rfl) rfl rfl (lb rfl) fun a S => ?_
      refine sSkip 29 false 75 76 S rfl rfl rfl rfl rfl (lb rfl) fun a S => ?_
      refine sSkip 29 false 75 77 S rfl rfl rfl rfl rfl (lb rfl) fun a S => ?_
      refine sSkip 29 false 75 78 S rfl rfl rfl rfl rfl (lb rfl) fun a S => ?_
      refine sSkip 29 false 75 79 S rfl rfl rfl rfl rfl (lb rfl) fun a S => ?_
      refine sSkip 29 false 75 80 S rfl rfl rfl rfl rfl (lb rfl) fun a S => ?_
      refine sPickT (.bool true) S (wN rfl) rfl rfl rfl rfl rfl (lb rfl) fun a S => ?_
      exact leafL (leafT (⟨true, Option.some.inj h, S.fix [2] [1, 0, 9, 10] (by decide) rfl rfl rfl⟩))
    refine sLoadN (p := b51) (off := 0) (T := 30) (vs := [.slice ad47 r40.1.Left.length cp48, .slice ad49 r40.1.Right.length cp50]) 0 [.slice ad47 r40.1.Left.length cp48, .slice ad49 r40.1.Right.length cp50] S (wG 14 false 60 rfl rfl rfl hc71) rfl rfl rfl rfl rfl rfl rfl (lb rfl) fun a S => ?_
    refine sLoadN (p := b10) (off := 0) (T := 30) (vs := [.slice ad5 p0.Left.length cp6, .slice ad7 p0.Right.length cp8]) 2 [.slice ad5 p0.Left.length cp6, .slice ad7 p0.Right.length cp8] S (wG 14 false 60 rfl rfl rfl hc71) rfl rfl rfl rfl rfl rfl rfl (lb rfl) fun a S => ?_
    obtain ⟨r72, hx73, h⟩ := bindSome h
    have S1 := S.mem
    refine sCallQ (X := Unit) (f := 19) (vs := [.agg #[.slice ad47 r40.1.Left.length cp48, .slice ad49 r40.1.Right.length cp50], .agg #[.slice ad5 p0.Left.length cp6, .slice ad7 p0.Right.length cp8]]) (val := fun _ => .bool r72) S (wG 14 false 60 rfl rfl rfl hc71) rfl callee19 rfl (S1.quiet [4, 8] rfl) (fun E1 w1 S1 => c_raddleref37_Same E1 w1 r40.1 (.agg #[.slice ad47 r40.1.Left.length cp48, .slice ad49 r40.1.Right.length cp50]) p0 (.agg #[.slice ad5 p0.Left.length cp6, .slice ad7 p0.Right.length cp8]) r72 hx73 S1) rfl (lb rfl) fun _ a w S => ?_
    refine sNot (b := r72) S (wG 14 false 60 rfl rfl rfl hc71) rfl rfl rfl (lb rfl) fun a S => ?_
    refine sPickF (.bool (!r72)) S (wN rfl) rfl rfl hc71 rfl rfl (lb rfl) fun a S => ?_
    refine sMove (.bool (!r72)) S (wN rfl) (.inl rfl) rfl rfl (lb rfl) fun a S => ?_
    rcases iteSome h with ⟨hc74, h⟩ | ⟨hc74, h⟩
    · refine sSkip 20 false 66 67 S rfl rfl rfl hc74 rfl (lb rfl) fun a S => ?_
      refine sSkip 20 false 66 68 S rfl rfl rfl hc74 rfl (lb rfl) fun a S => ?_
      refine sSkip 20 false 66 69 S rfl rfl rfl hc74 rfl (lb rfl) fun a S => ?_
      refine sSkip 20 false 66 70 S rfl rfl rfl hc74 rfl (lb rfl) fun a S => ?_
      refine sSkip 20 false 66 71 S rfl rfl rfl hc74 rfl (lb rfl) fun a S => ?_
      refine sSkip 20 false 66 72 S rfl rfl rfl hc74 rfl (lb rfl) fun a S => ?_
      refine sSkip 20 false 66 73 S rfl rfl rfl hc74 rfl (lb rfl) fun a S => ?_
      refine sPickT (.bool true) S (wN rfl) rfl rfl hc74 rfl rfl (lb rfl) fun a S => ?_
      refine sMove (.bool true) S (wN rfl) (.inl rfl) rfl rfl (lb rfl) fun a S => ?_
      refine sSkip 29 false 75 76 S rfl rfl rfl rfl rfl (lb rfl) fun a S => ?_
      refine sSkip 29 false 75 77 S rfl rfl rfl rfl rfl (lb rfl) fun a S => ?_
      refine sSkip 29 false 75 78 S rfl rfl rfl rfl rfl (lb rfl) fun a S => ?_
      refine sSkip 29 false 75 79 S rfl rfl rfl rfl rfl (lb rfl) fun a S => ?_
      refine sSkip 29 false 75 80 S rfl rfl rfl rfl rfl (lb rfl) fun a S => ?_
      refine sPickT (.bool true) S (wN rfl) rfl rfl rfl rfl rfl (lb rfl) fun a S => ?_
      exact leafL (leafT (⟨true, Option.some.inj h, S.fix [2] [1, 0, 9, 10] (by decide) rfl rfl rfl⟩))
    refine sMove (.slice ad56 r53.1.length cp57) S (wG 20 false 66 rfl rfl rfl hc74) (.inl rfl) rfl rfl (lb rfl) fun a S => ?_
    refine sLen (ad := ad56) (m := r53.1.length) (c := cp57) S (wG 20 false 66 rfl rfl rfl hc74) rfl Tryd.underlying58 rfl rfl (lb rfl) fun a S => ?_
    refine sField (b := b10) (off := 0) 0 0 S (wG 20 false 66 rfl rfl rfl hc74) rfl rfl rfl rfl rfl (lb rfl) fun a S => ?_
    refine sLoad1 (p := b10) (off := 0) (T := 30) (vs := [.slice ad5 p0.Left.length cp6, .slice ad7 p0.Right.length cp8]) 2 (.slice ad5 p0.Left.length cp6) S (wG 20 false 66 rfl rfl rfl hc74) rfl rfl rfl rfl rfl rfl (lb rfl) fun a S => ?_
    refine sLen (ad := ad5) (m := p0.Left.length) (c := cp6) S (wG 20 false 66 rfl rfl rfl hc74) rfl Tryd.underlying28 rfl rfl (lb rfl) fun a S => ?_
    refine sBin (iv (w64 ((p0.Left.length : Int) - 1))) S (wG 20 false 66 rfl rfl rfl hc74) rfl rfl rfl (bSub _ _ _ _ (p0.Left.length : Int) 1) rfl (lb rfl) fun a S => ?_
    refine sBin (.bool ((r53.1.length : Int) != (w64 ((p0.Left.length : Int) - 1)))) S (wG 20 false 66 rfl rfl rfl hc74) rfl rfl rfl (bNe _ _ _ _ .i64 (r53.1.length : Int) (w64 ((p0.Left.length : Int) - 1))) rfl (lb rfl) fun a S => ?_
    refine sPickF (.bool ((r53.1.length : Int) != (w64 ((p0.Left.length : Int) - 1)))) S (wN rfl) rfl rfl hc74 rfl rfl (lb rfl) fun a S => ?_
    refine sMove (.bool ((r53.1.length : Int) != (w64 ((p0.Left.length : Int) - 1)))) S (wN rfl) (.inl rfl) rfl rfl (lb rfl) fun a S => ?_
    rcases iteSome h with ⟨hc75, h⟩ | ⟨hc75, h⟩
    · refine sSkip 29 false 75 76 S rfl rfl rfl hc75 rfl (lb rfl) fun a S => ?_
      refine sSkip 29 false 75 77 S rfl rfl rfl hc75 rfl (lb rfl) fun a S => ?_
      refine sSkip 29 false 75 78 S rfl rfl rfl hc75 rfl (lb rfl) fun a S => ?_
      refine sSkip 29 false 75 79 S rfl rfl rfl hc75 rfl (lb rfl) fun a S => ?_
      refine sSkip 29 false 75 80 S rfl rfl rfl hc75 rfl (lb rfl) fun a S => ?_
      refine sPickT (.bool true) S (wN rfl) rfl rfl hc75 rfl rfl (lb rfl) fun a S => ?_
      exact leafL (leafT (⟨true, Option.some.inj h, S.fix [2] [1, 0, 9, 10] (by decide) rfl rfl rfl⟩))
    refine sMove (.slice ad62 r59.1.length cp63) S (wG 29 false 75 rfl rfl rfl hc75) (.inl rfl) rfl rfl (lb rfl) fun a S => ?_
    refine sLen (ad := ad62) (m := r59.1.length) (c := cp63) S (wG 29 false 75 rfl rfl rfl hc75) rfl Tryd.underlying58 rfl rfl (lb rfl) fun a S => ?_
    refine sMove (.slice ad56 r53.1.length cp57) S (wG 29 false 75 rfl rfl rfl hc75) (.inl rfl) rfl rfl (lb rfl) fun a S => ?_
    refine sLen (ad := ad56) (m := r53.1.length) (c := cp57) S (wG 29 false 75 rfl rfl rfl hc75) rfl Tryd.underlying58 rfl rfl (lb rfl) fun a S => ?_
    refine sBin (.bool ((r59.1.length : Int) != (r53.1.length : Int))) S (wG 29 false 75 rfl rfl rfl hc75) rfl rfl rfl (bNe _ _ _ _ .i64 (r59.1.length : Int) (r53.1.length : Int)) rfl (lb rfl) fun a S => ?_
    refine sPickF (.bool ((r59.1.length : Int) != (r53.1.length : Int))) S (wN rfl) rfl rfl hc75 rfl rfl (lb rfl) fun a S => ?_
    exact leafL (leafT (⟨(r59.1.length : Int) != (r53.1.length : Int), Option.some.inj h, S.fix [2] [1, 0, 9, 10] (by decide) rfl rfl rfl⟩))
  obtain ⟨o65, rfl, S⟩ := hI
  have h := g67
  clear g67
  try dsimp only at h
  rcases iteSome h with ⟨hc76, h⟩ | ⟨hc76, h⟩
  · refine sCondT S rfl hc76 ?_
    refine sSeq (fun K77 hK77 => ?_)
    refine sRegion ?_
    refine sMove (.bool false) S (wN rfl) (.inr rfl) rfl rfl (lb rfl) fun a S => ?_
    refine leafL (leafT (hK77 _ _ ?_))
    obtain rfl := Option.some.inj h
    exact wp_ret (rThen (sRet (.bool false) S (rsl1 rfl (rvT (t := 2) (v := .bool false) S rfl)) ⟨(), rfl, S.mem.sel [] [] (by decide) rfl rfl⟩))
  refine sCondF S rfl hc76 ?_
  refine wp_skip (leafT (hK64 _ _ ?_))
  obtain ⟨t78, h, g79⟩ := bindSome h
  refine sCut (fun a w => .inl () = t78 ∧ St [] E [] w0 127 a w [(3, .bool r12)] [] []) ?_ (fun a w hI => ?_)
  rotate_left
  · obtain ⟨rfl, S⟩ := hI
    have h := g79
    clear g79
    try dsimp only at h
    refine sSeq (fun K164 hK164 => ?_)
    refine sRegion ?_
    refine sMove (.bool r12) S (wN rfl) (.inl rfl) rfl rfl (lb rfl) fun a S => ?_
    refine sMove (.bool r12) S (wN rfl) (.inr rfl) rfl rfl (lb rfl) fun a S => ?_
    refine leafL (leafT (hK164 _ _ ?_))
    obtain rfl := Option.some.inj h
    exact wp_ret (sRet (.bool r12) S (rsl1 rfl (rvT (t := 2) (v := .bool r12) S rfl)) ⟨(), rfl, S.mem.sel [] [] (by decide) rfl rfl⟩)
  refine sSeq (fun K80 hK80 => ?_)
  refine sRegion ?_
  refine sMove (iv 0) S (wN rfl) (.inr rfl) rfl rfl (lb rfl) fun a S => ?_
  refine leafL (leafT (hK80 _ _ ?_))
  refine wp_block ?_
  obtain ⟨t84, hl, g83⟩ := bindSome h
  refine sLoop hl (fun s0 a w => match s0 with | s81 => St [] E [] w0 127 a w [(1, .pointer (some ⟨b10, 0, none⟩)), (3, .bool r12), (8, .slice ad56 r53.1.length cp57), (10, .slice ad62 r59.1.length cp63), (12, iv s81)] [eBox b10 30 [.slice ad5 p0.Left.length cp6, .slice ad7 p0.Right.length cp8]] [fRep (rL r_A2_Int) (.slice ad56 r53.1.length cp57) r53.1, fRep (rL r_A2_Int) (.slice ad62 r59.1.length cp63) r59.1, fRep (rL (rI .i64)) (.slice ad5 p0.Left.length cp6) p0.Left, fRep (rL (rI .i64)) (.slice ad7 p0.Right.length cp8) p0.Right]) (S.fix [0] [0, 1, 2, 3] (by decide) rfl rfl rfl) ?_
  clear hl h
  intro s81 a w c0 hI h hu82
  unfold raddlelaw37_PieceMirrors_l1 at h
  dsimp only at h hI
  have S := hI
  refine sSeq (fun K85 hK85 => ?_)
  refine sSeq (fun K86 hK86 => ?_)
  refine sRegion ?_
  refine sMove (iv s81) S (wN rfl) (.inl rfl) rfl rfl (lb rfl) fun a S => ?_
  refine sMove (.slice ad56 r53.1.length cp57) S (wN rfl) (.inl rfl) rfl rfl (lb rfl) fun a S => ?_
  refine sLen (ad := ad56) (m := r53.1.length) (c := cp57) S (wN rfl) rfl Tryd.underlying58 rfl rfl (lb rfl) fun a S => ?_
  refine sBin (.bool (decide (s81 < (r53.1.length : Int)))) S (wN rfl) rfl rfl rfl (bLt _ _ _ _ .i64 s81 (r53.1.length : Int)) rfl (lb rfl) fun a S => ?_
  refine leafL (leafT (hK86 _ _ ?_))
  rcases iteSome h with ⟨hc87, h⟩ | ⟨hc87, h⟩
  rotate_left
  · refine sCondF S rfl hc87 ?_
    obtain rfl := Option.some.inj h
    obtain rfl := hu82 _ rfl
    have h := g83
    clear g83
    try dsimp only at h
    exact wp_exit (xThen (xThen (xHit (leafT (⟨Option.some.inj h, S.fix [] [] (by decide) rfl rfl rfl⟩)))))
  refine sCondT S rfl hc87 ?_
  refine wp_skip (leafT (hK85 _ _ ?_))
  refine sSeq (fun K88 hK88 => ?_)
  refine wp_block ?_
  obtain ⟨t90, h, g91⟩ := bindSome h
  refine sCut (fun a w => ∃ o89, o89 = t90 ∧ St [] E [] w0 127 a w [(1, .pointer (some ⟨b10, 0, none⟩)), (3, .bool r12), (8, .slice ad56 r53.1.length cp57), (10, .slice ad62 r59.1.length cp63), (12, iv s81), (125, .bool o89)] [eBox b10 30 [.slice ad5 p0.Left.length cp6, .slice ad7 p0.Right.length cp8]] [fRep (rL r_A2_Int) (.slice ad56 r53.1.length cp57) r53.1, fRep (rL r_A2_Int) (.slice ad62 r59.1.length cp63) r59.1, fRep (rL (rI .i64)) (.slice ad5 p0.Left.length cp6) p0.Left, fRep (rL (rI .i64)) (.slice ad7 p0.Right.length cp8) p0.Right]) ?_ (fun a w hI => ?_)
  rotate_left
  · obtain ⟨o89, rfl, S⟩ := hI
    have h := g91
    clear g91
    try dsimp only at h
    rcases iteSome h with ⟨hc162, h⟩ | ⟨hc162, h⟩
    rotate_left
    · refine sCondF S rfl hc162 ?_
      refine wp_skip (leafB (leafT (hK88 _ _ ?_)))
      refine sRegion ?_
      refine sMove (iv s81) S (wN rfl) (.inl rfl) rfl rfl (lb rfl) fun a S => ?_
      refine sBin (iv (w64 (s81 + 1))) S (wN rfl) rfl rfl rfl (bAdd _ _ _ _ s81 1) rfl (lb rfl) fun a S => ?_
      refine sMove (iv (w64 (s81 + 1))) S (wN rfl) (.inr rfl) rfl rfl (lb rfl) fun a S => ?_
      exact leafL (leafT (⟨w64 (s81 + 1), (Option.some.inj h).symm, (S.fix [0] [0, 1, 2, 3] (by decide) rfl rfl rfl)⟩))
    refine sCondT S rfl hc162 ?_
    refine sSeq (fun K163 hK163 => ?_)
    refine sRegion ?_
    refine sMove (.bool false) S (wN rfl) (.inr rfl) rfl rfl (lb rfl) fun a S => ?_
    refine leafL (leafT (hK163 _ _ ?_))
    obtain rfl := Option.some.inj h
    obtain rfl := hu82 _ rfl
    have h := g83
    clear g83
    try dsimp only at h
    obtain rfl := Option.some.inj h
    have h := g79
    clear g79
    try dsimp only at h
    obtain rfl := Option.some.inj h
    exact wp_ret (rBlock (rThen (rThen (rBlock (rThen (sRet (.bool false) S (rsl1 rfl (rvT (t := 2) (v := .bool false) S rfl)) ⟨(), rfl, S.mem.sel [] [] (by decide) rfl rfl⟩))))))
  obtain ⟨x92, hx93, h⟩ := bindSome h
  obtain ⟨x97, hx98, h⟩ := bindSome h
  rcases iteSome h with ⟨hc109, h⟩ | ⟨hc109, h⟩
  · obtain ⟨q110, hq111, S⟩ := pIdx (P := Tryd.prog) (r := r_A2_Int) (v := .slice ad62 r59.1.length cp63) (xs := r59.1) (j := s81) 58 61 1 S Tryd.underlying58 rfl rfl hx93
    obtain ⟨u112, S⟩ := pLoad (r := r_A2_Int) (q := q110) (x := x92) 0 S rfl
    obtain rfl : u112 = .agg #[iv x92.1, iv x92.2] := S.mem.know (i := 1) (e := fRep r_A2_Int (u112) x92) rfl
    obtain ⟨q113, hq114, S⟩ := pIdx (P := Tryd.prog) (r := r_A2_Int) (v := .slice ad56 r53.1.length cp57) (xs := r53.1) (j := s81) 58 61 3 S Tryd.underlying58 rfl rfl hx98
    obtain ⟨q115, hq116, S⟩ := pArr (P := Tryd.prog) (r := r_A2_Int) (s := (rI .i64)) (q := q113) (z := x97) (j := 1) 61 3 0 1 S rfl Tryd.underlying61 rfl (by decide) (by decide) rfl comp_A2_Int_1
    obtain ⟨u117, S⟩ := pLoad (r := (rI .i64)) (q := q115) (x := x97.2) 0 S rfl
    obtain rfl : u117 = iv x97.2 := S.mem.know (i := 1) (e := fRep (rI .i64) (u117) x97.2) rfl
    obtain ⟨q118, hq119, S⟩ := pIdx (P := Tryd.prog) (r := r_A2_Int) (v := .slice ad56 r53.1.length cp57) (xs := r53.1) (j := s81) 58 61 7 S Tryd.underlying58 rfl rfl hx98
    obtain ⟨q120, hq121, S⟩ := pArr (P := Tryd.prog) (r := r_A2_Int) (s := (rI .i64)) (q := q118) (z := x97) (j := 0) 61 3 0 0 S rfl Tryd.underlying61 rfl (by decide) (by decide) rfl comp_A2_Int_0
    obtain ⟨u122, S⟩ := pLoad (r := (rI .i64)) (q := q120) (x := x97.1) 0 S rfl
    obtain rfl : u122 = iv x97.1 := S.mem.know (i := 1) (e := fRep (rI .i64) (u122) x97.1) rfl
    refine sDraw (nf := []) (W := [(0, 88, .slice ad62 r59.1.length cp63), (1, 89, iv s81), (2, 90, q110), (3, 91, .agg #[iv x92.1, iv x92.2]), (4, 92, .slice ad56 r53.1.length cp57), (5, 93, iv s81), (6, 94, q113), (7, 95, q115), (8, 96, iv x97.2), (9, 97, iv (w64 (0 - x97.2))), (10, 98, .slice ad56 r53.1.length cp57), (11, 99, iv s81), (12, 100, q118), (13, 101, q120), (14, 102, iv x97.1), (15, 103, iv (w64 (0 - x97.1))), (16, 104, .agg #[iv (w64 (0 - x97.2)), iv (w64 (0 - x97.1))]), (17, 105, .bool (!((x92.1 == (w64 (0 - x97.2))) && ((x92.2 == (w64 (0 - x97.1))) && true)))), (18, 106, .bool (!((x92.1 == (w64 (0 - x97.2))) && ((x92.2 == (w64 (0 - x97.1))) && true)))), (19, 107, undef), (20, 108, undef), (21, 109, undef), (22, 110, undef), (23, 111, undef), (24, 112, undef), (25, 113, undef), (26, 114, undef), (27, 115, undef), (28, 116, undef), (29, 117, undef), (30, 118, undef), (31, 119, undef), (32, 120, undef), (33, 121, undef), (34, 122, undef), (35, 123, undef), (36, 124, undef), (37, 125, .bool true)]) rfl S ?_
    refine node_by (A := anc_raddlelaw37_PieceMirrors_0) (nf := []) (Y := []) (W := [(0, 88, .slice ad62 r59.1.length cp63), (1, 89, iv s81), (2, 90, q110), (3, 91, .agg #[iv x92.1, iv x92.2]), (4, 92, .slice ad56 r53.1.length cp57), (5, 93, iv s81), (6, 94, q113), (7, 95, q115), (8, 96, iv x97.2), (9, 97, iv (w64 (0 - x97.2))), (10, 98, .slice ad56 r53.1.length cp57), (11, 99, iv s81), (12, 100, q118), (13, 101, q120), (14, 102, iv x97.1), (15, 103, iv (w64 (0 - x97.1))), (16, 104, .agg #[iv (w64 (0 - x97.2)), iv (w64 (0 - x97.1))]), (17, 105, .bool (!((x92.1 == (w64 (0 - x97.2))) && ((x92.2 == (w64 (0 - x97.1))) && true)))), (18, 106, .bool (!((x92.1 == (w64 (0 - x97.2))) && ((x92.2 == (w64 (0 - x97.1))) && true)))), (19, 107, undef), (20, 108, undef), (21, 109, undef), (22, 110, undef), (23, 111, undef), (24, 112, undef), (25, 113, undef), (26, 114, undef), (27, 115, undef), (28, 116, undef), (29, 117, undef), (30, 118, undef), (31, 119, undef), (32, 120, undef), (33, 121, undef), (34, 122, undef), (35, 123, undef), (36, 124, undef), (37, 125, .bool true)]) 38 (by kernel_rfl) (by kernel_rfl) (by kernel_rfl) (by kernel_rfl) (by kernel_rfl) [0, 1, 2, 3, 4, 5, 6, 7, 8, 9, 10, 11, 12, 13, 14, 15, 16, 17, 18, 19, 20, 21, 22, 23, 24, 25, 26, 27, 28, 29, 30, 31, 32, 33, 34, 35, 36, 37] (by kernel_rfl) (by decide) (by decide) (aF 0 37 (by decide) ?_ (aF 1 36 (by decide) ?_ (aF 2 35 (by decide) ?_ (aF 3 34 (by decide) ?_ (aF 4 33 (by decide) ?_ (aF 5 32 (by decide) ?_ (aF 6 31 (by decide) ?_ (aF 7 30 (by decide) ?_ (aF 8 29 (by decide) ?_ (aF 9 28 (by decide) ?_ (aF 10 27 (by decide) ?_ (aF 11 26 (by decide) ?_ (aF 12 25 (by decide) ?_ (aF 13 24 (by decide) ?_ (aF 14 23 (by decide) ?_ (aF 15 22 (by decide) ?_ (aF 16 21 (by decide) ?_ (aF 17 20 (by decide) ?_ (aF 18 19 (by decide) ?_ (aF 19 18 (by decide) ?_ (aF 20 17 (by decide) ?_ (aF 21 16 (by decide) ?_ (aF 22 15 (by decide) ?_ (aF 23 14 (by decide) ?_ (aF 24 13 (by decide) ?_ (aF 25 12 (by decide) ?_ (aF 26 11 (by decide) ?_ (aF 27 10 (by decide) ?_ (aF 28 9 (by decide) ?_ (aF 29 8 (by decide) ?_ (aF 30 7 (by decide) ?_ (aF 31 6 (by decide) ?_ (aF 32 5 (by decide) ?_ (aF 33 4 (by decide) ?_ (aF 34 3 (by decide) ?_ (aF 35 2 (by decide) ?_ (aF 36 1 (by decide) ?_ (aF 37 0 (by decide) ?_ (trivial))))))))))))))))))))))))))))))))))))))) [(1, .pointer (some ⟨b10, 0, none⟩)), (3, .bool r12), (8, .slice ad56 r53.1.length cp57), (10, .slice ad62 r59.1.length cp63), (12, iv s81), (107, undef), (108, undef), (109, undef), (110, undef), (111, undef), (112, undef), (113, undef), (114, undef), (115, undef), (116, undef), (117, undef), (118, undef), (119, undef), (120, undef), (121, undef), (122, undef), (123, undef), (124, undef), (125, .bool true)] (fin_of [none, none, none, none, none, some 19, some 20, some 21, some 22, some 23, some 24, some 25, some 26, some 27, some 28, some 29, some 30, some 31, some 32, some 33, some 34, some 35, some 36, some 37] rfl (by kernel_rfl) (by kernel_rfl)) (fun _ a w S => ?_)
    · refine fI 88 (.slice ad62 r59.1.length cp63) [(10, .slice ad62 r59.1.length cp63)] 0 [none] rfl rfl rfl rfl rfl rfl fun G a w S => ?_
      refine sMove (.slice ad62 r59.1.length cp63) S (wN rfl) (.inl rfl) rfl rfl (lb rfl) fun a S => ?_
      exact leafL ⟨rfl, S⟩
    · refine fI 89 (iv s81) [(12, iv s81)] 1 [none] rfl rfl rfl rfl rfl rfl fun G a w S => ?_
      refine sMove (iv s81) S (wN rfl) (.inl rfl) rfl rfl (lb rfl) fun a S => ?_
      exact leafL ⟨rfl, S⟩
    · refine fI 90 q110 [(88, .slice ad62 r59.1.length cp63), (89, iv s81)] 2 [some 0, some 1] rfl rfl rfl rfl rfl rfl fun G a w S => ?_
      refine sIdxV (v := .slice ad62 r59.1.length cp63) (k := .i64) (j := s81) S (wN rfl) rfl rfl rfl hq111 rfl (lb rfl) fun a S => ?_
      exact leafL ⟨rfl, S⟩
    · refine fI 91 (.agg #[iv x92.1, iv x92.2]) [(90, q110)] 3 [some 2] rfl rfl rfl rfl rfl rfl fun G a w S => ?_
      refine sLoadVN (vq := q110) 8 [iv x92.1, iv x92.2] S (wN rfl) rfl rfl rfl rfl rfl rfl (lb rfl) fun a S => ?_
      exact leafL ⟨rfl, S⟩
    · refine fI 92 (.slice ad56 r53.1.length cp57) [(8, .slice ad56 r53.1.length cp57)] 4 [none] rfl rfl rfl rfl rfl rfl fun G a w S => ?_
      refine sMove (.slice ad56 r53.1.length cp57) S (wN rfl) (.inl rfl) rfl rfl (lb rfl) fun a S => ?_
      exact leafL ⟨rfl, S⟩
    · refine fI 93 (iv s81) [(12, iv s81)] 5 [none] rfl rfl rfl rfl rfl rfl fun G a w S => ?_
      refine sMove (iv s81) S (wN rfl) (.inl rfl) rfl rfl (lb rfl) fun a S => ?_
      exact leafL ⟨rfl, S⟩
    · refine fI 94 q113 [(92, .slice ad56 r53.1.length cp57), (93, iv s81)] 6 [some 4, some 5] rfl rfl rfl rfl rfl rfl fun G a w S => ?_
      refine sIdxV (v := .slice ad56 r53.1.length cp57) (k := .i64) (j := s81) S (wN rfl) rfl rfl rfl hq114 rfl (lb rfl) fun a S => ?_
      exact leafL ⟨rfl, S⟩
    · refine fI 95 q115 [(94, q113)] 7 [some 6] rfl rfl rfl rfl rfl rfl fun G a w S => ?_
      refine sIdxV (v := q113) (k := .i64) (j := 1) S (wN rfl) rfl rfl rfl hq116 rfl (lb rfl) fun a S => ?_
      exact leafL ⟨rfl, S⟩
    · refine fI 96 (iv x97.2) [(95, q115)] 8 [some 7] rfl rfl rfl rfl rfl rfl fun G a w S => ?_
      refine sLoadV1 (vq := q115) 4 (iv x97.2) S (wN rfl) rfl rfl rfl rfl rfl (lb rfl) fun a S => ?_
      exact leafL ⟨rfl, S⟩
    · refine fI 97 (iv (w64 (0 - x97.2))) [(96, iv x97.2)] 9 [some 8] rfl rfl rfl rfl rfl rfl fun G a w S => ?_
      refine sNeg (b := x97.2) S (wN rfl) rfl rfl rfl (lb rfl) fun a S => ?_
      exact leafL ⟨rfl, S⟩
    · refine fI 98 (.slice ad56 r53.1.length cp57) [(8, .slice ad56 r53.1.length cp57)] 10 [none] rfl rfl rfl rfl rfl rfl fun G a w S => ?_
      refine sMove (.slice ad56 r53.1.length cp57) S (wN rfl) (.inl rfl) rfl rfl (lb rfl) fun a S => ?_
      exact leafL ⟨rfl, S⟩
    · refine fI 99 (iv s81) [(12, iv s81)] 11 [none] rfl rfl rfl rfl rfl rfl fun G a w S => ?_
      refine sMove (iv s81) S (wN rfl) (.inl rfl) rfl rfl (lb rfl) fun a S => ?_
      exact leafL ⟨rfl, S⟩
    · refine fI 100 q118 [(98, .slice ad56 r53.1.length cp57), (99, iv s81)] 12 [some 10, some 11] rfl rfl rfl rfl rfl rfl fun G a w S => ?_
      refine sIdxV (v := .slice ad56 r53.1.length cp57) (k := .i64) (j := s81) S (wN rfl) rfl rfl rfl hq119 rfl (lb rfl) fun a S => ?_
      exact leafL ⟨rfl, S⟩
    · refine fI 101 q120 [(100, q118)] 13 [some 12] rfl rfl rfl rfl rfl rfl fun G a w S => ?_
      refine sIdxV (v := q118) (k := .i64) (j := 0) S (wN rfl) rfl rfl rfl hq121 rfl (lb rfl) fun a S => ?_
      exact leafL ⟨rfl, S⟩
    · refine fI 102 (iv x97.1) [(101, q120)] 14 [some 13] rfl rfl rfl rfl rfl rfl fun G a w S => ?_
      refine sLoadV1 (vq := q120) 0 (iv x97.1) S (wN rfl) rfl rfl rfl rfl rfl (lb rfl) fun a S => ?_
      exact leafL ⟨rfl, S⟩
    · refine fI 103 (iv (w64 (0 - x97.1))) [(102, iv x97.1)] 15 [some 14] rfl rfl rfl rfl rfl rfl fun G a w S => ?_
      refine sNeg (b := x97.1) S (wN rfl) rfl rfl rfl (lb rfl) fun a S => ?_
      exact leafL ⟨rfl, S⟩
    · refine fI 104 (.agg #[iv (w64 (0 - x97.2)), iv (w64 (0 - x97.1))]) [(97, iv (w64 (0 - x97.2))), (103, iv (w64 (0 - x97.1)))] 16 [some 9, some 15] rfl rfl rfl rfl rfl rfl fun G a w S => ?_
      refine sBuild [(0, iv (w64 (0 - x97.2))), (1, iv (w64 (0 - x97.1)))] [iv (w64 (0 - x97.2)), iv (w64 (0 - x97.1))] S (wN rfl) rfl rfl rfl rfl (lb rfl) fun a S => ?_
      exact leafL ⟨rfl, S⟩
    · refine fI 105 (.bool (!((x92.1 == (w64 (0 - x97.2))) && ((x92.2 == (w64 (0 - x97.1))) && true)))) [(91, .agg #[iv x92.1, iv x92.2]), (104, .agg #[iv (w64 (0 - x97.2)), iv (w64 (0 - x97.1))])] 17 [some 3, some 16] rfl rfl rfl rfl rfl rfl fun G a w S => ?_
      refine sBin (.bool (!((x92.1 == (w64 (0 - x97.2))) && ((x92.2 == (w64 (0 - x97.1))) && true)))) S (wN rfl) rfl rfl rfl (bNeV _ _ _ _ #[iv x92.1, iv x92.2] #[iv (w64 (0 - x97.2)), iv (w64 (0 - x97.1))] ((x92.1 == (w64 (0 - x97.2))) && ((x92.2 == (w64 (0 - x97.1))) && true)) (by kernel_rfl) (eqlV_of (by kernel_rfl))) rfl (lb rfl) fun a S => ?_
      exact leafL ⟨rfl, S⟩
    · refine fI 106 (.bool (!((x92.1 == (w64 (0 - x97.2))) && ((x92.2 == (w64 (0 - x97.1))) && true)))) [(105, .bool (!((x92.1 == (w64 (0 - x97.2))) && ((x92.2 == (w64 (0 - x97.1))) && true))))] 18 [some 17] rfl rfl rfl rfl rfl rfl fun G a w S => ?_
      refine sMove (.bool (!((x92.1 == (w64 (0 - x97.2))) && ((x92.2 == (w64 (0 - x97.1))) && true)))) S (wN rfl) (.inl rfl) rfl rfl (lb rfl) fun a S => ?_
      exact leafL ⟨rfl, S⟩
    · refine fI 107 undef [(1, .pointer (some ⟨b10, 0, none⟩)), (106, .bool (!((x92.1 == (w64 (0 - x97.2))) && ((x92.2 == (w64 (0 - x97.1))) && true))))] 19 [none, some 18] rfl rfl rfl rfl rfl rfl fun G a w S => ?_
      refine sSkip 18 false 106 107 S rfl rfl rfl hc109 rfl (lb rfl) fun a S => ?_
      exact leafL ⟨rfl, S⟩
    · refine fI 108 undef [(107, undef), (106, .bool (!((x92.1 == (w64 (0 - x97.2))) && ((x92.2 == (w64 (0 - x97.1))) && true))))] 20 [some 19, some 18] rfl rfl rfl rfl rfl rfl fun G a w S => ?_
      refine sSkip 18 false 106 108 S rfl rfl rfl hc109 rfl (lb rfl) fun a S => ?_
      exact leafL ⟨rfl, S⟩
    · refine fI 109 undef [(12, iv s81), (106, .bool (!((x92.1 == (w64 (0 - x97.2))) && ((x92.2 == (w64 (0 - x97.1))) && true))))] 21 [none, some 18] rfl rfl rfl rfl rfl rfl fun G a w S => ?_
      refine sSkip 18 false 106 109 S rfl rfl rfl hc109 rfl (lb rfl) fun a S => ?_
      exact leafL ⟨rfl, S⟩
    · refine fI 110 undef [(109, undef), (106, .bool (!((x92.1 == (w64 (0 - x97.2))) && ((x92.2 == (w64 (0 - x97.1))) && true))))] 22 [some 21, some 18] rfl rfl rfl rfl rfl rfl fun G a w S => ?_
      refine sSkip 18 false 106 110 S rfl rfl rfl hc109 rfl (lb rfl) fun a S => ?_
      exact leafL ⟨rfl, S⟩
    · refine fI 111 undef [(108, undef), (110, undef), (106, .bool (!((x92.1 == (w64 (0 - x97.2))) && ((x92.2 == (w64 (0 - x97.1))) && true))))] 23 [some 20, some 22, some 18] rfl rfl rfl rfl rfl rfl fun G a w S => ?_
      refine sSkip 18 false 106 111 S rfl rfl rfl hc109 rfl (lb rfl) fun a S => ?_
      exact leafL ⟨rfl, S⟩
    · refine fI 112 undef [(111, undef), (106, .bool (!((x92.1 == (w64 (0 - x97.2))) && ((x92.2 == (w64 (0 - x97.1))) && true))))] 24 [some 23, some 18] rfl rfl rfl rfl rfl rfl fun G a w S => ?_
      refine sSkip 18 false 106 112 S rfl rfl rfl hc109 rfl (lb rfl) fun a S => ?_
      exact leafL ⟨rfl, S⟩
    · refine fI 113 undef [(1, .pointer (some ⟨b10, 0, none⟩)), (106, .bool (!((x92.1 == (w64 (0 - x97.2))) && ((x92.2 == (w64 (0 - x97.1))) && true))))] 25 [none, some 18] rfl rfl rfl rfl rfl rfl fun G a w S => ?_
      refine sSkip 18 false 106 113 S rfl rfl rfl hc109 rfl (lb rfl) fun a S => ?_
      exact leafL ⟨rfl, S⟩
    · refine fI 114 undef [(113, undef), (106, .bool (!((x92.1 == (w64 (0 - x97.2))) && ((x92.2 == (w64 (0 - x97.1))) && true))))] 26 [some 25, some 18] rfl rfl rfl rfl rfl rfl fun G a w S => ?_
      refine sSkip 18 false 106 114 S rfl rfl rfl hc109 rfl (lb rfl) fun a S => ?_
      exact leafL ⟨rfl, S⟩
    · refine fI 115 undef [(12, iv s81), (106, .bool (!((x92.1 == (w64 (0 - x97.2))) && ((x92.2 == (w64 (0 - x97.1))) && true))))] 27 [none, some 18] rfl rfl rfl rfl rfl rfl fun G a w S => ?_
      refine sSkip 18 false 106 115 S rfl rfl rfl hc109 rfl (lb rfl) fun a S => ?_
      exact leafL ⟨rfl, S⟩
    · refine fI 116 undef [(114, undef), (115, undef), (106, .bool (!((x92.1 == (w64 (0 - x97.2))) && ((x92.2 == (w64 (0 - x97.1))) && true))))] 28 [some 26, some 27, some 18] rfl rfl rfl rfl rfl rfl fun G a w S => ?_
      refine sSkip 18 false 106 116 S rfl rfl rfl hc109 rfl (lb rfl) fun a S => ?_
      exact leafL ⟨rfl, S⟩
    · refine fI 117 undef [(116, undef), (106, .bool (!((x92.1 == (w64 (0 - x97.2))) && ((x92.2 == (w64 (0 - x97.1))) && true))))] 29 [some 28, some 18] rfl rfl rfl rfl rfl rfl fun G a w S => ?_
      refine sSkip 18 false 106 117 S rfl rfl rfl hc109 rfl (lb rfl) fun a S => ?_
      exact leafL ⟨rfl, S⟩
    · refine fI 118 undef [(112, undef), (117, undef), (106, .bool (!((x92.1 == (w64 (0 - x97.2))) && ((x92.2 == (w64 (0 - x97.1))) && true))))] 30 [some 24, some 29, some 18] rfl rfl rfl rfl rfl rfl fun G a w S => ?_
      refine sSkip 18 false 106 118 S rfl rfl rfl hc109 rfl (lb rfl) fun a S => ?_
      exact leafL ⟨rfl, S⟩
    · refine fI 119 undef [(8, .slice ad56 r53.1.length cp57), (106, .bool (!((x92.1 == (w64 (0 - x97.2))) && ((x92.2 == (w64 (0 - x97.1))) && true))))] 31 [none, some 18] rfl rfl rfl rfl rfl rfl fun G a w S => ?_
      refine sSkip 18 false 106 119 S rfl rfl rfl hc109 rfl (lb rfl) fun a S => ?_
      exact leafL ⟨rfl, S⟩
    · refine fI 120 undef [(12, iv s81), (106, .bool (!((x92.1 == (w64 (0 - x97.2))) && ((x92.2 == (w64 (0 - x97.1))) && true))))] 32 [none, some 18] rfl rfl rfl rfl rfl rfl fun G a w S => ?_
      refine sSkip 18 false 106 120 S rfl rfl rfl hc109 rfl (lb rfl) fun a S => ?_
      exact leafL ⟨rfl, S⟩
    · refine fI 121 undef [(119, undef), (120, undef), (106, .bool (!((x92.1 == (w64 (0 - x97.2))) && ((x92.2 == (w64 (0 - x97.1))) && true))))] 33 [some 31, some 32, some 18] rfl rfl rfl rfl rfl rfl fun G a w S => ?_
      refine sSkip 18 false 106 121 S rfl rfl rfl hc109 rfl (lb rfl) fun a S => ?_
      exact leafL ⟨rfl, S⟩
    · refine fI 122 undef [(121, undef), (106, .bool (!((x92.1 == (w64 (0 - x97.2))) && ((x92.2 == (w64 (0 - x97.1))) && true))))] 34 [some 33, some 18] rfl rfl rfl rfl rfl rfl fun G a w S => ?_
      refine sSkip 18 false 106 122 S rfl rfl rfl hc109 rfl (lb rfl) fun a S => ?_
      exact leafL ⟨rfl, S⟩
    · refine fI 123 undef [(122, undef), (106, .bool (!((x92.1 == (w64 (0 - x97.2))) && ((x92.2 == (w64 (0 - x97.1))) && true))))] 35 [some 34, some 18] rfl rfl rfl rfl rfl rfl fun G a w S => ?_
      refine sSkip 18 false 106 123 S rfl rfl rfl hc109 rfl (lb rfl) fun a S => ?_
      exact leafL ⟨rfl, S⟩
    · refine fI 124 undef [(118, undef), (123, undef), (106, .bool (!((x92.1 == (w64 (0 - x97.2))) && ((x92.2 == (w64 (0 - x97.1))) && true))))] 36 [some 30, some 35, some 18] rfl rfl rfl rfl rfl rfl fun G a w S => ?_
      refine sSkip 18 false 106 124 S rfl rfl rfl hc109 rfl (lb rfl) fun a S => ?_
      exact leafL ⟨rfl, S⟩
    · refine fI 125 (.bool true) [(106, .bool (!((x92.1 == (w64 (0 - x97.2))) && ((x92.2 == (w64 (0 - x97.1))) && true)))), (124, undef)] 37 [some 18, some 36] rfl rfl rfl rfl rfl rfl fun G a w S => ?_
      refine sPickT (.bool true) S (wN rfl) rfl rfl hc109 rfl rfl (lb rfl) fun a S => ?_
      exact leafL ⟨rfl, S⟩
    exact leafT (⟨true, Option.some.inj h, S.fix [0] [11, 12, 13, 14] (by decide) rfl rfl rfl⟩)
  obtain ⟨x123, hx124, h⟩ := bindSome h
  obtain ⟨x128, hx129, h⟩ := bindSome h
  obtain ⟨q138, hq139, S⟩ := pIdx (P := Tryd.prog) (r := r_A2_Int) (v := .slice ad62 r59.1.length cp63) (xs := r59.1) (j := s81) 58 61 1 S Tryd.underlying58 rfl rfl hx93
  obtain ⟨u140, S⟩ := pLoad (r := r_A2_Int) (q := q138) (x := x92) 0 S rfl
  obtain rfl : u140 = .agg #[iv x92.1, iv x92.2] := S.mem.know (i := 1) (e := fRep r_A2_Int (u140) x92) rfl
  obtain ⟨q141, hq142, S⟩ := pIdx (P := Tryd.prog) (r := r_A2_Int) (v := .slice ad56 r53.1.length cp57) (xs := r53.1) (j := s81) 58 61 3 S Tryd.underlying58 rfl rfl hx98
  obtain ⟨q143, hq144, S⟩ := pArr (P := Tryd.prog) (r := r_A2_Int) (s := (rI .i64)) (q := q141) (z := x97) (j := 1) 61 3 0 1 S rfl Tryd.underlying61 rfl (by decide) (by decide) rfl comp_A2_Int_1
  obtain ⟨u145, S⟩ := pLoad (r := (rI .i64)) (q := q143) (x := x97.2) 0 S rfl
  obtain rfl : u145 = iv x97.2 := S.mem.know (i := 1) (e := fRep (rI .i64) (u145) x97.2) rfl
  obtain ⟨q146, hq147, S⟩ := pIdx (P := Tryd.prog) (r := r_A2_Int) (v := .slice ad56 r53.1.length cp57) (xs := r53.1) (j := s81) 58 61 7 S Tryd.underlying58 rfl rfl hx98
  obtain ⟨q148, hq149, S⟩ := pArr (P := Tryd.prog) (r := r_A2_Int) (s := (rI .i64)) (q := q146) (z := x97) (j := 0) 61 3 0 0 S rfl Tryd.underlying61 rfl (by decide) (by decide) rfl comp_A2_Int_0
  obtain ⟨u150, S⟩ := pLoad (r := (rI .i64)) (q := q148) (x := x97.1) 0 S rfl
  obtain rfl : u150 = iv x97.1 := S.mem.know (i := 1) (e := fRep (rI .i64) (u150) x97.1) rfl
  obtain ⟨q151, hq152, S⟩ := pIdx (P := Tryd.prog) (r := (rI .i64)) (v := .slice ad5 p0.Left.length cp6) (xs := p0.Left) (j := w64 (s81 + 1)) 28 3 13 S Tryd.underlying28 rfl rfl hx124
  obtain ⟨u153, S⟩ := pLoad (r := (rI .i64)) (q := q151) (x := x123) 0 S rfl
  obtain rfl : u153 = iv x123 := S.mem.know (i := 1) (e := fRep (rI .i64) (u153) x123) rfl
  obtain ⟨q154, hq155, S⟩ := pIdx (P := Tryd.prog) (r := (rI .i64)) (v := .slice ad5 p0.Left.length cp6) (xs := p0.Left) (j := s81) 28 3 16 S Tryd.underlying28 rfl rfl hx129
  obtain ⟨u156, S⟩ := pLoad (r := (rI .i64)) (q := q154) (x := x128) 0 S rfl
  obtain rfl : u156 = iv x128 := S.mem.know (i := 1) (e := fRep (rI .i64) (u156) x128) rfl
  obtain ⟨q157, hq158, S⟩ := pIdx (P := Tryd.prog) (r := r_A2_Int) (v := .slice ad56 r53.1.length cp57) (xs := r53.1) (j := s81) 58 61 17 S Tryd.underlying58 rfl rfl hx98
  obtain ⟨q159, hq160, S⟩ := pArr (P := Tryd.prog) (r := r_A2_Int) (s := (rI .i64)) (q := q157) (z := x97) (j := 0) 61 3 0 0 S rfl Tryd.underlying61 rfl (by decide) (by decide) rfl comp_A2_Int_0
  obtain ⟨u161, S⟩ := pLoad (r := (rI .i64)) (q := q159) (x := x97.1) 0 S rfl
  obtain rfl : u161 = iv x97.1 := S.mem.know (i := 1) (e := fRep (rI .i64) (u161) x97.1) rfl
  refine sDraw (nf := []) (W := [(0, 88, .slice ad62 r59.1.length cp63), (1, 89, iv s81), (2, 90, q138), (3, 91, .agg #[iv x92.1, iv x92.2]), (4, 92, .slice ad56 r53.1.length cp57), (5, 93, iv s81), (6, 94, q141), (7, 95, q143), (8, 96, iv x97.2), (9, 97, iv (w64 (0 - x97.2))), (10, 98, .slice ad56 r53.1.length cp57), (11, 99, iv s81), (12, 100, q146), (13, 101, q148), (14, 102, iv x97.1), (15, 103, iv (w64 (0 - x97.1))), (16, 104, .agg #[iv (w64 (0 - x97.2)), iv (w64 (0 - x97.1))]), (17, 105, .bool (!((x92.1 == (w64 (0 - x97.2))) && ((x92.2 == (w64 (0 - x97.1))) && true)))), (18, 106, .bool (!((x92.1 == (w64 (0 - x97.2))) && ((x92.2 == (w64 (0 - x97.1))) && true)))), (19, 107, .pointer (some ⟨b10, 0, none⟩)), (20, 108, .slice ad5 p0.Left.length cp6), (21, 109, iv s81), (22, 110, iv (w64 (s81 + 1))), (23, 111, q151), (24, 112, iv x123), (25, 113, .pointer (some ⟨b10, 0, none⟩)), (26, 114, .slice ad5 p0.Left.length cp6), (27, 115, iv s81), (28, 116, q154), (29, 117, iv x128), (30, 118, iv (w64 (x123 - x128))), (31, 119, .slice ad56 r53.1.length cp57), (32, 120, iv s81), (33, 121, q157), (34, 122, q159), (35, 123, iv x97.1), (36, 124, .bool ((w64 (x123 - x128)) != x97.1)), (37, 125, .bool ((w64 (x123 - x128)) != x97.1))]) rfl S ?_
  refine node_by (A := anc_raddlelaw37_PieceMirrors_0) (nf := []) (Y := []) (W := [(0, 88, .slice ad62 r59.1.length cp63), (1, 89, iv s81), (2, 90, q138), (3, 91, .agg #[iv x92.1, iv x92.2]), (4, 92, .slice ad56 r53.1.length cp57), (5, 93, iv s81), (6, 94, q141), (7, 95, q143), (8, 96, iv x97.2), (9, 97, iv (w64 (0 - x97.2))), (10, 98, .slice ad56 r53.1.length cp57), (11, 99, iv s81), (12, 100, q146), (13, 101, q148), (14, 102, iv x97.1), (15, 103, iv (w64 (0 - x97.1))), (16, 104, .agg #[iv (w64 (0 - x97.2)), iv (w64 (0 - x97.1))]), (17, 105, .bool (!((x92.1 == (w64 (0 - x97.2))) && ((x92.2 == (w64 (0 - x97.1))) && true)))), (18, 106, .bool (!((x92.1 == (w64 (0 - x97.2))) && ((x92.2 == (w64 (0 - x97.1))) && true)))), (19, 107, .pointer (some ⟨b10, 0, none⟩)), (20, 108, .slice ad5 p0.Left.length cp6), (21, 109, iv s81), (22, 110, iv (w64 (s81 + 1))), (23, 111, q151), (24, 112, iv x123), (25, 113, .pointer (some ⟨b10, 0, none⟩)), (26, 114, .slice ad5 p0.Left.length cp6), (27, 115, iv s81), (28, 116, q154), (29, 117, iv x128), (30, 118, iv (w64 (x123 - x128))), (31, 119, .slice ad56 r53.1.length cp57), (32, 120, iv s81), (33, 121, q157), (34, 122, q159), (35, 123, iv x97.1), (36, 124, .bool ((w64 (x123 - x128)) != x97.1)), (37, 125, .bool ((w64 (x123 - x128)) != x97.1))]) 38 (by kernel_rfl) (by kernel_rfl) (by kernel_rfl) (by kernel_rfl) (by kernel_rfl) [0, 1, 2, 3, 4, 5, 6, 7, 8, 9, 10, 11, 12, 13, 14, 15, 16, 17, 18, 19, 20, 21, 22, 23, 24, 25, 26, 27, 28, 29, 30, 31, 32, 33, 34, 35, 36, 37] (by kernel_rfl) (by decide) (by decide) (aF 0 37 (by decide) ?_ (aF 1 36 (by decide) ?_ (aF 2 35 (by decide) ?_ (aF 3 34 (by decide) ?_ (aF 4 33 (by decide) ?_ (aF 5 32 (by decide) ?_ (aF 6 31 (by decide) ?_ (aF 7 30 (by decide) ?_ (aF 8 29 (by decide) ?_ (aF 9 28 (by decide) ?_ (aF 10 27 (by decide) ?_ (aF 11 26 (by decide) ?_ (aF 12 25 (by decide) ?_ (aF 13 24 (by decide) ?_ (aF 14 23 (by decide) ?_ (aF 15 22 (by decide) ?_ (aF 16 21 (by decide) ?_ (aF 17 20 (by decide) ?_ (aF 18 19 (by decide) ?_ (aF 19 18 (by decide) ?_ (aF 20 17 (by decide) ?_ (aF 21 16 (by decide) ?_ (aF 22 15 (by decide) ?_ (aF 23 14 (by decide) ?_ (aF 24 13 (by decide) ?_ (aF 25 12 (by decide) ?_ (aF 26 11 (by decide) ?_ (aF 27 10 (by decide) ?_ (aF 28 9 (by decide) ?_ (aF 29 8 (by decide) ?_ (aF 30 7 (by decide) ?_ (aF 31 6 (by decide) ?_ (aF 32 5 (by decide) ?_ (aF 33 4 (by decide) ?_ (aF 34 3 (by decide) ?_ (aF 35 2 (by decide) ?_ (aF 36 1 (by decide) ?_ (aF 37 0 (by decide) ?_ (trivial))))))))))))))))))))))))))))))))))))))) [(1, .pointer (some ⟨b10, 0, none⟩)), (3, .bool r12), (8, .slice ad56 r53.1.length cp57), (10, .slice ad62 r59.1.length cp63), (12, iv s81), (107, .pointer (some ⟨b10, 0, none⟩)), (108, .slice ad5 p0.Left.length cp6), (109, iv s81), (110, iv (w64 (s81 + 1))), (111, q151), (112, iv x123), (113, .pointer (some ⟨b10, 0, none⟩)), (114, .slice ad5 p0.Left.length cp6), (115, iv s81), (116, q154), (117, iv x128), (118, iv (w64 (x123 - x128))), (119, .slice ad56 r53.1.length cp57), (120, iv s81), (121, q157), (122, q159), (123, iv x97.1), (124, .bool ((w64 (x123 - x128)) != x97.1)), (125, .bool ((w64 (x123 - x128)) != x97.1))] (fin_of [none, none, none, none, none, some 19, some 20, some 21, some 22, some 23, some 24, some 25, some 26, some 27, some 28, some 29, some 30, some 31, some 32, some 33, some 34, some 35, some 36, some 37] rfl (by kernel_rfl) (by kernel_rfl)) (fun _ a w S => ?_)
  · refine fI 88 (.slice ad62 r59.1.length cp63) [(10, .slice ad62 r59.1.length cp63)] 0 [none] rfl rfl rfl rfl rfl rfl fun G a w S => ?_
    refine sMove (.slice ad62 r59.1.length cp63) S (wN rfl) (.inl rfl) rfl rfl (lb rfl) fun a S => ?_
    exact leafL ⟨rfl, S⟩
  · refine fI 89 (iv s81) [(12, iv s81)] 1 [none] rfl rfl rfl rfl rfl rfl fun G a w S => ?_
    refine sMove (iv s81) S (wN rfl) (.inl rfl) rfl rfl (lb rfl) fun a S => ?_
    exact leafL ⟨rfl, S⟩
  · refine fI 90 q138 [(88, .slice ad62 r59.1.length cp63), (89, iv s81)] 2 [some 0, some 1] rfl rfl rfl rfl rfl rfl fun G a w S => ?_
    refine sIdxV (v := .slice ad62 r59.1.length cp63) (k := .i64) (j := s81) S (wN rfl) rfl rfl rfl hq139 rfl (lb rfl) fun a S => ?_
    exact leafL ⟨rfl, S⟩
  · refine fI 91 (.agg #[iv x92.1, iv x92.2]) [(90, q138)] 3 [some 2] rfl rfl rfl rfl rfl rfl fun G a w S => ?_
    refine sLoadVN (vq := q138) 18 [iv x92.1, iv x92.2] S (wN rfl) rfl rfl rfl rfl rfl rfl (lb rfl) fun a S => ?_
    exact leafL ⟨rfl, S⟩
  · refine fI 92 (.slice ad56 r53.1.length cp57) [(8, .slice ad56 r53.1.length cp57)] 4 [none] rfl rfl rfl rfl rfl rfl fun G a w S => ?_
    refine sMove (.slice ad56 r53.1.length cp57) S (wN rfl) (.inl rfl) rfl rfl (lb rfl) fun a S => ?_
    exact leafL ⟨rfl, S⟩
  · refine fI 93 (iv s81) [(12, iv s81)] 5 [none] rfl rfl rfl rfl rfl rfl fun G a w S => ?_
    refine sMove (iv s81) S (wN rfl) (.inl rfl) rfl rfl (lb rfl) fun a S => ?_
    exact leafL ⟨rfl, S⟩
  · refine fI 94 q141 [(92, .slice ad56 r53.1.length cp57), (93, iv s81)] 6 [some 4, some 5] rfl rfl rfl rfl rfl rfl fun G a w S => ?_
    refine sIdxV (v := .slice ad56 r53.1.length cp57) (k := .i64) (j := s81) S (wN rfl) rfl rfl rfl hq142 rfl (lb rfl) fun a S => ?_
    exact leafL ⟨rfl, S⟩
  · refine fI 95 q143 [(94, q141)] 7 [some 6] rfl rfl rfl rfl rfl rfl fun G a w S => ?_
    refine sIdxV (v := q141) (k := .i64) (j := 1) S (wN rfl) rfl rfl rfl hq144 rfl (lb rfl) fun a S => ?_
    exact leafL ⟨rfl, S⟩
  · refine fI 96 (iv x97.2) [(95, q143)] 8 [some 7] rfl rfl rfl rfl rfl rfl fun G a w S => ?_
    refine sLoadV1 (vq := q143) 14 (iv x97.2) S (wN rfl) rfl rfl rfl rfl rfl (lb rfl) fun a S => ?_
    exact leafL ⟨rfl, S⟩
  · refine fI 97 (iv (w64 (0 - x97.2))) [(96, iv x97.2)] 9 [some 8] rfl rfl rfl rfl rfl rfl fun G a w S => ?_
    refine sNeg (b := x97.2) S (wN rfl) rfl rfl rfl (lb rfl) fun a S => ?_
    exact leafL ⟨rfl, S⟩
  · refine fI 98 (.slice ad56 r53.1.length cp57) [(8, .slice ad56 r53.1.length cp57)] 10 [none] rfl rfl rfl rfl rfl rfl fun G a w S => ?_
    refine sMove (.slice ad56 r53.1.length cp57) S (wN rfl) (.inl rfl) rfl rfl (lb rfl) fun a S => ?_
    exact leafL ⟨rfl, S⟩
  · refine fI 99 (iv s81) [(12, iv s81)] 11 [none] rfl rfl rfl rfl rfl rfl fun G a w S => ?_
    refine sMove (iv s81) S (wN rfl) (.inl rfl) rfl rfl (lb rfl) fun a S => ?_
    exact leafL ⟨rfl, S⟩
  · refine fI 100 q146 [(98, .slice ad56 r53.1.length cp57), (99, iv s81)] 12 [some 10, some 11] rfl rfl rfl rfl rfl rfl fun G a w S => ?_
    refine sIdxV (v := .slice ad56 r53.1.length cp57) (k := .i64) (j := s81) S (wN rfl) rfl rfl rfl hq147 rfl (lb rfl) fun a S => ?_
    exact leafL ⟨rfl, S⟩
  · refine fI 101 q148 [(100, q146)] 13 [some 12] rfl rfl rfl rfl rfl rfl fun G a w S => ?_
    refine sIdxV (v := q146) (k := .i64) (j := 0) S (wN rfl) rfl rfl rfl hq149 rfl (lb rfl) fun a S => ?_
    exact leafL ⟨rfl, S⟩
  · refine fI 102 (iv x97.1) [(101, q148)] 14 [some 13] rfl rfl rfl rfl rfl rfl fun G a w S => ?_
    refine sLoadV1 (vq := q148) 10 (iv x97.1) S (wN rfl) rfl rfl rfl rfl rfl (lb rfl) fun a S => ?_
    exact leafL ⟨rfl, S⟩
  · refine fI 103 (iv (w64 (0 - x97.1))) [(102, iv x97.1)] 15 [some 14] rfl rfl rfl rfl rfl rfl fun G a w S => ?_
    refine sNeg (b := x97.1) S (wN rfl) rfl rfl rfl (lb rfl) fun a S => ?_
    exact leafL ⟨rfl, S⟩
  · refine fI 104 (.agg #[iv (w64 (0 - x97.2)), iv (w64 (0 - x97.1))]) [(97, iv (w64 (0 - x97.2))), (103, iv (w64 (0 - x97.1)))] 16 [some 9, some 15] rfl rfl rfl rfl rfl rfl fun G a w S => ?_
    refine sBuild [(0, iv (w64 (0 - x97.2))), (1, iv (w64 (0 - x97.1)))] [iv (w64 (0 - x97.2)), iv (w64 (0 - x97.1))] S (wN rfl) rfl rfl rfl rfl (lb rfl) fun a S => ?_
    exact leafL ⟨rfl, S⟩
  · refine fI 105 (.bool (!((x92.1 == (w64 (0 - x97.2))) && ((x92.2 == (w64 (0 - x97.1))) && true)))) [(91, .agg #[iv x92.1, iv x92.2]), (104, .agg #[iv (w64 (0 - x97.2)), iv (w64 (0 - x97.1))])] 17 [some 3, some 16] rfl rfl rfl rfl rfl rfl fun G a w S => ?_
    refine sBin (.bool (!((x92.1 == (w64 (0 - x97.2))) && ((x92.2 == (w64 (0 - x97.1))) && true)))) S (wN rfl) rfl rfl rfl (bNeV _ _ _ _ #[iv x92.1, iv x92.2] #[iv (w64 (0 - x97.2)), iv (w64 (0 - x97.1))] ((x92.1 == (w64 (0 - x97.2))) && ((x92.2 == (w64 (0 - x97.1))) && true)) (by kernel_rfl) (eqlV_of (by kernel_rfl))) rfl (lb rfl) fun a S => ?_
    exact leafL ⟨rfl, S⟩
  · refine fI 106 (.bool (!((x92.1 == (w64 (0 - x97.2))) && ((x92.2 == (w64 (0 - x97.1))) && true)))) [(105, .bool (!((x92.1 == (w64 (0 - x97.2))) && ((x92.2 == (w64 (0 - x97.1))) && true))))] 18 [some 17] rfl rfl rfl rfl rfl rfl fun G a w S => ?_
    refine sMove (.bool (!((x92.1 == (w64 (0 - x97.2))) && ((x92.2 == (w64 (0 - x97.1))) && true)))) S (wN rfl) (.inl rfl) rfl rfl (lb rfl) fun a S => ?_
    exact leafL ⟨rfl, S⟩
  · refine fI 107 (.pointer (some ⟨b10, 0, none⟩)) [(1, .pointer (some ⟨b10, 0, none⟩)), (106, .bool (!((x92.1 == (w64 (0 - x97.2))) && ((x92.2 == (w64 (0 - x97.1))) && true))))] 19 [none, some 18] rfl rfl rfl rfl rfl rfl fun G a w S => ?_
    refine sField (b := b10) (off := 0) 0 0 S (wG 18 false 106 rfl rfl rfl hc109) rfl rfl rfl rfl rfl (lb rfl) fun a S => ?_
    exact leafL ⟨rfl, S⟩
  · refine fI 108 (.slice ad5 p0.Left.length cp6) [(107, .pointer (some ⟨b10, 0, none⟩)), (106, .bool (!((x92.1 == (w64 (0 - x97.2))) && ((x92.2 == (w64 (0 - x97.1))) && true))))] 20 [some 19, some 18] rfl rfl rfl rfl rfl rfl fun G a w S => ?_
    refine sLoad1 (p := b10) (off := 0) (T := 30) (vs := [.slice ad5 p0.Left.length cp6, .slice ad7 p0.Right.length cp8]) 0 (.slice ad5 p0.Left.length cp6) S (wG 18 false 106 rfl rfl rfl hc109) rfl rfl rfl rfl rfl rfl (lb rfl) fun a S => ?_
    exact leafL ⟨rfl, S⟩
  · refine fI 109 (iv s81) [(12, iv s81), (106, .bool (!((x92.1 == (w64 (0 - x97.2))) && ((x92.2 == (w64 (0 - x97.1))) && true))))] 21 [none, some 18] rfl rfl rfl rfl rfl rfl fun G a w S => ?_
    refine sMove (iv s81) S (wG 18 false 106 rfl rfl rfl hc109) (.inl rfl) rfl rfl (lb rfl) fun a S => ?_
    exact leafL ⟨rfl, S⟩
  · refine fI 110 (iv (w64 (s81 + 1))) [(109, iv s81), (106, .bool (!((x92.1 == (w64 (0 - x97.2))) && ((x92.2 == (w64 (0 - x97.1))) && true))))] 22 [some 21, some 18] rfl rfl rfl rfl rfl rfl fun G a w S => ?_
    refine sBin (iv (w64 (s81 + 1))) S (wG 18 false 106 rfl rfl rfl hc109) rfl rfl rfl (bAdd _ _ _ _ s81 1) rfl (lb rfl) fun a S => ?_
    exact leafL ⟨rfl, S⟩
  · refine fI 111 q151 [(108, .slice ad5 p0.Left.length cp6), (110, iv (w64 (s81 + 1))), (106, .bool (!((x92.1 == (w64 (0 - x97.2))) && ((x92.2 == (w64 (0 - x97.1))) && true))))] 23 [some 20, some 22, some 18] rfl rfl rfl rfl rfl rfl fun G a w S => ?_
    refine sIdxV (v := .slice ad5 p0.Left.length cp6) (k := .i64) (j := w64 (s81 + 1)) S (wG 18 false 106 rfl rfl rfl hc109) rfl rfl rfl hq152 rfl (lb rfl) fun a S => ?_
    exact leafL ⟨rfl, S⟩
  · refine fI 112 (iv x123) [(111, q151), (106, .bool (!((x92.1 == (w64 (0 - x97.2))) && ((x92.2 == (w64 (0 - x97.1))) && true))))] 24 [some 23, some 18] rfl rfl rfl rfl rfl rfl fun G a w S => ?_
    refine sLoadV1 (vq := q151) 7 (iv x123) S (wG 18 false 106 rfl rfl rfl hc109) rfl rfl rfl rfl rfl (lb rfl) fun a S => ?_
    exact leafL ⟨rfl, S⟩
  · refine fI 113 (.pointer (some ⟨b10, 0, none⟩)) [(1, .pointer (some ⟨b10, 0, none⟩)), (106, .bool (!((x92.1 == (w64 (0 - x97.2))) && ((x92.2 == (w64 (0 - x97.1))) && true))))] 25 [none, some 18] rfl rfl rfl rfl rfl rfl fun G a w S => ?_
    refine sField (b := b10) (off := 0) 0 0 S (wG 18 false 106 rfl rfl rfl hc109) rfl rfl rfl rfl rfl (lb rfl) fun a S => ?_
    exact leafL ⟨rfl, S⟩
  · refine fI 114 (.slice ad5 p0.Left.length cp6) [(113, .pointer (some ⟨b10, 0, none⟩)), (106, .bool (!((x92.1 == (w64 (0 - x97.2))) && ((x92.2 == (w64 (0 - x97.1))) && true))))] 26 [some 25, some 18] rfl rfl rfl rfl rfl rfl fun G a w S => ?_
    refine sLoad1 (p := b10) (off := 0) (T := 30) (vs := [.slice ad5 p0.Left.length cp6, .slice ad7 p0.Right.length cp8]) 0 (.slice ad5 p0.Left.length cp6) S (wG 18 false 106 rfl rfl rfl hc109) rfl rfl rfl rfl rfl rfl (lb rfl) fun a S => ?_
    exact leafL ⟨rfl, S⟩
  · refine fI 115 (iv s81) [(12, iv s81), (106, .bool (!((x92.1 == (w64 (0 - x97.2))) && ((x92.2 == (w64 (0 - x97.1))) && true))))] 27 [none, some 18] rfl rfl rfl rfl rfl rfl fun G a w S => ?_
    refine sMove (iv s81) S (wG 18 false 106 rfl rfl rfl hc109) (.inl rfl) rfl rfl (lb rfl) fun a S => ?_
    exact leafL ⟨rfl, S⟩
  · refine fI 116 q154 [(114, .slice ad5 p0.Left.length cp6), (115, iv s81), (106, .bool (!((x92.1 == (w64 (0 - x97.2))) && ((x92.2 == (w64 (0 - x97.1))) && true))))] 28 [some 26, some 27, some 18] rfl rfl rfl rfl rfl rfl fun G a w S => ?_
    refine sIdxV (v := .slice ad5 p0.Left.length cp6) (k := .i64) (j := s81) S (wG 18 false 106 rfl rfl rfl hc109) rfl rfl rfl hq155 rfl (lb rfl) fun a S => ?_
    exact leafL ⟨rfl, S⟩
  · refine fI 117 (iv x128) [(116, q154), (106, .bool (!((x92.1 == (w64 (0 - x97.2))) && ((x92.2 == (w64 (0 - x97.1))) && true))))] 29 [some 28, some 18] rfl rfl rfl rfl rfl rfl fun G a w S => ?_
    refine sLoadV1 (vq := q154) 4 (iv x128) S (wG 18 false 106 rfl rfl rfl hc109) rfl rfl rfl rfl rfl (lb rfl) fun a S => ?_
    exact leafL ⟨rfl, S⟩
  · refine fI 118 (iv (w64 (x123 - x128))) [(112, iv x123), (117, iv x128), (106, .bool (!((x92.1 == (w64 (0 - x97.2))) && ((x92.2 == (w64 (0 - x97.1))) && true))))] 30 [some 24, some 29, some 18] rfl rfl rfl rfl rfl rfl fun G a w S => ?_
    refine sBin (iv (w64 (x123 - x128))) S (wG 18 false 106 rfl rfl rfl hc109) rfl rfl rfl (bSub _ _ _ _ x123 x128) rfl (lb rfl) fun a S => ?_
    exact leafL ⟨rfl, S⟩
  · refine fI 119 (.slice ad56 r53.1.length cp57) [(8, .slice ad56 r53.1.length cp57), (106, .bool (!((x92.1 == (w64 (0 - x97.2))) && ((x92.2 == (w64 (0 - x97.1))) && true))))] 31 [none, some 18] rfl rfl rfl rfl rfl rfl fun G a w S => ?_
    refine sMove (.slice ad56 r53.1.length cp57) S (wG 18 false 106 rfl rfl rfl hc109) (.inl rfl) rfl rfl (lb rfl) fun a S => ?_
    exact leafL ⟨rfl, S⟩
  · refine fI 120 (iv s81) [(12, iv s81), (106, .bool (!((x92.1 == (w64 (0 - x97.2))) && ((x92.2 == (w64 (0 - x97.1))) && true))))] 32 [none, some 18] rfl rfl rfl rfl rfl rfl fun G a w S => ?_
    refine sMove (iv s81) S (wG 18 false 106 rfl rfl rfl hc109) (.inl rfl) rfl rfl (lb rfl) fun a S => ?_
    exact leafL ⟨rfl, S⟩
  · refine fI 121 q157 [(119, .slice ad56 r53.1.length cp57), (120, iv s81), (106, .bool (!((x92.1 == (w64 (0 - x97.2))) && ((x92.2 == (w64 (0 - x97.1))) && true))))] 33 [some 31, some 32, some 18] rfl rfl rfl rfl rfl rfl fun G a w S => ?_
    refine sIdxV (v := .slice ad56 r53.1.length cp57) (k := .i64) (j := s81) S (wG 18 false 106 rfl rfl rfl hc109) rfl rfl rfl hq158 rfl (lb rfl) fun a S => ?_
    exact leafL ⟨rfl, S⟩
  · refine fI 122 q159 [(121, q157), (106, .bool (!((x92.1 == (w64 (0 - x97.2))) && ((x92.2 == (w64 (0 - x97.1))) && true))))] 34 [some 33, some 18] rfl rfl rfl rfl rfl rfl fun G a w S => ?_
    refine sIdxV (v := q157) (k := .i64) (j := 0) S (wG 18 false 106 rfl rfl rfl hc109) rfl rfl rfl hq160 rfl (lb rfl) fun a S => ?_
    exact leafL ⟨rfl, S⟩
  · refine fI 123 (iv x97.1) [(122, q159), (106, .bool (!((x92.1 == (w64 (0 - x97.2))) && ((x92.2 == (w64 (0 - x97.1))) && true))))] 35 [some 34, some 18] rfl rfl rfl rfl rfl rfl fun G a w S => ?_
    refine sLoadV1 (vq := q159) 0 (iv x97.1) S (wG 18 false 106 rfl rfl rfl hc109) rfl rfl rfl rfl rfl (lb rfl) fun a S => ?_
    exact leafL ⟨rfl, S⟩
  · refine fI 124 (.bool ((w64 (x123 - x128)) != x97.1)) [(118, iv (w64 (x123 - x128))), (123, iv x97.1), (106, .bool (!((x92.1 == (w64 (0 - x97.2))) && ((x92.2 == (w64 (0 - x97.1))) && true))))] 36 [some 30, some 35, some 18] rfl rfl rfl rfl rfl rfl fun G a w S => ?_
    refine sBin (.bool ((w64 (x123 - x128)) != x97.1)) S (wG 18 false 106 rfl rfl rfl hc109) rfl rfl rfl (bNe _ _ _ _ .i64 (w64 (x123 - x128)) x97.1) rfl (lb rfl) fun a S => ?_
    exact leafL ⟨rfl, S⟩
  · refine fI 125 (.bool ((w64 (x123 - x128)) != x97.1)) [(106, .bool (!((x92.1 == (w64 (0 - x97.2))) && ((x92.2 == (w64 (0 - x97.1))) && true)))), (124, .bool ((w64 (x123 - x128)) != x97.1))] 37 [some 18, some 36] rfl rfl rfl rfl rfl rfl fun G a w S => ?_
    refine sPickF (.bool ((w64 (x123 - x128)) != x97.1)) S (wN rfl) rfl rfl hc109 rfl rfl (lb rfl) fun a S => ?_
    exact leafL ⟨rfl, S⟩
  exact leafT (⟨(w64 (x123 - x128)) != x97.1, Option.some.inj h, S.fix [0] [21, 22, 23, 24] (by decide) rfl rfl rfl⟩)

end Go.Proofs.YtmedbnjhgkcndaaDoor
namespace Go.Proofs.YtmedbnjhgkcndaaDoor
open Go.RowKit
set_option linter.unusedVariables false

def negs (l : List Int) : List Int := l.map fun x => w64 (0 - x)
def mir (p : api_Piece) : api_Piece := ⟨negs p.Right, negs p.Left⟩
def chg (p : api_Piece) : List (Int × Int) := (List.range (p.Left.length - 1)).map fun k => (w64 (p.Left.getD (k + 1) 0 - p.Left.getD k 0), w64 (p.Right.getD (k + 1) 0 - p.Right.getD k 0))
theorem range_getD (l : List Int) (f : Int → Int) : (List.range l.length).map (fun k => f (l.getD k 0)) = l.map f := by
  refine List.ext_getElem (by simp) fun k h1 h2 => ?_
  have : k < l.length := by simpa using h1
  simp [this]
theorem mirror_eq (p : api_Piece) (h1 : p.Left.length ≤ 1000000) (h2 : p.Right.length ≤ 1000000) (hp : pok p = true) : F_piece_Mirror p = some (mir p, 0) := by
  obtain ⟨c1, -⟩ := pcheck_eq p h1 h2
  unfold F_piece_Mirror
  rw [c1]
  obtain ⟨n1, n2⟩ := pok_len hp
  have hm : makeO (p.Left.length : Int) (0 : Int) = some (List.replicate p.Left.length 0) := makeO_of rfl (by omega)
  have hw : ∃ t, whileO (piece_Mirror_l1 p) (0, List.replicate p.Left.length 0, List.replicate p.Left.length 0) = some t ∧ t = ((List.range p.Left.length).map (fun k => w64 (0 - p.Right.getD k 0)), (List.range p.Left.length).map (fun k => w64 (0 - p.Left.getD k 0))) := by
    refine loop_ts p.Left.length (fun k s => Fill p.Left.length (fun k => w64 (0 - p.Right.getD k 0)) k s.1 ∧ Fill p.Left.length (fun k => w64 (0 - p.Left.getD k 0)) k s.2) _ ⟨Fill.zero _ _ _, Fill.zero _ _ _⟩ ?_ ?_
    · rintro k ⟨a, b⟩ hk ⟨ha, hb⟩
      dsimp only at ha hb
      refine .inl ⟨(a.set k (w64 (0 - p.Right.getD k 0)), b.set k (w64 (0 - p.Left.getD k 0))), ?_, ha.set hk, hb.set hk⟩
      have na := ha.1
      have nb := hb.1
      unfold piece_Mirror_l1
      simp only [dT (show (k : Int) < (p.Left.length : Int) by omega), if_true, idxO_D (0 : Int) hk, idxO_D (0 : Int) (show k < p.Right.length by omega), idxO_nat (show k < a.length by omega), idxO_nat (show k < b.length by omega), setO_nat (show k < a.length by omega), setO_nat (show k < b.length by omega), Option.bind_some, w64_succ (show k < 9223372036854775807 by omega)]
    · rintro ⟨a, b⟩ ⟨ha, hb⟩
      dsimp only at ha hb
      refine ⟨(a, b), ?_, by rw [ha.all, hb.all]⟩
      unfold piece_Mirror_l1
      simp
  obtain ⟨t, t1, rfl⟩ := hw
  have e1 := range_getD p.Right (fun x => w64 (0 - x))
  have e2 := range_getD p.Left (fun x => w64 (0 - x))
  rw [← n1] at e1
  simp only [hp, Option.bind_some, if_true, nF (rfl : (0 : Int) = 0), Bool.false_eq_true, if_false, hm, t1, e1, e2]
  rfl
theorem changes_eq (p : api_Piece) (h1 : p.Left.length ≤ 1000000) (h2 : p.Right.length ≤ 1000000) (hp : pok p = true) : F_piece_Changes p = some (chg p, 0) := by
  obtain ⟨c1, -⟩ := pcheck_eq p h1 h2
  unfold F_piece_Changes
  rw [c1]
  obtain ⟨n1, n2⟩ := pok_len hp
  have hc : capO (p.Left.length : Int) = some () := capO_of rfl (by omega)
  have h0 : 1 ≤ p.Left.length := by
    simp only [pok, Bool.and_eq_true, decide_eq_true_eq] at hp
    exact hp.2.1
  have hw : ∃ t, whileO (piece_Changes_l1 p) (([] : List (Int × Int)), ((1 : Nat) : Int)) = some t ∧ t = chg p := by
    refine loop_fr 1 p.Left.length h0 (fun k s => s = (List.range (k - 1)).map fun k => (w64 (p.Left.getD (k + 1) 0 - p.Left.getD k 0), w64 (p.Right.getD (k + 1) 0 - p.Right.getD k 0))) _ rfl ?_ ?_
    · rintro k s hk1 hk rfl
      obtain ⟨j, rfl⟩ : ∃ j, k = j + 1 := ⟨k - 1, by omega⟩
      have hj : w64 (((j + 1 : Nat) : Int) - 1) = (j : Int) := by rw [w64_of (by omega) (by omega)]; omega
      refine .inl ⟨_, ?_, rfl⟩
      unfold piece_Changes_l1
      simp only [dT (show ((j + 1 : Nat) : Int) < (p.Left.length : Int) by omega), if_true, hj, idxO_D (0 : Int) hk, idxO_D (0 : Int) (show j < p.Left.length by omega), idxO_D (0 : Int) (show j + 1 < p.Right.length by omega), idxO_D (0 : Int) (show j < p.Right.length by omega), Option.bind_some]
      rw [appO_of (by simp; omega)]
      simp only [Option.bind_some, w64_succ (show j + 1 < 9223372036854775807 by omega), Nat.add_sub_cancel, List.range_succ, List.map_append]
      rfl
    · rintro s rfl
      refine ⟨chg p, ?_, rfl⟩
      show piece_Changes_l1 p (chg p, _) = _
      unfold piece_Changes_l1
      simp
  obtain ⟨t, t1, rfl⟩ := hw
  have t1 : whileO (piece_Changes_l1 p) (([] : List (Int × Int)), 1) = some (chg p) := t1
  simp only [hp, Option.bind_some, if_true, nF (rfl : (0 : Int) = 0), Bool.false_eq_true, if_false, hc, t1]
theorem pok_at {p : api_Piece} : pok p = true ↔ p.Left.length = p.Right.length ∧ 1 ≤ p.Left.length ∧ p.Left.length ≤ 100 ∧ ∀ k, k < p.Left.length → (-500 ≤ p.Left.getD k 0 ∧ p.Left.getD k 0 ≤ 500) ∧ (-500 ≤ p.Right.getD k 0 ∧ p.Right.getD k 0 ≤ 500) ∧ p.Left.getD k 0 < p.Right.getD k 0 ∧ p.Right.getD k 0 - p.Left.getD k 0 ≤ 200 := by
  simp only [pok, pokAt, Bool.and_eq_true, decide_eq_true_eq, List.all_eq_true, List.mem_range, col_spec]
theorem negs_getD {l : List Int} {k : Nat} (hk : k < l.length) : (negs l).getD k 0 = w64 (0 - l.getD k 0) := by
  simp [negs, hk]
theorem mir_ok {p : api_Piece} (hp : pok p = true) : pok (mir p) = true := by
  rw [pok_at] at hp ⊢
  obtain ⟨a, b, c, d⟩ := hp
  refine ⟨by simp [mir, negs, a], by simp [mir, negs]; omega, by simp [mir, negs]; omega, fun k hk => ?_⟩
  have hk : k < p.Right.length := by simpa [mir, negs] using hk
  have := d k (by omega)
  show (-500 ≤ (negs p.Right).getD k 0 ∧ (negs p.Right).getD k 0 ≤ 500) ∧ (-500 ≤ (negs p.Left).getD k 0 ∧ (negs p.Left).getD k 0 ≤ 500) ∧ (negs p.Right).getD k 0 < (negs p.Left).getD k 0 ∧ (negs p.Left).getD k 0 - (negs p.Right).getD k 0 ≤ 200
  rw [negs_getD hk, negs_getD (by omega), w64_of (by omega) (by omega), w64_of (by omega) (by omega)]
  omega
theorem negs_negs {l : List Int} (h : ∀ k, k < l.length → -500 ≤ l.getD k 0 ∧ l.getD k 0 ≤ 500) : negs (negs l) = l := by
  refine List.ext_getElem (by simp [negs]) fun k h1 h2 => ?_
  have := h k h2
  rw [show l.getD k 0 = l[k] by simp [h2]] at this
  simp only [negs, List.getElem_map]
  rw [w64_of (x := 0 - l[k]) (by omega) (by omega), w64_of (by omega) (by omega)]
  omega
theorem mir_mir {p : api_Piece} (hp : pok p = true) : mir (mir p) = p := by
  rw [pok_at] at hp
  obtain ⟨a, b, c, d⟩ := hp
  cases p with
  | mk l r =>
    show api_Piece.mk (negs (negs l)) (negs (negs r)) = _
    rw [negs_negs fun k hk => (d k hk).1, negs_negs fun k hk => (d k (by rw [a]; exact hk)).2.1]
theorem rok_of {p : api_Piece} {x : Int} (h1 : p.Left.length ≤ 1000000) (h2 : p.Right.length ≤ 1000000) (h : F_raddleref37_Check p = some x) (hx : x = 0) : pok p = true := by
  rw [(pcheck_eq p h1 h2).2] at h
  cases hp : pok p with
  | true => rfl
  | false =>
    rw [hp] at h
    simp at h
    omega
theorem law_PieceMirrors' (ha : F_raddlelaw37_alive = some true) (p : api_Piece) (wp : wf_api_Piece p) : F_raddlelaw37_PieceMirrors p = some true := by
  obtain ⟨gb, g1, g2⟩ := great_eq p wp.1.1 wp.2.1
  unfold F_raddlelaw37_PieceMirrors
  rw [ha]
  cases gb with
  | true => simp [g1]
  | false =>
    obtain ⟨n1, n2⟩ := g2 rfl
    obtain ⟨c1, c2⟩ := pcheck_eq p (by omega) (by omega)
    cases hp : pok p with
    | false => simp [g1, c2, hp]
    | true =>
      have hm := mir_ok hp
      obtain ⟨a, b, c, d⟩ := pok_at.1 hp
      have l1 : (mir p).Left.length = p.Left.length := by simp [mir, negs, a]
      have l2 : (mir p).Right.length = p.Left.length := by simp [mir, negs]
      have e1 := mirror_eq p (by omega) (by omega) hp
      have e2 := mirror_eq (mir p) (by omega) (by omega) hm
      have e3 := changes_eq p (by omega) (by omega) hp
      have e4 := changes_eq (mir p) (by omega) (by omega) hm
      rw [mir_mir hp] at e2
      have l3 : (chg p).length = p.Left.length - 1 := by simp [chg]
      have l4 : (chg (mir p)).length = p.Left.length - 1 := by simp [chg, l1]
      have w1 : w64 ((p.Left.length : Int) - 1) = ((p.Left.length - 1 : Nat) : Int) := by rw [w64_of (by omega) (by omega)]; omega
      have hl : whileO (raddlelaw37_PieceMirrors_l1 (chg p, 0) (chg (mir p), 0) p) 0 = some (if (List.range (p.Left.length - 1)).all (fun _ => true) = true then .inr () else .inl false) := by
        refine loop_all _ _ _ _ (fun k hk => ?_) ?_
        · have k1 := d k (by omega)
          have k2 := d (k + 1) (by omega)
          have x1 : (chg p)[k]'(by omega) = (w64 (p.Left.getD (k + 1) 0 - p.Left.getD k 0), w64 (p.Right.getD (k + 1) 0 - p.Right.getD k 0)) := by simp only [chg, List.getElem_map, List.getElem_range]
          have x2 : (chg (mir p))[k]'(by omega) = (w64 ((negs p.Right).getD (k + 1) 0 - (negs p.Right).getD k 0), w64 ((negs p.Left).getD (k + 1) 0 - (negs p.Left).getD k 0)) := by simp only [chg, List.getElem_map, List.getElem_range]; rfl
          rw [negs_getD (by omega), negs_getD (by omega), negs_getD (by omega), negs_getD (by omega)] at x2
          unfold raddlelaw37_PieceMirrors_l1
          simp only [dT (show (k : Int) < ((chg p).length : Int) by omega), if_true, idxO_nat (show k < (chg p).length by omega), idxO_nat (show k < (chg (mir p)).length by omega), Option.bind_some, x1, x2, w64_succ (show k < 9223372036854775807 by omega), idxO_D (0 : Int) (show k < p.Left.length by omega), idxO_D (0 : Int) (show k + 1 < p.Left.length by omega)]
          generalize p.Left.getD (k + 1) 0 = a1 at *
          generalize p.Right.getD (k + 1) 0 = b1 at *
          generalize p.Left.getD k 0 = a0 at *
          generalize p.Right.getD k 0 = b0 at *
          rw [w64_of (x := a1 - a0) (by omega) (by omega), w64_of (x := b1 - b0) (by omega) (by omega), w64_of (x := 0 - b1) (by omega) (by omega), w64_of (x := 0 - b0) (by omega) (by omega), w64_of (x := 0 - a1) (by omega) (by omega), w64_of (x := 0 - a0) (by omega) (by omega), w64_of (x := 0 - b1 - (0 - b0)) (by omega) (by omega), w64_of (x := 0 - a1 - (0 - a0)) (by omega) (by omega), w64_of (x := 0 - (a1 - a0)) (by omega) (by omega), w64_of (x := 0 - (b1 - b0)) (by omega) (by omega)]
          rw [show 0 - b1 - (0 - b0) = 0 - (b1 - b0) by omega, show 0 - a1 - (0 - a0) = 0 - (a1 - a0) by omega]
          simp only [beq_self_eq_true, Bool.and_self, Bool.not_true, Bool.false_eq_true, if_false, bne_self_eq_false, Option.bind_some]
        · unfold raddlelaw37_PieceMirrors_l1
          simp [l3]
      have : (List.range (p.Left.length - 1)).all (fun _ => true) = true := by simp
      rw [this] at hl
      simp [g1, c2, hp, e1, e2, e3, e4, samep_self p (by omega) (by omega), l3, l4, w1, hl]

end Go.Proofs.YtmedbnjhgkcndaaDoor
namespace Go.Proofs.YtmedbnjhgkcndaaDoor
open Go.RowKit
set_option linter.unusedVariables false

theorem law_PieceMirrors (p : api_Piece) (wp : wf_api_Piece p) : F_raddlelaw37_PieceMirrors p = some true := law_PieceMirrors' k_raddlelaw37_alive p wp

end Go.Proofs.YtmedbnjhgkcndaaDoor
namespace Go.Proofs.YtmedbnjhgkcndaaDoor
open Go.RowKit
set_option linter.unusedVariables false

namespace framePieceMirrors
open Go.ChangeShapes Go.WideShapes Go.ChangeAt Go.Joins
theorem own : ownKnob Tryd.prog.godebug = none := by kernel_rfl
theorem laidOut : laidOutB Tryd.prog = true := by kernel_rfl
set_option maxRecDepth 100000 in
theorem door_met (os : Os) (args : Array Value) : laidMetH Tryd.prog Rows.pieceMirrorsRow.laid ((World.doorLaid Tryd.prog 400 os).forCall (fun _ _ => 0) ⟨#[], args, []⟩).memory :=
  laidMetH_of_parts3 (fuel := 8) (laidMet_of_run' 8 (by kernel_rfl) (by kernel_rfl)) (by kernel_rfl) (by kernel_rfl)
set_option maxRecDepth 100000 in
theorem lifted (os : Os) (started : os.Started) (H : Type) (enc : TypeId × Value → H) :
    ReturnsInHanded {} Tryd.checked os 6 .any (fun w args => (Rows.pieceMirrorsSpec.pre enc Tryd.prog Tryd.f6 Rows.pieceMirrorsRow.domain false w args ∧ laidMetH Tryd.prog Rows.pieceMirrorsRow.laid w) ∧ sizedMet enc Tryd.prog Tryd.f6 (OpenSpec.ofChange Rows.pieceMirrorsSpec) false w args) (Rows.pieceMirrorsSpec.post enc Tryd.prog Tryd.f6 false true false false) := by
  refine returnsInHanded_of_change_and (C := Tryd.checked) (X := fun w _ => laidMetH Tryd.prog Rows.pieceMirrorsRow.laid w) (fun _ _ _ hh h => h.of_heap hh) own started (by kernel_rfl) Tryd.func6
    (ChangeSpec.witness_shaped (enc := enc) (C := Tryd.checked) (os := os) (X := fun w _ => laidMetH Tryd.prog Rows.pieceMirrorsRow.laid w) false (World.doorLaid Tryd.prog 400 os) #[.agg #[.slice none 0 0, .slice none 0 0]] 8 rfl (World.shaped_of_RefB (by kernel_rfl) (by kernel_rfl)) (by kernel_rfl) (by kernel_rfl) (by kernel_rfl) (door_met os _)) ?_
  intro W base args ds gs before hval0 hW _ _ _ _
  have hval : ∀ (j : Nat) t v, Tryd.f6.params[j]? = some t → args[j]? = some v → Value.okWide Tryd.prog W .any base t v := hval0
  have hW' := hW
  obtain ⟨p, q, hA0, hV, rfl, hfz, hnd⟩ := hW
  have hA : DataW.TrodAll enc Tryd.prog W 0 (fun _ => true) true Tryd.f6.params.toList args.toList ds p := hA0
  rw [Tryd.params6] at hA hval
  obtain ⟨v0, vs0, d0, ds0, p0, q0, hargs, rfl, rfl, h0, r0⟩ := trodAll_cons hA
  obtain ⟨rfl, rfl, rfl⟩ := trodAll_nil r0
  obtain rfl : args = #[v0] := by cases args; simp_all
  obtain ⟨rfl, rfl⟩ := trodVars_none hV
  have k0 := h0
  have lt0 : ∀ x ∈ p0, x.block < W.heap.size := by obtain ⟨m, hm⟩ := k0; exact DataW.trod_lt m _ _ _ hm
  obtain ⟨x0, rep0, wf0⟩ := top_agg Tryd.underlying30 aggr_api_Piece op_api_Piece (hval 0 _ v0 rfl rfl) h0
  clear hA0 hval0
  refine (c_raddlelaw37_PieceMirrors (fun _ => False) W x0 v0 true (law_PieceMirrors x0 wf0) (St0.start (by intro d hd; simp only [List.mem_cons, List.not_mem_nil, or_false] at hd; subst hd; exact rep0))).mono fun e W' hr => ?_
  obtain ⟨_, he, hS⟩ := hr
  have bel := hS.chg.below
  subst he
  exact ⟨_, rfl, _, _, _, [], _, [], hW', trodAll_mk1 (shut_bool Tryd.underlying4 _), (trodAll_cons_mk (Below.trod laidOut (by kernel_rfl) (of_decide_eq_true (by kernel_rfl)) k0 bel lt0) trodAll_mk0), rfl, bel.frame _, fun h => by cases h⟩
theorem over : Rows.pieceMirrorsRow.holds Tryd.pinned (OpenSpec.ofChange Rows.pieceMirrorsSpec) :=
  OpenClaim.holds_of_wide 6 Tryd.f6 rfl rfl rfl rfl rfl rfl rfl ⟨rfl, rfl, rfl, rfl, rfl⟩ rfl rfl rfl rfl rfl (by kernel_rfl) Tryd.func6 (by kernel_rfl)
    (of_decide_eq_true (by kernel_rfl)) (by unfold Func.isWrapper; first | (rw [if_pos (by decide +kernel)]; kernel_rfl) | (rw [if_neg (by decide +kernel)]; exact ⟨rfl, rfl⟩))
    (fun os started H enc _ => lifted os started H enc)
theorem card : Rows.PieceMirrorsCardSaid :=
  Claim7.holds_tied_plain_at .later [] [.data, .data, .data] true (true, "307e61196d3f4886c0049f613c394b681f3254770779ea132fb8ea05f59173ca") false
    over (fun _ h => by cases h) (by kernel_rfl) (fun _ h => by cases h) pieceMirrors_row_tie rfl ⟨rfl, rfl⟩ (by kernel_rfl) rfl
    (fun f fn hf hfn => by
      obtain rfl : f = 6 := Option.some.inj ((show Tryd.prog.funcNamed "raddle/raddlelaw37.PieceMirrors" = some 6 by kernel_rfl).symm.trans hf) |>.symm
      obtain rfl : fn = Tryd.f6 := (Option.some.inj (Tryd.func6.symm.trans hfn)).symm
      exact ⟨by kernel_rfl, fun j t ht => by
        rw [Tryd.params6] at ht
        have hm : t ∈ [30] := by simpa using Array.mem_of_getElem? ht
        have hall : ([30].all fun u => !Tryd.prog.wantsStandIn u) = true := by kernel_rfl
        exact (show Tryd.prog.wantsStandIn t = false by simpa using List.all_eq_true.1 hall t hm)⟩)
    (by kernel_rfl)
end framePieceMirrors
theorem pieceMirrors_holds : Rows.PieceMirrorsCardSaid := framePieceMirrors.card

end Go.Proofs.YtmedbnjhgkcndaaDoor
