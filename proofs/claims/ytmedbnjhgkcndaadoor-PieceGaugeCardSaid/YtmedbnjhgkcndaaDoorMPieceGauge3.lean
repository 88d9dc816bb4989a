/- Several texts in one: G35 G75 G63 G66 G65s0 G64s0 G50 G36 G12 G38 G52 G57 G46 G69 G55 G54 G68s0 G53s0 G40 G51 G67i0 -/
import Derived.WalkKit
import Derived.Maps.AppendAt
import Derived.Deep.AppendLies
import Derived.KernelRfl
import Derived.Laws.OwnMore
import Derived.Great.BuildSlice
import Derived.Orders
import Derived.Laws.StructEq
import Derived.ChangeKeysEq
import Derived.Defers
import Derived.Laws.BytesString
import Derived.RangeFuncNested
import Derived.RangeFuncBound
import Derived.RangeFuncCalls
import Derived.RangeFuncLeaves
import Derived.OrdersIn
import Derived.LoopNIn
import Derived.Test.YtmedbnjhgkcndaaDoorProg
import Derived.ProofKit
import Derived.OpenShut
import Derived.ChangeOld
import Derived.Deep.Slices
import Derived.Lib.SmallJoins
import Derived.JoinedOf
import Derived.JoinedAt
import Derived.Below
import Derived.Shelf.Strings.Builder1
import Derived.Shelf.Strings.Builder2
import Derived.Shelf.Strings.OnBuilder
import Derived.Test.YtmedbnjhgkcndaaDoorRows
import Derived.LaidMore
import Derived.SevenTiedAt
import Derived.Test.YtmedbnjhgkcndaaDoorCards
import Derived.Test.YtmedbnjhgkcndaaDoorTie
import Derived.Test.YtmedbnjhgkcndaaDoorMPieceGauge2
namespace Go.Proofs.YtmedbnjhgkcndaaDoor
open Go.RowKit
set_option linter.unusedVariables false

def anc_piece_shape_0 : List (List Nat) := [[], [0], [0, 1], [0, 1, 2], [0, 1, 2, 3], [0, 1, 2, 3, 4], [0, 1, 2, 3, 4, 5], [0, 1, 2, 3, 4, 5, 6], [0, 1, 2, 3, 4, 5, 6, 7], [0, 1, 2, 3, 4, 5, 6, 7, 8], [0, 1, 2, 3, 4, 5, 6, 7, 8, 9], [0, 1, 2, 3, 4, 5, 6, 7, 8, 9, 10], [0, 1, 2, 3, 4, 5, 6, 7, 8, 9, 10, 11], [0, 1, 2, 3, 4, 5, 6, 7, 8, 9, 10], [0, 1, 2, 3, 4, 5, 6, 7, 8, 9, 10, 13], [0, 1, 2, 3, 4, 5, 6, 7, 8, 9, 10, 13, 14], [0, 1, 2, 3, 4, 5, 6, 7, 8, 9, 10, 13, 14, 15], [0, 1, 2, 3, 4, 5, 6, 7, 8, 9, 10, 11, 12, 13, 14, 15, 16], [0, 1, 2, 3, 4, 5, 6, 7, 8, 9, 10, 11, 12, 13, 14, 15, 16, 17], [0, 1, 2, 3, 4, 5, 6, 7, 8, 9, 10, 11, 12, 13, 14, 15, 16, 17, 18], [0, 1, 2, 3, 4, 5, 6, 7, 8, 9, 10], [0, 1, 2, 3, 4, 5, 6, 7, 8, 9, 10, 20], [0, 1, 2, 3, 4, 5, 6, 7, 8, 9, 10], [0, 1, 2, 3, 4, 5, 6, 7, 8, 9, 10, 22], [0, 1, 2, 3, 4, 5, 6, 7, 8, 9, 10, 22, 23], [0, 1, 2, 3, 4, 5, 6, 7, 8, 9, 10, 22, 23, 24], [0, 1, 2, 3, 4, 5, 6, 7, 8, 9, 10, 20, 21, 22, 23, 24, 25], [0, 1, 2, 3, 4, 5, 6, 7, 8, 9, 10, 20, 21, 22, 23, 24, 25, 26], [0, 1, 2, 3, 4, 5, 6, 7, 8, 9, 10, 20, 21, 22, 23, 24, 25, 26, 27], [0, 1, 2, 3, 4, 5, 6, 7, 8, 9, 10, 11, 12, 13, 14, 15, 16, 17, 18, 19, 20, 21, 22, 23, 24, 25, 26, 27, 28], [0, 1, 2, 3, 4, 5, 6, 7, 8, 9, 10, 11, 12, 13, 14, 15, 16, 17, 18, 19, 20, 21, 22, 23, 24, 25, 26, 27, 28, 29]]
noncomputable def F_piece_shape (p0 : api_Shape) : Option Int :=
  Option.bind (α := Bool) (
    Option.bind (F_piece_side p0.Left) fun r15 =>
    if !r15 then
      some true
    else
      Option.bind (F_piece_side p0.Right) fun r18 =>
      if !r18 then
        some true
      else
        Option.bind (idxO p0.Left (w64 ((p0.Left.length : Int) - 1))) fun x21 =>
        Option.bind (idxO p0.Right (w64 ((p0.Right.length : Int) - 1))) fun x28 =>
        some (x21.Y != x28.Y)) fun o12 =>
  if o12 then
    some 8
  else
    some 0
set_option maxHeartbeats 4000000 in
set_option maxRecDepth 100000 in
theorem c_piece_shape (E : Nat → Prop) (w0 : World) (p0 : api_Shape) (v0 : Value) (r : Int) (h : F_piece_shape p0 = some r) (S : St0 E [] w0 w0 [] [fRep r_api_Shape (v0) p0]) :
    Calls Tryd.prog 35 #[v0] w0 (Ret (X := Unit) E [] w0 (fun _ => .int .i64 r) (fun _ => []) (fun _ => [])) := by
  unfold F_piece_shape at h
  obtain ⟨u1, u2, rfl, hu3, hu4⟩ := S.know (i := 0) (e := fRep r_api_Shape (v0) p0) rfl
  have S := S.learn (fRep (rL r_api_Point) u1 p0.Left) hu3
  obtain ⟨ad5, cp6, _, rfl, _⟩ := hu3
  have S := S.learn (fRep (rL r_api_Point) u2 p0.Right) hu4
  obtain ⟨ad7, cp8, _, rfl, _⟩ := hu4
  refine sEnter (args := [.agg #[.slice ad5 p0.Left.length cp6, .slice ad7 p0.Right.length cp8]]) 34 Tryd.func35 rfl rfl (by simp) S (fun a S => ?_)
  refine sSeq (fun K9 hK9 => ?_)
  refine sRegion ?_
  refine sBox (v := .agg #[.slice ad5 p0.Left.length cp6, .slice ad7 p0.Right.length cp8]) S (wN rfl) rfl rfl [.slice ad5 p0.Left.length cp6, .slice ad7 p0.Right.length cp8] rfl rfl (lb rfl) fun a b10 w S => ?_
  refine sMove (iv 0) S (wN rfl) (.inr rfl) rfl rfl (lb rfl) fun a S => ?_
  refine leafL (leafT (hK9 _ _ ?_))
  refine sSeq (fun K11 hK11 => ?_)
  obtain ⟨t13, h, g14⟩ := bindSome h
  refine sCut (fun a w => ∃ o12, o12 = t13 ∧ St [] E [] w0 34 a w [(33, .bool o12)] [] []) ?_ (fun a w hI => ?_)
  rotate_left
  · obtain ⟨o12, rfl, S⟩ := hI
    have h := g14
    clear g14
    try dsimp only at h
    rcases iteSome h with ⟨hc45, h⟩ | ⟨hc45, h⟩
    · refine sCondT S rfl hc45 ?_
      refine sSeq (fun K46 hK46 => ?_)
      refine sRegion ?_
      refine sMove (iv 8) S (wN rfl) (.inr rfl) rfl rfl (lb rfl) fun a S => ?_
      refine leafL (leafT (hK46 _ _ ?_))
      obtain rfl := Option.some.inj h
      exact wp_ret (rThen (sRet (iv 8) S (rsl1 rfl (rvT (t := 2) (v := iv 8) S rfl)) ⟨(), rfl, S.mem.sel [] [] (by decide) rfl rfl⟩))
    refine sCondF S rfl hc45 ?_
    refine wp_skip (leafT (hK11 _ _ ?_))
    refine sSeq (fun K47 hK47 => ?_)
    refine sRegion ?_
    refine sMove (iv 0) S (wN rfl) (.inr rfl) rfl rfl (lb rfl) fun a S => ?_
    refine leafL (leafT (hK47 _ _ ?_))
    obtain rfl := Option.some.inj h
    exact wp_ret (sRet (iv 0) S (rsl1 rfl (rvT (t := 2) (v := iv 0) S rfl)) ⟨(), rfl, S.mem.sel [] [] (by decide) rfl rfl⟩)
  obtain ⟨r15, hx16, h⟩ := bindSome h
  rcases iteSome h with ⟨hc17, h⟩ | ⟨hc17, h⟩
  · refine sDraw (nf := []) (W := [(0, 3, .pointer (some ⟨b10, 0, none⟩)), (1, 4, .slice ad5 p0.Left.length cp6), (2, 5, .bool r15), (3, 6, .bool (!r15)), (4, 7, .bool (!r15)), (5, 8, undef), (6, 9, undef), (7, 10, undef), (8, 11, undef), (9, 12, .bool true), (10, 13, .bool true), (11, 14, undef), (12, 15, undef), (13, 16, undef), (14, 17, undef), (15, 18, undef), (16, 19, undef), (17, 20, undef), (18, 21, undef), (19, 22, undef), (20, 23, undef), (21, 24, undef), (22, 25, undef), (23, 26, undef), (24, 27, undef), (25, 28, undef), (26, 29, undef), (27, 30, undef), (28, 31, undef), (29, 32, undef), (30, 33, .bool true)]) rfl S ?_
    refine node_by (A := anc_piece_shape_0) (nf := []) (Y := []) (W := [(0, 3, .pointer (some ⟨b10, 0, none⟩)), (1, 4, .slice ad5 p0.Left.length cp6), (2, 5, .bool r15), (3, 6, .bool (!r15)), (4, 7, .bool (!r15)), (5, 8, undef), (6, 9, undef), (7, 10, undef), (8, 11, undef), (9, 12, .bool true), (10, 13, .bool true), (11, 14, undef), (12, 15, undef), (13, 16, undef), (14, 17, undef), (15, 18, undef), (16, 19, undef), (17, 20, undef), (18, 21, undef), (19, 22, undef), (20, 23, undef), (21, 24, undef), (22, 25, undef), (23, 26, undef), (24, 27, undef), (25, 28, undef), (26, 29, undef), (27, 30, undef), (28, 31, undef), (29, 32, undef), (30, 33, .bool true)]) 31 (by kernel_rfl) (by kernel_rfl) (by kernel_rfl) (by kernel_rfl) (by kernel_rfl) [0, 1, 2, 3, 4, 5, 6, 7, 8, 9, 10, 11, 12, 13, 14, 15, 16, 17, 18, 19, 20, 21, 22, 23, 24, 25, 26, 27, 28, 29, 30] (by kernel_rfl) (by decide) (by decide) (aF 0 30 (by decide) ?_ (aF 1 29 (by decide) ?_ (aF 2 28 (by decide) ?_ (aF 3 27 (by decide) ?_ (aF 4 26 (by decide) ?_ (aF 5 25 (by decide) ?_ (aF 6 24 (by decide) ?_ (aF 7 23 (by decide) ?_ (aF 8 22 (by decide) ?_ (aF 9 21 (by decide) ?_ (aF 10 20 (by decide) ?_ (aF 11 19 (by decide) ?_ (aF 12 18 (by decide) ?_ (aF 13 17 (by decide) ?_ (aF 14 16 (by decide) ?_ (aF 15 15 (by decide) ?_ (aF 16 14 (by decide) ?_ (aF 17 13 (by decide) ?_ (aF 18 12 (by decide) ?_ (aF 19 11 (by decide) ?_ (aF 20 10 (by decide) ?_ (aF 21 9 (by decide) ?_ (aF 22 8 (by decide) ?_ (aF 23 7 (by decide) ?_ (aF 24 6 (by decide) ?_ (aF 25 5 (by decide) ?_ (aF 26 4 (by decide) ?_ (aF 27 3 (by decide) ?_ (aF 28 2 (by decide) ?_ (aF 29 1 (by decide) ?_ (aF 30 0 (by decide) ?_ (trivial)))))))))))))))))))))))))))))))) [(33, .bool true)] (fin_of [some 30] rfl (by kernel_rfl) (by kernel_rfl)) (fun _ a w S => ?_)
    · refine fI 3 (.pointer (some ⟨b10, 0, none⟩)) [(1, .pointer (some ⟨b10, 0, none⟩))] 0 [none] rfl rfl rfl rfl rfl rfl fun G a w S => ?_
      refine sField (b := b10) (off := 0) 0 0 S (wN rfl) rfl rfl rfl rfl rfl (lb rfl) fun a S => ?_
      exact leafL ⟨rfl, S⟩
    · refine fI 4 (.slice ad5 p0.Left.length cp6) [(3, .pointer (some ⟨b10, 0, none⟩))] 1 [some 0] rfl rfl rfl rfl rfl rfl fun G a w S => ?_
      refine sLoad1 (p := b10) (off := 0) (T := 24) (vs := [.slice ad5 p0.Left.length cp6, .slice ad7 p0.Right.length cp8]) 0 (.slice ad5 p0.Left.length cp6) S (wN rfl) rfl rfl rfl rfl rfl rfl (lb rfl) fun a S => ?_
      exact leafL ⟨rfl, S⟩
    · refine fI 5 (.bool r15) [(4, .slice ad5 p0.Left.length cp6)] 2 [some 1] rfl rfl rfl rfl rfl rfl fun G a w S => ?_
      have S1 := S.mem
      refine sCallQ (X := Unit) (f := 49) (vs := [.slice ad5 p0.Left.length cp6]) (val := fun _ => .bool r15) S (wN rfl) rfl callee49 rfl (S1.quiet [1] rfl) (fun E1 w1 S1 => c_piece_side E1 w1 p0.Left (.slice ad5 p0.Left.length cp6) r15 hx16 S1) rfl (lb rfl) fun _ a w S => ?_
      exact leafL ⟨rfl, S⟩
    · refine fI 6 (.bool (!r15)) [(5, .bool r15)] 3 [some 2] rfl rfl rfl rfl rfl rfl fun G a w S => ?_
      refine sNot (b := r15) S (wN rfl) rfl rfl rfl (lb rfl) fun a S => ?_
      exact leafL ⟨rfl, S⟩
    · refine fI 7 (.bool (!r15)) [(6, .bool (!r15))] 4 [some 3] rfl rfl rfl rfl rfl rfl fun G a w S => ?_
      refine sMove (.bool (!r15)) S (wN rfl) (.inl rfl) rfl rfl (lb rfl) fun a S => ?_
      exact leafL ⟨rfl, S⟩
    · refine fI 8 undef [(1, .pointer (some ⟨b10, 0, none⟩)), (7, .bool (!r15))] 5 [none, some 4] rfl rfl rfl rfl rfl rfl fun G a w S => ?_
      refine sSkip 4 false 7 8 S rfl rfl rfl hc17 rfl (lb rfl) fun a S => ?_
      exact leafL ⟨rfl, S⟩
    · refine fI 9 undef [(8, undef), (7, .bool (!r15))] 6 [some 5, some 4] rfl rfl rfl rfl rfl rfl fun G a w S => ?_
      refine sSkip 4 false 7 9 S rfl rfl rfl hc17 rfl (lb rfl) fun a S => ?_
      exact leafL ⟨rfl, S⟩
    · refine fI 10 undef [(9, undef), (7, .bool (!r15))] 7 [some 6, some 4] rfl rfl rfl rfl rfl rfl fun G a w S => ?_
      refine sSkip 4 false 7 10 S rfl rfl rfl hc17 rfl (lb rfl) fun a S => ?_
      exact leafL ⟨rfl, S⟩
    · refine fI 11 undef [(10, undef), (7, .bool (!r15))] 8 [some 7, some 4] rfl rfl rfl rfl rfl rfl fun G a w S => ?_
      refine sSkip 4 false 7 11 S rfl rfl rfl hc17 rfl (lb rfl) fun a S => ?_
      exact leafL ⟨rfl, S⟩
    · refine fI 12 (.bool true) [(7, .bool (!r15)), (11, undef)] 9 [some 4, some 8] rfl rfl rfl rfl rfl rfl fun G a w S => ?_
      refine sPickT (.bool true) S (wN rfl) rfl rfl hc17 rfl rfl (lb rfl) fun a S => ?_
      exact leafL ⟨rfl, S⟩
    · refine fI 13 (.bool true) [(12, .bool true)] 10 [some 9] rfl rfl rfl rfl rfl rfl fun G a w S => ?_
      refine sMove (.bool true) S (wN rfl) (.inl rfl) rfl rfl (lb rfl) fun a S => ?_
      exact leafL ⟨rfl, S⟩
    · refine fI 14 undef [(1, .pointer (some ⟨b10, 0, none⟩)), (13, .bool true)] 11 [none, some 10] rfl rfl rfl rfl rfl rfl fun G a w S => ?_
      refine sSkip 10 false 13 14 S rfl rfl rfl rfl rfl (lb rfl) fun a S => ?_
      exact leafL ⟨rfl, S⟩
    · refine fI 15 undef [(14, undef), (13, .bool true)] 12 [some 11, some 10] rfl rfl rfl rfl rfl rfl fun G a w S => ?_
      refine sSkip 10 false 13 15 S rfl rfl rfl rfl rfl (lb rfl) fun a S => ?_
      exact leafL ⟨rfl, S⟩
    · refine fI 16 undef [(1, .pointer (some ⟨b10, 0, none⟩)), (13, .bool true)] 13 [none, some 10] rfl rfl rfl rfl rfl rfl fun G a w S => ?_
      refine sSkip 10 false 13 16 S rfl rfl rfl rfl rfl (lb rfl) fun a S => ?_
      exact leafL ⟨rfl, S⟩
    · refine fI 17 undef [(16, undef), (13, .bool true)] 14 [some 13, some 10] rfl rfl rfl rfl rfl rfl fun G a w S => ?_
      refine sSkip 10 false 13 17 S rfl rfl rfl rfl rfl (lb rfl) fun a S => ?_
      exact leafL ⟨rfl, S⟩
    · refine fI 18 undef [(17, undef), (13, .bool true)] 15 [some 14, some 10] rfl rfl rfl rfl rfl rfl fun G a w S => ?_
      refine sSkip 10 false 13 18 S rfl rfl rfl rfl rfl (lb rfl) fun a S => ?_
      exact leafL ⟨rfl, S⟩
    · refine fI 19 undef [(18, undef), (13, .bool true)] 16 [some 15, some 10] rfl rfl rfl rfl rfl rfl fun G a w S => ?_
      refine sSkip 10 false 13 19 S rfl rfl rfl rfl rfl (lb rfl) fun a S => ?_
      exact leafL ⟨rfl, S⟩
    · refine fI 20 undef [(15, undef), (19, undef), (13, .bool true)] 17 [some 12, some 16, some 10] rfl rfl rfl rfl rfl rfl fun G a w S => ?_
      refine sSkip 10 false 13 20 S rfl rfl rfl rfl rfl (lb rfl) fun a S => ?_
      exact leafL ⟨rfl, S⟩
    · refine fI 21 undef [(20, undef), (13, .bool true)] 18 [some 17, some 10] rfl rfl rfl rfl rfl rfl fun G a w S => ?_
      refine sSkip 10 false 13 21 S rfl rfl rfl rfl rfl (lb rfl) fun a S => ?_
      exact leafL ⟨rfl, S⟩
    · refine fI 22 undef [(21, undef), (13, .bool true)] 19 [some 18, some 10] rfl rfl rfl rfl rfl rfl fun G a w S => ?_
      refine sSkip 10 false 13 22 S rfl rfl rfl rfl rfl (lb rfl) fun a S => ?_
      exact leafL ⟨rfl, S⟩
    · refine fI 23 undef [(1, .pointer (some ⟨b10, 0, none⟩)), (13, .bool true)] 20 [none, some 10] rfl rfl rfl rfl rfl rfl fun G a w S => ?_
      refine sSkip 10 false 13 23 S rfl rfl rfl rfl rfl (lb rfl) fun a S => ?_
      exact leafL ⟨rfl, S⟩
    · refine fI 24 undef [(23, undef), (13, .bool true)] 21 [some 20, some 10] rfl rfl rfl rfl rfl rfl fun G a w S => ?_
      refine sSkip 10 false 13 24 S rfl rfl rfl rfl rfl (lb rfl) fun a S => ?_
      exact leafL ⟨rfl, S⟩
    · refine fI 25 undef [(1, .pointer (some ⟨b10, 0, none⟩)), (13, .bool true)] 22 [none, some 10] rfl rfl rfl rfl rfl rfl fun G a w S => ?_
      refine sSkip 10 false 13 25 S rfl rfl rfl rfl rfl (lb rfl) fun a S => ?_
      exact leafL ⟨rfl, S⟩
    · refine fI 26 undef [(25, undef), (13, .bool true)] 23 [some 22, some 10] rfl rfl rfl rfl rfl rfl fun G a w S => ?_
      refine sSkip 10 false 13 26 S rfl rfl rfl rfl rfl (lb rfl) fun a S => ?_
      exact leafL ⟨rfl, S⟩
    · refine fI 27 undef [(26, undef), (13, .bool true)] 24 [some 23, some 10] rfl rfl rfl rfl rfl rfl fun G a w S => ?_
      refine sSkip 10 false 13 27 S rfl rfl rfl rfl rfl (lb rfl) fun a S => ?_
      exact leafL ⟨rfl, S⟩
    · refine fI 28 undef [(27, undef), (13, .bool true)] 25 [some 24, some 10] rfl rfl rfl rfl rfl rfl fun G a w S => ?_
      refine sSkip 10 false 13 28 S rfl rfl rfl rfl rfl (lb rfl) fun a S => ?_
      exact leafL ⟨rfl, S⟩
    · refine fI 29 undef [(24, undef), (28, undef), (13, .bool true)] 26 [some 21, some 25, some 10] rfl rfl rfl rfl rfl rfl fun G a w S => ?_
      refine sSkip 10 false 13 29 S rfl rfl rfl rfl rfl (lb rfl) fun a S => ?_
      exact leafL ⟨rfl, S⟩
    · refine fI 30 undef [(29, undef), (13, .bool true)] 27 [some 26, some 10] rfl rfl rfl rfl rfl rfl fun G a w S => ?_
      refine sSkip 10 false 13 30 S rfl rfl rfl rfl rfl (lb rfl) fun a S => ?_
      exact leafL ⟨rfl, S⟩
    · refine fI 31 undef [(30, undef), (13, .bool true)] 28 [some 27, some 10] rfl rfl rfl rfl rfl rfl fun G a w S => ?_
      refine sSkip 10 false 13 31 S rfl rfl rfl rfl rfl (lb rfl) fun a S => ?_
      exact leafL ⟨rfl, S⟩
    · refine fI 32 undef [(22, undef), (31, undef), (13, .bool true)] 29 [some 19, some 28, some 10] rfl rfl rfl rfl rfl rfl fun G a w S => ?_
      refine sSkip 10 false 13 32 S rfl rfl rfl rfl rfl (lb rfl) fun a S => ?_
      exact leafL ⟨rfl, S⟩
    · refine fI 33 (.bool true) [(13, .bool true), (32, undef)] 30 [some 10, some 29] rfl rfl rfl rfl rfl rfl fun G a w S => ?_
      refine sPickT (.bool true) S (wN rfl) rfl rfl rfl rfl rfl (lb rfl) fun a S => ?_
      exact leafL ⟨rfl, S⟩
    exact leafT (⟨true, Option.some.inj h, S.fix [] [] (by decide) rfl rfl rfl⟩)
  obtain ⟨r18, hx19, h⟩ := bindSome h
  rcases iteSome h with ⟨hc20, h⟩ | ⟨hc20, h⟩
  · refine sDraw (nf := []) (W := [(0, 3, .pointer (some ⟨b10, 0, none⟩)), (1, 4, .slice ad5 p0.Left.length cp6), (2, 5, .bool r15), (3, 6, .bool (!r15)), (4, 7, .bool (!r15)), (5, 8, .pointer (some ⟨b10, 1, none⟩)), (6, 9, .slice ad7 p0.Right.length cp8), (7, 10, .bool r18), (8, 11, .bool (!r18)), (9, 12, .bool (!r18)), (10, 13, .bool (!r18)), (11, 14, undef), (12, 15, undef), (13, 16, undef), (14, 17, undef), (15, 18, undef), (16, 19, undef), (17, 20, undef), (18, 21, undef), (19, 22, undef), (20, 23, undef), (21, 24, undef), (22, 25, undef), (23, 26, undef), (24, 27, undef), (25, 28, undef), (26, 29, undef), (27, 30, undef), (28, 31, undef), (29, 32, undef), (30, 33, .bool true)]) rfl S ?_
    refine node_by (A := anc_piece_shape_0) (nf := []) (Y := []) (W := [(0, 3, .pointer (some ⟨b10, 0, none⟩)), (1, 4, .slice ad5 p0.Left.length cp6), (2, 5, .bool r15), (3, 6, .bool (!r15)), (4, 7, .bool (!r15)), (5, 8, .pointer (some ⟨b10, 1, none⟩)), (6, 9, .slice ad7 p0.Right.length cp8), (7, 10, .bool r18), (8, 11, .bool (!r18)), (9, 12, .bool (!r18)), (10, 13, .bool (!r18)), (11, 14, undef), (12, 15, undef), (13, 16, undef), (14, 17, undef), (15, 18, undef), (16, 19, undef), (17, 20, undef), (18, 21, undef), (19, 22, undef), (20, 23, undef), (21, 24, undef), (22, 25, undef), (23, 26, undef), (24, 27, undef), (25, 28, undef), (26, 29, undef), (27, 30, undef), (28, 31, undef), (29, 32, undef), (30, 33, .bool true)]) 31 (by kernel_rfl) (by kernel_rfl) (by kernel_rfl) (by kernel_rfl) (by kernel_rfl) [0, 1, 2, 3, 4, 5, 6, 7, 8, 9, 10, 11, 12, 13, 14, 15, 16, 17, 18, 19, 20, 21, 22, 23, 24, 25, 26, 27, 28, 29, 30] (by kernel_rfl) (by decide) (by decide) (aF 0 30 (by decide) ?_ (aF 1 29 (by decide) ?_ (aF 2 28 (by decide) ?_ (aF 3 27 (by decide) ?_ (aF 4 26 (by decide) ?_ (aF 5 25 (by decide) ?_ (aF 6 24 (by decide) ?_ (aF 7 23 (by decide) ?_ (aF 8 22 (by decide) ?_ (aF 9 21 (by decide) ?_ (aF 10 20 (by decide) ?_ (aF 11 19 (by decide) ?_ (aF 12 18 (by decide) ?_ (aF 13 17 (by decide) ?_ (aF 14 16 (by decide) ?_ (aF 15 15 (by decide) ?_ (aF 16 14 (by decide) ?_ (aF 17 13 (by decide) ?_ (aF 18 12 (by decide) ?_ (aF 19 11 (by decide) ?_ (aF 20 10 (by decide) ?_ (aF 21 9 (by decide) ?_ (aF 22 8 (by decide) ?_ (aF 23 7 (by decide) ?_ (aF 24 6 (by decide) ?_ (aF 25 5 (by decide) ?_ (aF 26 4 (by decide) ?_ (aF 27 3 (by decide) ?_ (aF 28 2 (by decide) ?_ (aF 29 1 (by decide) ?_ (aF 30 0 (by decide) ?_ (trivial)))))))))))))))))))))))))))))))) [(33, .bool true)] (fin_of [some 30] rfl (by kernel_rfl) (by kernel_rfl)) (fun _ a w S => ?_)
    · refine fI 3 (.pointer (some ⟨b10, 0, none⟩)) [(1, .pointer (some ⟨b10, 0, none⟩))] 0 [none] rfl rfl rfl rfl rfl rfl fun G a w S => ?_
      refine sField (b := b10) (off := 0) 0 0 S (wN rfl) rfl rfl rfl rfl rfl (lb rfl) fun a S => ?_
      exact leafL ⟨rfl, S⟩
    · refine fI 4 (.slice ad5 p0.Left.length cp6) [(3, .pointer (some ⟨b10, 0, none⟩))] 1 [some 0] rfl rfl rfl rfl rfl rfl fun G a w S => ?_
      refine sLoad1 (p := b10) (off := 0) (T := 24) (vs := [.slice ad5 p0.Left.length cp6, .slice ad7 p0.Right.length cp8]) 0 (.slice ad5 p0.Left.length cp6) S (wN rfl) rfl rfl rfl rfl rfl rfl (lb rfl) fun a S => ?_
      exact leafL ⟨rfl, S⟩
    · refine fI 5 (.bool r15) [(4, .slice ad5 p0.Left.length cp6)] 2 [some 1] rfl rfl rfl rfl rfl rfl fun G a w S => ?_
      have S1 := S.mem
      refine sCallQ (X := Unit) (f := 49) (vs := [.slice ad5 p0.Left.length cp6]) (val := fun _ => .bool r15) S (wN rfl) rfl callee49 rfl (S1.quiet [1] rfl) (fun E1 w1 S1 => c_piece_side E1 w1 p0.Left (.slice ad5 p0.Left.length cp6) r15 hx16 S1) rfl (lb rfl) fun _ a w S => ?_
      exact leafL ⟨rfl, S⟩
    · refine fI 6 (.bool (!r15)) [(5, .bool r15)] 3 [some 2] rfl rfl rfl rfl rfl rfl fun G a w S => ?_
      refine sNot (b := r15) S (wN rfl) rfl rfl rfl (lb rfl) fun a S => ?_
      exact leafL ⟨rfl, S⟩
    · refine fI 7 (.bool (!r15)) [(6, .bool (!r15))] 4 [some 3] rfl rfl rfl rfl rfl rfl fun G a w S => ?_
      refine sMove (.bool (!r15)) S (wN rfl) (.inl rfl) rfl rfl (lb rfl) fun a S => ?_
      exact leafL ⟨rfl, S⟩
    · refine fI 8 (.pointer (some ⟨b10, 1, none⟩)) [(1, .pointer (some ⟨b10, 0, none⟩)), (7, .bool (!r15))] 5 [none, some 4] rfl rfl rfl rfl rfl rfl fun G a w S => ?_
      refine sField (b := b10) (off := 0) 1 1 S (wG 4 false 7 rfl rfl rfl hc17) rfl rfl rfl rfl rfl (lb rfl) fun a S => ?_
      exact leafL ⟨rfl, S⟩
    · refine fI 9 (.slice ad7 p0.Right.length cp8) [(8, .pointer (some ⟨b10, 1, none⟩)), (7, .bool (!r15))] 6 [some 5, some 4] rfl rfl rfl rfl rfl rfl fun G a w S => ?_
      refine sLoad1 (p := b10) (off := 1) (T := 24) (vs := [.slice ad5 p0.Left.length cp6, .slice ad7 p0.Right.length cp8]) 0 (.slice ad7 p0.Right.length cp8) S (wG 4 false 7 rfl rfl rfl hc17) rfl rfl rfl rfl rfl rfl (lb rfl) fun a S => ?_
      exact leafL ⟨rfl, S⟩
    · refine fI 10 (.bool r18) [(9, .slice ad7 p0.Right.length cp8), (7, .bool (!r15))] 7 [some 6, some 4] rfl rfl rfl rfl rfl rfl fun G a w S => ?_
      have S1 := S.mem
      refine sCallQ (X := Unit) (f := 49) (vs := [.slice ad7 p0.Right.length cp8]) (val := fun _ => .bool r18) S (wG 4 false 7 rfl rfl rfl hc17) rfl callee49 rfl (S1.quiet [0] rfl) (fun E1 w1 S1 => c_piece_side E1 w1 p0.Right (.slice ad7 p0.Right.length cp8) r18 hx19 S1) rfl (lb rfl) fun _ a w S => ?_
      exact leafL ⟨rfl, S⟩
    · refine fI 11 (.bool (!r18)) [(10, .bool r18), (7, .bool (!r15))] 8 [some 7, some 4] rfl rfl rfl rfl rfl rfl fun G a w S => ?_
      refine sNot (b := r18) S (wG 4 false 7 rfl rfl rfl hc17) rfl rfl rfl (lb rfl) fun a S => ?_
      exact leafL ⟨rfl, S⟩
    · refine fI 12 (.bool (!r18)) [(7, .bool (!r15)), (11, .bool (!r18))] 9 [some 4, some 8] rfl rfl rfl rfl rfl rfl fun G a w S => ?_
      refine sPickF (.bool (!r18)) S (wN rfl) rfl rfl hc17 rfl rfl (lb rfl) fun a S => ?_
      exact leafL ⟨rfl, S⟩
    · refine fI 13 (.bool (!r18)) [(12, .bool (!r18))] 10 [some 9] rfl rfl rfl rfl rfl rfl fun G a w S => ?_
      refine sMove (.bool (!r18)) S (wN rfl) (.inl rfl) rfl rfl (lb rfl) fun a S => ?_
      exact leafL ⟨rfl, S⟩
    · refine fI 14 undef [(1, .pointer (some ⟨b10, 0, none⟩)), (13, .bool (!r18))] 11 [none, some 10] rfl rfl rfl rfl rfl rfl fun G a w S => ?_
      refine sSkip 10 false 13 14 S rfl rfl rfl hc20 rfl (lb rfl) fun a S => ?_
      exact leafL ⟨rfl, S⟩
    · refine fI 15 undef [(14, undef), (13, .bool (!r18))] 12 [some 11, some 10] rfl rfl rfl rfl rfl rfl fun G a w S => ?_
      refine sSkip 10 false 13 15 S rfl rfl rfl hc20 rfl (lb rfl) fun a S => ?_
      exact leafL ⟨rfl, S⟩
    · refine fI 16 undef [(1, .pointer (some ⟨b10, 0, none⟩)), (13, .bool (!r18))] 13 [none, some 10] rfl rfl rfl rfl rfl rfl fun G a w S => ?_
      refine sSkip 10 false 13 16 S rfl rfl rfl hc20 rfl (lb rfl) fun a S => ?_
      exact leafL ⟨rfl, S⟩
    · refine fI 17 undef [(16, undef), (13, .bool (!r18))] 14 [some 13, some 10] rfl rfl rfl rfl rfl rfl fun G a w S => ?_
      refine sSkip 10 false 13 17 S rfl rfl rfl hc20 rfl (lb rfl) fun a S => ?_
      exact leafL ⟨rfl, S⟩
    · refine fI 18 undef [(17, undef), (13, .bool (!r18))] 15 [some 14, some 10] rfl rfl rfl rfl rfl rfl fun G a w S => ?_
      refine sSkip 10 false 13 18 S rfl rfl rfl hc20 rfl (lb rfl) fun a S => ?_
      exact leafL ⟨rfl, S⟩
    · refine fI 19 undef [(18, undef), (13, .bool (!r18))] 16 [some 15, some 10] rfl rfl rfl rfl rfl rfl fun G a w S => ?_
      refine sSkip 10 false 13 19 S rfl rfl rfl hc20 rfl (lb rfl) fun a S => ?_
      exact leafL ⟨rfl, S⟩
    · refine fI 20 undef [(15, undef), (19, undef), (13, .bool (!r18))] 17 [some 12, some 16, some 10] rfl rfl rfl rfl rfl rfl fun G a w S => ?_
      refine sSkip 10 false 13 20 S rfl rfl rfl hc20 rfl (lb rfl) fun a S => ?_
      exact leafL ⟨rfl, S⟩
    · refine fI 21 undef [(20, undef), (13, .bool (!r18))] 18 [some 17, some 10] rfl rfl rfl rfl rfl rfl fun G a w S => ?_
      refine sSkip 10 false 13 21 S rfl rfl rfl hc20 rfl (lb rfl) fun a S => ?_
      exact leafL ⟨rfl, S⟩
    · refine fI 22 undef [(21, undef), (13, .bool (!r18))] 19 [some 18, some 10] rfl rfl rfl rfl rfl rfl fun G a w S => ?_
      refine sSkip 10 false 13 22 S rfl rfl rfl hc20 rfl (lb rfl) fun a S => ?_
      exact leafL ⟨rfl, S⟩
    · refine fI 23 undef [(1, .pointer (some ⟨b10, 0, none⟩)), (13, .bool (!r18))] 20 [none, some 10] rfl rfl rfl rfl rfl rfl fun G a w S => ?_
      refine sSkip 10 false 13 23 S rfl rfl rfl hc20 rfl (lb rfl) fun a S => ?_
      exact leafL ⟨rfl, S⟩
    · refine fI 24 undef [(23, undef), (13, .bool (!r18))] 21 [some 20, some 10] rfl rfl rfl rfl rfl rfl fun G a w S => ?_
      refine sSkip 10 false 13 24 S rfl rfl rfl hc20 rfl (lb rfl) fun a S => ?_
      exact leafL ⟨rfl, S⟩
    · refine fI 25 undef [(1, .pointer (some ⟨b10, 0, none⟩)), (13, .bool (!r18))] 22 [none, some 10] rfl rfl rfl rfl rfl rfl fun G a w S => ?_
      refine sSkip 10 false 13 25 S rfl rfl rfl hc20 rfl (lb rfl) fun a S => ?_
      exact leafL ⟨rfl, S⟩
    · refine fI 26 undef [(25, undef), (13, .bool (!r18))] 23 [some 22, some 10] rfl rfl rfl rfl rfl rfl fun G a w S => ?_
      refine sSkip 10 false 13 26 S rfl rfl rfl hc20 rfl (lb rfl) fun a S => ?_
      exact leafL ⟨rfl, S⟩
    · refine fI 27 undef [(26, undef), (13, .bool (!r18))] 24 [some 23, some 10] rfl rfl rfl rfl rfl rfl fun G a w S => ?_
      refine sSkip 10 false 13 27 S rfl rfl rfl hc20 rfl (lb rfl) fun a S => ?_
      exact leafL ⟨rfl, S⟩
    · refine fI 28 undef [(27, undef), (13, .bool (!r18))] 25 [some 24, some 10] rfl rfl rfl rfl rfl rfl fun G a w S => ?_
      refine sSkip 10 false 13 28 S rfl rfl rfl hc20 rfl (lb rfl) fun a S => ?_
      exact leafL ⟨rfl, S⟩
    · refine fI 29 undef [(24, undef), (28, undef), (13, .bool (!r18))] 26 [some 21, some 25, some 10] rfl rfl rfl rfl rfl rfl fun G a w S => ?_
      refine sSkip 10 false 13 29 S rfl rfl rfl hc20 rfl (lb rfl) fun a S => ?_
      exact leafL ⟨rfl, S⟩
    · refine fI 30 undef [(29, undef), (13, .bool (!r18))] 27 [some 26, some 10] rfl rfl rfl rfl rfl rfl fun G a w S => ?_
      refine sSkip 10 false 13 30 S rfl rfl rfl hc20 rfl (lb rfl) fun a S => ?_
      exact leafL ⟨rfl, S⟩
    · refine fI 31 undef [(30, undef), (13, .bool (!r18))] 28 [some 27, some 10] rfl rfl rfl rfl rfl rfl fun G a w S => ?_
      refine sSkip 10 false 13 31 S rfl rfl rfl hc20 rfl (lb rfl) fun a S => ?_
      exact leafL ⟨rfl, S⟩
    · refine fI 32 undef [(22, undef), (31, undef), (13, .bool (!r18))] 29 [some 19, some 28, some 10] rfl rfl rfl rfl rfl rfl fun G a w S => ?_
      refine sSkip 10 false 13 32 S rfl rfl rfl hc20 rfl (lb rfl) fun a S => ?_
      exact leafL ⟨rfl, S⟩
    · refine fI 33 (.bool true) [(13, .bool (!r18)), (32, undef)] 30 [some 10, some 29] rfl rfl rfl rfl rfl rfl fun G a w S => ?_
      refine sPickT (.bool true) S (wN rfl) rfl rfl hc20 rfl rfl (lb rfl) fun a S => ?_
      exact leafL ⟨rfl, S⟩
    exact leafT (⟨true, Option.some.inj h, S.fix [] [] (by decide) rfl rfl rfl⟩)
  obtain ⟨x21, hx22, h⟩ := bindSome h
  obtain ⟨x28, hx29, h⟩ := bindSome h
  obtain ⟨q35, hq36, S⟩ := pIdx (P := Tryd.prog) (r := r_api_Point) (v := .slice ad5 p0.Left.length cp6) (xs := p0.Left) (j := w64 ((p0.Left.length : Int) - 1)) 22 35 1 S Tryd.underlying22 rfl rfl hx22
  obtain ⟨q37, hq38, S⟩ := pFld (P := Tryd.prog) (r := r_api_Point) (s2 := (rI .i64)) (g := (·.Y)) (q := q35) (z := x21) 35 1 0 1 S rfl rfl comp_api_Point_Y
  obtain ⟨u39, S⟩ := pLoad (r := (rI .i64)) (q := q37) (x := x21.Y) 0 S rfl
  obtain rfl : u39 = iv x21.Y := S.mem.know (i := 1) (e := fRep (rI .i64) (u39) x21.Y) rfl
  obtain ⟨q40, hq41, S⟩ := pIdx (P := Tryd.prog) (r := r_api_Point) (v := .slice ad7 p0.Right.length cp8) (xs := p0.Right) (j := w64 ((p0.Right.length : Int) - 1)) 22 35 4 S Tryd.underlying22 rfl rfl hx29
  obtain ⟨q42, hq43, S⟩ := pFld (P := Tryd.prog) (r := r_api_Point) (s2 := (rI .i64)) (g := (·.Y)) (q := q40) (z := x28) 35 1 0 1 S rfl rfl comp_api_Point_Y
  obtain ⟨u44, S⟩ := pLoad (r := (rI .i64)) (q := q42) (x := x28.Y) 0 S rfl
  obtain rfl : u44 = iv x28.Y := S.mem.know (i := 1) (e := fRep (rI .i64) (u44) x28.Y) rfl
  refine sDraw (nf := []) (W := [(0, 3, .pointer (some ⟨b10, 0, none⟩)), (1, 4, .slice ad5 p0.Left.length cp6), (2, 5, .bool r15), (3, 6, .bool (!r15)), (4, 7, .bool (!r15)), (5, 8, .pointer (some ⟨b10, 1, none⟩)), (6, 9, .slice ad7 p0.Right.length cp8), (7, 10, .bool r18), (8, 11, .bool (!r18)), (9, 12, .bool (!r18)), (10, 13, .bool (!r18)), (11, 14, .pointer (some ⟨b10, 0, none⟩)), (12, 15, .slice ad5 p0.Left.length cp6), (13, 16, .pointer (some ⟨b10, 0, none⟩)), (14, 17, .slice ad5 p0.Left.length cp6), (15, 18, iv (p0.Left.length : Int)), (16, 19, iv (w64 ((p0.Left.length : Int) - 1))), (17, 20, q35), (18, 21, q37), (19, 22, iv x21.Y), (20, 23, .pointer (some ⟨b10, 1, none⟩)), (21, 24, .slice ad7 p0.Right.length cp8), (22, 25, .pointer (some ⟨b10, 1, none⟩)), (23, 26, .slice ad7 p0.Right.length cp8), (24, 27, iv (p0.Right.length : Int)), (25, 28, iv (w64 ((p0.Right.length : Int) - 1))), (26, 29, q40), (27, 30, q42), (28, 31, iv x28.Y), (29, 32, .bool (x21.Y != x28.Y)), (30, 33, .bool (x21.Y != x28.Y))]) rfl S ?_
  refine node_by (A := anc_piece_shape_0) (nf := []) (Y := []) (W := [(0, 3, .pointer (some ⟨b10, 0, none⟩)), (1, 4, .slice ad5 p0.Left.length cp6), (2, 5, .bool r15), (3, 6, .bool (!r15)), (4, 7, .bool (!r15)), (5, 8, .pointer (some ⟨b10, 1, none⟩)), (6, 9, .slice ad7 p0.Right.length cp8), (7, 10, .bool r18), (8, 11, .bool (!r18)), (9, 12, .bool (!r18)), (10, 13, .bool (!r18)), (11, 14, .pointer (some ⟨b10, 0, none⟩)), (12, 15, .slice ad5 p0.Left.length cp6), (13, 16, .pointer (some ⟨b10, 0, none⟩)), (14, 17, .slice ad5 p0.Left.length cp6), (15, 18, iv (p0.Left.length : Int)), (16, 19, iv (w64 ((p0.Left.length : Int) - 1))), (17, 20, q35), (18, 21, q37), (19, 22, iv x21.Y), (20, 23, .pointer (some ⟨b10, 1, none⟩)), (21, 24, .slice ad7 p0.Right.length cp8), (22, 25, .pointer (some ⟨b10, 1, none⟩)), (23, 26, .slice ad7 p0.Right.length cp8), (24, 27, iv (p0.Right.length : Int)), (25, 28, iv (w64 ((p0.Right.length : Int) - 1))), (26, 29, q40), (27, 30, q42), (28, 31, iv x28.Y), (29, 32, .bool (x21.Y != x28.Y)), (30, 33, .bool (x21.Y != x28.Y))]) 31 (by kernel_rfl) (by kernel_rfl) (by kernel_rfl) (by kernel_rfl) (by kernel_rfl) [0, 1, 2, 3, 4, 5, 6, 7, 8, 9, 10, 11, 12, 13, 14, 15, 16, 17, 18, 19, 20, 21, 22, 23, 24, 25, 26, 27, 28, 29, 30] (by kernel_rfl) (by decide) (by decide) (aF 0 30 (by decide) ?_ (aF 1 29 (by decide) ?_ (aF 2 28 (by decide) ?_ (aF 3 27 (by decide) ?_ (aF 4 26 (by decide) ?_ (aF 5 25 (by decide) ?_ (aF 6 24 (by decide) ?_ (aF 7 23 (by decide) ?_ (aF 8 22 (by decide) ?_ (aF 9 21 (by decide) ?_ (aF 10 20 (by decide) ?_ (aF 11 19 (by decide) ?_ (aF 12 18 (by decide) ?_ (aF 13 17 (by decide) ?_ (aF 14 16 (by decide) ?_ (aF 15 15 (by decide) ?_ (aF 16 14 (by decide) ?_ (aF 17 13 (by decide) ?_ (aF 18 12 (by decide) ?_ (aF 19 11 (by decide) ?_ (aF 20 10 (by decide) ?_ (aF 21 9 (by decide) ?_ (aF 22 8 (by decide) ?_ (aF 23 7 (by decide) ?_ (aF 24 6 (by decide) ?_ (aF 25 5 (by decide) ?_ (aF 26 4 (by decide) ?_ (aF 27 3 (by decide) ?_ (aF 28 2 (by decide) ?_ (aF 29 1 (by decide) ?_ (aF 30 0 (by decide) ?_ (trivial)))))))))))))))))))))))))))))))) [(33, .bool (x21.Y != x28.Y))] (fin_of [some 30] rfl (by kernel_rfl) (by kernel_rfl)) (fun _ a w S => ?_)
  · refine fI 3 (.pointer (some ⟨b10, 0, none⟩)) [(1, .pointer (some ⟨b10, 0, none⟩))] 0 [none] rfl rfl rfl rfl rfl rfl fun G a w S => ?_
    refine sField (b := b10) (off := 0) 0 0 S (wN rfl) rfl rfl rfl rfl rfl (lb rfl) fun a S => ?_
    exact leafL ⟨rfl, S⟩
  · refine fI 4 (.slice ad5 p0.Left.length cp6) [(3, .pointer (some ⟨b10, 0, none⟩))] 1 [some 0] rfl rfl rfl rfl rfl rfl fun G a w S => ?_
    refine sLoad1 (p := b10) (off := 0) (T := 24) (vs := [.slice ad5 p0.Left.length cp6, .slice ad7 p0.Right.length cp8]) 0 (.slice ad5 p0.Left.length cp6) S (wN rfl) rfl rfl rfl rfl rfl rfl (lb rfl) fun a S => ?_
    exact leafL ⟨rfl, S⟩
  · refine fI 5 (.bool r15) [(4, .slice ad5 p0.Left.length cp6)] 2 [some 1] rfl rfl rfl rfl rfl rfl fun G a w S => ?_
    have S1 := S.mem
    refine sCallQ (X := Unit) (f := 49) (vs := [.slice ad5 p0.Left.length cp6]) (val := fun _ => .bool r15) S (wN rfl) rfl callee49 rfl (S1.quiet [9] rfl) (fun E1 w1 S1 => c_piece_side E1 w1 p0.Left (.slice ad5 p0.Left.length cp6) r15 hx16 S1) rfl (lb rfl) fun _ a w S => ?_
    exact leafL ⟨rfl, S⟩
  · refine fI 6 (.bool (!r15)) [(5, .bool r15)] 3 [some 2] rfl rfl rfl rfl rfl rfl fun G a w S => ?_
    refine sNot (b := r15) S (wN rfl) rfl rfl rfl (lb rfl) fun a S => ?_
    exact leafL ⟨rfl, S⟩
  · refine fI 7 (.bool (!r15)) [(6, .bool (!r15))] 4 [some 3] rfl rfl rfl rfl rfl rfl fun G a w S => ?_
    refine sMove (.bool (!r15)) S (wN rfl) (.inl rfl) rfl rfl (lb rfl) fun a S => ?_
    exact leafL ⟨rfl, S⟩
  · refine fI 8 (.pointer (some ⟨b10, 1, none⟩)) [(1, .pointer (some ⟨b10, 0, none⟩)), (7, .bool (!r15))] 5 [none, some 4] rfl rfl rfl rfl rfl rfl fun G a w S => ?_
    refine sField (b := b10) (off := 0) 1 1 S (wG 4 false 7 rfl rfl rfl hc17) rfl rfl rfl rfl rfl (lb rfl) fun a S => ?_
    exact leafL ⟨rfl, S⟩
  · refine fI 9 (.slice ad7 p0.Right.length cp8) [(8, .pointer (some ⟨b10, 1, none⟩)), (7, .bool (!r15))] 6 [some 5, some 4] rfl rfl rfl rfl rfl rfl fun G a w S => ?_
    refine sLoad1 (p := b10) (off := 1) (T := 24) (vs := [.slice ad5 p0.Left.length cp6, .slice ad7 p0.Right.length cp8]) 0 (.slice ad7 p0.Right.length cp8) S (wG 4 false 7 rfl rfl rfl hc17) rfl rfl rfl rfl rfl rfl (lb rfl) fun a S => ?_
    exact leafL ⟨rfl, S⟩
  · refine fI 10 (.bool r18) [(9, .slice ad7 p0.Right.length cp8), (7, .bool (!r15))] 7 [some 6, some 4] rfl rfl rfl rfl rfl rfl fun G a w S => ?_
    have S1 := S.mem
    refine sCallQ (X := Unit) (f := 49) (vs := [.slice ad7 p0.Right.length cp8]) (val := fun _ => .bool r18) S (wG 4 false 7 rfl rfl rfl hc17) rfl callee49 rfl (S1.quiet [8] rfl) (fun E1 w1 S1 => c_piece_side E1 w1 p0.Right (.slice ad7 p0.Right.length cp8) r18 hx19 S1) rfl (lb rfl) fun _ a w S => ?_
    exact leafL ⟨rfl, S⟩
  · refine fI 11 (.bool (!r18)) [(10, .bool r18), (7, .bool (!r15))] 8 [some 7, some 4] rfl rfl rfl rfl rfl rfl fun G a w S => ?_
    refine sNot (b := r18) S (wG 4 false 7 rfl rfl rfl hc17) rfl rfl rfl (lb rfl) fun a S => ?_
    exact leafL ⟨rfl, S⟩
  · refine fI 12 (.bool (!r18)) [(7, .bool (!r15)), (11, .bool (!r18))] 9 [some 4, some 8] rfl rfl rfl rfl rfl rfl fun G a w S => ?_
    refine sPickF (.bool (!r18)) S (wN rfl) rfl rfl hc17 rfl rfl (lb rfl) fun a S => ?_
    exact leafL ⟨rfl, S⟩
  · refine fI 13 (.bool (!r18)) [(12, .bool (!r18))] 10 [some 9] rfl rfl rfl rfl rfl rfl fun G a w S => ?_
    refine sMove (.bool (!r18)) S (wN rfl) (.inl rfl) rfl rfl (lb rfl) fun a S => ?_
    exact leafL ⟨rfl, S⟩
  · refine fI 14 (.pointer (some ⟨b10, 0, none⟩)) [(1, .pointer (some ⟨b10, 0, none⟩)), (13, .bool (!r18))] 11 [none, some 10] rfl rfl rfl rfl rfl rfl fun G a w S => ?_
    refine sField (b := b10) (off := 0) 0 0 S (wG 10 false 13 rfl rfl rfl hc20) rfl rfl rfl rfl rfl (lb rfl) fun a S => ?_
    exact leafL ⟨rfl, S⟩
  · refine fI 15 (.slice ad5 p0.Left.length cp6) [(14, .pointer (some ⟨b10, 0, none⟩)), (13, .bool (!r18))] 12 [some 11, some 10] rfl rfl rfl rfl rfl rfl fun G a w S => ?_
    refine sLoad1 (p := b10) (off := 0) (T := 24) (vs := [.slice ad5 p0.Left.length cp6, .slice ad7 p0.Right.length cp8]) 0 (.slice ad5 p0.Left.length cp6) S (wG 10 false 13 rfl rfl rfl hc20) rfl rfl rfl rfl rfl rfl (lb rfl) fun a S => ?_
    exact leafL ⟨rfl, S⟩
  · refine fI 16 (.pointer (some ⟨b10, 0, none⟩)) [(1, .pointer (some ⟨b10, 0, none⟩)), (13, .bool (!r18))] 13 [none, some 10] rfl rfl rfl rfl rfl rfl fun G a w S => ?_
    refine sField (b := b10) (off := 0) 0 0 S (wG 10 false 13 rfl rfl rfl hc20) rfl rfl rfl rfl rfl (lb rfl) fun a S => ?_
    exact leafL ⟨rfl, S⟩
  · refine fI 17 (.slice ad5 p0.Left.length cp6) [(16, .pointer (some ⟨b10, 0, none⟩)), (13, .bool (!r18))] 14 [some 13, some 10] rfl rfl rfl rfl rfl rfl fun G a w S => ?_
    refine sLoad1 (p := b10) (off := 0) (T := 24) (vs := [.slice ad5 p0.Left.length cp6, .slice ad7 p0.Right.length cp8]) 0 (.slice ad5 p0.Left.length cp6) S (wG 10 false 13 rfl rfl rfl hc20) rfl rfl rfl rfl rfl rfl (lb rfl) fun a S => ?_
    exact leafL ⟨rfl, S⟩
  · refine fI 18 (iv (p0.Left.length : Int)) [(17, .slice ad5 p0.Left.length cp6), (13, .bool (!r18))] 15 [some 14, some 10] rfl rfl rfl rfl rfl rfl fun G a w S => ?_
    refine sLen (ad := ad5) (m := p0.Left.length) (c := cp6) S (wG 10 false 13 rfl rfl rfl hc20) rfl Tryd.underlying22 rfl rfl (lb rfl) fun a S => ?_
    exact leafL ⟨rfl, S⟩
  · refine fI 19 (iv (w64 ((p0.Left.length : Int) - 1))) [(18, iv (p0.Left.length : Int)), (13, .bool (!r18))] 16 [some 15, some 10] rfl rfl rfl rfl rfl rfl fun G a w S => ?_
    refine sBin (iv (w64 ((p0.Left.length : Int) - 1))) S (wG 10 false 13 rfl rfl rfl hc20) rfl rfl rfl (bSub _ _ _ _ (p0.Left.length : Int) 1) rfl (lb rfl) fun a S => ?_
    exact leafL ⟨rfl, S⟩
  · refine fI 20 q35 [(15, .slice ad5 p0.Left.length cp6), (19, iv (w64 ((p0.Left.length : Int) - 1))), (13, .bool (!r18))] 17 [some 12, some 16, some 10] rfl rfl rfl rfl rfl rfl fun G a w S => ?_
    refine sIdxV (v := .slice ad5 p0.Left.length cp6) (k := .i64) (j := w64 ((p0.Left.length : Int) - 1)) S (wG 10 false 13 rfl rfl rfl hc20) rfl rfl rfl hq36 rfl (lb rfl) fun a S => ?_
    exact leafL ⟨rfl, S⟩
  · refine fI 21 q37 [(20, q35), (13, .bool (!r18))] 18 [some 17, some 10] rfl rfl rfl rfl rfl rfl fun G a w S => ?_
    refine sFldV (q := q35) S (wG 10 false 13 rfl rfl rfl hc20) rfl rfl hq38 rfl (lb rfl) fun a S => ?_
    exact leafL ⟨rfl, S⟩
  · refine fI 22 (iv x21.Y) [(21, q37), (13, .bool (!r18))] 19 [some 18, some 10] rfl rfl rfl rfl rfl rfl fun G a w S => ?_
    refine sLoadV1 (vq := q37) 4 (iv x21.Y) S (wG 10 false 13 rfl rfl rfl hc20) rfl rfl rfl rfl rfl (lb rfl) fun a S => ?_
    exact leafL ⟨rfl, S⟩
  · refine fI 23 (.pointer (some ⟨b10, 1, none⟩)) [(1, .pointer (some ⟨b10, 0, none⟩)), (13, .bool (!r18))] 20 [none, some 10] rfl rfl rfl rfl rfl rfl fun G a w S => ?_
    refine sField (b := b10) (off := 0) 1 1 S (wG 10 false 13 rfl rfl rfl hc20) rfl rfl rfl rfl rfl (lb rfl) fun a S => ?_
    exact leafL ⟨rfl, S⟩
  · refine fI 24 (.slice ad7 p0.Right.length cp8) [(23, .pointer (some ⟨b10, 1, none⟩)), (13, .bool (!r18))] 21 [some 20, some 10] rfl rfl rfl rfl rfl rfl fun G a w S => ?_
    refine sLoad1 (p := b10) (off := 1) (T := 24) (vs := [.slice ad5 p0.Left.length cp6, .slice ad7 p0.Right.length cp8]) 0 (.slice ad7 p0.Right.length cp8) S (wG 10 false 13 rfl rfl rfl hc20) rfl rfl rfl rfl rfl rfl (lb rfl) fun a S => ?_
    exact leafL ⟨rfl, S⟩
  · refine fI 25 (.pointer (some ⟨b10, 1, none⟩)) [(1, .pointer (some ⟨b10, 0, none⟩)), (13, .bool (!r18))] 22 [none, some 10] rfl rfl rfl rfl rfl rfl fun G a w S => ?_
    refine sField (b := b10) (off := 0) 1 1 S (wG 10 false 13 rfl rfl rfl hc20) rfl rfl rfl rfl rfl (lb rfl) fun a S => ?_
    exact leafL ⟨rfl, S⟩
  · refine fI 26 (.slice ad7 p0.Right.length cp8) [(25, .pointer (some ⟨b10, 1, none⟩)), (13, .bool (!r18))] 23 [some 22, some 10] rfl rfl rfl rfl rfl rfl fun G a w S => ?_
    refine sLoad1 (p := b10) (off := 1) (T := 24) (vs := [.slice ad5 p0.Left.length cp6, .slice ad7 p0.Right.length cp8]) 0 (.slice ad7 p0.Right.length cp8) S (wG 10 false 13 rfl rfl rfl hc20) rfl rfl rfl rfl rfl rfl (lb rfl) fun a S => ?_
    exact leafL ⟨rfl, S⟩
  · refine fI 27 (iv (p0.Right.length : Int)) [(26, .slice ad7 p0.Right.length cp8), (13, .bool (!r18))] 24 [some 23, some 10] rfl rfl rfl rfl rfl rfl fun G a w S => ?_
    refine sLen (ad := ad7) (m := p0.Right.length) (c := cp8) S (wG 10 false 13 rfl rfl rfl hc20) rfl Tryd.underlying22 rfl rfl (lb rfl) fun a S => ?_
    exact leafL ⟨rfl, S⟩
  · refine fI 28 (iv (w64 ((p0.Right.length : Int) - 1))) [(27, iv (p0.Right.length : Int)), (13, .bool (!r18))] 25 [some 24, some 10] rfl rfl rfl rfl rfl rfl fun G a w S => ?_
    refine sBin (iv (w64 ((p0.Right.length : Int) - 1))) S (wG 10 false 13 rfl rfl rfl hc20) rfl rfl rfl (bSub _ _ _ _ (p0.Right.length : Int) 1) rfl (lb rfl) fun a S => ?_
    exact leafL ⟨rfl, S⟩
  · refine fI 29 q40 [(24, .slice ad7 p0.Right.length cp8), (28, iv (w64 ((p0.Right.length : Int) - 1))), (13, .bool (!r18))] 26 [some 21, some 25, some 10] rfl rfl rfl rfl rfl rfl fun G a w S => ?_
    refine sIdxV (v := .slice ad7 p0.Right.length cp8) (k := .i64) (j := w64 ((p0.Right.length : Int) - 1)) S (wG 10 false 13 rfl rfl rfl hc20) rfl rfl rfl hq41 rfl (lb rfl) fun a S => ?_
    exact leafL ⟨rfl, S⟩
  · refine fI 30 q42 [(29, q40), (13, .bool (!r18))] 27 [some 26, some 10] rfl rfl rfl rfl rfl rfl fun G a w S => ?_
    refine sFldV (q := q40) S (wG 10 false 13 rfl rfl rfl hc20) rfl rfl hq43 rfl (lb rfl) fun a S => ?_
    exact leafL ⟨rfl, S⟩
  · refine fI 31 (iv x28.Y) [(30, q42), (13, .bool (!r18))] 28 [some 27, some 10] rfl rfl rfl rfl rfl rfl fun G a w S => ?_
    refine sLoadV1 (vq := q42) 0 (iv x28.Y) S (wG 10 false 13 rfl rfl rfl hc20) rfl rfl rfl rfl rfl (lb rfl) fun a S => ?_
    exact leafL ⟨rfl, S⟩
  · refine fI 32 (.bool (x21.Y != x28.Y)) [(22, iv x21.Y), (31, iv x28.Y), (13, .bool (!r18))] 29 [some 19, some 28, some 10] rfl rfl rfl rfl rfl rfl fun G a w S => ?_
    refine sBin (.bool (x21.Y != x28.Y)) S (wG 10 false 13 rfl rfl rfl hc20) rfl rfl rfl (bNe _ _ _ _ .i64 x21.Y x28.Y) rfl (lb rfl) fun a S => ?_
    exact leafL ⟨rfl, S⟩
  · refine fI 33 (.bool (x21.Y != x28.Y)) [(13, .bool (!r18)), (32, .bool (x21.Y != x28.Y))] 30 [some 10, some 29] rfl rfl rfl rfl rfl rfl fun G a w S => ?_
    refine sPickF (.bool (x21.Y != x28.Y)) S (wN rfl) rfl rfl hc20 rfl rfl (lb rfl) fun a S => ?_
    exact leafL ⟨rfl, S⟩
  exact leafT (⟨x21.Y != x28.Y, Option.some.inj h, S.fix [] [] (by decide) rfl rfl rfl⟩)

end Go.Proofs.YtmedbnjhgkcndaaDoor
namespace Go.Proofs.YtmedbnjhgkcndaaDoor
open Go.RowKit
set_option linter.unusedVariables false

noncomputable def F_slope_within (p0 : Int) (p1 : Int) (p2 : Int) : Option Bool :=
  Option.bind (α := Bool) (
    if decide (p1 ≤ p0) then
      some (decide (p0 ≤ p2))
    else
      some false) fun o2 =>
  some o2
set_option maxHeartbeats 4000000 in
set_option maxRecDepth 100000 in
theorem c_slope_within (E : Nat → Prop) (w0 : World) (p0 : Int) (p1 : Int) (p2 : Int) (r : Bool) (h : F_slope_within p0 p1 p2 = some r) (S : St0 E [] w0 w0 [] []) :
    Calls Tryd.prog 75 #[iv p0, iv p1, iv p2] w0 (Ret (X := Unit) E [] w0 (fun _ => .bool r) (fun _ => []) (fun _ => [])) := by
  unfold F_slope_within at h
  refine sEnter (args := [iv p0, iv p1, iv p2]) 15 Tryd.func75 rfl rfl (by simp) S (fun a S => ?_)
  refine sSeq (fun K1 hK1 => ?_)
  refine sRegion ?_
  refine sMove (.bool false) S (wN rfl) (.inr rfl) rfl rfl (lb rfl) fun a S => ?_
  refine leafL (leafT (hK1 _ _ ?_))
  obtain ⟨t3, h, g4⟩ := bindSome h
  refine sCut (fun a w => ∃ o2, o2 = t3 ∧ St [] E [] w0 15 a w [(6, .bool o2)] [] []) ?_ (fun a w hI => ?_)
  rotate_left
  · obtain ⟨o2, rfl, S⟩ := hI
    have h := g4
    clear g4
    try dsimp only at h
    obtain rfl := Option.some.inj h
    exact wp_ret (sRet (.bool o2) S (rsl1 rfl (rvT (t := 6) (v := .bool o2) S rfl)) ⟨(), rfl, S.mem.sel [] [] (by decide) rfl rfl⟩)
  refine sRegion ?_
  refine sMove (iv p0) S (wN rfl) (.inl rfl) rfl rfl (lb rfl) fun a S => ?_
  refine sMove (iv p1) S (wN rfl) (.inl rfl) rfl rfl (lb rfl) fun a S => ?_
  refine sBin (.bool (decide (p1 ≤ p0))) S (wN rfl) rfl rfl rfl (bGe _ _ _ _ .i64 p0 p1) rfl (lb rfl) fun a S => ?_
  refine sMove (.bool (decide (p1 ≤ p0))) S (wN rfl) (.inl rfl) rfl rfl (lb rfl) fun a S => ?_
  rcases iteSome h with ⟨hc5, h⟩ | ⟨hc5, h⟩
  rotate_left
  · refine sSkip 3 true 10 11 S rfl rfl rfl hc5 rfl (lb rfl) fun a S => ?_
    refine sSkip 3 true 10 12 S rfl rfl rfl hc5 rfl (lb rfl) fun a S => ?_
    refine sSkip 3 true 10 13 S rfl rfl rfl hc5 rfl (lb rfl) fun a S => ?_
    refine sPickF (.bool false) S (wN rfl) rfl rfl hc5 rfl rfl (lb rfl) fun a S => ?_
    refine sMove (.bool false) S (wN rfl) (.inr rfl) rfl rfl (lb rfl) fun a S => ?_
    exact leafL (leafT (⟨false, Option.some.inj h, S.fix [] [] (by decide) rfl rfl rfl⟩))
  refine sMove (iv p0) S (wG 3 true 10 rfl rfl rfl hc5) (.inl rfl) rfl rfl (lb rfl) fun a S => ?_
  refine sMove (iv p2) S (wG 3 true 10 rfl rfl rfl hc5) (.inl rfl) rfl rfl (lb rfl) fun a S => ?_
  refine sBin (.bool (decide (p0 ≤ p2))) S (wG 3 true 10 rfl rfl rfl hc5) rfl rfl rfl (bLe _ _ _ _ .i64 p0 p2) rfl (lb rfl) fun a S => ?_
  refine sPickT (.bool (decide (p0 ≤ p2))) S (wN rfl) rfl rfl hc5 rfl rfl (lb rfl) fun a S => ?_
  refine sMove (.bool (decide (p0 ≤ p2))) S (wN rfl) (.inr rfl) rfl rfl (lb rfl) fun a S => ?_
  exact leafL (leafT (⟨decide (p0 ≤ p2), Option.some.inj h, S.fix [] [] (by decide) rfl rfl rfl⟩))

end Go.Proofs.YtmedbnjhgkcndaaDoor
namespace Go.Proofs.YtmedbnjhgkcndaaDoor
open Go.RowKit
set_option linter.unusedVariables false

noncomputable def F_slope_check (p0 : Int) (p1 : Int) (p2 : Int) : Option Int :=
  Option.bind (α := Bool) (
    Option.bind (F_slope_within p0 (-1000) 1000) fun r6 =>
    if !r6 then
      some true
    else
      Option.bind (F_slope_within p1 (-1000) 1000) fun r9 =>
      if !r9 then
        some true
      else
        Option.bind (F_slope_within p2 1 1000) fun r12 =>
        some (!r12)) fun o3 =>
  if o3 then
    some 2
  else
    some 0
set_option maxHeartbeats 4000000 in
set_option maxRecDepth 100000 in
theorem c_slope_check (E : Nat → Prop) (w0 : World) (p0 : Int) (p1 : Int) (p2 : Int) (r : Int) (h : F_slope_check p0 p1 p2 = some r) (S : St0 E [] w0 w0 [] []) :
    Calls Tryd.prog 63 #[iv p0, iv p1, iv p2] w0 (Ret (X := Unit) E [] w0 (fun _ => .int .i64 r) (fun _ => []) (fun _ => [])) := by
  unfold F_slope_check at h
  refine sEnter (args := [iv p0, iv p1, iv p2]) 20 Tryd.func63 rfl rfl (by simp) S (fun a S => ?_)
  refine sSeq (fun K1 hK1 => ?_)
  refine sRegion ?_
  refine sMove (iv 0) S (wN rfl) (.inr rfl) rfl rfl (lb rfl) fun a S => ?_
  refine leafL (leafT (hK1 _ _ ?_))
  refine sSeq (fun K2 hK2 => ?_)
  obtain ⟨t4, h, g5⟩ := bindSome h
  refine sCut (fun a w => ∃ o3, o3 = t4 ∧ St [] E [] w0 20 a w [(19, .bool o3)] [] []) ?_ (fun a w hI => ?_)
  rotate_left
  · obtain ⟨o3, rfl, S⟩ := hI
    have h := g5
    clear g5
    try dsimp only at h
    rcases iteSome h with ⟨hc14, h⟩ | ⟨hc14, h⟩
    · refine sCondT S rfl hc14 ?_
      refine sSeq (fun K15 hK15 => ?_)
      refine sRegion ?_
      refine sMove (iv 2) S (wN rfl) (.inr rfl) rfl rfl (lb rfl) fun a S => ?_
      refine leafL (leafT (hK15 _ _ ?_))
      obtain rfl := Option.some.inj h
      exact wp_ret (rThen (sRet (iv 2) S (rsl1 rfl (rvT (t := 6) (v := iv 2) S rfl)) ⟨(), rfl, S.mem.sel [] [] (by decide) rfl rfl⟩))
    refine sCondF S rfl hc14 ?_
    refine wp_skip (leafT (hK2 _ _ ?_))
    refine sSeq (fun K16 hK16 => ?_)
    refine sRegion ?_
    refine sMove (iv 0) S (wN rfl) (.inr rfl) rfl rfl (lb rfl) fun a S => ?_
    refine leafL (leafT (hK16 _ _ ?_))
    obtain rfl := Option.some.inj h
    exact wp_ret (sRet (iv 0) S (rsl1 rfl (rvT (t := 6) (v := iv 0) S rfl)) ⟨(), rfl, S.mem.sel [] [] (by decide) rfl rfl⟩)
  refine sRegion ?_
  refine sMove (iv p0) S (wN rfl) (.inl rfl) rfl rfl (lb rfl) fun a S => ?_
  obtain ⟨r6, hx7, h⟩ := bindSome h
  have S1 := S.mem
  refine sCallQ (X := Unit) (f := 75) (vs := [iv p0, iv (-1000), iv 1000]) (val := fun _ => .bool r6) S (wN rfl) rfl callee75 rfl (S1.quiet [] rfl) (fun E1 w1 S1 => c_slope_within E1 w1 p0 (-1000) 1000 r6 hx7 S1) rfl (lb rfl) fun _ a w S => ?_
  refine sNot (b := r6) S (wN rfl) rfl rfl rfl (lb rfl) fun a S => ?_
  refine sMove (.bool (!r6)) S (wN rfl) (.inl rfl) rfl rfl (lb rfl) fun a S => ?_
  rcases iteSome h with ⟨hc8, h⟩ | ⟨hc8, h⟩
  · refine sSkip 3 false 10 11 S rfl rfl rfl hc8 rfl (lb rfl) fun a S => ?_
    refine sSkip 3 false 10 12 S rfl rfl rfl hc8 rfl (lb rfl) fun a S => ?_
    refine sSkip 3 false 10 13 S rfl rfl rfl hc8 rfl (lb rfl) fun a S => ?_
    refine sPickT (.bool true) S (wN rfl) rfl rfl hc8 rfl rfl (lb rfl) fun a S => ?_
    refine sMove (.bool true) S (wN rfl) (.inl rfl) rfl rfl (lb rfl) fun a S => ?_
    refine sSkip 8 false 15 16 S rfl rfl rfl rfl rfl (lb rfl) fun a S => ?_
    refine sSkip 8 false 15 17 S rfl rfl rfl rfl rfl (lb rfl) fun a S => ?_
    refine sSkip 8 false 15 18 S rfl rfl rfl rfl rfl (lb rfl) fun a S => ?_
    refine sPickT (.bool true) S (wN rfl) rfl rfl rfl rfl rfl (lb rfl) fun a S => ?_
    exact leafL (leafT (⟨true, Option.some.inj h, S.fix [] [] (by decide) rfl rfl rfl⟩))
  refine sMove (iv p1) S (wG 3 false 10 rfl rfl rfl hc8) (.inl rfl) rfl rfl (lb rfl) fun a S => ?_
  obtain ⟨r9, hx10, h⟩ := bindSome h
  have S1 := S.mem
  refine sCallQ (X := Unit) (f := 75) (vs := [iv p1, iv (-1000), iv 1000]) (val := fun _ => .bool r9) S (wG 3 false 10 rfl rfl rfl hc8) rfl callee75 rfl (S1.quiet [] rfl) (fun E1 w1 S1 => c_slope_within E1 w1 p1 (-1000) 1000 r9 hx10 S1) rfl (lb rfl) fun _ a w S => ?_
  refine sNot (b := r9) S (wG 3 false 10 rfl rfl rfl hc8) rfl rfl rfl (lb rfl) fun a S => ?_
  refine sPickF (.bool (!r9)) S (wN rfl) rfl rfl hc8 rfl rfl (lb rfl) fun a S => ?_
  refine sMove (.bool (!r9)) S (wN rfl) (.inl rfl) rfl rfl (lb rfl) fun a S => ?_
  rcases iteSome h with ⟨hc11, h⟩ | ⟨hc11, h⟩
  · refine sSkip 8 false 15 16 S rfl rfl rfl hc11 rfl (lb rfl) fun a S => ?_
    refine sSkip 8 false 15 17 S rfl rfl rfl hc11 rfl (lb rfl) fun a S => ?_
    refine sSkip 8 false 15 18 S rfl rfl rfl hc11 rfl (lb rfl) fun a S => ?_
    refine sPickT (.bool true) S (wN rfl) rfl rfl hc11 rfl rfl (lb rfl) fun a S => ?_
    exact leafL (leafT (⟨true, Option.some.inj h, S.fix [] [] (by decide) rfl rfl rfl⟩))
  refine sMove (iv p2) S (wG 8 false 15 rfl rfl rfl hc11) (.inl rfl) rfl rfl (lb rfl) fun a S => ?_
  obtain ⟨r12, hx13, h⟩ := bindSome h
  have S1 := S.mem
  refine sCallQ (X := Unit) (f := 75) (vs := [iv p2, iv 1, iv 1000]) (val := fun _ => .bool r12) S (wG 8 false 15 rfl rfl rfl hc11) rfl callee75 rfl (S1.quiet [] rfl) (fun E1 w1 S1 => c_slope_within E1 w1 p2 1 1000 r12 hx13 S1) rfl (lb rfl) fun _ a w S => ?_
  refine sNot (b := r12) S (wG 8 false 15 rfl rfl rfl hc11) rfl rfl rfl (lb rfl) fun a S => ?_
  refine sPickF (.bool (!r12)) S (wN rfl) rfl rfl hc11 rfl rfl (lb rfl) fun a S => ?_
  exact leafL (leafT (⟨!r12, Option.some.inj h, S.fix [] [] (by decide) rfl rfl rfl⟩))

end Go.Proofs.YtmedbnjhgkcndaaDoor
namespace Go.Proofs.YtmedbnjhgkcndaaDoor
open Go.RowKit
set_option linter.unusedVariables false

noncomputable def F_slope_at (p0 : Int) (p1 : Int) (p2 : Int) (p3 : Int) : Option Int :=
  Option.bind (quoI (w64 ((w64 (2 * (w64 ((w64 ((w64 (p0 + 1000)) * (w64 (p2 - p3)))) + (w64 ((w64 (p1 + 1000)) * p3)))))) + p2)) (w64 (2 * p2))) fun z4 =>
  some (w64 (z4 - 1000))
set_option maxHeartbeats 4000000 in
set_option maxRecDepth 100000 in
theorem c_slope_at (E : Nat → Prop) (w0 : World) (p0 : Int) (p1 : Int) (p2 : Int) (p3 : Int) (r : Int) (h : F_slope_at p0 p1 p2 p3 = some r) (S : St0 E [] w0 w0 [] []) :
    Calls Tryd.prog 66 #[iv p0, iv p1, iv p2, iv p3] w0 (Ret (X := Unit) E [] w0 (fun _ => .int .i64 r) (fun _ => []) (fun _ => [])) := by
  unfold F_slope_at at h
  refine sEnter (args := [iv p0, iv p1, iv p2, iv p3]) 31 Tryd.func66 rfl rfl (by simp) S (fun a S => ?_)
  refine sSeq (fun K1 hK1 => ?_)
  refine sRegion ?_
  refine sMove (iv 0) S (wN rfl) (.inr rfl) rfl rfl (lb rfl) fun a S => ?_
  refine leafL (leafT (hK1 _ _ ?_))
  refine sSeq (fun K2 hK2 => ?_)
  refine sRegion ?_
  refine sMove (iv p0) S (wN rfl) (.inl rfl) rfl rfl (lb rfl) fun a S => ?_
  refine sBin (iv (w64 (p0 + 1000))) S (wN rfl) rfl rfl rfl (bAdd _ _ _ _ p0 1000) rfl (lb rfl) fun a S => ?_
  refine sMove (iv p1) S (wN rfl) (.inl rfl) rfl rfl (lb rfl) fun a S => ?_
  refine sBin (iv (w64 (p1 + 1000))) S (wN rfl) rfl rfl rfl (bAdd _ _ _ _ p1 1000) rfl (lb rfl) fun a S => ?_
  refine sMove (iv (w64 (p0 + 1000))) S (wN rfl) (.inr rfl) rfl rfl (lb rfl) fun a S => ?_
  refine sMove (iv (w64 (p1 + 1000))) S (wN rfl) (.inr rfl) rfl rfl (lb rfl) fun a S => ?_
  refine leafL (leafT (hK2 _ _ ?_))
  refine sSeq (fun K3 hK3 => ?_)
  refine sRegion ?_
  refine sMove (iv (w64 (p0 + 1000))) S (wN rfl) (.inl rfl) rfl rfl (lb rfl) fun a S => ?_
  refine sMove (iv p2) S (wN rfl) (.inl rfl) rfl rfl (lb rfl) fun a S => ?_
  refine sMove (iv p3) S (wN rfl) (.inl rfl) rfl rfl (lb rfl) fun a S => ?_
  refine sBin (iv (w64 (p2 - p3))) S (wN rfl) rfl rfl rfl (bSub _ _ _ _ p2 p3) rfl (lb rfl) fun a S => ?_
  refine sBin (iv (w64 ((w64 (p0 + 1000)) * (w64 (p2 - p3))))) S (wN rfl) rfl rfl rfl (bMul _ _ _ _ (w64 (p0 + 1000)) (w64 (p2 - p3))) rfl (lb rfl) fun a S => ?_
  refine sMove (iv (w64 (p1 + 1000))) S (wN rfl) (.inl rfl) rfl rfl (lb rfl) fun a S => ?_
  refine sMove (iv p3) S (wN rfl) (.inl rfl) rfl rfl (lb rfl) fun a S => ?_
  refine sBin (iv (w64 ((w64 (p1 + 1000)) * p3))) S (wN rfl) rfl rfl rfl (bMul _ _ _ _ (w64 (p1 + 1000)) p3) rfl (lb rfl) fun a S => ?_
  refine sBin (iv (w64 ((w64 ((w64 (p0 + 1000)) * (w64 (p2 - p3)))) + (w64 ((w64 (p1 + 1000)) * p3))))) S (wN rfl) rfl rfl rfl (bAdd _ _ _ _ (w64 ((w64 (p0 + 1000)) * (w64 (p2 - p3)))) (w64 ((w64 (p1 + 1000)) * p3))) rfl (lb rfl) fun a S => ?_
  refine sBin (iv (w64 (2 * (w64 ((w64 ((w64 (p0 + 1000)) * (w64 (p2 - p3)))) + (w64 ((w64 (p1 + 1000)) * p3))))))) S (wN rfl) rfl rfl rfl (bMul _ _ _ _ 2 (w64 ((w64 ((w64 (p0 + 1000)) * (w64 (p2 - p3)))) + (w64 ((w64 (p1 + 1000)) * p3))))) rfl (lb rfl) fun a S => ?_
  refine sMove (iv p2) S (wN rfl) (.inl rfl) rfl rfl (lb rfl) fun a S => ?_
  refine sBin (iv (w64 ((w64 (2 * (w64 ((w64 ((w64 (p0 + 1000)) * (w64 (p2 - p3)))) + (w64 ((w64 (p1 + 1000)) * p3)))))) + p2))) S (wN rfl) rfl rfl rfl (bAdd _ _ _ _ (w64 (2 * (w64 ((w64 ((w64 (p0 + 1000)) * (w64 (p2 - p3)))) + (w64 ((w64 (p1 + 1000)) * p3)))))) p2) rfl (lb rfl) fun a S => ?_
  refine sMove (iv p2) S (wN rfl) (.inl rfl) rfl rfl (lb rfl) fun a S => ?_
  refine sBin (iv (w64 (2 * p2))) S (wN rfl) rfl rfl rfl (bMul _ _ _ _ 2 p2) rfl (lb rfl) fun a S => ?_
  obtain ⟨z4, hx5, h⟩ := bindSome h
  refine sBin (iv z4) S (wN rfl) rfl rfl rfl (bQuo _ _ _ _ (x := w64 ((w64 (2 * (w64 ((w64 ((w64 (p0 + 1000)) * (w64 (p2 - p3)))) + (w64 ((w64 (p1 + 1000)) * p3)))))) + p2)) (y := w64 (2 * p2)) hx5) rfl (lb rfl) fun a S => ?_
  refine sBin (iv (w64 (z4 - 1000))) S (wN rfl) rfl rfl rfl (bSub _ _ _ _ z4 1000) rfl (lb rfl) fun a S => ?_
  refine sMove (iv (w64 (z4 - 1000))) S (wN rfl) (.inr rfl) rfl rfl (lb rfl) fun a S => ?_
  refine leafL (leafT (hK3 _ _ ?_))
  obtain rfl := Option.some.inj h
  exact wp_ret (sRet (iv (w64 (z4 - 1000))) S (rsl1 rfl (rvT (t := 8) (v := iv (w64 (z4 - 1000))) S rfl)) ⟨(), rfl, S.mem.sel [] [] (by decide) rfl rfl⟩)

end Go.Proofs.YtmedbnjhgkcndaaDoor
namespace Go.Proofs.YtmedbnjhgkcndaaDoor
open Go.RowKit
set_option linter.unusedVariables false

noncomputable def F_slope_Line_1_s0 (p0 : Int) (p1 : Int) (p2 : Int) (p3 : Int) : Option Int :=
  Option.bind (F_slope_at p1 p2 p3 p0) fun r6 =>
  some r6
set_option maxHeartbeats 4000000 in
set_option maxRecDepth 100000 in
theorem c_slope_Line_1_s0 (E : Nat → Prop) (w0 : World) (p0 : Int) (p1 : Int) (v1 : Value) (p2 : Int) (v2 : Value) (p3 : Int) (v3 : Value) (r : Int) (h : F_slope_Line_1_s0 p0 p1 p2 p3 = some r) (S : St0 E [] w0 w0 [] [fPtr (rI .i64) (v1) p1, fPtr (rI .i64) (v2) p2, fPtr (rI .i64) (v3) p3]) :
    Calls Tryd.prog 65 #[iv p0, v1, v2, v3] w0 (Ret (X := Unit) E [] w0 (fun _ => .int .i64 r) (fun _ => []) (fun _ => [])) := by
  unfold F_slope_Line_1_s0 at h
  refine sEnter (args := [iv p0, v1, v2, v3]) 11 Tryd.func65 rfl rfl (by simp) S (fun a S => ?_)
  refine sSeq (fun K1 hK1 => ?_)
  refine sRegion ?_
  refine sMove (iv 0) S (wN rfl) (.inr rfl) rfl rfl (lb rfl) fun a S => ?_
  refine leafL (leafT (hK1 _ _ ?_))
  refine sSeq (fun K2 hK2 => ?_)
  refine sRegion ?_
  obtain ⟨u3, S⟩ := pLoad (r := (rI .i64)) (q := v1) (x := p1) 0 S rfl
  obtain rfl : u3 = iv p1 := S.mem.know (i := 1) (e := fRep (rI .i64) (u3) p1) rfl
  refine sLoadV1 (vq := v1) 0 (iv p1) S (wN rfl) rfl rfl rfl rfl rfl (lb rfl) fun a S => ?_
  obtain ⟨u4, S⟩ := pLoad (r := (rI .i64)) (q := v2) (x := p2) 3 S rfl
  obtain rfl : u4 = iv p2 := S.mem.know (i := 1) (e := fRep (rI .i64) (u4) p2) rfl
  refine sLoadV1 (vq := v2) 0 (iv p2) S (wN rfl) rfl rfl rfl rfl rfl (lb rfl) fun a S => ?_
  obtain ⟨u5, S⟩ := pLoad (r := (rI .i64)) (q := v3) (x := p3) 6 S rfl
  obtain rfl : u5 = iv p3 := S.mem.know (i := 1) (e := fRep (rI .i64) (u5) p3) rfl
  refine sLoadV1 (vq := v3) 0 (iv p3) S (wN rfl) rfl rfl rfl rfl rfl (lb rfl) fun a S => ?_
  refine sMove (iv p0) S (wN rfl) (.inl rfl) rfl rfl (lb rfl) fun a S => ?_
  obtain ⟨r6, hx7, h⟩ := bindSome h
  have S1 := S.mem
  refine sCallQ (X := Unit) (f := 66) (vs := [iv p1, iv p2, iv p3, iv p0]) (val := fun _ => iv r6) S (wN rfl) rfl callee66 rfl (S1.quiet [] rfl) (fun E1 w1 S1 => c_slope_at E1 w1 p1 p2 p3 p0 r6 hx7 S1) rfl (lb rfl) fun _ a w S => ?_
  refine sMove (iv r6) S (wN rfl) (.inr rfl) rfl rfl (lb rfl) fun a S => ?_
  refine leafL (leafT (hK2 _ _ ?_))
  obtain rfl := Option.some.inj h
  exact wp_ret (sRet (iv r6) S (rsl1 rfl (rvT (t := 5) (v := iv r6) S rfl)) ⟨(), rfl, S.mem.sel [] [] (by decide) rfl rfl⟩)

end Go.Proofs.YtmedbnjhgkcndaaDoor
namespace Go.Proofs.YtmedbnjhgkcndaaDoor
open Go.RowKit
set_option linter.unusedVariables false

noncomputable def slope_list_int__s0_l1 (p0 : Int) (p1 : Int) (p2 : Int) (p3 : Int) : (List Int × Int) → Option ((List Int × Int) ⊕ List Int) := fun s0 => match s0 with
  | (s13, s16) =>
    if decide (s16 < p0) then
      Option.bind (F_slope_Line_1_s0 s16 p1 p2 p3) fun r28 =>
      Option.bind (idxO s13 s16) fun x30 =>
      Option.bind (setO s13 s16 r28) fun l35 =>
      some (.inl (l35, w64 (s16 + 1)))
    else
      some (.inr s13)
noncomputable def F_slope_list_int__s0 (p0 : Int) (p1 : Int) (p2 : Int) (p3 : Int) : Option (List Int) :=
  Option.bind (makeO p0 (0 : Int)) fun m5 =>
  Option.bind (α := List Int) (
    Option.bind (whileO (slope_list_int__s0_l1 p0 p1 p2 p3) (m5, 0)) fun e20 =>
      some e20) fun o7 =>
  some o7
def c_slope_list_int__s0_val (r : (List Int)) (x : Value) : Value := x
def c_slope_list_int__s0_D (r : (List Int)) (x : Value) : List Fact := [fRep (rL (rI .i64)) x r]
set_option maxHeartbeats 4000000 in
set_option maxRecDepth 100000 in
theorem c_slope_list_int__s0 (E : Nat → Prop) (w0 : World) (p0 : Int) (p1 : Int) (v1 : Value) (p2 : Int) (v2 : Value) (p3 : Int) (v3 : Value) (r : (List Int)) (h : F_slope_list_int__s0 p0 p1 p2 p3 = some r) (S : St0 E [] w0 w0 [] [fPtr (rI .i64) (v1) p1, fPtr (rI .i64) (v2) p2, fPtr (rI .i64) (v3) p3]) :
    Calls Tryd.prog 64 #[iv p0, .func (.func 65) #[] #[v1, v2, v3]] w0 (Ret (X := Value) E [] w0 (c_slope_list_int__s0_val r) (fun _ => []) (c_slope_list_int__s0_D r)) := by
  unfold F_slope_list_int__s0 at h
  refine sEnter (args := [iv p0, .func (.func 65) #[] #[v1, v2, v3]]) 21 Tryd.func64 rfl rfl (by simp) S (fun a S => ?_)
  refine sSeq (fun K1 hK1 => ?_)
  refine sRegion ?_
  refine sMove (.slice none 0 0) S (wN rfl) (.inr rfl) rfl rfl (lb rfl) fun a S => ?_
  refine leafL (leafT (hK1 _ _ ?_))
  refine sSeq (fun K2 hK2 => ?_)
  refine sRegion ?_
  refine sMove (iv p0) S (wN rfl) (.inl rfl) rfl rfl (lb rfl) fun a S => ?_
  obtain ⟨m5, hx6, h⟩ := bindSome h
  refine sMake (r := (rI .i64)) (m := p0) (xs := m5) (iv 0) (0 : Int) 8 S (wN rfl) rfl Tryd.underlying28 rfl rfl (by decide) (fun _ _ => rfl) rfl rfl hx6 rfl (lb rfl) fun a w ad3 cp4 S => ?_
  refine sMove (.slice ad3 m5.length cp4) S (wN rfl) (.inr rfl) rfl rfl (lb rfl) fun a S => ?_
  refine leafL (leafT (hK2 _ _ ?_))
  obtain ⟨t10, h, g11⟩ := bindSome h
  refine sCut (fun a w => ∃ o7, o7 = t10 ∧ ∃ ad8, ∃ cp9, St [] E [] w0 21 a w [(5, .slice ad8 o7.length cp9)] [eRow (rI .i64) 3 (.slice ad8 o7.length cp9) o7] []) ?_ (fun a w hI => ?_)
  rotate_left
  · obtain ⟨o7, rfl, ad8, cp9, S⟩ := hI
    have h := g11
    clear g11
    try dsimp only at h
    refine sSeq (fun K37 hK37 => ?_)
    refine sRegion ?_
    refine sMove (.slice ad8 o7.length cp9) S (wN rfl) (.inl rfl) rfl rfl (lb rfl) fun a S => ?_
    refine sMove (.slice ad8 o7.length cp9) S (wN rfl) (.inr rfl) rfl rfl (lb rfl) fun a S => ?_
    refine leafL (leafT (hK37 _ _ ?_))
    obtain rfl := Option.some.inj h
    have S := S.shutR (r := (rI .i64)) (T := 3) (v := .slice ad8 o7.length cp9) (xs := o7) 0 rfl
    exact wp_ret (sRet (.slice ad8 o7.length cp9) S (rsl1 rfl (rvT (t := 4) (v := .slice ad8 o7.length cp9) S rfl)) ⟨(.slice ad8 o7.length cp9), rfl, S.mem.sel [] [0] (by decide) rfl rfl⟩)
  refine sSeq (fun K12 hK12 => ?_)
  refine sRegion ?_
  refine sMove (iv p0) S (wN rfl) (.inl rfl) rfl rfl (lb rfl) fun a S => ?_
  refine sMove (iv 0) S (wN rfl) (.inl rfl) rfl rfl (lb rfl) fun a S => ?_
  refine leafL (leafT (hK12 _ _ ?_))
  refine wp_block ?_
  obtain ⟨t19, hl, g18⟩ := bindSome h
  refine sLoop hl (fun s0 a w => match s0 with | (s13, s16) => ∃ ad14, ∃ cp15, St [] E [] w0 21 a w [(1, .func (.func 65) #[] #[v1, v2, v3]), (5, .slice ad14 s13.length cp15), (9, iv p0), (10, iv s16)] [eRow (rI .i64) 3 (.slice ad14 s13.length cp15) s13] [fPtr (rI .i64) (v1) p1, fPtr (rI .i64) (v2) p2, fPtr (rI .i64) (v3) p3]) ⟨ad3, cp4, S.fix [0] [0, 1, 2] (by decide) rfl rfl rfl⟩ ?_
  clear hl h
  intro s0 a w c0 hI h hu17
  obtain ⟨s13, s16⟩ := s0
  unfold slope_list_int__s0_l1 at h
  dsimp only at h hI
  obtain ⟨ad14, cp15, S⟩ := hI
  refine sSeq (fun K23 hK23 => ?_)
  refine sRegion ?_
  refine sBin (.bool (decide (s16 < p0))) S (wN rfl) rfl rfl rfl (bLt _ _ _ _ .i64 s16 p0) rfl (lb rfl) fun a S => ?_
  refine leafL (leafT (hK23 _ _ ?_))
  refine sSeq (fun K24 hK24 => ?_)
  rcases iteSome h with ⟨hc25, h⟩ | ⟨hc25, h⟩
  rotate_left
  · refine sCondF S rfl hc25 ?_
    obtain rfl := Option.some.inj h
    obtain rfl := hu17 _ rfl
    have h := g18
    clear g18
    try dsimp only at h
    exact wp_exit (xThen (xThen (xHit (leafT (⟨s13, Option.some.inj h, ad14, cp15, S.fix [0] [] (by decide) rfl rfl rfl⟩)))))
  refine sCondT S rfl hc25 ?_
  refine wp_skip (leafT (hK24 _ _ ?_))
  refine sSeq (fun K26 hK26 => ?_)
  refine wp_block ?_
  refine sSeq (fun K27 hK27 => ?_)
  refine sRegion ?_
  refine sMove (iv s16) S (wN rfl) (.inl rfl) rfl rfl (lb rfl) fun a S => ?_
  refine sMove (iv s16) S (wN rfl) (.inr rfl) rfl rfl (lb rfl) fun a S => ?_
  refine leafL (leafT (hK27 _ _ ?_))
  refine sRegion ?_
  refine sMove (.slice ad14 s13.length cp15) S (wN rfl) (.inl rfl) rfl rfl (lb rfl) fun a S => ?_
  refine sMove (iv s16) S (wN rfl) (.inl rfl) rfl rfl (lb rfl) fun a S => ?_
  refine sMove (.func (.func 65) #[] #[v1, v2, v3]) S (wN rfl) (.inl rfl) rfl rfl (lb rfl) fun a S => ?_
  refine sMove (iv s16) S (wN rfl) (.inl rfl) rfl rfl (lb rfl) fun a S => ?_
  obtain ⟨r28, hx29, h⟩ := bindSome h
  have S1 := S.mem
  refine sCallVQ (X := Unit) (g := 65) (vs := [iv s16]) (caps := [v1, v2, v3]) (val := fun _ => iv r28) S (wN rfl) rfl rfl callee65 rfl (S1.quiet [0, 1, 2] rfl) (fun E1 w1 S1 => c_slope_Line_1_s0 E1 w1 s16 p1 v1 p2 v2 p3 v3 r28 hx29 S1) rfl (lb rfl) fun _ a w S => ?_
  obtain ⟨x30, hx31, h⟩ := bindSome h
  obtain ⟨q32, hq33, hp34⟩ := pIdxR (P := Tryd.prog) (r := (rI .i64)) (T := 3) (v := .slice ad14 s13.length cp15) (xs := s13) (j := s16) 28 3 0 S Tryd.underlying28 rfl rfl hx31
  refine sIdxV (v := .slice ad14 s13.length cp15) (k := .i64) (j := s16) S (wN rfl) rfl rfl rfl hq33 rfl (lb rfl) fun a S => ?_
  obtain ⟨l35, hx36, h⟩ := bindSome h
  refine sStoreR (r := (rI .i64)) (T := 3) (xs := s13) (ys := l35) (y := r28) (v := .slice ad14 s13.length cp15) (vq := q32) (u := iv r28) (j := s16) 0 S hp34 (wN rfl) rfl rfl rfl rfl rfl hx36 rfl rfl fun a w S => ?_
  rw [setO_v hx36 ad14 cp15] at S
  refine leafL (leafB (leafT (hK26 _ _ ?_)))
  refine sRegion ?_
  refine sBin (iv (w64 (s16 + 1))) S (wN rfl) rfl rfl rfl (bAdd _ _ _ _ s16 1) rfl (lb rfl) fun a S => ?_
  refine sMove (iv (w64 (s16 + 1))) S (wN rfl) (.inl rfl) rfl rfl (lb rfl) fun a S => ?_
  exact leafL (leafT (⟨(l35, w64 (s16 + 1)), (Option.some.inj h).symm, ⟨ad14, cp15, S.fix [0] [0, 1, 2] (by decide) rfl rfl rfl⟩⟩))

end Go.Proofs.YtmedbnjhgkcndaaDoor
namespace Go.Proofs.YtmedbnjhgkcndaaDoor
open Go.RowKit
set_option linter.unusedVariables false

noncomputable def F_slope_Line (p0 : Int) (p1 : Int) (p2 : Int) : Option ((List Int) × Int) :=
  Option.bind (F_slope_check p0 p1 p2) fun r7 =>
  if r7 != 0 then
    some (([] : (List Int)), r7)
  else
    Option.bind (F_slope_list_int__s0 (w64 (p2 + 1)) p0 p1 p2) fun r13 =>
    some (r13, 0)
def c_slope_Line_val (r : ((List Int) × Int)) (x : Value) : Value := .tuple #[x, .int .i64 r.2]
def c_slope_Line_D (r : ((List Int) × Int)) (x : Value) : List Fact := [fRep (rL (rI .i64)) x r.1]
set_option maxHeartbeats 4000000 in
set_option maxRecDepth 100000 in
theorem c_slope_Line (E : Nat → Prop) (w0 : World) (p0 : Int) (p1 : Int) (p2 : Int) (r : ((List Int) × Int)) (h : F_slope_Line p0 p1 p2 = some r) (S : St0 E [] w0 w0 [] []) :
    Calls Tryd.prog 50 #[iv p0, iv p1, iv p2] w0 (Ret (X := Value) E [] w0 (c_slope_Line_val r) (fun _ => []) (c_slope_Line_D r)) := by
  unfold F_slope_Line at h
  refine sEnter (args := [iv p0, iv p1, iv p2]) 20 Tryd.func50 rfl rfl (by simp) S (fun a S => ?_)
  refine sSeq (fun K1 hK1 => ?_)
  refine sRegion ?_
  refine sBox (v := iv p0) S (wN rfl) rfl rfl [iv p0] rfl rfl (lb rfl) fun a b2 w S => ?_
  refine sBox (v := iv p1) S (wN rfl) rfl rfl [iv p1] rfl rfl (lb rfl) fun a b3 w S => ?_
  refine sBox (v := iv p2) S (wN rfl) rfl rfl [iv p2] rfl rfl (lb rfl) fun a b4 w S => ?_
  refine sMove (.slice none 0 0) S (wN rfl) (.inr rfl) rfl rfl (lb rfl) fun a S => ?_
  refine sMove (iv 0) S (wN rfl) (.inr rfl) rfl rfl (lb rfl) fun a S => ?_
  refine leafL (leafT (hK1 _ _ ?_))
  refine sSeq (fun K5 hK5 => ?_)
  refine sSeq (fun K6 hK6 => ?_)
  refine sRegion ?_
  refine sLoad1 (p := b2) (off := 0) (T := 3) (vs := [iv p0]) 2 (iv p0) S (wN rfl) rfl rfl rfl rfl rfl rfl (lb rfl) fun a S => ?_
  refine sLoad1 (p := b3) (off := 0) (T := 3) (vs := [iv p1]) 1 (iv p1) S (wN rfl) rfl rfl rfl rfl rfl rfl (lb rfl) fun a S => ?_
  refine sLoad1 (p := b4) (off := 0) (T := 3) (vs := [iv p2]) 0 (iv p2) S (wN rfl) rfl rfl rfl rfl rfl rfl (lb rfl) fun a S => ?_
  obtain ⟨r7, hx8, h⟩ := bindSome h
  have S1 := S.mem
  refine sCallQ (X := Unit) (f := 63) (vs := [iv p0, iv p1, iv p2]) (val := fun _ => iv r7) S (wN rfl) rfl callee63 rfl (S1.quiet [] rfl) (fun E1 w1 S1 => c_slope_check E1 w1 p0 p1 p2 r7 hx8 S1) rfl (lb rfl) fun _ a w S => ?_
  refine sMove (iv r7) S (wN rfl) (.inr rfl) rfl rfl (lb rfl) fun a S => ?_
  refine leafL (leafT (hK6 _ _ ?_))
  refine sSeq (fun K9 hK9 => ?_)
  refine sRegion ?_
  refine sMove (iv r7) S (wN rfl) (.inl rfl) rfl rfl (lb rfl) fun a S => ?_
  refine sBin (.bool (r7 != 0)) S (wN rfl) rfl rfl rfl (bNe _ _ _ _ .i64 r7 0) rfl (lb rfl) fun a S => ?_
  refine leafL (leafT (hK9 _ _ ?_))
  rcases iteSome h with ⟨hc10, h⟩ | ⟨hc10, h⟩
  · refine sCondT S rfl hc10 ?_
    refine sSeq (fun K11 hK11 => ?_)
    refine sRegion ?_
    refine sMove (iv r7) S (wN rfl) (.inl rfl) rfl rfl (lb rfl) fun a S => ?_
    refine sMove (.slice none 0 0) S (wN rfl) (.inr rfl) rfl rfl (lb rfl) fun a S => ?_
    refine sMove (iv r7) S (wN rfl) (.inr rfl) rfl rfl (lb rfl) fun a S => ?_
    refine leafL (leafT (hK11 _ _ ?_))
    obtain rfl := Option.some.inj h
    have S := S.learn (fRep (rL (rI .i64)) (.slice none 0 0) ([] : (List Int))) (rL_nil _ _ _)
    exact wp_ret (rThen (sRet (.tuple #[.slice none 0 0, iv r7]) S (rsl2 rfl (rvT (t := 6) (v := .slice none 0 0) S rfl) (rvT (t := 7) (v := iv r7) S rfl)) ⟨(.slice none 0 0), rfl, S.mem.sel [] [0] (by decide) rfl rfl⟩))
  refine sCondF S rfl hc10 ?_
  refine wp_skip (leafT (hK5 _ _ ?_))
  refine sSeq (fun K12 hK12 => ?_)
  refine sRegion ?_
  refine sLoad1 (p := b4) (off := 0) (T := 3) (vs := [iv p2]) 0 (iv p2) S (wN rfl) rfl rfl rfl rfl rfl rfl (lb rfl) fun a S => ?_
  refine sBin (iv (w64 (p2 + 1))) S (wN rfl) rfl rfl rfl (bAdd _ _ _ _ p2 1) rfl (lb rfl) fun a S => ?_
  refine sFunc (g := 65) (vs := [.pointer (some ⟨b2, 0, none⟩), .pointer (some ⟨b3, 0, none⟩), .pointer (some ⟨b4, 0, none⟩)]) S (wN rfl) rfl rfl rfl (lb rfl) fun a S => ?_
  obtain ⟨r13, hx14, h⟩ := bindSome h
  have S := S.shutB (r := (rI .i64)) (T := 3) (b := b2) (cs := [iv p0]) 2 (iv p0) p0 rfl rfl (rfl)
  have S := S.shutB (r := (rI .i64)) (T := 3) (b := b3) (cs := [iv p1]) 1 (iv p1) p1 rfl rfl (rfl)
  have S := S.shutB (r := (rI .i64)) (T := 3) (b := b4) (cs := [iv p2]) 0 (iv p2) p2 rfl rfl (rfl)
  refine sCall (X := Value) (f := 64) (vs := [iv (w64 (p2 + 1)), .func (.func 65) #[] #[.pointer (some ⟨b2, 0, none⟩), .pointer (some ⟨b3, 0, none⟩), .pointer (some ⟨b4, 0, none⟩)]]) (val := c_slope_list_int__s0_val r13) (B' := fun _ => []) (D' := c_slope_list_int__s0_D r13) [] [] [fPtr (rI .i64) (.pointer (some ⟨b2, 0, none⟩)) p0, fPtr (rI .i64) (.pointer (some ⟨b3, 0, none⟩)) p1, fPtr (rI .i64) (.pointer (some ⟨b4, 0, none⟩)) p2] [] [2, 1, 0] S (wN rfl) rfl callee64 rfl (by decide) rfl rfl (fun E1 w1 S1 => c_slope_list_int__s0 E1 w1 (w64 (p2 + 1)) p0 (.pointer (some ⟨b2, 0, none⟩)) p1 (.pointer (some ⟨b3, 0, none⟩)) p2 (.pointer (some ⟨b4, 0, none⟩)) r13 hx14 S1) rfl (lb rfl) fun u15 a w S => ?_
  obtain ⟨ad16, cp17, _, rfl, _⟩ := S.mem.know (i := 0) (e := fRep (rL (rI .i64)) (u15) r13) rfl
  refine sMove (.slice ad16 r13.length cp17) S (wN rfl) (.inr rfl) rfl rfl (lb rfl) fun a S => ?_
  refine sMove (iv 0) S (wN rfl) (.inr rfl) rfl rfl (lb rfl) fun a S => ?_
  refine leafL (leafT (hK12 _ _ ?_))
  obtain rfl := Option.some.inj h
  exact wp_ret (sRet (.tuple #[.slice ad16 r13.length cp17, iv 0]) S (rsl2 rfl (rvT (t := 6) (v := .slice ad16 r13.length cp17) S rfl) (rvT (t := 7) (v := iv 0) S rfl)) ⟨(.slice ad16 r13.length cp17), rfl, S.mem.sel [] [0] (by decide) rfl rfl⟩)

end Go.Proofs.YtmedbnjhgkcndaaDoor
namespace Go.Proofs.YtmedbnjhgkcndaaDoor
open Go.RowKit
set_option linter.unusedVariables false

def anc_piece_columns_0 : List (List Nat) := [[], [], [0, 1], [0, 1, 2], [0, 1, 2, 3], [], [5], [], [7], [], [], [9, 10], [9, 10, 11], [9, 10, 11, 12], [7, 8, 9, 10, 11, 12, 13], [0, 1, 2, 3, 4, 5, 6, 7, 8, 9, 10, 11, 12, 13, 14], [0, 1, 2, 3, 4, 5, 6, 7, 8, 9, 10, 11, 12, 13, 14, 15], [0, 1, 2, 3, 4, 5, 6, 7, 8, 9, 10, 11, 12, 13, 14, 15, 16], [0, 1, 2, 3, 4, 5, 6, 7, 8, 9, 10, 11, 12, 13, 14, 15, 16], [0, 1, 2, 3, 4, 5, 6, 7, 8, 9, 10, 11, 12, 13, 14, 15, 16, 17], [0, 1, 2, 3, 4, 5, 6, 7, 8, 9, 10, 11, 12, 13, 14, 15, 16, 17, 18, 19]]
noncomputable def piece_columns_l1 (y20 : List api_Point) (p0 : (List api_Point)) : (List Int × Int) → Option ((List Int × Int) ⊕ List Int) := fun s0 => match s0 with
  | (s24, s27) =>
    if decide (s27 < (y20.length : Int)) then
      Option.bind (idxO y20 s27) fun x39 =>
      Option.bind (idxO p0 s27) fun x46 =>
      Option.bind (F_slope_Line x46.X x39.X (w64 (x39.Y - x46.Y))) fun r58 =>
      Option.bind (sliceO r58.1 1 (r58.1.length : Int)) fun y76 =>
      Option.bind (appO s24 y76) fun l80 =>
      some (.inl (l80, w64 (s27 + 1)))
    else
      some (.inr s24)
noncomputable def F_piece_columns (p0 : (List api_Point)) : Option (List Int) :=
  Option.bind (idxO p0 0) fun x5 =>
  Option.bind (α := List Int) (
    Option.bind (sliceO p0 1 (p0.length : Int)) fun y20 =>
    Option.bind (whileO (piece_columns_l1 y20 p0) (([x5.X] : List Int), 0)) fun e31 =>
      some e31) fun o14 =>
  some o14
def c_piece_columns_val (r : (List Int)) (x : Value) : Value := x
def c_piece_columns_D (r : (List Int)) (x : Value) : List Fact := [fRep (rL (rI .i64)) x r]
set_option maxHeartbeats 4000000 in
set_option maxRecDepth 100000 in
theorem c_piece_columns (E : Nat → Prop) (w0 : World) (p0 : (List api_Point)) (v0 : Value) (r : (List Int)) (h : F_piece_columns p0 = some r) (S : St0 E [] w0 w0 [] [fRep (rL r_api_Point) (v0) p0]) :
    Calls Tryd.prog 36 #[v0] w0 (Ret (X := Value) E [] w0 (c_piece_columns_val r) (fun _ => []) (c_piece_columns_D r)) := by
  unfold F_piece_columns at h
  obtain ⟨ad1, cp2, _, rfl, _⟩ := S.know (i := 0) (e := fRep (rL r_api_Point) (v0) p0) rfl
  refine sEnter (args := [.slice ad1 p0.length cp2]) 46 Tryd.func36 rfl rfl (by simp) S (fun a S => ?_)
  refine sSeq (fun K3 hK3 => ?_)
  refine sRegion ?_
  refine sMove (.slice none 0 0) S (wN rfl) (.inr rfl) rfl rfl (lb rfl) fun a S => ?_
  refine leafL (leafT (hK3 _ _ ?_))
  refine sSeq (fun K4 hK4 => ?_)
  refine sRegion ?_
  refine sMove (.slice ad1 p0.length cp2) S (wN rfl) (.inl rfl) rfl rfl (lb rfl) fun a S => ?_
  obtain ⟨x5, hx6, h⟩ := bindSome h
  obtain ⟨q7, hq8, S⟩ := pIdx (P := Tryd.prog) (r := r_api_Point) (v := .slice ad1 p0.length cp2) (xs := p0) (j := 0) 22 35 0 S Tryd.underlying22 rfl rfl hx6
  refine sIdxV (v := .slice ad1 p0.length cp2) (k := .i64) (j := 0) S (wN rfl) rfl rfl rfl hq8 rfl (lb rfl) fun a S => ?_
  obtain ⟨q9, hq10, S⟩ := pFld (P := Tryd.prog) (r := r_api_Point) (s2 := (rI .i64)) (g := (·.X)) (q := q7) (z := x5) 35 0 0 0 S rfl rfl comp_api_Point_X
  refine sFldV (q := q7) S (wN rfl) rfl rfl hq10 rfl (lb rfl) fun a S => ?_
  obtain ⟨u11, S⟩ := pLoad (r := (rI .i64)) (q := q9) (x := x5.X) 0 S rfl
  obtain rfl : u11 = iv x5.X := S.mem.know (i := 1) (e := fRep (rI .i64) (u11) x5.X) rfl
  refine sLoadV1 (vq := q9) 0 (iv x5.X) S (wN rfl) rfl rfl rfl rfl rfl (lb rfl) fun a S => ?_
  refine sLit (r := (rI .i64)) (T := 3) (xs := ([x5.X] : List Int)) [(0, iv x5.X)] 1 [iv x5.X] [iv x5.X] (iv 0) 8 S (wN rfl) rfl rfl Tryd.underlying28 rfl (by decide) (by decide) (by kernel_rfl) rfl (fun E1 w1 hE => All.cons rfl (All.nil _ _ _)) rfl rfl (lb rfl) fun a w ad12 cp13 S => ?_
  refine sMove (.slice ad12 ([x5.X] : List Int).length cp13) S (wN rfl) (.inr rfl) rfl rfl (lb rfl) fun a S => ?_
  refine leafL (leafT (hK4 _ _ ?_))
  obtain ⟨t17, h, g18⟩ := bindSome h
  refine sCut (fun a w => ∃ o14, o14 = t17 ∧ ∃ ad15, ∃ cp16, St [] E [] w0 46 a w [(3, .slice ad15 o14.length cp16)] [eRow (rI .i64) 3 (.slice ad15 o14.length cp16) o14] []) ?_ (fun a w hI => ?_)
  rotate_left
  · obtain ⟨o14, rfl, ad15, cp16, S⟩ := hI
    have h := g18
    clear g18
    try dsimp only at h
    refine sSeq (fun K84 hK84 => ?_)
    refine sRegion ?_
    refine sMove (.slice ad15 o14.length cp16) S (wN rfl) (.inl rfl) rfl rfl (lb rfl) fun a S => ?_
    refine sMove (.slice ad15 o14.length cp16) S (wN rfl) (.inr rfl) rfl rfl (lb rfl) fun a S => ?_
    refine leafL (leafT (hK84 _ _ ?_))
    obtain rfl := Option.some.inj h
    have S := S.shutR (r := (rI .i64)) (T := 3) (v := .slice ad15 o14.length cp16) (xs := o14) 0 rfl
    exact wp_ret (sRet (.slice ad15 o14.length cp16) S (rsl1 rfl (rvT (t := 2) (v := .slice ad15 o14.length cp16) S rfl)) ⟨(.slice ad15 o14.length cp16), rfl, S.mem.sel [] [0] (by decide) rfl rfl⟩)
  refine sSeq (fun K19 hK19 => ?_)
  refine sRegion ?_
  refine sMove (.slice ad1 p0.length cp2) S (wN rfl) (.inl rfl) rfl rfl (lb rfl) fun a S => ?_
  obtain ⟨y20, hx21, h⟩ := bindSome h
  refine sSlice (r := r_api_Point) (v := .slice ad1 p0.length cp2) (xs := p0) (vlo := (some (.int .i64 1))) (vhi := none) (lo' := 1) (hi' := (p0.length : Int)) 4 S (wN rfl) rfl Tryd.underlying22 rfl rfl rfl rfl rfl (.inl rfl) (.inr ⟨rfl, rfl⟩) hx21 rfl (lb rfl) fun a ad22 cp23 S => ?_
  refine sLen (ad := ad22) (m := y20.length) (c := cp23) S (wN rfl) rfl Tryd.underlying22 rfl rfl (lb rfl) fun a S => ?_
  refine sMove (iv 0) S (wN rfl) (.inl rfl) rfl rfl (lb rfl) fun a S => ?_
  refine leafL (leafT (hK19 _ _ ?_))
  refine wp_block ?_
  obtain ⟨t30, hl, g29⟩ := bindSome h
  refine sLoop hl (fun s0 a w => match s0 with | (s24, s27) => ∃ ad25, ∃ cp26, St [] E [] w0 46 a w [(0, .slice ad1 p0.length cp2), (3, .slice ad25 s24.length cp26), (14, .slice ad22 y20.length cp23), (15, iv (y20.length : Int)), (16, iv s27)] [eRow (rI .i64) 3 (.slice ad25 s24.length cp26) s24] [fRep (rL r_api_Point) (.slice ad1 p0.length cp2) p0, fRep (rL r_api_Point) (.slice ad22 y20.length cp23) y20]) ⟨ad12, cp13, S.fix [0] [5, 0] (by decide) rfl rfl rfl⟩ ?_
  clear hl h
  intro s0 a w c0 hI h hu28
  obtain ⟨s24, s27⟩ := s0
  unfold piece_columns_l1 at h
  dsimp only at h hI
  obtain ⟨ad25, cp26, S⟩ := hI
  refine sSeq (fun K34 hK34 => ?_)
  refine sRegion ?_
  refine sBin (.bool (decide (s27 < (y20.length : Int)))) S (wN rfl) rfl rfl rfl (bLt _ _ _ _ .i64 s27 (y20.length : Int)) rfl (lb rfl) fun a S => ?_
  refine leafL (leafT (hK34 _ _ ?_))
  refine sSeq (fun K35 hK35 => ?_)
  rcases iteSome h with ⟨hc36, h⟩ | ⟨hc36, h⟩
  rotate_left
  · refine sCondF S rfl hc36 ?_
    obtain rfl := Option.some.inj h
    obtain rfl := hu28 _ rfl
    have h := g29
    clear g29
    try dsimp only at h
    exact wp_exit (xThen (xThen (xHit (leafT (⟨s24, Option.some.inj h, ad25, cp26, S.fix [0] [] (by decide) rfl rfl rfl⟩)))))
  refine sCondT S rfl hc36 ?_
  refine wp_skip (leafT (hK35 _ _ ?_))
  refine sSeq (fun K37 hK37 => ?_)
  refine wp_block ?_
  refine sSeq (fun K38 hK38 => ?_)
  refine sRegion ?_
  refine sMove (iv s27) S (wN rfl) (.inl rfl) rfl rfl (lb rfl) fun a S => ?_
  obtain ⟨x39, hx40, h⟩ := bindSome h
  obtain ⟨q41, hq42, S⟩ := pIdx (P := Tryd.prog) (r := r_api_Point) (v := .slice ad22 y20.length cp23) (xs := y20) (j := s27) 22 35 1 S Tryd.underlying22 rfl rfl hx40
  refine sIdxV (v := .slice ad22 y20.length cp23) (k := .i64) (j := s27) S (wN rfl) rfl rfl rfl hq42 rfl (lb rfl) fun a S => ?_
  obtain ⟨u43, S⟩ := pLoad (r := r_api_Point) (q := q41) (x := x39) 0 S rfl
  obtain rfl : u43 = .agg #[iv x39.X, iv x39.Y] := S.mem.know (i := 1) (e := fRep r_api_Point (u43) x39) rfl
  refine sLoadVN (vq := q41) 0 [iv x39.X, iv x39.Y] S (wN rfl) rfl rfl rfl rfl rfl rfl (lb rfl) fun a S => ?_
  refine sAlloc (.agg #[iv 0, iv 0]) S (wN rfl) rfl rfl [iv 0, iv 0] rfl rfl (lb rfl) fun a b44 w S => ?_
  refine sMove (iv s27) S (wN rfl) (.inr rfl) rfl rfl (lb rfl) fun a S => ?_
  refine sStore (p := b44) (off := 0) (T := 35) (vs := [iv 0, iv 0]) (v := .agg #[iv x39.X, iv x39.Y]) 0 [iv x39.X, iv x39.Y] S (wN rfl) rfl rfl rfl rfl rfl rfl rfl (by simp) rfl fun a w S => ?_
  refine leafL (leafT (hK38 _ _ ?_))
  refine sSeq (fun K45 hK45 => ?_)
  obtain ⟨x46, hx47, h⟩ := bindSome h
  obtain ⟨r58, hx59, h⟩ := bindSome h
  obtain ⟨q63, hq64, S⟩ := pIdx (P := Tryd.prog) (r := r_api_Point) (v := .slice ad1 p0.length cp2) (xs := p0) (j := s27) 22 35 3 S Tryd.underlying22 rfl rfl hx47
  obtain ⟨q65, hq66, S⟩ := pFld (P := Tryd.prog) (r := r_api_Point) (s2 := (rI .i64)) (g := (·.X)) (q := q63) (z := x46) 35 0 0 0 S rfl rfl comp_api_Point_X
  obtain ⟨u67, S⟩ := pLoad (r := (rI .i64)) (q := q65) (x := x46.X) 0 S rfl
  obtain rfl : u67 = iv x46.X := S.mem.know (i := 1) (e := fRep (rI .i64) (u67) x46.X) rfl
  obtain ⟨q68, hq69, S⟩ := pIdx (P := Tryd.prog) (r := r_api_Point) (v := .slice ad1 p0.length cp2) (xs := p0) (j := s27) 22 35 7 S Tryd.underlying22 rfl rfl hx47
  obtain ⟨q70, hq71, S⟩ := pFld (P := Tryd.prog) (r := r_api_Point) (s2 := (rI .i64)) (g := (·.Y)) (q := q68) (z := x46) 35 1 0 1 S rfl rfl comp_api_Point_Y
  obtain ⟨u72, S⟩ := pLoad (r := (rI .i64)) (q := q70) (x := x46.Y) 0 S rfl
  obtain rfl : u72 = iv x46.Y := S.mem.know (i := 1) (e := fRep (rI .i64) (u72) x46.Y) rfl
  refine sDraw (nf := [15]) (W := [(0, 22, .slice ad1 p0.length cp2), (1, 23, iv s27), (2, 24, q63), (3, 25, q65), (4, 26, iv x46.X), (5, 27, .pointer (some ⟨b44, 0, none⟩)), (6, 28, iv x39.X), (7, 29, .pointer (some ⟨b44, 1, none⟩)), (8, 30, iv x39.Y), (9, 31, .slice ad1 p0.length cp2), (10, 32, iv s27), (11, 33, q68), (12, 34, q70), (13, 35, iv x46.Y), (14, 36, iv (w64 (x39.Y - x46.Y)))]) rfl S ?_
  refine node_by (A := anc_piece_columns_0) (nf := [15]) (Y := []) (W := [(0, 22, .slice ad1 p0.length cp2), (1, 23, iv s27), (2, 24, q63), (3, 25, q65), (4, 26, iv x46.X), (5, 27, .pointer (some ⟨b44, 0, none⟩)), (6, 28, iv x39.X), (7, 29, .pointer (some ⟨b44, 1, none⟩)), (8, 30, iv x39.Y), (9, 31, .slice ad1 p0.length cp2), (10, 32, iv s27), (11, 33, q68), (12, 34, q70), (13, 35, iv x46.Y), (14, 36, iv (w64 (x39.Y - x46.Y)))]) 21 (by kernel_rfl) (by kernel_rfl) (by kernel_rfl) (by kernel_rfl) (by kernel_rfl) [0, 1, 2, 3, 4, 5, 6, 7, 8, 9, 10, 11, 12, 13, 14] (by kernel_rfl) (by decide) (by decide) (aF 0 20 (by decide) ?_ (aF 1 19 (by decide) ?_ (aF 2 18 (by decide) ?_ (aF 3 17 (by decide) ?_ (aF 4 16 (by decide) ?_ (aF 5 15 (by decide) ?_ (aF 6 14 (by decide) ?_ (aF 7 13 (by decide) ?_ (aF 8 12 (by decide) ?_ (aF 9 11 (by decide) ?_ (aF 10 10 (by decide) ?_ (aF 11 9 (by decide) ?_ (aF 12 8 (by decide) ?_ (aF 13 7 (by decide) ?_ (aF 14 6 (by decide) ?_ (aN 15 5 (by decide) ?_ (aE 16 4 15 (by decide) (aE 17 3 15 (by decide) (aE 18 2 15 (by decide) (aE 19 1 15 (by decide) (aE 20 0 15 (by decide) (trivial)))))))))))))))))))))) [] (fun q hq => by cases hq) (fun hY => absurd (hY 15 (by decide)) (by decide))
  · refine fI 22 (.slice ad1 p0.length cp2) [(0, .slice ad1 p0.length cp2)] 0 [none] rfl rfl rfl rfl rfl rfl fun G a w S => ?_
    refine sMove (.slice ad1 p0.length cp2) S (wN rfl) (.inl rfl) rfl rfl (lb rfl) fun a S => ?_
    exact leafL ⟨rfl, S⟩
  · refine fI 23 (iv s27) [(4, iv s27)] 1 [none] rfl rfl rfl rfl rfl rfl fun G a w S => ?_
    refine sMove (iv s27) S (wN rfl) (.inl rfl) rfl rfl (lb rfl) fun a S => ?_
    exact leafL ⟨rfl, S⟩
  · refine fI 24 q63 [(22, .slice ad1 p0.length cp2), (23, iv s27)] 2 [some 0, some 1] rfl rfl rfl rfl rfl rfl fun G a w S => ?_
    refine sIdxV (v := .slice ad1 p0.length cp2) (k := .i64) (j := s27) S (wN rfl) rfl rfl rfl hq64 rfl (lb rfl) fun a S => ?_
    exact leafL ⟨rfl, S⟩
  · refine fI 25 q65 [(24, q63)] 3 [some 2] rfl rfl rfl rfl rfl rfl fun G a w S => ?_
    refine sFldV (q := q63) S (wN rfl) rfl rfl hq66 rfl (lb rfl) fun a S => ?_
    exact leafL ⟨rfl, S⟩
  · refine fI 26 (iv x46.X) [(25, q65)] 4 [some 3] rfl rfl rfl rfl rfl rfl fun G a w S => ?_
    refine sLoadV1 (vq := q65) 4 (iv x46.X) S (wN rfl) rfl rfl rfl rfl rfl (lb rfl) fun a S => ?_
    exact leafL ⟨rfl, S⟩
  · refine fI 27 (.pointer (some ⟨b44, 0, none⟩)) [(5, .pointer (some ⟨b44, 0, none⟩))] 5 [none] rfl rfl rfl rfl rfl rfl fun G a w S => ?_
    refine sField (b := b44) (off := 0) 0 0 S (wN rfl) rfl rfl rfl rfl rfl (lb rfl) fun a S => ?_
    exact leafL ⟨rfl, S⟩
  · refine fI 28 (iv x39.X) [(27, .pointer (some ⟨b44, 0, none⟩))] 6 [some 5] rfl rfl rfl rfl rfl rfl fun G a w S => ?_
    refine sLoad1 (p := b44) (off := 0) (T := 35) (vs := [iv x39.X, iv x39.Y]) 0 (iv x39.X) S (wN rfl) rfl rfl rfl rfl rfl rfl (lb rfl) fun a S => ?_
    exact leafL ⟨rfl, S⟩
  · refine fI 29 (.pointer (some ⟨b44, 1, none⟩)) [(5, .pointer (some ⟨b44, 0, none⟩))] 7 [none] rfl rfl rfl rfl rfl rfl fun G a w S => ?_
    refine sField (b := b44) (off := 0) 1 1 S (wN rfl) rfl rfl rfl rfl rfl (lb rfl) fun a S => ?_
    exact leafL ⟨rfl, S⟩
  · refine fI 30 (iv x39.Y) [(29, .pointer (some ⟨b44, 1, none⟩))] 8 [some 7] rfl rfl rfl rfl rfl rfl fun G a w S => ?_
    refine sLoad1 (p := b44) (off := 1) (T := 35) (vs := [iv x39.X, iv x39.Y]) 0 (iv x39.Y) S (wN rfl) rfl rfl rfl rfl rfl rfl (lb rfl) fun a S => ?_
    exact leafL ⟨rfl, S⟩
  · refine fI 31 (.slice ad1 p0.length cp2) [(0, .slice ad1 p0.length cp2)] 9 [none] rfl rfl rfl rfl rfl rfl fun G a w S => ?_
    refine sMove (.slice ad1 p0.length cp2) S (wN rfl) (.inl rfl) rfl rfl (lb rfl) fun a S => ?_
    exact leafL ⟨rfl, S⟩
  · refine fI 32 (iv s27) [(4, iv s27)] 10 [none] rfl rfl rfl rfl rfl rfl fun G a w S => ?_
    refine sMove (iv s27) S (wN rfl) (.inl rfl) rfl rfl (lb rfl) fun a S => ?_
    exact leafL ⟨rfl, S⟩
  · refine fI 33 q68 [(31, .slice ad1 p0.length cp2), (32, iv s27)] 11 [some 9, some 10] rfl rfl rfl rfl rfl rfl fun G a w S => ?_
    refine sIdxV (v := .slice ad1 p0.length cp2) (k := .i64) (j := s27) S (wN rfl) rfl rfl rfl hq69 rfl (lb rfl) fun a S => ?_
    exact leafL ⟨rfl, S⟩
  · refine fI 34 q70 [(33, q68)] 12 [some 11] rfl rfl rfl rfl rfl rfl fun G a w S => ?_
    refine sFldV (q := q68) S (wN rfl) rfl rfl hq71 rfl (lb rfl) fun a S => ?_
    exact leafL ⟨rfl, S⟩
  · refine fI 35 (iv x46.Y) [(34, q70)] 13 [some 12] rfl rfl rfl rfl rfl rfl fun G a w S => ?_
    refine sLoadV1 (vq := q70) 0 (iv x46.Y) S (wN rfl) rfl rfl rfl rfl rfl (lb rfl) fun a S => ?_
    exact leafL ⟨rfl, S⟩
  · refine fI 36 (iv (w64 (x39.Y - x46.Y))) [(30, iv x39.Y), (35, iv x46.Y)] 14 [some 8, some 13] rfl rfl rfl rfl rfl rfl fun G a w S => ?_
    refine sBin (iv (w64 (x39.Y - x46.Y))) S (wN rfl) rfl rfl rfl (bSub _ _ _ _ x39.Y x46.Y) rfl (lb rfl) fun a S => ?_
    exact leafL ⟨rfl, S⟩
  refine ⟨_, [(26, iv x46.X), (28, iv x39.X), (36, iv (w64 (x39.Y - x46.Y)))], rfl, (srcs_of [some 4, some 6, some 14] rfl rfl rfl), fun G a w S => ?_⟩
  refine sCall (X := Value) (f := 50) (vs := [iv x46.X, iv x39.X, iv (w64 (x39.Y - x46.Y))]) (val := c_slope_Line_val r58) (B' := fun _ => []) (D' := c_slope_Line_D r58) [] [eBox b44 35 [iv x39.X, iv x39.Y], eRow (rI .i64) 3 (.slice ad25 s24.length cp26) s24] [] [0, 1] [] S (wN rfl) rfl callee50 rfl (by decide) rfl rfl (fun E1 w1 S1 => c_slope_Line E1 w1 x46.X x39.X (w64 (x39.Y - x46.Y)) r58 hx59 S1) rfl (lb rfl) fun u73 a w S => ?_
  obtain ⟨ad74, cp75, _, rfl, _⟩ := S.mem.know (i := 0) (e := fRep (rL (rI .i64)) (u73) r58.1) rfl
  refine leafL ⟨rfl, _, _, .inl ⟨37, (.tuple #[.slice ad74 r58.1.length cp75, iv r58.2]), [(16, 21, .tuple #[.slice ad74 r58.1.length cp75, iv r58.2]), (17, 38, .slice ad74 r58.1.length cp75), (18, 39, iv r58.2), (19, 6, .slice ad74 r58.1.length cp75), (20, 7, iv r58.2)], rfl, S, hz_of rfl, ?_⟩⟩
  refine node_by (A := anc_piece_columns_0) (nf := [15]) (Y := [15]) 21 (by kernel_rfl) (by kernel_rfl) (by kernel_rfl) (by kernel_rfl) (by kernel_rfl) [16, 17, 18, 19, 20, 15, 0, 1, 2, 3, 4, 5, 6, 7, 8, 9, 10, 11, 12, 13, 14] (by kernel_rfl) (by decide) (by decide) (aD 0 20 15 (by decide) (aD 1 19 15 (by decide) (aD 2 18 15 (by decide) (aD 3 17 15 (by decide) (aD 4 16 15 (by decide) (aD 5 15 15 (by decide) (aD 6 14 15 (by decide) (aD 7 13 15 (by decide) (aD 8 12 15 (by decide) (aD 9 11 15 (by decide) (aD 10 10 15 (by decide) (aD 11 9 15 (by decide) (aD 12 8 15 (by decide) (aD 13 7 15 (by decide) (aD 14 6 15 (by decide) (aY 15 5 (by decide) (aF 16 4 (by decide) ?_ (aF 17 3 (by decide) ?_ (aF 18 2 (by decide) ?_ (aF 19 1 (by decide) ?_ (aF 20 0 (by decide) ?_ (trivial)))))))))))))))))))))) [(0, .slice ad1 p0.length cp2), (3, .slice ad25 s24.length cp26), (6, .slice ad74 r58.1.length cp75), (14, .slice ad22 y20.length cp23), (15, iv (y20.length : Int)), (16, iv s27)] (fin_of [none, none, some 3, none, none, none] rfl (by kernel_rfl) (by kernel_rfl)) (fun _ a w S => ?_)
  · refine fI 21 (.tuple #[.slice ad74 r58.1.length cp75, iv r58.2]) [(37, .tuple #[.slice ad74 r58.1.length cp75, iv r58.2])] 0 [some 5] rfl rfl rfl rfl rfl rfl fun G a w S => ?_
    refine sMove (.tuple #[.slice ad74 r58.1.length cp75, iv r58.2]) S (wN rfl) (.inl rfl) rfl rfl (lb rfl) fun a S => ?_
    exact leafL ⟨rfl, S⟩
  · refine fI 38 (.slice ad74 r58.1.length cp75) [(21, .tuple #[.slice ad74 r58.1.length cp75, iv r58.2])] 1 [some 0] rfl rfl rfl rfl rfl rfl fun G a w S => ?_
    refine sExtract (vs := [.slice ad74 r58.1.length cp75, iv r58.2]) (.slice ad74 r58.1.length cp75) S (wN rfl) rfl rfl rfl rfl (lb rfl) fun a S => ?_
    exact leafL ⟨rfl, S⟩
  · refine fI 39 (iv r58.2) [(21, .tuple #[.slice ad74 r58.1.length cp75, iv r58.2])] 2 [some 0] rfl rfl rfl rfl rfl rfl fun G a w S => ?_
    refine sExtract (vs := [.slice ad74 r58.1.length cp75, iv r58.2]) (iv r58.2) S (wN rfl) rfl rfl rfl rfl (lb rfl) fun a S => ?_
    exact leafL ⟨rfl, S⟩
  · refine fI 6 (.slice ad74 r58.1.length cp75) [(38, .slice ad74 r58.1.length cp75)] 3 [some 1] rfl rfl rfl rfl rfl rfl fun G a w S => ?_
    refine sMove (.slice ad74 r58.1.length cp75) S (wN rfl) (.inr rfl) rfl rfl (lb rfl) fun a S => ?_
    exact leafL ⟨rfl, S⟩
  · refine fI 7 (iv r58.2) [(39, iv r58.2)] 4 [some 2] rfl rfl rfl rfl rfl rfl fun G a w S => ?_
    refine sMove (iv r58.2) S (wN rfl) (.inr rfl) rfl rfl (lb rfl) fun a S => ?_
    exact leafL ⟨rfl, S⟩
  refine leafT (hK45 _ _ ?_)
  refine sRegion ?_
  refine sMove (.slice ad25 s24.length cp26) S (wN rfl) (.inl rfl) rfl rfl (lb rfl) fun a S => ?_
  refine sMove (.slice ad74 r58.1.length cp75) S (wN rfl) (.inl rfl) rfl rfl (lb rfl) fun a S => ?_
  obtain ⟨y76, hx77, h⟩ := bindSome h
  refine sSlice (r := (rI .i64)) (v := .slice ad74 r58.1.length cp75) (xs := r58.1) (vlo := (some (.int .i64 1))) (vhi := none) (lo' := 1) (hi' := (r58.1.length : Int)) 0 S (wN rfl) rfl Tryd.underlying28 rfl rfl rfl rfl rfl (.inl rfl) (.inr ⟨rfl, rfl⟩) hx77 rfl (lb rfl) fun a ad78 cp79 S => ?_
  obtain ⟨l80, hx81, h⟩ := bindSome h
  refine sApp (r := (rI .i64)) (T := 3) (xs := s24) (ys := y76) (v := .slice ad25 s24.length cp26) (u := .slice ad78 y76.length cp79) 1 (iv 0) 8 S (wN rfl) rfl Tryd.underlying28 rfl rfl (by decide) rfl rfl rfl (src_D 0 S.mem rfl) hx81 rfl (lb rfl) fun a w ad82 cp83 S => ?_
  refine sMove (.slice ad82 l80.length cp83) S (wN rfl) (.inr rfl) rfl rfl (lb rfl) fun a S => ?_
  refine leafL (leafB (leafT (hK37 _ _ ?_)))
  refine sRegion ?_
  refine sBin (iv (w64 (s27 + 1))) S (wN rfl) rfl rfl rfl (bAdd _ _ _ _ s27 1) rfl (lb rfl) fun a S => ?_
  refine sMove (iv (w64 (s27 + 1))) S (wN rfl) (.inl rfl) rfl rfl (lb rfl) fun a S => ?_
  exact leafL (leafT (⟨(l80, w64 (s27 + 1)), (Option.some.inj h).symm, ⟨ad82, cp83, S.fix [0] [13, 14] (by decide) rfl rfl rfl⟩⟩))

end Go.Proofs.YtmedbnjhgkcndaaDoor
namespace Go.Proofs.YtmedbnjhgkcndaaDoor
open Go.RowKit
set_option linter.unusedVariables false

def anc_piece_Make_0 : List (List Nat) := [[], [0], [0, 1], [], [3], [0, 1, 2, 3, 4], [0, 1, 2, 3, 4, 5], [], [0, 1, 2, 3, 4, 5, 6, 7]]
noncomputable def F_piece_Make (p0 : api_Shape) : Option (api_Piece × Int) :=
  Option.bind (F_piece_shape p0) fun r14 =>
  if r14 != 0 then
    some ((api_Piece.mk ([] : (List Int)) ([] : (List Int))), r14)
  else
    Option.bind (α := (List Int × List Int)) (
      Option.bind (F_piece_columns p0.Left) fun r28 =>
      Option.bind (F_piece_columns p0.Right) fun r33 =>
      some (r28, r33)) fun (o20, o23) =>
    Option.bind (F_piece_Check (api_Piece.mk o20 o23)) fun r59 =>
    if r59 != 0 then
      some ((api_Piece.mk ([] : (List Int)) ([] : (List Int))), 16)
    else
      some ((api_Piece.mk o20 o23), 0)
def c_piece_Make_val (r : (api_Piece × Int)) (x : Value) : Value := .tuple #[x, .int .i64 r.2]
def c_piece_Make_D (r : (api_Piece × Int)) (x : Value) : List Fact := [fRep r_api_Piece x r.1]
set_option maxHeartbeats 4000000 in
set_option maxRecDepth 100000 in
theorem c_piece_Make (E : Nat → Prop) (w0 : World) (p0 : api_Shape) (v0 : Value) (r : (api_Piece × Int)) (h : F_piece_Make p0 = some r) (S : St0 E [] w0 w0 [] [fRep r_api_Shape (v0) p0]) :
    Calls Tryd.prog 12 #[v0] w0 (Ret (X := Value) E [] w0 (c_piece_Make_val r) (fun _ => []) (c_piece_Make_D r)) := by
  unfold F_piece_Make at h
  obtain ⟨u1, u2, rfl, hu3, hu4⟩ := S.know (i := 0) (e := fRep r_api_Shape (v0) p0) rfl
  have S := S.learn (fRep (rL r_api_Point) u1 p0.Left) hu3
  obtain ⟨ad5, cp6, _, rfl, _⟩ := hu3
  have S := S.learn (fRep (rL r_api_Point) u2 p0.Right) hu4
  obtain ⟨ad7, cp8, _, rfl, _⟩ := hu4
  refine sEnter (args := [.agg #[.slice ad5 p0.Left.length cp6, .slice ad7 p0.Right.length cp8]]) 24 Tryd.func12 rfl rfl (by simp) S (fun a S => ?_)
  refine sSeq (fun K9 hK9 => ?_)
  refine sRegion ?_
  refine sBox (v := .agg #[.slice ad5 p0.Left.length cp6, .slice ad7 p0.Right.length cp8]) S (wN rfl) rfl rfl [.slice ad5 p0.Left.length cp6, .slice ad7 p0.Right.length cp8] rfl rfl (lb rfl) fun a b10 w S => ?_
  refine sAlloc (.agg #[.slice none 0 0, .slice none 0 0]) S (wN rfl) rfl rfl [.slice none 0 0, .slice none 0 0] rfl rfl (lb rfl) fun a b11 w S => ?_
  refine sMove (iv 0) S (wN rfl) (.inr rfl) rfl rfl (lb rfl) fun a S => ?_
  refine leafL (leafT (hK9 _ _ ?_))
  refine sSeq (fun K12 hK12 => ?_)
  refine sSeq (fun K13 hK13 => ?_)
  refine sRegion ?_
  refine sLoadN (p := b10) (off := 0) (T := 24) (vs := [.slice ad5 p0.Left.length cp6, .slice ad7 p0.Right.length cp8]) 1 [.slice ad5 p0.Left.length cp6, .slice ad7 p0.Right.length cp8] S (wN rfl) rfl rfl rfl rfl rfl rfl rfl (lb rfl) fun a S => ?_
  obtain ⟨r14, hx15, h⟩ := bindSome h
  have S1 := S.mem
  refine sCallQ (X := Unit) (f := 35) (vs := [.agg #[.slice ad5 p0.Left.length cp6, .slice ad7 p0.Right.length cp8]]) (val := fun _ => iv r14) S (wN rfl) rfl callee35 rfl (S1.quiet [2] rfl) (fun E1 w1 S1 => c_piece_shape E1 w1 p0 (.agg #[.slice ad5 p0.Left.length cp6, .slice ad7 p0.Right.length cp8]) r14 hx15 S1) rfl (lb rfl) fun _ a w S => ?_
  refine sMove (iv r14) S (wN rfl) (.inr rfl) rfl rfl (lb rfl) fun a S => ?_
  refine leafL (leafT (hK13 _ _ ?_))
  refine sSeq (fun K16 hK16 => ?_)
  refine sRegion ?_
  refine sMove (iv r14) S (wN rfl) (.inl rfl) rfl rfl (lb rfl) fun a S => ?_
  refine sBin (.bool (r14 != 0)) S (wN rfl) rfl rfl rfl (bNe _ _ _ _ .i64 r14 0) rfl (lb rfl) fun a S => ?_
  refine leafL (leafT (hK16 _ _ ?_))
  rcases iteSome h with ⟨hc17, h⟩ | ⟨hc17, h⟩
  · refine sCondT S rfl hc17 ?_
    refine sSeq (fun K18 hK18 => ?_)
    refine sRegion ?_
    refine sBuild [] [.slice none 0 0, .slice none 0 0] S (wN rfl) rfl rfl rfl rfl (lb rfl) fun a S => ?_
    refine sMove (iv r14) S (wN rfl) (.inl rfl) rfl rfl (lb rfl) fun a S => ?_
    refine sStore (p := b11) (off := 0) (T := 30) (vs := [.slice none 0 0, .slice none 0 0]) (v := .agg #[.slice none 0 0, .slice none 0 0]) 0 [.slice none 0 0, .slice none 0 0] S (wN rfl) rfl rfl rfl rfl rfl rfl rfl (by simp) rfl fun a w S => ?_
    refine sMove (iv r14) S (wN rfl) (.inr rfl) rfl rfl (lb rfl) fun a S => ?_
    refine leafL (leafT (hK18 _ _ ?_))
    obtain rfl := Option.some.inj h
    have S := S.learn (fRep (rL (rI .i64)) (.slice none 0 0) ([] : (List Int))) (rL_nil _ _ _)
    have S := S.learn (fRep r_api_Piece (.agg #[.slice none 0 0, .slice none 0 0]) (api_Piece.mk ([] : (List Int)) ([] : (List Int)))) ⟨_, _, rfl, S.mem.know (i := 0) (e := fRep (rL (rI .i64)) (.slice none 0 0) ([] : (List Int))) rfl, S.mem.know (i := 0) (e := fRep (rL (rI .i64)) (.slice none 0 0) ([] : (List Int))) rfl⟩
    exact wp_ret (rThen (sRet (.tuple #[.agg #[.slice none 0 0, .slice none 0 0], iv r14]) S (rsl2 rfl (rvN (c := 2) (t := 30) (T := 30) (p := b11) 0 [.slice none 0 0, .slice none 0 0] S rfl rfl rfl rfl) (rvT (t := 3) (v := iv r14) S rfl)) ⟨(.agg #[.slice none 0 0, .slice none 0 0]), rfl, S.mem.sel [] [0] (by decide) rfl rfl⟩))
  refine sCondF S rfl hc17 ?_
  refine wp_skip (leafT (hK12 _ _ ?_))
  obtain ⟨t26, h, g27⟩ := bindSome h
  refine sCut (fun a w => ∃ o20, ∃ o23, (o20, o23) = t26 ∧ ∃ b19, ∃ ad21, ∃ cp22, ∃ ad24, ∃ cp25, St [] E [] w0 24 a w [(2, .pointer (some ⟨b11, 0, none⟩)), (5, .pointer (some ⟨b19, 0, none⟩))] [eBox b11 30 [.slice none 0 0, .slice none 0 0], eBox b19 30 [.slice ad21 o20.length cp22, .slice ad24 o23.length cp25]] [fRep (rL (rI .i64)) (.slice ad21 o20.length cp22) o20, fRep (rL (rI .i64)) (.slice ad24 o23.length cp25) o23]) ?_ (fun a w hI => ?_)
  rotate_left
  · obtain ⟨o20, o23, rfl, b19, ad21, cp22, ad24, cp25, S⟩ := hI
    have h := g27
    clear g27
    try dsimp only at h
    refine sSeq (fun K57 hK57 => ?_)
    refine sSeq (fun K58 hK58 => ?_)
    refine sRegion ?_
    refine sLoadN (p := b19) (off := 0) (T := 30) (vs := [.slice ad21 o20.length cp22, .slice ad24 o23.length cp25]) 1 [.slice ad21 o20.length cp22, .slice ad24 o23.length cp25] S (wN rfl) rfl rfl rfl rfl rfl rfl rfl (lb rfl) fun a S => ?_
    obtain ⟨r59, hx60, h⟩ := bindSome h
    have S1 := S.mem
    have S1 := S1.learn (fRep r_api_Piece (.agg #[.slice ad21 o20.length cp22, .slice ad24 o23.length cp25]) (api_Piece.mk o20 o23)) ⟨_, _, rfl, S1.know (i := 0) (e := fRep (rL (rI .i64)) (.slice ad21 o20.length cp22) o20) rfl, S1.know (i := 1) (e := fRep (rL (rI .i64)) (.slice ad24 o23.length cp25) o23) rfl⟩
    refine sCallQ (X := Unit) (f := 13) (vs := [.agg #[.slice ad21 o20.length cp22, .slice ad24 o23.length cp25]]) (val := fun _ => iv r59) S (wN rfl) rfl callee13 rfl (S1.quiet [0] rfl) (fun E1 w1 S1 => c_piece_Check E1 w1 (api_Piece.mk o20 o23) (.agg #[.slice ad21 o20.length cp22, .slice ad24 o23.length cp25]) r59 hx60 S1) rfl (lb rfl) fun _ a w S => ?_
    refine sBin (.bool (r59 != 0)) S (wN rfl) rfl rfl rfl (bNe _ _ _ _ .i64 r59 0) rfl (lb rfl) fun a S => ?_
    refine leafL (leafT (hK58 _ _ ?_))
    rcases iteSome h with ⟨hc61, h⟩ | ⟨hc61, h⟩
    · refine sCondT S rfl hc61 ?_
      refine sSeq (fun K62 hK62 => ?_)
      refine sRegion ?_
      refine sBuild [] [.slice none 0 0, .slice none 0 0] S (wN rfl) rfl rfl rfl rfl (lb rfl) fun a S => ?_
      refine sStore (p := b11) (off := 0) (T := 30) (vs := [.slice none 0 0, .slice none 0 0]) (v := .agg #[.slice none 0 0, .slice none 0 0]) 0 [.slice none 0 0, .slice none 0 0] S (wN rfl) rfl rfl rfl rfl rfl rfl rfl (by simp) rfl fun a w S => ?_
      refine sMove (iv 16) S (wN rfl) (.inr rfl) rfl rfl (lb rfl) fun a S => ?_
      refine leafL (leafT (hK62 _ _ ?_))
      obtain rfl := Option.some.inj h
      have S := S.learn (fRep (rL (rI .i64)) (.slice none 0 0) ([] : (List Int))) (rL_nil _ _ _)
      have S := S.learn (fRep r_api_Piece (.agg #[.slice none 0 0, .slice none 0 0]) (api_Piece.mk ([] : (List Int)) ([] : (List Int)))) ⟨_, _, rfl, S.mem.know (i := 0) (e := fRep (rL (rI .i64)) (.slice none 0 0) ([] : (List Int))) rfl, S.mem.know (i := 0) (e := fRep (rL (rI .i64)) (.slice none 0 0) ([] : (List Int))) rfl⟩
      exact wp_ret (rThen (sRet (.tuple #[.agg #[.slice none 0 0, .slice none 0 0], iv 16]) S (rsl2 rfl (rvN (c := 2) (t := 30) (T := 30) (p := b11) 0 [.slice none 0 0, .slice none 0 0] S rfl rfl rfl rfl) (rvT (t := 3) (v := iv 16) S rfl)) ⟨(.agg #[.slice none 0 0, .slice none 0 0]), rfl, S.mem.sel [] [0] (by decide) rfl rfl⟩))
    refine sCondF S rfl hc61 ?_
    refine wp_skip (leafT (hK57 _ _ ?_))
    refine sSeq (fun K63 hK63 => ?_)
    refine sRegion ?_
    refine sLoadN (p := b19) (off := 0) (T := 30) (vs := [.slice ad21 o20.length cp22, .slice ad24 o23.length cp25]) 1 [.slice ad21 o20.length cp22, .slice ad24 o23.length cp25] S (wN rfl) rfl rfl rfl rfl rfl rfl rfl (lb rfl) fun a S => ?_
    refine sStore (p := b11) (off := 0) (T := 30) (vs := [.slice none 0 0, .slice none 0 0]) (v := .agg #[.slice ad21 o20.length cp22, .slice ad24 o23.length cp25]) 0 [.slice ad21 o20.length cp22, .slice ad24 o23.length cp25] S (wN rfl) rfl rfl rfl rfl rfl rfl rfl (by simp) rfl fun a w S => ?_
    refine sMove (iv 0) S (wN rfl) (.inr rfl) rfl rfl (lb rfl) fun a S => ?_
    refine leafL (leafT (hK63 _ _ ?_))
    obtain rfl := Option.some.inj h
    have S := S.learn (fRep r_api_Piece (.agg #[.slice ad21 o20.length cp22, .slice ad24 o23.length cp25]) (api_Piece.mk o20 o23)) ⟨_, _, rfl, S.mem.know (i := 0) (e := fRep (rL (rI .i64)) (.slice ad21 o20.length cp22) o20) rfl, S.mem.know (i := 1) (e := fRep (rL (rI .i64)) (.slice ad24 o23.length cp25) o23) rfl⟩
    exact wp_ret (sRet (.tuple #[.agg #[.slice ad21 o20.length cp22, .slice ad24 o23.length cp25], iv 0]) S (rsl2 rfl (rvN (c := 2) (t := 30) (T := 30) (p := b11) 0 [.slice ad21 o20.length cp22, .slice ad24 o23.length cp25] S rfl rfl rfl rfl) (rvT (t := 3) (v := iv 0) S rfl)) ⟨(.agg #[.slice ad21 o20.length cp22, .slice ad24 o23.length cp25]), rfl, S.mem.sel [] [0] (by decide) rfl rfl⟩)
  obtain ⟨r28, hx29, h⟩ := bindSome h
  obtain ⟨r33, hx34, h⟩ := bindSome h
  refine sDraw (nf := [2, 5, 7, 8]) (W := [(0, 12, .pointer (some ⟨b10, 0, none⟩)), (1, 13, .slice ad5 p0.Left.length cp6), (3, 15, .pointer (some ⟨b10, 1, none⟩)), (4, 16, .slice ad7 p0.Right.length cp8)]) rfl S ?_
  refine node_by (A := anc_piece_Make_0) (nf := [2, 5, 7, 8]) (Y := []) (W := [(0, 12, .pointer (some ⟨b10, 0, none⟩)), (1, 13, .slice ad5 p0.Left.length cp6), (3, 15, .pointer (some ⟨b10, 1, none⟩)), (4, 16, .slice ad7 p0.Right.length cp8)]) 9 (by kernel_rfl) (by kernel_rfl) (by kernel_rfl) (by kernel_rfl) (by kernel_rfl) [0, 1, 3, 4] (by kernel_rfl) (by decide) (by decide) (aF 0 8 (by decide) ?_ (aF 1 7 (by decide) ?_ (aN 2 6 (by decide) ?_ (aF 3 5 (by decide) ?_ (aF 4 4 (by decide) ?_ (aB 5 3 2 (by decide) (aE 6 2 2 (by decide) (aN 7 1 (by decide) ?_ (aB 8 0 2 (by decide) (trivial)))))))))) [] (fun q hq => by cases hq) (fun hY => absurd (hY 2 (by decide)) (by decide))
  · refine fI 12 (.pointer (some ⟨b10, 0, none⟩)) [(1, .pointer (some ⟨b10, 0, none⟩))] 0 [none] rfl rfl rfl rfl rfl rfl fun G a w S => ?_
    refine sField (b := b10) (off := 0) 0 0 S (wN rfl) rfl rfl rfl rfl rfl (lb rfl) fun a S => ?_
    exact leafL ⟨rfl, S⟩
  · refine fI 13 (.slice ad5 p0.Left.length cp6) [(12, .pointer (some ⟨b10, 0, none⟩))] 1 [some 0] rfl rfl rfl rfl rfl rfl fun G a w S => ?_
    refine sLoad1 (p := b10) (off := 0) (T := 24) (vs := [.slice ad5 p0.Left.length cp6, .slice ad7 p0.Right.length cp8]) 1 (.slice ad5 p0.Left.length cp6) S (wN rfl) rfl rfl rfl rfl rfl rfl (lb rfl) fun a S => ?_
    exact leafL ⟨rfl, S⟩
  · refine ⟨_, [(13, .slice ad5 p0.Left.length cp6)], rfl, (srcs_of [some 1] rfl rfl rfl), fun G a w S => ?_⟩
    refine sCall (X := Value) (f := 36) (vs := [.slice ad5 p0.Left.length cp6]) (val := c_piece_columns_val r28) (B' := fun _ => []) (D' := c_piece_columns_D r28) [] [eBox b11 30 [.slice none 0 0, .slice none 0 0], eBox b10 24 [.slice ad5 p0.Left.length cp6, .slice ad7 p0.Right.length cp8]] [fRep (rL r_api_Point) (.slice ad5 p0.Left.length cp6) p0.Left] [0, 1] [1] S (wN rfl) rfl callee36 rfl (by decide) rfl rfl (fun E1 w1 S1 => c_piece_columns E1 w1 p0.Left (.slice ad5 p0.Left.length cp6) r28 hx29 S1) rfl (lb rfl) fun u39 a w S => ?_
    obtain ⟨ad40, cp41, _, rfl, _⟩ := S.mem.know (i := 0) (e := fRep (rL (rI .i64)) (u39) r28) rfl
    refine leafL ⟨rfl, _, _, .inl ⟨14, (.slice ad40 r28.length cp41), [], rfl, S, hz_of rfl, ?_⟩⟩
    refine node_by (A := anc_piece_Make_0) (nf := [2, 5, 7, 8]) (Y := [2]) 9 (by kernel_rfl) (by kernel_rfl) (by kernel_rfl) (by kernel_rfl) (by kernel_rfl) [2, 0, 1, 3, 4] (by kernel_rfl) (by decide) (by decide) (aD 0 8 2 (by decide) (aD 1 7 2 (by decide) (aY 2 6 (by decide) (aF 3 5 (by decide) ?_ (aF 4 4 (by decide) ?_ (aN 5 3 (by decide) ?_ (aE 6 2 5 (by decide) (aN 7 1 (by decide) ?_ (aB 8 0 5 (by decide) (trivial)))))))))) [] (fun q hq => by cases hq) (fun hY => absurd (hY 5 (by decide)) (by decide))
    · refine fI 15 (.pointer (some ⟨b10, 1, none⟩)) [(1, .pointer (some ⟨b10, 0, none⟩))] 3 [none] rfl rfl rfl rfl rfl rfl fun G a w S => ?_
      refine sField (b := b10) (off := 0) 1 1 S (wN rfl) rfl rfl rfl rfl rfl (lb rfl) fun a S => ?_
      exact leafL ⟨rfl, S⟩
    · refine fI 16 (.slice ad7 p0.Right.length cp8) [(15, .pointer (some ⟨b10, 1, none⟩))] 4 [some 3] rfl rfl rfl rfl rfl rfl fun G a w S => ?_
      refine sLoad1 (p := b10) (off := 1) (T := 24) (vs := [.slice ad5 p0.Left.length cp6, .slice ad7 p0.Right.length cp8]) 1 (.slice ad7 p0.Right.length cp8) S (wN rfl) rfl rfl rfl rfl rfl rfl (lb rfl) fun a S => ?_
      exact leafL ⟨rfl, S⟩
    · refine ⟨_, [(16, .slice ad7 p0.Right.length cp8)], rfl, (srcs_of [some 4] rfl rfl rfl), fun G a w S => ?_⟩
      refine sCall (X := Value) (f := 36) (vs := [.slice ad7 p0.Right.length cp8]) (val := c_piece_columns_val r33) (B' := fun _ => []) (D' := c_piece_columns_D r33) [] [eBox b11 30 [.slice none 0 0, .slice none 0 0], eBox b10 24 [.slice ad5 p0.Left.length cp6, .slice ad7 p0.Right.length cp8]] [fRep (rL r_api_Point) (.slice ad7 p0.Right.length cp8) p0.Right] [0, 1] [1] S (wN rfl) rfl callee36 rfl (by decide) rfl rfl (fun E1 w1 S1 => c_piece_columns E1 w1 p0.Right (.slice ad7 p0.Right.length cp8) r33 hx34 S1) rfl (lb rfl) fun u42 a w S => ?_
      obtain ⟨ad43, cp44, _, rfl, _⟩ := S.mem.know (i := 0) (e := fRep (rL (rI .i64)) (u42) r33) rfl
      refine leafL ⟨rfl, _, _, .inl ⟨17, (.slice ad43 r33.length cp44), [(6, 18, .agg #[.slice ad40 r28.length cp41, .slice ad43 r33.length cp44])], rfl, S, hz_of rfl, ?_⟩⟩
      refine node_by (A := anc_piece_Make_0) (nf := [2, 5, 7, 8]) (Y := [5, 2]) 9 (by kernel_rfl) (by kernel_rfl) (by kernel_rfl) (by kernel_rfl) (by kernel_rfl) [6, 5, 2, 0, 1, 3, 4] (by kernel_rfl) (by decide) (by decide) (aD 0 8 5 (by decide) (aD 1 7 5 (by decide) (aY 2 6 (by decide) (aD 3 5 5 (by decide) (aD 4 4 5 (by decide) (aY 5 3 (by decide) (aF 6 2 (by decide) ?_ (aN 7 1 (by decide) ?_ (aB 8 0 7 (by decide) (trivial)))))))))) [] (fun q hq => by cases hq) (fun hY => absurd (hY 7 (by decide)) (by decide))
      · refine fI 18 (.agg #[.slice ad40 r28.length cp41, .slice ad43 r33.length cp44]) [(14, .slice ad40 r28.length cp41), (17, .slice ad43 r33.length cp44)] 0 [some 2, some 1] rfl rfl rfl rfl rfl rfl fun G a w S => ?_
        refine sBuild [(0, .slice ad40 r28.length cp41), (1, .slice ad43 r33.length cp44)] [.slice ad40 r28.length cp41, .slice ad43 r33.length cp44] S (wN rfl) rfl rfl rfl rfl (lb rfl) fun a S => ?_
        exact leafL ⟨rfl, S⟩
      refine ⟨_, [], rfl, (srcs_of [] rfl rfl rfl), fun G a w S => ?_⟩
      refine sAlloc (.agg #[.slice none 0 0, .slice none 0 0]) S (wN rfl) rfl rfl [.slice none 0 0, .slice none 0 0] rfl rfl (lb rfl) fun a b45 w S => ?_
      refine leafL ⟨rfl, _, _, .inl ⟨5, (.pointer (some ⟨b45, 0, none⟩)), [], rfl, S, hz_of rfl, ?_⟩⟩
      refine node_by (A := anc_piece_Make_0) (nf := [2, 5, 7, 8]) (Y := [7, 5, 2]) 9 (by kernel_rfl) (by kernel_rfl) (by kernel_rfl) (by kernel_rfl) (by kernel_rfl) [7, 6, 5, 2, 0, 1, 3, 4] (by kernel_rfl) (by decide) (by decide) (aD 0 8 5 (by decide) (aD 1 7 5 (by decide) (aY 2 6 (by decide) (aD 3 5 5 (by decide) (aD 4 4 5 (by decide) (aY 5 3 (by decide) (aF 6 2 (by decide) ?_ (aY 7 1 (by decide) (aN 8 0 (by decide) ?_ (trivial)))))))))) [] (fun q hq => by cases hq) (fun hY => absurd (hY 8 (by decide)) (by decide))
      · refine fI 18 (.agg #[.slice ad40 r28.length cp41, .slice ad43 r33.length cp44]) [(14, .slice ad40 r28.length cp41), (17, .slice ad43 r33.length cp44)] 1 [some 3, some 2] rfl rfl rfl rfl rfl rfl fun G a w S => ?_
        refine sBuild [(0, .slice ad40 r28.length cp41), (1, .slice ad43 r33.length cp44)] [.slice ad40 r28.length cp41, .slice ad43 r33.length cp44] S (wN rfl) rfl rfl rfl rfl (lb rfl) fun a S => ?_
        exact leafL ⟨rfl, S⟩
      refine ⟨_, [(5, .pointer (some ⟨b45, 0, none⟩)), (18, .agg #[.slice ad40 r28.length cp41, .slice ad43 r33.length cp44])], rfl, (srcs_of [some 0, some 1] rfl rfl rfl), fun G a w S => ?_⟩
      refine sStore (p := b45) (off := 0) (T := 30) (vs := [.slice none 0 0, .slice none 0 0]) (v := .agg #[.slice ad40 r28.length cp41, .slice ad43 r33.length cp44]) 0 [.slice ad40 r28.length cp41, .slice ad43 r33.length cp44] S (wN rfl) rfl rfl rfl rfl rfl rfl rfl (by simp) rfl fun a w S => ?_
      refine leafL ⟨rfl, _, _, .inr ⟨[], rfl, S, hz_of rfl, ?_⟩⟩
      refine node_by (A := anc_piece_Make_0) (nf := [2, 5, 7, 8]) (Y := [8, 7, 5, 2]) 9 (by kernel_rfl) (by kernel_rfl) (by kernel_rfl) (by kernel_rfl) (by kernel_rfl) [7, 6, 5, 2, 0, 1, 3, 4] (by kernel_rfl) (by decide) (by decide) (aD 0 8 8 (by decide) (aD 1 7 8 (by decide) (aY 2 6 (by decide) (aD 3 5 8 (by decide) (aD 4 4 8 (by decide) (aY 5 3 (by decide) (aD 6 2 8 (by decide) (aY 7 1 (by decide) (aY 8 0 (by decide) (trivial)))))))))) [(2, .pointer (some ⟨b11, 0, none⟩)), (5, .pointer (some ⟨b45, 0, none⟩))] (fin_of [none, some 0] rfl (by kernel_rfl) (by kernel_rfl)) (fun _ a w S => ?_)
      exact leafT (⟨r28, r33, Option.some.inj h, b45, ad40, cp41, ad43, cp44, S.fix [1, 0] [1, 0] (by decide) rfl rfl rfl⟩)
    refine ⟨_, [], rfl, (srcs_of [] rfl rfl rfl), fun G a w S => ?_⟩
    refine sAlloc (.agg #[.slice none 0 0, .slice none 0 0]) S (wN rfl) rfl rfl [.slice none 0 0, .slice none 0 0] rfl rfl (lb rfl) fun a b46 w S => ?_
    refine leafL ⟨rfl, _, _, .inl ⟨5, (.pointer (some ⟨b46, 0, none⟩)), [], rfl, S, hz_of rfl, ?_⟩⟩
    refine node_by (A := anc_piece_Make_0) (nf := [2, 5, 7, 8]) (Y := [7, 2]) 9 (by kernel_rfl) (by kernel_rfl) (by kernel_rfl) (by kernel_rfl) (by kernel_rfl) [7, 2, 0, 1, 3, 4] (by kernel_rfl) (by decide) (by decide) (aD 0 8 2 (by decide) (aD 1 7 2 (by decide) (aY 2 6 (by decide) (aF 3 5 (by decide) ?_ (aF 4 4 (by decide) ?_ (aN 5 3 (by decide) ?_ (aE 6 2 5 (by decide) (aY 7 1 (by decide) (aB 8 0 5 (by decide) (trivial)))))))))) [] (fun q hq => by cases hq) (fun hY => absurd (hY 5 (by decide)) (by decide))
    · refine fI 15 (.pointer (some ⟨b10, 1, none⟩)) [(1, .pointer (some ⟨b10, 0, none⟩))] 4 [none] rfl rfl rfl rfl rfl rfl fun G a w S => ?_
      refine sField (b := b10) (off := 0) 1 1 S (wN rfl) rfl rfl rfl rfl rfl (lb rfl) fun a S => ?_
      exact leafL ⟨rfl, S⟩
    · refine fI 16 (.slice ad7 p0.Right.length cp8) [(15, .pointer (some ⟨b10, 1, none⟩))] 5 [some 4] rfl rfl rfl rfl rfl rfl fun G a w S => ?_
      refine sLoad1 (p := b10) (off := 1) (T := 24) (vs := [.slice ad5 p0.Left.length cp6, .slice ad7 p0.Right.length cp8]) 2 (.slice ad7 p0.Right.length cp8) S (wN rfl) rfl rfl rfl rfl rfl rfl (lb rfl) fun a S => ?_
      exact leafL ⟨rfl, S⟩
    refine ⟨_, [(16, .slice ad7 p0.Right.length cp8)], rfl, (srcs_of [some 5] rfl rfl rfl), fun G a w S => ?_⟩
    refine sCall (X := Value) (f := 36) (vs := [.slice ad7 p0.Right.length cp8]) (val := c_piece_columns_val r33) (B' := fun _ => []) (D' := c_piece_columns_D r33) [] [eBox b46 30 [.slice none 0 0, .slice none 0 0], eBox b11 30 [.slice none 0 0, .slice none 0 0], eBox b10 24 [.slice ad5 p0.Left.length cp6, .slice ad7 p0.Right.length cp8]] [fRep (rL r_api_Point) (.slice ad7 p0.Right.length cp8) p0.Right] [0, 1, 2] [1] S (wN rfl) rfl callee36 rfl (by decide) rfl rfl (fun E1 w1 S1 => c_piece_columns E1 w1 p0.Right (.slice ad7 p0.Right.length cp8) r33 hx34 S1) rfl (lb rfl) fun u47 a w S => ?_
    obtain ⟨ad48, cp49, _, rfl, _⟩ := S.mem.know (i := 0) (e := fRep (rL (rI .i64)) (u47) r33) rfl
    refine leafL ⟨rfl, _, _, .inl ⟨17, (.slice ad48 r33.length cp49), [(6, 18, .agg #[.slice ad40 r28.length cp41, .slice ad48 r33.length cp49])], rfl, S, hz_of rfl, ?_⟩⟩
    refine node_by (A := anc_piece_Make_0) (nf := [2, 5, 7, 8]) (Y := [5, 7, 2]) 9 (by kernel_rfl) (by kernel_rfl) (by kernel_rfl) (by kernel_rfl) (by kernel_rfl) [6, 5, 7, 2, 0, 1, 3, 4] (by kernel_rfl) (by decide) (by decide) (aD 0 8 5 (by decide) (aD 1 7 5 (by decide) (aY 2 6 (by decide) (aD 3 5 5 (by decide) (aD 4 4 5 (by decide) (aY 5 3 (by decide) (aF 6 2 (by decide) ?_ (aY 7 1 (by decide) (aN 8 0 (by decide) ?_ (trivial)))))))))) [] (fun q hq => by cases hq) (fun hY => absurd (hY 8 (by decide)) (by decide))
    · refine fI 18 (.agg #[.slice ad40 r28.length cp41, .slice ad48 r33.length cp49]) [(14, .slice ad40 r28.length cp41), (17, .slice ad48 r33.length cp49)] 0 [some 3, some 1] rfl rfl rfl rfl rfl rfl fun G a w S => ?_
      refine sBuild [(0, .slice ad40 r28.length cp41), (1, .slice ad48 r33.length cp49)] [.slice ad40 r28.length cp41, .slice ad48 r33.length cp49] S (wN rfl) rfl rfl rfl rfl (lb rfl) fun a S => ?_
      exact leafL ⟨rfl, S⟩
    refine ⟨_, [(5, .pointer (some ⟨b46, 0, none⟩)), (18, .agg #[.slice ad40 r28.length cp41, .slice ad48 r33.length cp49])], rfl, (srcs_of [some 2, some 0] rfl rfl rfl), fun G a w S => ?_⟩
    refine sStore (p := b46) (off := 0) (T := 30) (vs := [.slice none 0 0, .slice none 0 0]) (v := .agg #[.slice ad40 r28.length cp41, .slice ad48 r33.length cp49]) 0 [.slice ad40 r28.length cp41, .slice ad48 r33.length cp49] S (wN rfl) rfl rfl rfl rfl rfl rfl rfl (by simp) rfl fun a w S => ?_
    refine leafL ⟨rfl, _, _, .inr ⟨[], rfl, S, hz_of rfl, ?_⟩⟩
    refine node_by (A := anc_piece_Make_0) (nf := [2, 5, 7, 8]) (Y := [8, 5, 7, 2]) 9 (by kernel_rfl) (by kernel_rfl) (by kernel_rfl) (by kernel_rfl) (by kernel_rfl) [6, 5, 7, 2, 0, 1, 3, 4] (by kernel_rfl) (by decide) (by decide) (aD 0 8 8 (by decide) (aD 1 7 8 (by decide) (aY 2 6 (by decide) (aD 3 5 8 (by decide) (aD 4 4 8 (by decide) (aY 5 3 (by decide) (aD 6 2 8 (by decide) (aY 7 1 (by decide) (aY 8 0 (by decide) (trivial)))))))))) [(2, .pointer (some ⟨b11, 0, none⟩)), (5, .pointer (some ⟨b46, 0, none⟩))] (fin_of [none, some 2] rfl (by kernel_rfl) (by kernel_rfl)) (fun _ a w S => ?_)
    exact leafT (⟨r28, r33, Option.some.inj h, b46, ad40, cp41, ad48, cp49, S.fix [1, 0] [1, 0] (by decide) rfl rfl rfl⟩)
  · refine fI 15 (.pointer (some ⟨b10, 1, none⟩)) [(1, .pointer (some ⟨b10, 0, none⟩))] 2 [none] rfl rfl rfl rfl rfl rfl fun G a w S => ?_
    refine sField (b := b10) (off := 0) 1 1 S (wN rfl) rfl rfl rfl rfl rfl (lb rfl) fun a S => ?_
    exact leafL ⟨rfl, S⟩
  · refine fI 16 (.slice ad7 p0.Right.length cp8) [(15, .pointer (some ⟨b10, 1, none⟩))] 3 [some 2] rfl rfl rfl rfl rfl rfl fun G a w S => ?_
    refine sLoad1 (p := b10) (off := 1) (T := 24) (vs := [.slice ad5 p0.Left.length cp6, .slice ad7 p0.Right.length cp8]) 1 (.slice ad7 p0.Right.length cp8) S (wN rfl) rfl rfl rfl rfl rfl rfl (lb rfl) fun a S => ?_
    exact leafL ⟨rfl, S⟩
  refine ⟨_, [], rfl, (srcs_of [] rfl rfl rfl), fun G a w S => ?_⟩
  refine sAlloc (.agg #[.slice none 0 0, .slice none 0 0]) S (wN rfl) rfl rfl [.slice none 0 0, .slice none 0 0] rfl rfl (lb rfl) fun a b50 w S => ?_
  refine leafL ⟨rfl, _, _, .inl ⟨5, (.pointer (some ⟨b50, 0, none⟩)), [], rfl, S, hz_of rfl, ?_⟩⟩
  refine node_by (A := anc_piece_Make_0) (nf := [2, 5, 7, 8]) (Y := [7]) 9 (by kernel_rfl) (by kernel_rfl) (by kernel_rfl) (by kernel_rfl) (by kernel_rfl) [7, 0, 1, 3, 4] (by kernel_rfl) (by decide) (by decide) (aF 0 8 (by decide) ?_ (aF 1 7 (by decide) ?_ (aN 2 6 (by decide) ?_ (aF 3 5 (by decide) ?_ (aF 4 4 (by decide) ?_ (aB 5 3 2 (by decide) (aE 6 2 2 (by decide) (aY 7 1 (by decide) (aB 8 0 2 (by decide) (trivial)))))))))) [] (fun q hq => by cases hq) (fun hY => absurd (hY 2 (by decide)) (by decide))
  · refine fI 12 (.pointer (some ⟨b10, 0, none⟩)) [(1, .pointer (some ⟨b10, 0, none⟩))] 1 [none] rfl rfl rfl rfl rfl rfl fun G a w S => ?_
    refine sField (b := b10) (off := 0) 0 0 S (wN rfl) rfl rfl rfl rfl rfl (lb rfl) fun a S => ?_
    exact leafL ⟨rfl, S⟩
  · refine fI 13 (.slice ad5 p0.Left.length cp6) [(12, .pointer (some ⟨b10, 0, none⟩))] 2 [some 1] rfl rfl rfl rfl rfl rfl fun G a w S => ?_
    refine sLoad1 (p := b10) (off := 0) (T := 24) (vs := [.slice ad5 p0.Left.length cp6, .slice ad7 p0.Right.length cp8]) 2 (.slice ad5 p0.Left.length cp6) S (wN rfl) rfl rfl rfl rfl rfl rfl (lb rfl) fun a S => ?_
    exact leafL ⟨rfl, S⟩
  · refine ⟨_, [(13, .slice ad5 p0.Left.length cp6)], rfl, (srcs_of [some 2] rfl rfl rfl), fun G a w S => ?_⟩
    refine sCall (X := Value) (f := 36) (vs := [.slice ad5 p0.Left.length cp6]) (val := c_piece_columns_val r28) (B' := fun _ => []) (D' := c_piece_columns_D r28) [] [eBox b50 30 [.slice none 0 0, .slice none 0 0], eBox b11 30 [.slice none 0 0, .slice none 0 0], eBox b10 24 [.slice ad5 p0.Left.length cp6, .slice ad7 p0.Right.length cp8]] [fRep (rL r_api_Point) (.slice ad5 p0.Left.length cp6) p0.Left] [0, 1, 2] [1] S (wN rfl) rfl callee36 rfl (by decide) rfl rfl (fun E1 w1 S1 => c_piece_columns E1 w1 p0.Left (.slice ad5 p0.Left.length cp6) r28 hx29 S1) rfl (lb rfl) fun u51 a w S => ?_
    obtain ⟨ad52, cp53, _, rfl, _⟩ := S.mem.know (i := 0) (e := fRep (rL (rI .i64)) (u51) r28) rfl
    refine leafL ⟨rfl, _, _, .inl ⟨14, (.slice ad52 r28.length cp53), [], rfl, S, hz_of rfl, ?_⟩⟩
    refine node_by (A := anc_piece_Make_0) (nf := [2, 5, 7, 8]) (Y := [2, 7]) 9 (by kernel_rfl) (by kernel_rfl) (by kernel_rfl) (by kernel_rfl) (by kernel_rfl) [2, 7, 0, 1, 3, 4] (by kernel_rfl) (by decide) (by decide) (aD 0 8 2 (by decide) (aD 1 7 2 (by decide) (aY 2 6 (by decide) (aF 3 5 (by decide) ?_ (aF 4 4 (by decide) ?_ (aN 5 3 (by decide) ?_ (aE 6 2 5 (by decide) (aY 7 1 (by decide) (aB 8 0 5 (by decide) (trivial)))))))))) [] (fun q hq => by cases hq) (fun hY => absurd (hY 5 (by decide)) (by decide))
    · refine fI 15 (.pointer (some ⟨b10, 1, none⟩)) [(1, .pointer (some ⟨b10, 0, none⟩))] 4 [none] rfl rfl rfl rfl rfl rfl fun G a w S => ?_
      refine sField (b := b10) (off := 0) 1 1 S (wN rfl) rfl rfl rfl rfl rfl (lb rfl) fun a S => ?_
      exact leafL ⟨rfl, S⟩
    · refine fI 16 (.slice ad7 p0.Right.length cp8) [(15, .pointer (some ⟨b10, 1, none⟩))] 5 [some 4] rfl rfl rfl rfl rfl rfl fun G a w S => ?_
      refine sLoad1 (p := b10) (off := 1) (T := 24) (vs := [.slice ad5 p0.Left.length cp6, .slice ad7 p0.Right.length cp8]) 2 (.slice ad7 p0.Right.length cp8) S (wN rfl) rfl rfl rfl rfl rfl rfl (lb rfl) fun a S => ?_
      exact leafL ⟨rfl, S⟩
    refine ⟨_, [(16, .slice ad7 p0.Right.length cp8)], rfl, (srcs_of [some 5] rfl rfl rfl), fun G a w S => ?_⟩
    refine sCall (X := Value) (f := 36) (vs := [.slice ad7 p0.Right.length cp8]) (val := c_piece_columns_val r33) (B' := fun _ => []) (D' := c_piece_columns_D r33) [] [eBox b50 30 [.slice none 0 0, .slice none 0 0], eBox b11 30 [.slice none 0 0, .slice none 0 0], eBox b10 24 [.slice ad5 p0.Left.length cp6, .slice ad7 p0.Right.length cp8]] [fRep (rL r_api_Point) (.slice ad7 p0.Right.length cp8) p0.Right] [0, 1, 2] [1] S (wN rfl) rfl callee36 rfl (by decide) rfl rfl (fun E1 w1 S1 => c_piece_columns E1 w1 p0.Right (.slice ad7 p0.Right.length cp8) r33 hx34 S1) rfl (lb rfl) fun u54 a w S => ?_
    obtain ⟨ad55, cp56, _, rfl, _⟩ := S.mem.know (i := 0) (e := fRep (rL (rI .i64)) (u54) r33) rfl
    refine leafL ⟨rfl, _, _, .inl ⟨17, (.slice ad55 r33.length cp56), [(6, 18, .agg #[.slice ad52 r28.length cp53, .slice ad55 r33.length cp56])], rfl, S, hz_of rfl, ?_⟩⟩
    refine node_by (A := anc_piece_Make_0) (nf := [2, 5, 7, 8]) (Y := [5, 2, 7]) 9 (by kernel_rfl) (by kernel_rfl) (by kernel_rfl) (by kernel_rfl) (by kernel_rfl) [6, 5, 2, 7, 0, 1, 3, 4] (by kernel_rfl) (by decide) (by decide) (aD 0 8 5 (by decide) (aD 1 7 5 (by decide) (aY 2 6 (by decide) (aD 3 5 5 (by decide) (aD 4 4 5 (by decide) (aY 5 3 (by decide) (aF 6 2 (by decide) ?_ (aY 7 1 (by decide) (aN 8 0 (by decide) ?_ (trivial)))))))))) [] (fun q hq => by cases hq) (fun hY => absurd (hY 8 (by decide)) (by decide))
    · refine fI 18 (.agg #[.slice ad52 r28.length cp53, .slice ad55 r33.length cp56]) [(14, .slice ad52 r28.length cp53), (17, .slice ad55 r33.length cp56)] 0 [some 2, some 1] rfl rfl rfl rfl rfl rfl fun G a w S => ?_
      refine sBuild [(0, .slice ad52 r28.length cp53), (1, .slice ad55 r33.length cp56)] [.slice ad52 r28.length cp53, .slice ad55 r33.length cp56] S (wN rfl) rfl rfl rfl rfl (lb rfl) fun a S => ?_
      exact leafL ⟨rfl, S⟩
    refine ⟨_, [(5, .pointer (some ⟨b50, 0, none⟩)), (18, .agg #[.slice ad52 r28.length cp53, .slice ad55 r33.length cp56])], rfl, (srcs_of [some 3, some 0] rfl rfl rfl), fun G a w S => ?_⟩
    refine sStore (p := b50) (off := 0) (T := 30) (vs := [.slice none 0 0, .slice none 0 0]) (v := .agg #[.slice ad52 r28.length cp53, .slice ad55 r33.length cp56]) 0 [.slice ad52 r28.length cp53, .slice ad55 r33.length cp56] S (wN rfl) rfl rfl rfl rfl rfl rfl rfl (by simp) rfl fun a w S => ?_
    refine leafL ⟨rfl, _, _, .inr ⟨[], rfl, S, hz_of rfl, ?_⟩⟩
    refine node_by (A := anc_piece_Make_0) (nf := [2, 5, 7, 8]) (Y := [8, 5, 2, 7]) 9 (by kernel_rfl) (by kernel_rfl) (by kernel_rfl) (by kernel_rfl) (by kernel_rfl) [6, 5, 2, 7, 0, 1, 3, 4] (by kernel_rfl) (by decide) (by decide) (aD 0 8 8 (by decide) (aD 1 7 8 (by decide) (aY 2 6 (by decide) (aD 3 5 8 (by decide) (aD 4 4 8 (by decide) (aY 5 3 (by decide) (aD 6 2 8 (by decide) (aY 7 1 (by decide) (aY 8 0 (by decide) (trivial)))))))))) [(2, .pointer (some ⟨b11, 0, none⟩)), (5, .pointer (some ⟨b50, 0, none⟩))] (fin_of [none, some 3] rfl (by kernel_rfl) (by kernel_rfl)) (fun _ a w S => ?_)
    exact leafT (⟨r28, r33, Option.some.inj h, b50, ad52, cp53, ad55, cp56, S.fix [1, 0] [1, 0] (by decide) rfl rfl rfl⟩)
  · refine fI 15 (.pointer (some ⟨b10, 1, none⟩)) [(1, .pointer (some ⟨b10, 0, none⟩))] 3 [none] rfl rfl rfl rfl rfl rfl fun G a w S => ?_
    refine sField (b := b10) (off := 0) 1 1 S (wN rfl) rfl rfl rfl rfl rfl (lb rfl) fun a S => ?_
    exact leafL ⟨rfl, S⟩
  refine fI 16 (.slice ad7 p0.Right.length cp8) [(15, .pointer (some ⟨b10, 1, none⟩))] 4 [some 3] rfl rfl rfl rfl rfl rfl fun G a w S => ?_
  refine sLoad1 (p := b10) (off := 1) (T := 24) (vs := [.slice ad5 p0.Left.length cp6, .slice ad7 p0.Right.length cp8]) 2 (.slice ad7 p0.Right.length cp8) S (wN rfl) rfl rfl rfl rfl rfl rfl (lb rfl) fun a S => ?_
  exact leafL ⟨rfl, S⟩

end Go.Proofs.YtmedbnjhgkcndaaDoor
namespace Go.Proofs.YtmedbnjhgkcndaaDoor
open Go.RowKit
set_option linter.unusedVariables false

noncomputable def F_piece_bend (p0 : Int) (p1 : Int) : Option piece_edge :=
  if p0 == 0 then
    some (piece_edge.mk (api_Stitch.mk 0 false 0 0) 0)
  else
    if decide (4 ≤ p0) then
      some (piece_edge.mk (api_Stitch.mk 9 false p0 0) 0)
    else
      if decide (0 < p0) then
        some (piece_edge.mk (api_Stitch.mk 5 false (w64 (p0 + 1)) 0) 1)
      else
        if decide ((-4) < p0) then
          some (piece_edge.mk (api_Stitch.mk p1 false (w64 (1 - p0)) 0) (w64 (1 - p0)))
        else
          some (piece_edge.mk (api_Stitch.mk 10 false (w64 (0 - p0)) 0) (w64 (0 - p0)))
def c_piece_bend_val (r : piece_edge) (x : Value) : Value := x
def c_piece_bend_D (r : piece_edge) (x : Value) : List Fact := [fRep r_piece_edge x r]
set_option maxHeartbeats 4000000 in
set_option maxRecDepth 100000 in
theorem c_piece_bend (E : Nat → Prop) (w0 : World) (p0 : Int) (p1 : Int) (r : piece_edge) (h : F_piece_bend p0 p1 = some r) (S : St0 E [] w0 w0 [] []) :
    Calls Tryd.prog 38 #[iv p0, .int .u8 p1] w0 (Ret (X := Value) E [] w0 (c_piece_bend_val r) (fun _ => []) (c_piece_bend_D r)) := by
  unfold F_piece_bend at h
  refine sEnter (args := [iv p0, .int .u8 p1]) 38 Tryd.func38 rfl rfl (by simp) S (fun a S => ?_)
  refine sSeq (fun K1 hK1 => ?_)
  refine sRegion ?_
  refine sAlloc (.agg #[.int .u8 0, .bool false, iv 0, iv 0, iv 0]) S (wN rfl) rfl rfl [.int .u8 0, .bool false, iv 0, iv 0, iv 0] rfl rfl (lb rfl) fun a b2 w S => ?_
  refine leafL (leafT (hK1 _ _ ?_))
  refine sSeq (fun K3 hK3 => ?_)
  refine wp_block ?_
  refine sSeq (fun K4 hK4 => ?_)
  refine sRegion ?_
  refine sMove (iv p0) S (wN rfl) (.inl rfl) rfl rfl (lb rfl) fun a S => ?_
  refine sBin (.bool (p0 == 0)) S (wN rfl) rfl rfl rfl (bEq _ _ _ _ .i64 p0 0) rfl (lb rfl) fun a S => ?_
  refine sMove (.bool (p0 == 0)) S (wN rfl) (.inr rfl) rfl rfl (lb rfl) fun a S => ?_
  refine leafL (leafT (hK4 _ _ ?_))
  rcases iteSome h with ⟨hc5, h⟩ | ⟨hc5, h⟩
  · refine sCondT S rfl hc5 ?_
    refine sSeq (fun K6 hK6 => ?_)
    refine sRegion ?_
    refine sBuild [] [.int .u8 0, .bool false, iv 0, iv 0, iv 0] S (wN rfl) rfl rfl rfl rfl (lb rfl) fun a S => ?_
    refine sStore (p := b2) (off := 0) (T := 81) (vs := [.int .u8 0, .bool false, iv 0, iv 0, iv 0]) (v := .agg #[.int .u8 0, .bool false, iv 0, iv 0, iv 0]) 0 [.int .u8 0, .bool false, iv 0, iv 0, iv 0] S (wN rfl) rfl rfl rfl rfl rfl rfl rfl (by simp) rfl fun a w S => ?_
    refine leafL (leafT (hK6 _ _ ?_))
    obtain rfl := Option.some.inj h
    have S := S.learn (fRep r_piece_edge (.agg #[.int .u8 0, .bool false, iv 0, iv 0, iv 0]) (piece_edge.mk (api_Stitch.mk 0 false 0 0) 0)) rfl
    exact wp_ret (rBlock (rThen (sRet (.agg #[.int .u8 0, .bool false, iv 0, iv 0, iv 0]) S (rsl1 rfl (rvN (c := 4) (t := 81) (T := 81) (p := b2) 0 [.int .u8 0, .bool false, iv 0, iv 0, iv 0] S rfl rfl rfl rfl)) ⟨(.agg #[.int .u8 0, .bool false, iv 0, iv 0, iv 0]), rfl, S.mem.sel [] [0] (by decide) rfl rfl⟩)))
  refine sCondF S rfl hc5 ?_
  refine sSeq (fun K7 hK7 => ?_)
  refine sRegion ?_
  refine sMove (iv p0) S (wN rfl) (.inl rfl) rfl rfl (lb rfl) fun a S => ?_
  refine sBin (.bool (decide (4 ≤ p0))) S (wN rfl) rfl rfl rfl (bGe _ _ _ _ .i64 p0 4) rfl (lb rfl) fun a S => ?_
  refine sMove (.bool (decide (4 ≤ p0))) S (wN rfl) (.inr rfl) rfl rfl (lb rfl) fun a S => ?_
  refine leafL (leafT (hK7 _ _ ?_))
  rcases iteSome h with ⟨hc8, h⟩ | ⟨hc8, h⟩
  · refine sCondT S rfl hc8 ?_
    refine sSeq (fun K9 hK9 => ?_)
    refine sRegion ?_
    refine sMove (iv p0) S (wN rfl) (.inl rfl) rfl rfl (lb rfl) fun a S => ?_
    refine sBuild [(0, .int .u8 9), (2, iv p0)] [.int .u8 9, .bool false, iv p0, iv 0] S (wN rfl) rfl rfl rfl rfl (lb rfl) fun a S => ?_
    refine sBuild [(0, .agg #[.int .u8 9, .bool false, iv p0, iv 0])] [.int .u8 9, .bool false, iv p0, iv 0, iv 0] S (wN rfl) rfl rfl rfl rfl (lb rfl) fun a S => ?_
    refine sStore (p := b2) (off := 0) (T := 81) (vs := [.int .u8 0, .bool false, iv 0, iv 0, iv 0]) (v := .agg #[.int .u8 9, .bool false, iv p0, iv 0, iv 0]) 0 [.int .u8 9, .bool false, iv p0, iv 0, iv 0] S (wN rfl) rfl rfl rfl rfl rfl rfl rfl (by simp) rfl fun a w S => ?_
    refine leafL (leafT (hK9 _ _ ?_))
    obtain rfl := Option.some.inj h
    have S := S.learn (fRep r_piece_edge (.agg #[.int .u8 9, .bool false, iv p0, iv 0, iv 0]) (piece_edge.mk (api_Stitch.mk 9 false p0 0) 0)) rfl
    exact wp_ret (rBlock (rThen (sRet (.agg #[.int .u8 9, .bool false, iv p0, iv 0, iv 0]) S (rsl1 rfl (rvN (c := 4) (t := 81) (T := 81) (p := b2) 0 [.int .u8 9, .bool false, iv p0, iv 0, iv 0] S rfl rfl rfl rfl)) ⟨(.agg #[.int .u8 9, .bool false, iv p0, iv 0, iv 0]), rfl, S.mem.sel [] [0] (by decide) rfl rfl⟩)))
  refine sCondF S rfl hc8 ?_
  refine sSeq (fun K10 hK10 => ?_)
  refine sRegion ?_
  refine sMove (iv p0) S (wN rfl) (.inl rfl) rfl rfl (lb rfl) fun a S => ?_
  refine sBin (.bool (decide (0 < p0))) S (wN rfl) rfl rfl rfl (bGt _ _ _ _ .i64 p0 0) rfl (lb rfl) fun a S => ?_
  refine sMove (.bool (decide (0 < p0))) S (wN rfl) (.inr rfl) rfl rfl (lb rfl) fun a S => ?_
  refine leafL (leafT (hK10 _ _ ?_))
  rcases iteSome h with ⟨hc11, h⟩ | ⟨hc11, h⟩
  · refine sCondT S rfl hc11 ?_
    refine sSeq (fun K12 hK12 => ?_)
    refine sRegion ?_
    refine sMove (iv p0) S (wN rfl) (.inl rfl) rfl rfl (lb rfl) fun a S => ?_
    refine sBin (iv (w64 (p0 + 1))) S (wN rfl) rfl rfl rfl (bAdd _ _ _ _ p0 1) rfl (lb rfl) fun a S => ?_
    refine sBuild [(0, .int .u8 5), (2, iv (w64 (p0 + 1)))] [.int .u8 5, .bool false, iv (w64 (p0 + 1)), iv 0] S (wN rfl) rfl rfl rfl rfl (lb rfl) fun a S => ?_
    refine sBuild [(0, .agg #[.int .u8 5, .bool false, iv (w64 (p0 + 1)), iv 0]), (1, iv 1)] [.int .u8 5, .bool false, iv (w64 (p0 + 1)), iv 0, iv 1] S (wN rfl) rfl rfl rfl rfl (lb rfl) fun a S => ?_
    refine sStore (p := b2) (off := 0) (T := 81) (vs := [.int .u8 0, .bool false, iv 0, iv 0, iv 0]) (v := .agg #[.int .u8 5, .bool false, iv (w64 (p0 + 1)), iv 0, iv 1]) 0 [.int .u8 5, .bool false, iv (w64 (p0 + 1)), iv 0, iv 1] S (wN rfl) rfl rfl rfl rfl rfl rfl rfl (by simp) rfl fun a w S => ?_
    refine leafL (leafT (hK12 _ _ ?_))
    obtain rfl := Option.some.inj h
    have S := S.learn (fRep r_piece_edge (.agg #[.int .u8 5, .bool false, iv (w64 (p0 + 1)), iv 0, iv 1]) (piece_edge.mk (api_Stitch.mk 5 false (w64 (p0 + 1)) 0) 1)) rfl
    exact wp_ret (rBlock (rThen (sRet (.agg #[.int .u8 5, .bool false, iv (w64 (p0 + 1)), iv 0, iv 1]) S (rsl1 rfl (rvN (c := 4) (t := 81) (T := 81) (p := b2) 0 [.int .u8 5, .bool false, iv (w64 (p0 + 1)), iv 0, iv 1] S rfl rfl rfl rfl)) ⟨(.agg #[.int .u8 5, .bool false, iv (w64 (p0 + 1)), iv 0, iv 1]), rfl, S.mem.sel [] [0] (by decide) rfl rfl⟩)))
  refine sCondF S rfl hc11 ?_
  refine sSeq (fun K13 hK13 => ?_)
  refine sRegion ?_
  refine sMove (iv p0) S (wN rfl) (.inl rfl) rfl rfl (lb rfl) fun a S => ?_
  refine sBin (.bool (decide ((-4) < p0))) S (wN rfl) rfl rfl rfl (bGt _ _ _ _ .i64 p0 (-4)) rfl (lb rfl) fun a S => ?_
  refine sMove (.bool (decide ((-4) < p0))) S (wN rfl) (.inr rfl) rfl rfl (lb rfl) fun a S => ?_
  refine leafL (leafT (hK13 _ _ ?_))
  rcases iteSome h with ⟨hc14, h⟩ | ⟨hc14, h⟩
  rotate_left
  · refine sCondF S rfl hc14 ?_
    refine wp_skip (leafB (leafT (hK3 _ _ ?_)))
    refine sSeq (fun K16 hK16 => ?_)
    refine sRegion ?_
    refine sMove (iv p0) S (wN rfl) (.inl rfl) rfl rfl (lb rfl) fun a S => ?_
    refine sNeg (b := p0) S (wN rfl) rfl rfl rfl (lb rfl) fun a S => ?_
    refine sBuild [(0, .int .u8 10), (2, iv (w64 (0 - p0)))] [.int .u8 10, .bool false, iv (w64 (0 - p0)), iv 0] S (wN rfl) rfl rfl rfl rfl (lb rfl) fun a S => ?_
    refine sMove (iv p0) S (wN rfl) (.inl rfl) rfl rfl (lb rfl) fun a S => ?_
    refine sNeg (b := p0) S (wN rfl) rfl rfl rfl (lb rfl) fun a S => ?_
    refine sBuild [(0, .agg #[.int .u8 10, .bool false, iv (w64 (0 - p0)), iv 0]), (1, iv (w64 (0 - p0)))] [.int .u8 10, .bool false, iv (w64 (0 - p0)), iv 0, iv (w64 (0 - p0))] S (wN rfl) rfl rfl rfl rfl (lb rfl) fun a S => ?_
    refine sStore (p := b2) (off := 0) (T := 81) (vs := [.int .u8 0, .bool false, iv 0, iv 0, iv 0]) (v := .agg #[.int .u8 10, .bool false, iv (w64 (0 - p0)), iv 0, iv (w64 (0 - p0))]) 0 [.int .u8 10, .bool false, iv (w64 (0 - p0)), iv 0, iv (w64 (0 - p0))] S (wN rfl) rfl rfl rfl rfl rfl rfl rfl (by simp) rfl fun a w S => ?_
    refine leafL (leafT (hK16 _ _ ?_))
    obtain rfl := Option.some.inj h
    have S := S.learn (fRep r_piece_edge (.agg #[.int .u8 10, .bool false, iv (w64 (0 - p0)), iv 0, iv (w64 (0 - p0))]) (piece_edge.mk (api_Stitch.mk 10 false (w64 (0 - p0)) 0) (w64 (0 - p0)))) rfl
    exact wp_ret (sRet (.agg #[.int .u8 10, .bool false, iv (w64 (0 - p0)), iv 0, iv (w64 (0 - p0))]) S (rsl1 rfl (rvN (c := 4) (t := 81) (T := 81) (p := b2) 0 [.int .u8 10, .bool false, iv (w64 (0 - p0)), iv 0, iv (w64 (0 - p0))] S rfl rfl rfl rfl)) ⟨(.agg #[.int .u8 10, .bool false, iv (w64 (0 - p0)), iv 0, iv (w64 (0 - p0))]), rfl, S.mem.sel [] [0] (by decide) rfl rfl⟩)
  refine sCondT S rfl hc14 ?_
  refine sSeq (fun K15 hK15 => ?_)
  refine sRegion ?_
  refine sMove (.int .u8 p1) S (wN rfl) (.inl rfl) rfl rfl (lb rfl) fun a S => ?_
  refine sMove (iv p0) S (wN rfl) (.inl rfl) rfl rfl (lb rfl) fun a S => ?_
  refine sBin (iv (w64 (1 - p0))) S (wN rfl) rfl rfl rfl (bSub _ _ _ _ 1 p0) rfl (lb rfl) fun a S => ?_
  refine sBuild [(0, .int .u8 p1), (2, iv (w64 (1 - p0)))] [.int .u8 p1, .bool false, iv (w64 (1 - p0)), iv 0] S (wN rfl) rfl rfl rfl rfl (lb rfl) fun a S => ?_
  refine sMove (iv p0) S (wN rfl) (.inl rfl) rfl rfl (lb rfl) fun a S => ?_
  refine sBin (iv (w64 (1 - p0))) S (wN rfl) rfl rfl rfl (bSub _ _ _ _ 1 p0) rfl (lb rfl) fun a S => ?_
  refine sBuild [(0, .agg #[.int .u8 p1, .bool false, iv (w64 (1 - p0)), iv 0]), (1, iv (w64 (1 - p0)))] [.int .u8 p1, .bool false, iv (w64 (1 - p0)), iv 0, iv (w64 (1 - p0))] S (wN rfl) rfl rfl rfl rfl (lb rfl) fun a S => ?_
  refine sStore (p := b2) (off := 0) (T := 81) (vs := [.int .u8 0, .bool false, iv 0, iv 0, iv 0]) (v := .agg #[.int .u8 p1, .bool false, iv (w64 (1 - p0)), iv 0, iv (w64 (1 - p0))]) 0 [.int .u8 p1, .bool false, iv (w64 (1 - p0)), iv 0, iv (w64 (1 - p0))] S (wN rfl) rfl rfl rfl rfl rfl rfl rfl (by simp) rfl fun a w S => ?_
  refine leafL (leafT (hK15 _ _ ?_))
  obtain rfl := Option.some.inj h
  have S := S.learn (fRep r_piece_edge (.agg #[.int .u8 p1, .bool false, iv (w64 (1 - p0)), iv 0, iv (w64 (1 - p0))]) (piece_edge.mk (api_Stitch.mk p1 false (w64 (1 - p0)) 0) (w64 (1 - p0)))) rfl
  exact wp_ret (rBlock (rThen (sRet (.agg #[.int .u8 p1, .bool false, iv (w64 (1 - p0)), iv 0, iv (w64 (1 - p0))]) S (rsl1 rfl (rvN (c := 4) (t := 81) (T := 81) (p := b2) 0 [.int .u8 p1, .bool false, iv (w64 (1 - p0)), iv 0, iv (w64 (1 - p0))] S rfl rfl rfl rfl)) ⟨(.agg #[.int .u8 p1, .bool false, iv (w64 (1 - p0)), iv 0, iv (w64 (1 - p0))]), rfl, S.mem.sel [] [0] (by decide) rfl rfl⟩)))

end Go.Proofs.YtmedbnjhgkcndaaDoor
namespace Go.Proofs.YtmedbnjhgkcndaaDoor
open Go.RowKit
set_option linter.unusedVariables false

noncomputable def F_stitch_forms (p0 : Int) : Option (stitch_form × Bool) :=
  Option.bind (α := Bool) (
    if decide (p0 < 1) then
      some true
    else
      some (decide (([(stitch_form.mk (⟨#[]⟩ : ByteArray) (0, 0) (0, 0) true 1 1), (stitch_form.mk (⟨#[]⟩ : ByteArray) (0, 0) (0, 0) false 0 1), (stitch_form.mk (⟨#[102]⟩ : ByteArray) (2, 4) (0, 0) true 2 1), (stitch_form.mk (⟨#[108]⟩ : ByteArray) (2, 4) (0, 0) true 2 1), (stitch_form.mk (⟨#[109]⟩ : ByteArray) (2, 4) (0, 0) true 1 2), (stitch_form.mk (⟨#[120]⟩ : ByteArray) (1, 6) (1, 6) true 3 3), (stitch_form.mk (⟨#[121]⟩ : ByteArray) (1, 6) (1, 6) true 3 3), (stitch_form.mk (⟨#[115]⟩ : ByteArray) (0, 0) (0, 0) true 1 1), (stitch_form.mk (⟨#[]⟩ : ByteArray) (1, 200) (0, 0) false 0 2), (stitch_form.mk (⟨#[111]⟩ : ByteArray) (1, 200) (0, 0) true 2 0)].length : Int) < (IntKind.i64.wrap p0)))) fun o12 =>
  if o12 then
    some ((stitch_form.mk (⟨#[]⟩ : ByteArray) (0, 0) (0, 0) false 0 0), false)
  else
    Option.bind (idxO [(stitch_form.mk (⟨#[]⟩ : ByteArray) (0, 0) (0, 0) true 1 1), (stitch_form.mk (⟨#[]⟩ : ByteArray) (0, 0) (0, 0) false 0 1), (stitch_form.mk (⟨#[102]⟩ : ByteArray) (2, 4) (0, 0) true 2 1), (stitch_form.mk (⟨#[108]⟩ : ByteArray) (2, 4) (0, 0) true 2 1), (stitch_form.mk (⟨#[109]⟩ : ByteArray) (2, 4) (0, 0) true 1 2), (stitch_form.mk (⟨#[120]⟩ : ByteArray) (1, 6) (1, 6) true 3 3), (stitch_form.mk (⟨#[121]⟩ : ByteArray) (1, 6) (1, 6) true 3 3), (stitch_form.mk (⟨#[115]⟩ : ByteArray) (0, 0) (0, 0) true 1 1), (stitch_form.mk (⟨#[]⟩ : ByteArray) (1, 200) (0, 0) false 0 2), (stitch_form.mk (⟨#[111]⟩ : ByteArray) (1, 200) (0, 0) true 2 0)] (IntKind.u8.wrap (p0 - 1))) fun x19 =>
    some (x19, true)
def c_stitch_forms_val (r : (stitch_form × Bool)) (x : Value) : Value := .tuple #[x, .bool r.2]
def c_stitch_forms_D (r : (stitch_form × Bool)) (x : Value) : List Fact := [fRep r_stitch_form x r.1]
set_option maxHeartbeats 4000000 in
set_option maxRecDepth 100000 in
theorem c_stitch_forms (E : Nat → Prop) (w0 : World) (p0 : Int) (r : (stitch_form × Bool)) (h : F_stitch_forms p0 = some r) (S : St0 E [] w0 w0 [] []) :
    Calls Tryd.prog 52 #[.int .u8 p0] w0 (Ret (X := Value) E [] w0 (c_stitch_forms_val r) (fun _ => []) (c_stitch_forms_D r)) := by
  unfold F_stitch_forms at h
  refine sEnter (args := [.int .u8 p0]) 57 Tryd.func52 rfl rfl (by simp) S (fun a S => ?_)
  refine sSeq (fun K1 hK1 => ?_)
  refine sRegion ?_
  refine sAlloc (gv_stitch_form (stitch_form.mk (⟨#[]⟩ : ByteArray) (0, 0) (0, 0) false 0 0)) S (wN rfl) rfl rfl (gl_stitch_form (stitch_form.mk (⟨#[]⟩ : ByteArray) (0, 0) (0, 0) false 0 0)) rfl rfl (lb rfl) fun a b2 w S => ?_
  refine sMove (.bool false) S (wN rfl) (.inr rfl) rfl rfl (lb rfl) fun a S => ?_
  refine leafL (leafT (hK1 _ _ ?_))
  refine sSeq (fun K3 hK3 => ?_)
  refine sRegion ?_
  refine sBuild [(0, iv 2), (1, iv 4)] [iv 2, iv 4] S (wN rfl) rfl rfl rfl rfl (lb rfl) fun a S => ?_
  refine sBuild [(0, iv 1), (1, iv 6)] [iv 1, iv 6] S (wN rfl) rfl rfl rfl rfl (lb rfl) fun a S => ?_
  refine sAlloc (.agg #[iv 0, iv 0]) S (wN rfl) rfl rfl [iv 0, iv 0] rfl rfl (lb rfl) fun a b4 w S => ?_
  refine sAlloc (.agg #[iv 0, iv 0]) S (wN rfl) rfl rfl [iv 0, iv 0] rfl rfl (lb rfl) fun a b5 w S => ?_
  refine sStore (p := b4) (off := 0) (T := 61) (vs := [iv 0, iv 0]) (v := .agg #[iv 2, iv 4]) 1 [iv 2, iv 4] S (wN rfl) rfl rfl rfl rfl rfl rfl rfl (by simp) rfl fun a w S => ?_
  refine sStore (p := b5) (off := 0) (T := 61) (vs := [iv 0, iv 0]) (v := .agg #[iv 1, iv 6]) 1 [iv 1, iv 6] S (wN rfl) rfl rfl rfl rfl rfl rfl rfl (by simp) rfl fun a w S => ?_
  refine leafL (leafT (hK3 _ _ ?_))
  refine sSeq (fun K6 hK6 => ?_)
  refine sRegion ?_
  refine sBuild [(0, iv 1), (1, iv 200)] [iv 1, iv 200] S (wN rfl) rfl rfl rfl rfl (lb rfl) fun a S => ?_
  refine sAlloc (.agg #[iv 0, iv 0]) S (wN rfl) rfl rfl [iv 0, iv 0] rfl rfl (lb rfl) fun a b7 w S => ?_
  refine sStore (p := b7) (off := 0) (T := 61) (vs := [iv 0, iv 0]) (v := .agg #[iv 1, iv 200]) 0 [iv 1, iv 200] S (wN rfl) rfl rfl rfl rfl rfl rfl rfl (by simp) rfl fun a w S => ?_
  refine leafL (leafT (hK6 _ _ ?_))
  refine sSeq (fun K8 hK8 => ?_)
  refine sRegion ?_
  refine sBuild [] [iv 0, iv 0] S (wN rfl) rfl rfl rfl rfl (lb rfl) fun a S => ?_
  refine sBuild [] [iv 0, iv 0] S (wN rfl) rfl rfl rfl rfl (lb rfl) fun a S => ?_
  refine sBuild [(0, .string (⟨#[]⟩ : ByteArray)), (1, .agg #[iv 0, iv 0]), (2, .agg #[iv 0, iv 0]), (3, .bool true), (4, iv 1), (5, iv 1)] (gl_stitch_form (stitch_form.mk (⟨#[]⟩ : ByteArray) (0, 0) (0, 0) true 1 1)) S (wN rfl) rfl rfl rfl rfl (lb rfl) fun a S => ?_
  refine sBuild [] [iv 0, iv 0] S (wN rfl) rfl rfl rfl rfl (lb rfl) fun a S => ?_
  refine sBuild [] [iv 0, iv 0] S (wN rfl) rfl rfl rfl rfl (lb rfl) fun a S => ?_
  refine sBuild [(0, .string (⟨#[]⟩ : ByteArray)), (1, .agg #[iv 0, iv 0]), (2, .agg #[iv 0, iv 0]), (3, .bool false), (4, iv 0), (5, iv 1)] (gl_stitch_form (stitch_form.mk (⟨#[]⟩ : ByteArray) (0, 0) (0, 0) false 0 1)) S (wN rfl) rfl rfl rfl rfl (lb rfl) fun a S => ?_
  refine sLoadN (p := b4) (off := 0) (T := 61) (vs := [iv 2, iv 4]) 2 [iv 2, iv 4] S (wN rfl) rfl rfl rfl rfl rfl rfl rfl (lb rfl) fun a S => ?_
  refine sBuild [] [iv 0, iv 0] S (wN rfl) rfl rfl rfl rfl (lb rfl) fun a S => ?_
  refine sBuild [(0, .string (⟨#[102]⟩ : ByteArray)), (1, .agg #[iv 2, iv 4]), (2, .agg #[iv 0, iv 0]), (3, .bool true), (4, iv 2), (5, iv 1)] (gl_stitch_form (stitch_form.mk (⟨#[102]⟩ : ByteArray) (2, 4) (0, 0) true 2 1)) S (wN rfl) rfl rfl rfl rfl (lb rfl) fun a S => ?_
  refine sLoadN (p := b4) (off := 0) (T := 61) (vs := [iv 2, iv 4]) 2 [iv 2, iv 4] S (wN rfl) rfl rfl rfl rfl rfl rfl rfl (lb rfl) fun a S => ?_
  refine sBuild [] [iv 0, iv 0] S (wN rfl) rfl rfl rfl rfl (lb rfl) fun a S => ?_
  refine sBuild [(0, .string (⟨#[108]⟩ : ByteArray)), (1, .agg #[iv 2, iv 4]), (2, .agg #[iv 0, iv 0]), (3, .bool true), (4, iv 2), (5, iv 1)] (gl_stitch_form (stitch_form.mk (⟨#[108]⟩ : ByteArray) (2, 4) (0, 0) true 2 1)) S (wN rfl) rfl rfl rfl rfl (lb rfl) fun a S => ?_
  refine sLoadN (p := b4) (off := 0) (T := 61) (vs := [iv 2, iv 4]) 2 [iv 2, iv 4] S (wN rfl) rfl rfl rfl rfl rfl rfl rfl (lb rfl) fun a S => ?_
  refine sBuild [] [iv 0, iv 0] S (wN rfl) rfl rfl rfl rfl (lb rfl) fun a S => ?_
  refine sBuild [(0, .string (⟨#[109]⟩ : ByteArray)), (1, .agg #[iv 2, iv 4]), (2, .agg #[iv 0, iv 0]), (3, .bool true), (4, iv 1), (5, iv 2)] (gl_stitch_form (stitch_form.mk (⟨#[109]⟩ : ByteArray) (2, 4) (0, 0) true 1 2)) S (wN rfl) rfl rfl rfl rfl (lb rfl) fun a S => ?_
  refine sLoadN (p := b5) (off := 0) (T := 61) (vs := [iv 1, iv 6]) 1 [iv 1, iv 6] S (wN rfl) rfl rfl rfl rfl rfl rfl rfl (lb rfl) fun a S => ?_
  refine sLoadN (p := b5) (off := 0) (T := 61) (vs := [iv 1, iv 6]) 1 [iv 1, iv 6] S (wN rfl) rfl rfl rfl rfl rfl rfl rfl (lb rfl) fun a S => ?_
  refine sBuild [(0, .string (⟨#[120]⟩ : ByteArray)), (1, .agg #[iv 1, iv 6]), (2, .agg #[iv 1, iv 6]), (3, .bool true), (4, iv 3), (5, iv 3)] (gl_stitch_form (stitch_form.mk (⟨#[120]⟩ : ByteArray) (1, 6) (1, 6) true 3 3)) S (wN rfl) rfl rfl rfl rfl (lb rfl) fun a S => ?_
  refine sLoadN (p := b5) (off := 0) (T := 61) (vs := [iv 1, iv 6]) 1 [iv 1, iv 6] S (wN rfl) rfl rfl rfl rfl rfl rfl rfl (lb rfl) fun a S => ?_
  refine sLoadN (p := b5) (off := 0) (T := 61) (vs := [iv 1, iv 6]) 1 [iv 1, iv 6] S (wN rfl) rfl rfl rfl rfl rfl rfl rfl (lb rfl) fun a S => ?_
  refine sBuild [(0, .string (⟨#[121]⟩ : ByteArray)), (1, .agg #[iv 1, iv 6]), (2, .agg #[iv 1, iv 6]), (3, .bool true), (4, iv 3), (5, iv 3)] (gl_stitch_form (stitch_form.mk (⟨#[121]⟩ : ByteArray) (1, 6) (1, 6) true 3 3)) S (wN rfl) rfl rfl rfl rfl (lb rfl) fun a S => ?_
  refine sBuild [] [iv 0, iv 0] S (wN rfl) rfl rfl rfl rfl (lb rfl) fun a S => ?_
  refine sBuild [] [iv 0, iv 0] S (wN rfl) rfl rfl rfl rfl (lb rfl) fun a S => ?_
  refine sBuild [(0, .string (⟨#[115]⟩ : ByteArray)), (1, .agg #[iv 0, iv 0]), (2, .agg #[iv 0, iv 0]), (3, .bool true), (4, iv 1), (5, iv 1)] (gl_stitch_form (stitch_form.mk (⟨#[115]⟩ : ByteArray) (0, 0) (0, 0) true 1 1)) S (wN rfl) rfl rfl rfl rfl (lb rfl) fun a S => ?_
  refine sLoadN (p := b7) (off := 0) (T := 61) (vs := [iv 1, iv 200]) 0 [iv 1, iv 200] S (wN rfl) rfl rfl rfl rfl rfl rfl rfl (lb rfl) fun a S => ?_
  refine sBuild [] [iv 0, iv 0] S (wN rfl) rfl rfl rfl rfl (lb rfl) fun a S => ?_
  refine sBuild [(0, .string (⟨#[]⟩ : ByteArray)), (1, .agg #[iv 1, iv 200]), (2, .agg #[iv 0, iv 0]), (3, .bool false), (4, iv 0), (5, iv 2)] (gl_stitch_form (stitch_form.mk (⟨#[]⟩ : ByteArray) (1, 200) (0, 0) false 0 2)) S (wN rfl) rfl rfl rfl rfl (lb rfl) fun a S => ?_
  refine sLoadN (p := b7) (off := 0) (T := 61) (vs := [iv 1, iv 200]) 0 [iv 1, iv 200] S (wN rfl) rfl rfl rfl rfl rfl rfl rfl (lb rfl) fun a S => ?_
  refine sBuild [] [iv 0, iv 0] S (wN rfl) rfl rfl rfl rfl (lb rfl) fun a S => ?_
  refine sBuild [(0, .string (⟨#[111]⟩ : ByteArray)), (1, .agg #[iv 1, iv 200]), (2, .agg #[iv 0, iv 0]), (3, .bool true), (4, iv 2), (5, iv 0)] (gl_stitch_form (stitch_form.mk (⟨#[111]⟩ : ByteArray) (1, 200) (0, 0) true 2 0)) S (wN rfl) rfl rfl rfl rfl (lb rfl) fun a S => ?_
  have S := S.learn (fRep r_stitch_form (gv_stitch_form (stitch_form.mk (⟨#[]⟩ : ByteArray) (0, 0) (0, 0) true 1 1)) (stitch_form.mk (⟨#[]⟩ : ByteArray) (0, 0) (0, 0) true 1 1)) rfl
  have S := S.learn (fRep r_stitch_form (gv_stitch_form (stitch_form.mk (⟨#[]⟩ : ByteArray) (0, 0) (0, 0) false 0 1)) (stitch_form.mk (⟨#[]⟩ : ByteArray) (0, 0) (0, 0) false 0 1)) rfl
  have S := S.learn (fRep r_stitch_form (gv_stitch_form (stitch_form.mk (⟨#[102]⟩ : ByteArray) (2, 4) (0, 0) true 2 1)) (stitch_form.mk (⟨#[102]⟩ : ByteArray) (2, 4) (0, 0) true 2 1)) rfl
  have S := S.learn (fRep r_stitch_form (gv_stitch_form (stitch_form.mk (⟨#[108]⟩ : ByteArray) (2, 4) (0, 0) true 2 1)) (stitch_form.mk (⟨#[108]⟩ : ByteArray) (2, 4) (0, 0) true 2 1)) rfl
  have S := S.learn (fRep r_stitch_form (gv_stitch_form (stitch_form.mk (⟨#[109]⟩ : ByteArray) (2, 4) (0, 0) true 1 2)) (stitch_form.mk (⟨#[109]⟩ : ByteArray) (2, 4) (0, 0) true 1 2)) rfl
  have S := S.learn (fRep r_stitch_form (gv_stitch_form (stitch_form.mk (⟨#[120]⟩ : ByteArray) (1, 6) (1, 6) true 3 3)) (stitch_form.mk (⟨#[120]⟩ : ByteArray) (1, 6) (1, 6) true 3 3)) rfl
  have S := S.learn (fRep r_stitch_form (gv_stitch_form (stitch_form.mk (⟨#[121]⟩ : ByteArray) (1, 6) (1, 6) true 3 3)) (stitch_form.mk (⟨#[121]⟩ : ByteArray) (1, 6) (1, 6) true 3 3)) rfl
  have S := S.learn (fRep r_stitch_form (gv_stitch_form (stitch_form.mk (⟨#[115]⟩ : ByteArray) (0, 0) (0, 0) true 1 1)) (stitch_form.mk (⟨#[115]⟩ : ByteArray) (0, 0) (0, 0) true 1 1)) rfl
  have S := S.learn (fRep r_stitch_form (gv_stitch_form (stitch_form.mk (⟨#[]⟩ : ByteArray) (1, 200) (0, 0) false 0 2)) (stitch_form.mk (⟨#[]⟩ : ByteArray) (1, 200) (0, 0) false 0 2)) rfl
  have S := S.learn (fRep r_stitch_form (gv_stitch_form (stitch_form.mk (⟨#[111]⟩ : ByteArray) (1, 200) (0, 0) true 2 0)) (stitch_form.mk (⟨#[111]⟩ : ByteArray) (1, 200) (0, 0) true 2 0)) rfl
  refine sLit (r := r_stitch_form) (T := 100) (xs := [(stitch_form.mk (⟨#[]⟩ : ByteArray) (0, 0) (0, 0) true 1 1), (stitch_form.mk (⟨#[]⟩ : ByteArray) (0, 0) (0, 0) false 0 1), (stitch_form.mk (⟨#[102]⟩ : ByteArray) (2, 4) (0, 0) true 2 1), (stitch_form.mk (⟨#[108]⟩ : ByteArray) (2, 4) (0, 0) true 2 1), (stitch_form.mk (⟨#[109]⟩ : ByteArray) (2, 4) (0, 0) true 1 2), (stitch_form.mk (⟨#[120]⟩ : ByteArray) (1, 6) (1, 6) true 3 3), (stitch_form.mk (⟨#[121]⟩ : ByteArray) (1, 6) (1, 6) true 3 3), (stitch_form.mk (⟨#[115]⟩ : ByteArray) (0, 0) (0, 0) true 1 1), (stitch_form.mk (⟨#[]⟩ : ByteArray) (1, 200) (0, 0) false 0 2), (stitch_form.mk (⟨#[111]⟩ : ByteArray) (1, 200) (0, 0) true 2 0)]) [(0, gv_stitch_form (stitch_form.mk (⟨#[]⟩ : ByteArray) (0, 0) (0, 0) true 1 1)), (1, gv_stitch_form (stitch_form.mk (⟨#[]⟩ : ByteArray) (0, 0) (0, 0) false 0 1)), (2, gv_stitch_form (stitch_form.mk (⟨#[102]⟩ : ByteArray) (2, 4) (0, 0) true 2 1)), (3, gv_stitch_form (stitch_form.mk (⟨#[108]⟩ : ByteArray) (2, 4) (0, 0) true 2 1)), (4, gv_stitch_form (stitch_form.mk (⟨#[109]⟩ : ByteArray) (2, 4) (0, 0) true 1 2)), (5, gv_stitch_form (stitch_form.mk (⟨#[120]⟩ : ByteArray) (1, 6) (1, 6) true 3 3)), (6, gv_stitch_form (stitch_form.mk (⟨#[121]⟩ : ByteArray) (1, 6) (1, 6) true 3 3)), (7, gv_stitch_form (stitch_form.mk (⟨#[115]⟩ : ByteArray) (0, 0) (0, 0) true 1 1)), (8, gv_stitch_form (stitch_form.mk (⟨#[]⟩ : ByteArray) (1, 200) (0, 0) false 0 2)), (9, gv_stitch_form (stitch_form.mk (⟨#[111]⟩ : ByteArray) (1, 200) (0, 0) true 2 0))] 10 [gv_stitch_form (stitch_form.mk (⟨#[]⟩ : ByteArray) (0, 0) (0, 0) true 1 1), gv_stitch_form (stitch_form.mk (⟨#[]⟩ : ByteArray) (0, 0) (0, 0) false 0 1), gv_stitch_form (stitch_form.mk (⟨#[102]⟩ : ByteArray) (2, 4) (0, 0) true 2 1), gv_stitch_form (stitch_form.mk (⟨#[108]⟩ : ByteArray) (2, 4) (0, 0) true 2 1), gv_stitch_form (stitch_form.mk (⟨#[109]⟩ : ByteArray) (2, 4) (0, 0) true 1 2), gv_stitch_form (stitch_form.mk (⟨#[120]⟩ : ByteArray) (1, 6) (1, 6) true 3 3), gv_stitch_form (stitch_form.mk (⟨#[121]⟩ : ByteArray) (1, 6) (1, 6) true 3 3), gv_stitch_form (stitch_form.mk (⟨#[115]⟩ : ByteArray) (0, 0) (0, 0) true 1 1), gv_stitch_form (stitch_form.mk (⟨#[]⟩ : ByteArray) (1, 200) (0, 0) false 0 2), gv_stitch_form (stitch_form.mk (⟨#[111]⟩ : ByteArray) (1, 200) (0, 0) true 2 0)] [.string (⟨#[]⟩ : ByteArray), iv 0, iv 0, iv 0, iv 0, .bool true, iv 1, iv 1, .string (⟨#[]⟩ : ByteArray), iv 0, iv 0, iv 0, iv 0, .bool false, iv 0, iv 1, .string (⟨#[102]⟩ : ByteArray), iv 2, iv 4, iv 0, iv 0, .bool true, iv 2, iv 1, .string (⟨#[108]⟩ : ByteArray), iv 2, iv 4, iv 0, iv 0, .bool true, iv 2, iv 1, .string (⟨#[109]⟩ : ByteArray), iv 2, iv 4, iv 0, iv 0, .bool true, iv 1, iv 2, .string (⟨#[120]⟩ : ByteArray), iv 1, iv 6, iv 1, iv 6, .bool true, iv 3, iv 3, .string (⟨#[121]⟩ : ByteArray), iv 1, iv 6, iv 1, iv 6, .bool true, iv 3, iv 3, .string (⟨#[115]⟩ : ByteArray), iv 0, iv 0, iv 0, iv 0, .bool true, iv 1, iv 1, .string (⟨#[]⟩ : ByteArray), iv 1, iv 200, iv 0, iv 0, .bool false, iv 0, iv 2, .string (⟨#[111]⟩ : ByteArray), iv 1, iv 200, iv 0, iv 0, .bool true, iv 2, iv 0] (gv_stitch_form (stitch_form.mk (⟨#[]⟩ : ByteArray) (0, 0) (0, 0) false 0 0)) 72 S (wN rfl) rfl rfl Tryd.underlying117 rfl (by decide) (by decide) (by kernel_rfl) rfl (fun E1 w1 hE => All.cons (r_stitch_form.mono hE (S.mem.know (i := 9) (e := fRep r_stitch_form (gv_stitch_form (stitch_form.mk (⟨#[]⟩ : ByteArray) (0, 0) (0, 0) true 1 1)) (stitch_form.mk (⟨#[]⟩ : ByteArray) (0, 0) (0, 0) true 1 1)) rfl)) (All.cons (r_stitch_form.mono hE (S.mem.know (i := 8) (e := fRep r_stitch_form (gv_stitch_form (stitch_form.mk (⟨#[]⟩ : ByteArray) (0, 0) (0, 0) false 0 1)) (stitch_form.mk (⟨#[]⟩ : ByteArray) (0, 0) (0, 0) false 0 1)) rfl)) (All.cons (r_stitch_form.mono hE (S.mem.know (i := 7) (e := fRep r_stitch_form (gv_stitch_form (stitch_form.mk (⟨#[102]⟩ : ByteArray) (2, 4) (0, 0) true 2 1)) (stitch_form.mk (⟨#[102]⟩ : ByteArray) (2, 4) (0, 0) true 2 1)) rfl)) (All.cons (r_stitch_form.mono hE (S.mem.know (i := 6) (e := fRep r_stitch_form (gv_stitch_form (stitch_form.mk (⟨#[108]⟩ : ByteArray) (2, 4) (0, 0) true 2 1)) (stitch_form.mk (⟨#[108]⟩ : ByteArray) (2, 4) (0, 0) true 2 1)) rfl)) (All.cons (r_stitch_form.mono hE (S.mem.know (i := 5) (e := fRep r_stitch_form (gv_stitch_form (stitch_form.mk (⟨#[109]⟩ : ByteArray) (2, 4) (0, 0) true 1 2)) (stitch_form.mk (⟨#[109]⟩ : ByteArray) (2, 4) (0, 0) true 1 2)) rfl)) (All.cons (r_stitch_form.mono hE (S.mem.know (i := 4) (e := fRep r_stitch_form (gv_stitch_form (stitch_form.mk (⟨#[120]⟩ : ByteArray) (1, 6) (1, 6) true 3 3)) (stitch_form.mk (⟨#[120]⟩ : ByteArray) (1, 6) (1, 6) true 3 3)) rfl)) (All.cons (r_stitch_form.mono hE (S.mem.know (i := 3) (e := fRep r_stitch_form (gv_stitch_form (stitch_form.mk (⟨#[121]⟩ : ByteArray) (1, 6) (1, 6) true 3 3)) (stitch_form.mk (⟨#[121]⟩ : ByteArray) (1, 6) (1, 6) true 3 3)) rfl)) (All.cons (r_stitch_form.mono hE (S.mem.know (i := 2) (e := fRep r_stitch_form (gv_stitch_form (stitch_form.mk (⟨#[115]⟩ : ByteArray) (0, 0) (0, 0) true 1 1)) (stitch_form.mk (⟨#[115]⟩ : ByteArray) (0, 0) (0, 0) true 1 1)) rfl)) (All.cons (r_stitch_form.mono hE (S.mem.know (i := 1) (e := fRep r_stitch_form (gv_stitch_form (stitch_form.mk (⟨#[]⟩ : ByteArray) (1, 200) (0, 0) false 0 2)) (stitch_form.mk (⟨#[]⟩ : ByteArray) (1, 200) (0, 0) false 0 2)) rfl)) (All.cons (r_stitch_form.mono hE (S.mem.know (i := 0) (e := fRep r_stitch_form (gv_stitch_form (stitch_form.mk (⟨#[111]⟩ : ByteArray) (1, 200) (0, 0) true 2 0)) (stitch_form.mk (⟨#[111]⟩ : ByteArray) (1, 200) (0, 0) true 2 0)) rfl)) (All.nil _ _ _))))))))))) rfl rfl (lb rfl) fun a w ad9 cp10 S => ?_
  refine sMove (.slice ad9 [(stitch_form.mk (⟨#[]⟩ : ByteArray) (0, 0) (0, 0) true 1 1), (stitch_form.mk (⟨#[]⟩ : ByteArray) (0, 0) (0, 0) false 0 1), (stitch_form.mk (⟨#[102]⟩ : ByteArray) (2, 4) (0, 0) true 2 1), (stitch_form.mk (⟨#[108]⟩ : ByteArray) (2, 4) (0, 0) true 2 1), (stitch_form.mk (⟨#[109]⟩ : ByteArray) (2, 4) (0, 0) true 1 2), (stitch_form.mk (⟨#[120]⟩ : ByteArray) (1, 6) (1, 6) true 3 3), (stitch_form.mk (⟨#[121]⟩ : ByteArray) (1, 6) (1, 6) true 3 3), (stitch_form.mk (⟨#[115]⟩ : ByteArray) (0, 0) (0, 0) true 1 1), (stitch_form.mk (⟨#[]⟩ : ByteArray) (1, 200) (0, 0) false 0 2), (stitch_form.mk (⟨#[111]⟩ : ByteArray) (1, 200) (0, 0) true 2 0)].length cp10) S (wN rfl) (.inr rfl) rfl rfl (lb rfl) fun a S => ?_
  refine leafL (leafT (hK8 _ _ ?_))
  refine sSeq (fun K11 hK11 => ?_)
  obtain ⟨t13, h, g14⟩ := bindSome h
  refine sCut (fun a w => ∃ o12, o12 = t13 ∧ St [] E [] w0 57 a w [(0, .int .u8 p0), (2, .pointer (some ⟨b2, 0, none⟩)), (7, .slice ad9 [(stitch_form.mk (⟨#[]⟩ : ByteArray) (0, 0) (0, 0) true 1 1), (stitch_form.mk (⟨#[]⟩ : ByteArray) (0, 0) (0, 0) false 0 1), (stitch_form.mk (⟨#[102]⟩ : ByteArray) (2, 4) (0, 0) true 2 1), (stitch_form.mk (⟨#[108]⟩ : ByteArray) (2, 4) (0, 0) true 2 1), (stitch_form.mk (⟨#[109]⟩ : ByteArray) (2, 4) (0, 0) true 1 2), (stitch_form.mk (⟨#[120]⟩ : ByteArray) (1, 6) (1, 6) true 3 3), (stitch_form.mk (⟨#[121]⟩ : ByteArray) (1, 6) (1, 6) true 3 3), (stitch_form.mk (⟨#[115]⟩ : ByteArray) (0, 0) (0, 0) true 1 1), (stitch_form.mk (⟨#[]⟩ : ByteArray) (1, 200) (0, 0) false 0 2), (stitch_form.mk (⟨#[111]⟩ : ByteArray) (1, 200) (0, 0) true 2 0)].length cp10), (50, .bool o12)] [eBox b2 100 (gl_stitch_form (stitch_form.mk (⟨#[]⟩ : ByteArray) (0, 0) (0, 0) false 0 0)), eRow r_stitch_form 100 (.slice ad9 [(stitch_form.mk (⟨#[]⟩ : ByteArray) (0, 0) (0, 0) true 1 1), (stitch_form.mk (⟨#[]⟩ : ByteArray) (0, 0) (0, 0) false 0 1), (stitch_form.mk (⟨#[102]⟩ : ByteArray) (2, 4) (0, 0) true 2 1), (stitch_form.mk (⟨#[108]⟩ : ByteArray) (2, 4) (0, 0) true 2 1), (stitch_form.mk (⟨#[109]⟩ : ByteArray) (2, 4) (0, 0) true 1 2), (stitch_form.mk (⟨#[120]⟩ : ByteArray) (1, 6) (1, 6) true 3 3), (stitch_form.mk (⟨#[121]⟩ : ByteArray) (1, 6) (1, 6) true 3 3), (stitch_form.mk (⟨#[115]⟩ : ByteArray) (0, 0) (0, 0) true 1 1), (stitch_form.mk (⟨#[]⟩ : ByteArray) (1, 200) (0, 0) false 0 2), (stitch_form.mk (⟨#[111]⟩ : ByteArray) (1, 200) (0, 0) true 2 0)].length cp10) [(stitch_form.mk (⟨#[]⟩ : ByteArray) (0, 0) (0, 0) true 1 1), (stitch_form.mk (⟨#[]⟩ : ByteArray) (0, 0) (0, 0) false 0 1), (stitch_form.mk (⟨#[102]⟩ : ByteArray) (2, 4) (0, 0) true 2 1), (stitch_form.mk (⟨#[108]⟩ : ByteArray) (2, 4) (0, 0) true 2 1), (stitch_form.mk (⟨#[109]⟩ : ByteArray) (2, 4) (0, 0) true 1 2), (stitch_form.mk (⟨#[120]⟩ : ByteArray) (1, 6) (1, 6) true 3 3), (stitch_form.mk (⟨#[121]⟩ : ByteArray) (1, 6) (1, 6) true 3 3), (stitch_form.mk (⟨#[115]⟩ : ByteArray) (0, 0) (0, 0) true 1 1), (stitch_form.mk (⟨#[]⟩ : ByteArray) (1, 200) (0, 0) false 0 2), (stitch_form.mk (⟨#[111]⟩ : ByteArray) (1, 200) (0, 0) true 2 0)]] []) ?_ (fun a w hI => ?_)
  · refine sRegion ?_
    refine sMove (.int .u8 p0) S (wN rfl) (.inl rfl) rfl rfl (lb rfl) fun a S => ?_
    refine sBin (.bool (decide (p0 < 1))) S (wN rfl) rfl rfl rfl (bLt _ _ _ _ .u8 p0 1) rfl (lb rfl) fun a S => ?_
    refine sMove (.bool (decide (p0 < 1))) S (wN rfl) (.inl rfl) rfl rfl (lb rfl) fun a S => ?_
    rcases iteSome h with ⟨hc15, h⟩ | ⟨hc15, h⟩
    · refine sSkip 2 false 44 45 S rfl rfl rfl hc15 rfl (lb rfl) fun a S => ?_
      refine sSkip 2 false 44 46 S rfl rfl rfl hc15 rfl (lb rfl) fun a S => ?_
      refine sSkip 2 false 44 47 S rfl rfl rfl hc15 rfl (lb rfl) fun a S => ?_
      refine sSkip 2 false 44 48 S rfl rfl rfl hc15 rfl (lb rfl) fun a S => ?_
      refine sSkip 2 false 44 49 S rfl rfl rfl hc15 rfl (lb rfl) fun a S => ?_
      refine sPickT (.bool true) S (wN rfl) rfl rfl hc15 rfl rfl (lb rfl) fun a S => ?_
      exact leafL (leafT (⟨true, Option.some.inj h, S.fix [4, 0] [] (by decide) rfl rfl rfl⟩))
    refine sMove (.int .u8 p0) S (wG 2 false 44 rfl rfl rfl hc15) (.inl rfl) rfl rfl (lb rfl) fun a S => ?_
    refine sConv (k := .u8) (k2 := .i64) (b := p0) S (wG 2 false 44 rfl rfl rfl hc15) rfl Tryd.underlying5 Tryd.underlying3 rfl rfl (lb rfl) fun a S => ?_
    refine sMove (.slice ad9 [(stitch_form.mk (⟨#[]⟩ : ByteArray) (0, 0) (0, 0) true 1 1), (stitch_form.mk (⟨#[]⟩ : ByteArray) (0, 0) (0, 0) false 0 1), (stitch_form.mk (⟨#[102]⟩ : ByteArray) (2, 4) (0, 0) true 2 1), (stitch_form.mk (⟨#[108]⟩ : ByteArray) (2, 4) (0, 0) true 2 1), (stitch_form.mk (⟨#[109]⟩ : ByteArray) (2, 4) (0, 0) true 1 2), (stitch_form.mk (⟨#[120]⟩ : ByteArray) (1, 6) (1, 6) true 3 3), (stitch_form.mk (⟨#[121]⟩ : ByteArray) (1, 6) (1, 6) true 3 3), (stitch_form.mk (⟨#[115]⟩ : ByteArray) (0, 0) (0, 0) true 1 1), (stitch_form.mk (⟨#[]⟩ : ByteArray) (1, 200) (0, 0) false 0 2), (stitch_form.mk (⟨#[111]⟩ : ByteArray) (1, 200) (0, 0) true 2 0)].length cp10) S (wG 2 false 44 rfl rfl rfl hc15) (.inl rfl) rfl rfl (lb rfl) fun a S => ?_
    refine sLen (ad := ad9) (m := [(stitch_form.mk (⟨#[]⟩ : ByteArray) (0, 0) (0, 0) true 1 1), (stitch_form.mk (⟨#[]⟩ : ByteArray) (0, 0) (0, 0) false 0 1), (stitch_form.mk (⟨#[102]⟩ : ByteArray) (2, 4) (0, 0) true 2 1), (stitch_form.mk (⟨#[108]⟩ : ByteArray) (2, 4) (0, 0) true 2 1), (stitch_form.mk (⟨#[109]⟩ : ByteArray) (2, 4) (0, 0) true 1 2), (stitch_form.mk (⟨#[120]⟩ : ByteArray) (1, 6) (1, 6) true 3 3), (stitch_form.mk (⟨#[121]⟩ : ByteArray) (1, 6) (1, 6) true 3 3), (stitch_form.mk (⟨#[115]⟩ : ByteArray) (0, 0) (0, 0) true 1 1), (stitch_form.mk (⟨#[]⟩ : ByteArray) (1, 200) (0, 0) false 0 2), (stitch_form.mk (⟨#[111]⟩ : ByteArray) (1, 200) (0, 0) true 2 0)].length) (c := cp10) S (wG 2 false 44 rfl rfl rfl hc15) rfl Tryd.underlying117 rfl rfl (lb rfl) fun a S => ?_
    refine sBin (.bool (decide (([(stitch_form.mk (⟨#[]⟩ : ByteArray) (0, 0) (0, 0) true 1 1), (stitch_form.mk (⟨#[]⟩ : ByteArray) (0, 0) (0, 0) false 0 1), (stitch_form.mk (⟨#[102]⟩ : ByteArray) (2, 4) (0, 0) true 2 1), (stitch_form.mk (⟨#[108]⟩ : ByteArray) (2, 4) (0, 0) true 2 1), (stitch_form.mk (⟨#[109]⟩ : ByteArray) (2, 4) (0, 0) true 1 2), (stitch_form.mk (⟨#[120]⟩ : ByteArray) (1, 6) (1, 6) true 3 3), (stitch_form.mk (⟨#[121]⟩ : ByteArray) (1, 6) (1, 6) true 3 3), (stitch_form.mk (⟨#[115]⟩ : ByteArray) (0, 0) (0, 0) true 1 1), (stitch_form.mk (⟨#[]⟩ : ByteArray) (1, 200) (0, 0) false 0 2), (stitch_form.mk (⟨#[111]⟩ : ByteArray) (1, 200) (0, 0) true 2 0)].length : Int) < (IntKind.i64.wrap p0)))) S (wG 2 false 44 rfl rfl rfl hc15) rfl rfl rfl (bGt _ _ _ _ .i64 (IntKind.i64.wrap p0) ([(stitch_form.mk (⟨#[]⟩ : ByteArray) (0, 0) (0, 0) true 1 1), (stitch_form.mk (⟨#[]⟩ : ByteArray) (0, 0) (0, 0) false 0 1), (stitch_form.mk (⟨#[102]⟩ : ByteArray) (2, 4) (0, 0) true 2 1), (stitch_form.mk (⟨#[108]⟩ : ByteArray) (2, 4) (0, 0) true 2 1), (stitch_form.mk (⟨#[109]⟩ : ByteArray) (2, 4) (0, 0) true 1 2), (stitch_form.mk (⟨#[120]⟩ : ByteArray) (1, 6) (1, 6) true 3 3), (stitch_form.mk (⟨#[121]⟩ : ByteArray) (1, 6) (1, 6) true 3 3), (stitch_form.mk (⟨#[115]⟩ : ByteArray) (0, 0) (0, 0) true 1 1), (stitch_form.mk (⟨#[]⟩ : ByteArray) (1, 200) (0, 0) false 0 2), (stitch_form.mk (⟨#[111]⟩ : ByteArray) (1, 200) (0, 0) true 2 0)].length : Int)) rfl (lb rfl) fun a S => ?_
    refine sPickF (.bool (decide (([(stitch_form.mk (⟨#[]⟩ : ByteArray) (0, 0) (0, 0) true 1 1), (stitch_form.mk (⟨#[]⟩ : ByteArray) (0, 0) (0, 0) false 0 1), (stitch_form.mk (⟨#[102]⟩ : ByteArray) (2, 4) (0, 0) true 2 1), (stitch_form.mk (⟨#[108]⟩ : ByteArray) (2, 4) (0, 0) true 2 1), (stitch_form.mk (⟨#[109]⟩ : ByteArray) (2, 4) (0, 0) true 1 2), (stitch_form.mk (⟨#[120]⟩ : ByteArray) (1, 6) (1, 6) true 3 3), (stitch_form.mk (⟨#[121]⟩ : ByteArray) (1, 6) (1, 6) true 3 3), (stitch_form.mk (⟨#[115]⟩ : ByteArray) (0, 0) (0, 0) true 1 1), (stitch_form.mk (⟨#[]⟩ : ByteArray) (1, 200) (0, 0) false 0 2), (stitch_form.mk (⟨#[111]⟩ : ByteArray) (1, 200) (0, 0) true 2 0)].length : Int) < (IntKind.i64.wrap p0)))) S (wN rfl) rfl rfl hc15 rfl rfl (lb rfl) fun a S => ?_
    exact leafL (leafT (⟨decide (([(stitch_form.mk (⟨#[]⟩ : ByteArray) (0, 0) (0, 0) true 1 1), (stitch_form.mk (⟨#[]⟩ : ByteArray) (0, 0) (0, 0) false 0 1), (stitch_form.mk (⟨#[102]⟩ : ByteArray) (2, 4) (0, 0) true 2 1), (stitch_form.mk (⟨#[108]⟩ : ByteArray) (2, 4) (0, 0) true 2 1), (stitch_form.mk (⟨#[109]⟩ : ByteArray) (2, 4) (0, 0) true 1 2), (stitch_form.mk (⟨#[120]⟩ : ByteArray) (1, 6) (1, 6) true 3 3), (stitch_form.mk (⟨#[121]⟩ : ByteArray) (1, 6) (1, 6) true 3 3), (stitch_form.mk (⟨#[115]⟩ : ByteArray) (0, 0) (0, 0) true 1 1), (stitch_form.mk (⟨#[]⟩ : ByteArray) (1, 200) (0, 0) false 0 2), (stitch_form.mk (⟨#[111]⟩ : ByteArray) (1, 200) (0, 0) true 2 0)].length : Int) < (IntKind.i64.wrap p0)), Option.some.inj h, S.fix [4, 0] [] (by decide) rfl rfl rfl⟩))
  obtain ⟨o12, rfl, S⟩ := hI
  have h := g14
  clear g14
  try dsimp only at h
  rcases iteSome h with ⟨hc16, h⟩ | ⟨hc16, h⟩
  · refine sCondT S rfl hc16 ?_
    refine sSeq (fun K17 hK17 => ?_)
    refine sRegion ?_
    refine sBuild [] (gl_stitch_form (stitch_form.mk (⟨#[]⟩ : ByteArray) (0, 0) (0, 0) false 0 0)) S (wN rfl) rfl rfl rfl rfl (lb rfl) fun a S => ?_
    refine sStore (p := b2) (off := 0) (T := 100) (vs := [.string (⟨#[]⟩ : ByteArray), iv 0, iv 0, iv 0, iv 0, .bool false, iv 0, iv 0]) (v := gv_stitch_form (stitch_form.mk (⟨#[]⟩ : ByteArray) (0, 0) (0, 0) false 0 0)) 0 [.string (⟨#[]⟩ : ByteArray), iv 0, iv 0, iv 0, iv 0, .bool false, iv 0, iv 0] S (wN rfl) rfl rfl rfl rfl rfl rfl rfl (by simp) rfl fun a w S => ?_
    refine sMove (.bool false) S (wN rfl) (.inr rfl) rfl rfl (lb rfl) fun a S => ?_
    refine leafL (leafT (hK17 _ _ ?_))
    obtain rfl := Option.some.inj h
    have S := S.learn (fRep r_stitch_form (gv_stitch_form (stitch_form.mk (⟨#[]⟩ : ByteArray) (0, 0) (0, 0) false 0 0)) (stitch_form.mk (⟨#[]⟩ : ByteArray) (0, 0) (0, 0) false 0 0)) rfl
    exact wp_ret (rThen (sRet (.tuple #[gv_stitch_form (stitch_form.mk (⟨#[]⟩ : ByteArray) (0, 0) (0, 0) false 0 0), .bool false]) S (rsl2 rfl (rvN (c := 2) (t := 100) (T := 100) (p := b2) 0 [.string (⟨#[]⟩ : ByteArray), iv 0, iv 0, iv 0, iv 0, .bool false, iv 0, iv 0] S rfl rfl rfl rfl) (rvT (t := 3) (v := .bool false) S rfl)) ⟨(gv_stitch_form (stitch_form.mk (⟨#[]⟩ : ByteArray) (0, 0) (0, 0) false 0 0)), rfl, S.mem.sel [] [0] (by decide) rfl rfl⟩))
  refine sCondF S rfl hc16 ?_
  refine wp_skip (leafT (hK11 _ _ ?_))
  refine sSeq (fun K18 hK18 => ?_)
  refine sRegion ?_
  refine sMove (.slice ad9 [(stitch_form.mk (⟨#[]⟩ : ByteArray) (0, 0) (0, 0) true 1 1), (stitch_form.mk (⟨#[]⟩ : ByteArray) (0, 0) (0, 0) false 0 1), (stitch_form.mk (⟨#[102]⟩ : ByteArray) (2, 4) (0, 0) true 2 1), (stitch_form.mk (⟨#[108]⟩ : ByteArray) (2, 4) (0, 0) true 2 1), (stitch_form.mk (⟨#[109]⟩ : ByteArray) (2, 4) (0, 0) true 1 2), (stitch_form.mk (⟨#[120]⟩ : ByteArray) (1, 6) (1, 6) true 3 3), (stitch_form.mk (⟨#[121]⟩ : ByteArray) (1, 6) (1, 6) true 3 3), (stitch_form.mk (⟨#[115]⟩ : ByteArray) (0, 0) (0, 0) true 1 1), (stitch_form.mk (⟨#[]⟩ : ByteArray) (1, 200) (0, 0) false 0 2), (stitch_form.mk (⟨#[111]⟩ : ByteArray) (1, 200) (0, 0) true 2 0)].length cp10) S (wN rfl) (.inl rfl) rfl rfl (lb rfl) fun a S => ?_
  refine sMove (.int .u8 p0) S (wN rfl) (.inl rfl) rfl rfl (lb rfl) fun a S => ?_
  refine sBin (.int .u8 (IntKind.u8.wrap (p0 - 1))) S (wN rfl) rfl rfl rfl (bSubK _ _ _ _ .u8 p0 1) rfl (lb rfl) fun a S => ?_
  obtain ⟨x19, hx20, h⟩ := bindSome h
  have S := S.shutR (r := r_stitch_form) (T := 100) (v := .slice ad9 [(stitch_form.mk (⟨#[]⟩ : ByteArray) (0, 0) (0, 0) true 1 1), (stitch_form.mk (⟨#[]⟩ : ByteArray) (0, 0) (0, 0) false 0 1), (stitch_form.mk (⟨#[102]⟩ : ByteArray) (2, 4) (0, 0) true 2 1), (stitch_form.mk (⟨#[108]⟩ : ByteArray) (2, 4) (0, 0) true 2 1), (stitch_form.mk (⟨#[109]⟩ : ByteArray) (2, 4) (0, 0) true 1 2), (stitch_form.mk (⟨#[120]⟩ : ByteArray) (1, 6) (1, 6) true 3 3), (stitch_form.mk (⟨#[121]⟩ : ByteArray) (1, 6) (1, 6) true 3 3), (stitch_form.mk (⟨#[115]⟩ : ByteArray) (0, 0) (0, 0) true 1 1), (stitch_form.mk (⟨#[]⟩ : ByteArray) (1, 200) (0, 0) false 0 2), (stitch_form.mk (⟨#[111]⟩ : ByteArray) (1, 200) (0, 0) true 2 0)].length cp10) (xs := [(stitch_form.mk (⟨#[]⟩ : ByteArray) (0, 0) (0, 0) true 1 1), (stitch_form.mk (⟨#[]⟩ : ByteArray) (0, 0) (0, 0) false 0 1), (stitch_form.mk (⟨#[102]⟩ : ByteArray) (2, 4) (0, 0) true 2 1), (stitch_form.mk (⟨#[108]⟩ : ByteArray) (2, 4) (0, 0) true 2 1), (stitch_form.mk (⟨#[109]⟩ : ByteArray) (2, 4) (0, 0) true 1 2), (stitch_form.mk (⟨#[120]⟩ : ByteArray) (1, 6) (1, 6) true 3 3), (stitch_form.mk (⟨#[121]⟩ : ByteArray) (1, 6) (1, 6) true 3 3), (stitch_form.mk (⟨#[115]⟩ : ByteArray) (0, 0) (0, 0) true 1 1), (stitch_form.mk (⟨#[]⟩ : ByteArray) (1, 200) (0, 0) false 0 2), (stitch_form.mk (⟨#[111]⟩ : ByteArray) (1, 200) (0, 0) true 2 0)]) 1 rfl
  obtain ⟨q21, hq22, S⟩ := pIdx (P := Tryd.prog) (r := r_stitch_form) (v := .slice ad9 [(stitch_form.mk (⟨#[]⟩ : ByteArray) (0, 0) (0, 0) true 1 1), (stitch_form.mk (⟨#[]⟩ : ByteArray) (0, 0) (0, 0) false 0 1), (stitch_form.mk (⟨#[102]⟩ : ByteArray) (2, 4) (0, 0) true 2 1), (stitch_form.mk (⟨#[108]⟩ : ByteArray) (2, 4) (0, 0) true 2 1), (stitch_form.mk (⟨#[109]⟩ : ByteArray) (2, 4) (0, 0) true 1 2), (stitch_form.mk (⟨#[120]⟩ : ByteArray) (1, 6) (1, 6) true 3 3), (stitch_form.mk (⟨#[121]⟩ : ByteArray) (1, 6) (1, 6) true 3 3), (stitch_form.mk (⟨#[115]⟩ : ByteArray) (0, 0) (0, 0) true 1 1), (stitch_form.mk (⟨#[]⟩ : ByteArray) (1, 200) (0, 0) false 0 2), (stitch_form.mk (⟨#[111]⟩ : ByteArray) (1, 200) (0, 0) true 2 0)].length cp10) (xs := [(stitch_form.mk (⟨#[]⟩ : ByteArray) (0, 0) (0, 0) true 1 1), (stitch_form.mk (⟨#[]⟩ : ByteArray) (0, 0) (0, 0) false 0 1), (stitch_form.mk (⟨#[102]⟩ : ByteArray) (2, 4) (0, 0) true 2 1), (stitch_form.mk (⟨#[108]⟩ : ByteArray) (2, 4) (0, 0) true 2 1), (stitch_form.mk (⟨#[109]⟩ : ByteArray) (2, 4) (0, 0) true 1 2), (stitch_form.mk (⟨#[120]⟩ : ByteArray) (1, 6) (1, 6) true 3 3), (stitch_form.mk (⟨#[121]⟩ : ByteArray) (1, 6) (1, 6) true 3 3), (stitch_form.mk (⟨#[115]⟩ : ByteArray) (0, 0) (0, 0) true 1 1), (stitch_form.mk (⟨#[]⟩ : ByteArray) (1, 200) (0, 0) false 0 2), (stitch_form.mk (⟨#[111]⟩ : ByteArray) (1, 200) (0, 0) true 2 0)]) (j := IntKind.u8.wrap (p0 - 1)) 117 100 0 S Tryd.underlying117 rfl rfl hx20
  refine sIdxV (v := .slice ad9 [(stitch_form.mk (⟨#[]⟩ : ByteArray) (0, 0) (0, 0) true 1 1), (stitch_form.mk (⟨#[]⟩ : ByteArray) (0, 0) (0, 0) false 0 1), (stitch_form.mk (⟨#[102]⟩ : ByteArray) (2, 4) (0, 0) true 2 1), (stitch_form.mk (⟨#[108]⟩ : ByteArray) (2, 4) (0, 0) true 2 1), (stitch_form.mk (⟨#[109]⟩ : ByteArray) (2, 4) (0, 0) true 1 2), (stitch_form.mk (⟨#[120]⟩ : ByteArray) (1, 6) (1, 6) true 3 3), (stitch_form.mk (⟨#[121]⟩ : ByteArray) (1, 6) (1, 6) true 3 3), (stitch_form.mk (⟨#[115]⟩ : ByteArray) (0, 0) (0, 0) true 1 1), (stitch_form.mk (⟨#[]⟩ : ByteArray) (1, 200) (0, 0) false 0 2), (stitch_form.mk (⟨#[111]⟩ : ByteArray) (1, 200) (0, 0) true 2 0)].length cp10) (k := .u8) (j := IntKind.u8.wrap (p0 - 1)) S (wN rfl) rfl rfl rfl hq22 rfl (lb rfl) fun a S => ?_
  obtain ⟨u23, S⟩ := pLoad (r := r_stitch_form) (q := q21) (x := x19) 0 S rfl
  obtain rfl : u23 = gv_stitch_form x19 := S.mem.know (i := 1) (e := fRep r_stitch_form (u23) x19) rfl
  refine sLoadVN (vq := q21) 0 [.string x19.letter, iv x19.a.1, iv x19.a.2, iv x19.b.1, iv x19.b.2, .bool x19.sided, iv x19.uses, iv x19.made] S (wN rfl) rfl rfl rfl rfl rfl rfl (lb rfl) fun a S => ?_
  refine sStore (p := b2) (off := 0) (T := 100) (vs := [.string (⟨#[]⟩ : ByteArray), iv 0, iv 0, iv 0, iv 0, .bool false, iv 0, iv 0]) (v := gv_stitch_form x19) 0 [.string x19.letter, iv x19.a.1, iv x19.a.2, iv x19.b.1, iv x19.b.2, .bool x19.sided, iv x19.uses, iv x19.made] S (wN rfl) rfl rfl rfl rfl rfl rfl rfl (by simp) rfl fun a w S => ?_
  refine sMove (.bool true) S (wN rfl) (.inr rfl) rfl rfl (lb rfl) fun a S => ?_
  refine leafL (leafT (hK18 _ _ ?_))
  obtain rfl := Option.some.inj h
  exact wp_ret (sRet (.tuple #[gv_stitch_form x19, .bool true]) S (rsl2 rfl (rvN (c := 2) (t := 100) (T := 100) (p := b2) 0 [.string x19.letter, iv x19.a.1, iv x19.a.2, iv x19.b.1, iv x19.b.2, .bool x19.sided, iv x19.uses, iv x19.made] S rfl rfl rfl rfl) (rvT (t := 3) (v := .bool true) S rfl)) ⟨(gv_stitch_form x19), rfl, S.mem.sel [] [1] (by decide) rfl rfl⟩)

end Go.Proofs.YtmedbnjhgkcndaaDoor
namespace Go.Proofs.YtmedbnjhgkcndaaDoor
open Go.RowKit
set_option linter.unusedVariables false

noncomputable def F_stitch_loops (p0 : api_Stitch) (p1 : Int) : Option Int :=
  Option.bind (idxO ([0, 1, p0.A, w64 (p0.A + p0.B)] : List Int) p1) fun x4 =>
  some x4
set_option maxHeartbeats 4000000 in
set_option maxRecDepth 100000 in
theorem c_stitch_loops (E : Nat → Prop) (w0 : World) (p0 : api_Stitch) (v0 : Value) (p1 : Int) (r : Int) (h : F_stitch_loops p0 p1 = some r) (S : St0 E [] w0 w0 [] [fRep r_api_Stitch (v0) p0]) :
    Calls Tryd.prog 57 #[v0, iv p1] w0 (Ret (X := Unit) E [] w0 (fun _ => .int .i64 r) (fun _ => []) (fun _ => [])) := by
  unfold F_stitch_loops at h
  obtain rfl : v0 = .agg #[.int .u8 p0.Kind, .bool p0.Purl, iv p0.A, iv p0.B] := S.know (i := 0) (e := fRep r_api_Stitch (v0) p0) rfl
  refine sEnter (args := [.agg #[.int .u8 p0.Kind, .bool p0.Purl, iv p0.A, iv p0.B], iv p1]) 15 Tryd.func57 rfl rfl (by simp) S (fun a S => ?_)
  refine sSeq (fun K1 hK1 => ?_)
  refine sRegion ?_
  refine sBox (v := .agg #[.int .u8 p0.Kind, .bool p0.Purl, iv p0.A, iv p0.B]) S (wN rfl) rfl rfl [.int .u8 p0.Kind, .bool p0.Purl, iv p0.A, iv p0.B] rfl rfl (lb rfl) fun a b2 w S => ?_
  refine sMove (iv 0) S (wN rfl) (.inr rfl) rfl rfl (lb rfl) fun a S => ?_
  refine leafL (leafT (hK1 _ _ ?_))
  refine sSeq (fun K3 hK3 => ?_)
  refine sRegion ?_
  refine sField (b := b2) (off := 0) 2 2 S (wN rfl) rfl rfl rfl rfl rfl (lb rfl) fun a S => ?_
  refine sLoad1 (p := b2) (off := 2) (T := 56) (vs := [.int .u8 p0.Kind, .bool p0.Purl, iv p0.A, iv p0.B]) 0 (iv p0.A) S (wN rfl) rfl rfl rfl rfl rfl rfl (lb rfl) fun a S => ?_
  refine sField (b := b2) (off := 0) 2 2 S (wN rfl) rfl rfl rfl rfl rfl (lb rfl) fun a S => ?_
  refine sLoad1 (p := b2) (off := 2) (T := 56) (vs := [.int .u8 p0.Kind, .bool p0.Purl, iv p0.A, iv p0.B]) 0 (iv p0.A) S (wN rfl) rfl rfl rfl rfl rfl rfl (lb rfl) fun a S => ?_
  refine sField (b := b2) (off := 0) 3 3 S (wN rfl) rfl rfl rfl rfl rfl (lb rfl) fun a S => ?_
  refine sLoad1 (p := b2) (off := 3) (T := 56) (vs := [.int .u8 p0.Kind, .bool p0.Purl, iv p0.A, iv p0.B]) 0 (iv p0.B) S (wN rfl) rfl rfl rfl rfl rfl rfl (lb rfl) fun a S => ?_
  refine sBin (iv (w64 (p0.A + p0.B))) S (wN rfl) rfl rfl rfl (bAdd _ _ _ _ p0.A p0.B) rfl (lb rfl) fun a S => ?_
  refine sBuild [(0, iv 0), (1, iv 1), (2, iv p0.A), (3, iv (w64 (p0.A + p0.B)))] [iv 0, iv 1, iv p0.A, iv (w64 (p0.A + p0.B))] S (wN rfl) rfl rfl rfl rfl (lb rfl) fun a S => ?_
  refine sMove (iv p1) S (wN rfl) (.inl rfl) rfl rfl (lb rfl) fun a S => ?_
  obtain ⟨x4, hx5, h⟩ := bindSome h
  refine sIndexA (g := fun z => .int .i64 z) (xs := ([0, 1, p0.A, w64 (p0.A + p0.B)] : List Int)) (j := p1) (k := .i64) 4 [iv 0, iv 1, iv p0.A, iv (w64 (p0.A + p0.B))] S (wN rfl) rfl Tryd.underlying120 rfl rfl rfl rfl rfl rfl hx5 rfl (lb rfl) fun a S => ?_
  refine sMove (iv x4) S (wN rfl) (.inr rfl) rfl rfl (lb rfl) fun a S => ?_
  refine leafL (leafT (hK3 _ _ ?_))
  obtain rfl := Option.some.inj h
  exact wp_ret (sRet (iv x4) S (rsl1 rfl (rvT (t := 4) (v := iv x4) S rfl)) ⟨(), rfl, S.mem.sel [] [] (by decide) rfl rfl⟩)

end Go.Proofs.YtmedbnjhgkcndaaDoor
namespace Go.Proofs.YtmedbnjhgkcndaaDoor
open Go.RowKit
set_option linter.unusedVariables false

noncomputable def stitch_sum_l1 (p0 : (List api_Stitch)) : (Int × Int × Int) → Option ((Int × Int × Int) ⊕ (Int × Int)) := fun s0 => match s0 with
  | (s9, s10, s11) =>
    if decide (s11 < (p0.length : Int)) then
      Option.bind (idxO p0 s11) fun x22 =>
      Option.bind (F_stitch_forms x22.Kind) fun r29 =>
      Option.bind (F_stitch_loops x22 r29.1.uses) fun r34 =>
      Option.bind (F_stitch_loops x22 r29.1.made) fun r36 =>
      some (.inl (w64 (s9 + r34), w64 (s10 + r36), w64 (s11 + 1)))
    else
      some (.inr (s9, s10))
noncomputable def F_stitch_sum (p0 : (List api_Stitch)) : Option (Int × Int) :=
  Option.bind (α := (Int × Int)) (
    Option.bind (whileO (stitch_sum_l1 p0) (0, 0, 0)) fun (e15, e16) =>
      some (e15, e16)) fun (o4, o5) =>
  some (o4, o5)
set_option maxHeartbeats 4000000 in
set_option maxRecDepth 100000 in
theorem c_stitch_sum (E : Nat → Prop) (w0 : World) (p0 : (List api_Stitch)) (v0 : Value) (r : (Int × Int)) (h : F_stitch_sum p0 = some r) (S : St0 E [] w0 w0 [] [fRep (rL r_api_Stitch) (v0) p0]) :
    Calls Tryd.prog 46 #[v0] w0 (Ret (X := Unit) E [] w0 (fun _ => .tuple #[.int .i64 r.1, .int .i64 r.2]) (fun _ => []) (fun _ => [])) := by
  unfold F_stitch_sum at h
  obtain ⟨ad1, cp2, _, rfl, _⟩ := S.know (i := 0) (e := fRep (rL r_api_Stitch) (v0) p0) rfl
  refine sEnter (args := [.slice ad1 p0.length cp2]) 35 Tryd.func46 rfl rfl (by simp) S (fun a S => ?_)
  refine sSeq (fun K3 hK3 => ?_)
  refine sRegion ?_
  refine sMove (iv 0) S (wN rfl) (.inr rfl) rfl rfl (lb rfl) fun a S => ?_
  refine sMove (iv 0) S (wN rfl) (.inr rfl) rfl rfl (lb rfl) fun a S => ?_
  refine leafL (leafT (hK3 _ _ ?_))
  obtain ⟨t6, h, g7⟩ := bindSome h
  refine sCut (fun a w => ∃ o4, ∃ o5, (o4, o5) = t6 ∧ St [] E [] w0 35 a w [(2, iv o4), (3, iv o5)] [] []) ?_ (fun a w hI => ?_)
  rotate_left
  · obtain ⟨o4, o5, rfl, S⟩ := hI
    have h := g7
    clear g7
    try dsimp only at h
    refine sSeq (fun K38 hK38 => ?_)
    refine sRegion ?_
    refine sMove (iv o4) S (wN rfl) (.inl rfl) rfl rfl (lb rfl) fun a S => ?_
    refine sMove (iv o5) S (wN rfl) (.inl rfl) rfl rfl (lb rfl) fun a S => ?_
    refine sMove (iv o4) S (wN rfl) (.inr rfl) rfl rfl (lb rfl) fun a S => ?_
    refine sMove (iv o5) S (wN rfl) (.inr rfl) rfl rfl (lb rfl) fun a S => ?_
    refine leafL (leafT (hK38 _ _ ?_))
    obtain rfl := Option.some.inj h
    exact wp_ret (sRet (.tuple #[iv o4, iv o5]) S (rsl2 rfl (rvT (t := 2) (v := iv o4) S rfl) (rvT (t := 3) (v := iv o5) S rfl)) ⟨(), rfl, S.mem.sel [] [] (by decide) rfl rfl⟩)
  refine sSeq (fun K8 hK8 => ?_)
  refine sRegion ?_
  refine sMove (.slice ad1 p0.length cp2) S (wN rfl) (.inl rfl) rfl rfl (lb rfl) fun a S => ?_
  refine sLen (ad := ad1) (m := p0.length) (c := cp2) S (wN rfl) rfl Tryd.underlying52 rfl rfl (lb rfl) fun a S => ?_
  refine sMove (iv 0) S (wN rfl) (.inl rfl) rfl rfl (lb rfl) fun a S => ?_
  refine leafL (leafT (hK8 _ _ ?_))
  refine wp_block ?_
  obtain ⟨t14, hl, g13⟩ := bindSome h
  refine sLoop hl (fun s0 a w => match s0 with | (s9, s10, s11) => St [] E [] w0 35 a w [(2, iv s9), (3, iv s10), (8, .slice ad1 p0.length cp2), (9, iv (p0.length : Int)), (10, iv s11)] [] [fRep (rL r_api_Stitch) (.slice ad1 p0.length cp2) p0]) (S.fix [] [0] (by decide) rfl rfl rfl) ?_
  clear hl h
  intro s0 a w c0 hI h hu12
  obtain ⟨s9, s10, s11⟩ := s0
  unfold stitch_sum_l1 at h
  dsimp only at h hI
  have S := hI
  refine sSeq (fun K17 hK17 => ?_)
  refine sRegion ?_
  refine sBin (.bool (decide (s11 < (p0.length : Int)))) S (wN rfl) rfl rfl rfl (bLt _ _ _ _ .i64 s11 (p0.length : Int)) rfl (lb rfl) fun a S => ?_
  refine leafL (leafT (hK17 _ _ ?_))
  refine sSeq (fun K18 hK18 => ?_)
  rcases iteSome h with ⟨hc19, h⟩ | ⟨hc19, h⟩
  rotate_left
  · refine sCondF S rfl hc19 ?_
    obtain rfl := Option.some.inj h
    obtain rfl := hu12 _ rfl
    have h := g13
    clear g13
    try dsimp only at h
    exact wp_exit (xThen (xThen (xHit (leafT (⟨s9, s10, Option.some.inj h, S.fix [] [] (by decide) rfl rfl rfl⟩)))))
  refine sCondT S rfl hc19 ?_
  refine wp_skip (leafT (hK18 _ _ ?_))
  refine sSeq (fun K20 hK20 => ?_)
  refine wp_block ?_
  refine sSeq (fun K21 hK21 => ?_)
  refine sRegion ?_
  obtain ⟨x22, hx23, h⟩ := bindSome h
  obtain ⟨q24, hq25, S⟩ := pIdx (P := Tryd.prog) (r := r_api_Stitch) (v := .slice ad1 p0.length cp2) (xs := p0) (j := s11) 52 56 0 S Tryd.underlying52 rfl rfl hx23
  refine sIdxV (v := .slice ad1 p0.length cp2) (k := .i64) (j := s11) S (wN rfl) rfl rfl rfl hq25 rfl (lb rfl) fun a S => ?_
  obtain ⟨u26, S⟩ := pLoad (r := r_api_Stitch) (q := q24) (x := x22) 0 S rfl
  obtain rfl : u26 = .agg #[.int .u8 x22.Kind, .bool x22.Purl, iv x22.A, iv x22.B] := S.mem.know (i := 1) (e := fRep r_api_Stitch (u26) x22) rfl
  refine sLoadVN (vq := q24) 0 [.int .u8 x22.Kind, .bool x22.Purl, iv x22.A, iv x22.B] S (wN rfl) rfl rfl rfl rfl rfl rfl (lb rfl) fun a S => ?_
  refine sAlloc (.agg #[.int .u8 0, .bool false, iv 0, iv 0]) S (wN rfl) rfl rfl [.int .u8 0, .bool false, iv 0, iv 0] rfl rfl (lb rfl) fun a b27 w S => ?_
  refine sStore (p := b27) (off := 0) (T := 56) (vs := [.int .u8 0, .bool false, iv 0, iv 0]) (v := .agg #[.int .u8 x22.Kind, .bool x22.Purl, iv x22.A, iv x22.B]) 0 [.int .u8 x22.Kind, .bool x22.Purl, iv x22.A, iv x22.B] S (wN rfl) rfl rfl rfl rfl rfl rfl rfl (by simp) rfl fun a w S => ?_
  refine leafL (leafT (hK21 _ _ ?_))
  refine sSeq (fun K28 hK28 => ?_)
  refine sRegion ?_
  refine sField (b := b27) (off := 0) 0 0 S (wN rfl) rfl rfl rfl rfl rfl (lb rfl) fun a S => ?_
  refine sLoad1 (p := b27) (off := 0) (T := 56) (vs := [.int .u8 x22.Kind, .bool x22.Purl, iv x22.A, iv x22.B]) 0 (.int .u8 x22.Kind) S (wN rfl) rfl rfl rfl rfl rfl rfl (lb rfl) fun a S => ?_
  obtain ⟨r29, hx30, h⟩ := bindSome h
  refine sCall (X := Value) (f := 52) (vs := [.int .u8 x22.Kind]) (val := c_stitch_forms_val r29) (B' := fun _ => []) (D' := c_stitch_forms_D r29) [] [eBox b27 56 [.int .u8 x22.Kind, .bool x22.Purl, iv x22.A, iv x22.B]] [] [0] [] S (wN rfl) rfl callee52 rfl (by decide) rfl rfl (fun E1 w1 S1 => c_stitch_forms E1 w1 x22.Kind r29 hx30 S1) rfl (lb rfl) fun u31 a w S => ?_
  obtain rfl : u31 = gv_stitch_form r29.1 := S.mem.know (i := 0) (e := fRep r_stitch_form (u31) r29.1) rfl
  refine sMove (.tuple #[gv_stitch_form r29.1, .bool r29.2]) S (wN rfl) (.inl rfl) rfl rfl (lb rfl) fun a S => ?_
  refine sExtract (vs := [gv_stitch_form r29.1, .bool r29.2]) (gv_stitch_form r29.1) S (wN rfl) rfl rfl rfl rfl (lb rfl) fun a S => ?_
  refine sExtract (vs := [gv_stitch_form r29.1, .bool r29.2]) (.bool r29.2) S (wN rfl) rfl rfl rfl rfl (lb rfl) fun a S => ?_
  refine sAlloc (gv_stitch_form (stitch_form.mk (⟨#[]⟩ : ByteArray) (0, 0) (0, 0) false 0 0)) S (wN rfl) rfl rfl (gl_stitch_form (stitch_form.mk (⟨#[]⟩ : ByteArray) (0, 0) (0, 0) false 0 0)) rfl rfl (lb rfl) fun a b32 w S => ?_
  refine sStore (p := b32) (off := 0) (T := 100) (vs := [.string (⟨#[]⟩ : ByteArray), iv 0, iv 0, iv 0, iv 0, .bool false, iv 0, iv 0]) (v := gv_stitch_form r29.1) 0 [.string r29.1.letter, iv r29.1.a.1, iv r29.1.a.2, iv r29.1.b.1, iv r29.1.b.2, .bool r29.1.sided, iv r29.1.uses, iv r29.1.made] S (wN rfl) rfl rfl rfl rfl rfl rfl rfl (by simp) rfl fun a w S => ?_
  refine sMove (.bool r29.2) S (wN rfl) (.inr rfl) rfl rfl (lb rfl) fun a S => ?_
  refine leafL (leafT (hK28 _ _ ?_))
  refine sSeq (fun K33 hK33 => ?_)
  refine sRegion ?_
  refine sMove (iv s9) S (wN rfl) (.inl rfl) rfl rfl (lb rfl) fun a S => ?_
  refine sLoadN (p := b27) (off := 0) (T := 56) (vs := [.int .u8 x22.Kind, .bool x22.Purl, iv x22.A, iv x22.B]) 1 [.int .u8 x22.Kind, .bool x22.Purl, iv x22.A, iv x22.B] S (wN rfl) rfl rfl rfl rfl rfl rfl rfl (lb rfl) fun a S => ?_
  refine sField (b := b32) (off := 0) 6 6 S (wN rfl) rfl rfl rfl rfl rfl (lb rfl) fun a S => ?_
  refine sLoad1 (p := b32) (off := 6) (T := 100) (vs := (gl_stitch_form r29.1)) 0 (iv r29.1.uses) S (wN rfl) rfl rfl rfl rfl rfl rfl (lb rfl) fun a S => ?_
  obtain ⟨r34, hx35, h⟩ := bindSome h
  have S1 := S.mem
  refine sCallQ (X := Unit) (f := 57) (vs := [.agg #[.int .u8 x22.Kind, .bool x22.Purl, iv x22.A, iv x22.B], iv r29.1.uses]) (val := fun _ => iv r34) S (wN rfl) rfl callee57 rfl (S1.quiet [2] rfl) (fun E1 w1 S1 => c_stitch_loops E1 w1 x22 (.agg #[.int .u8 x22.Kind, .bool x22.Purl, iv x22.A, iv x22.B]) r29.1.uses r34 hx35 S1) rfl (lb rfl) fun _ a w S => ?_
  refine sBin (iv (w64 (s9 + r34))) S (wN rfl) rfl rfl rfl (bAdd _ _ _ _ s9 r34) rfl (lb rfl) fun a S => ?_
  refine sMove (iv (w64 (s9 + r34))) S (wN rfl) (.inr rfl) rfl rfl (lb rfl) fun a S => ?_
  refine leafL (leafT (hK33 _ _ ?_))
  refine sRegion ?_
  refine sMove (iv s10) S (wN rfl) (.inl rfl) rfl rfl (lb rfl) fun a S => ?_
  refine sLoadN (p := b27) (off := 0) (T := 56) (vs := [.int .u8 x22.Kind, .bool x22.Purl, iv x22.A, iv x22.B]) 1 [.int .u8 x22.Kind, .bool x22.Purl, iv x22.A, iv x22.B] S (wN rfl) rfl rfl rfl rfl rfl rfl rfl (lb rfl) fun a S => ?_
  refine sField (b := b32) (off := 0) 7 7 S (wN rfl) rfl rfl rfl rfl rfl (lb rfl) fun a S => ?_
  refine sLoad1 (p := b32) (off := 7) (T := 100) (vs := (gl_stitch_form r29.1)) 0 (iv r29.1.made) S (wN rfl) rfl rfl rfl rfl rfl rfl (lb rfl) fun a S => ?_
  obtain ⟨r36, hx37, h⟩ := bindSome h
  have S1 := S.mem
  refine sCallQ (X := Unit) (f := 57) (vs := [.agg #[.int .u8 x22.Kind, .bool x22.Purl, iv x22.A, iv x22.B], iv r29.1.made]) (val := fun _ => iv r36) S (wN rfl) rfl callee57 rfl (S1.quiet [2] rfl) (fun E1 w1 S1 => c_stitch_loops E1 w1 x22 (.agg #[.int .u8 x22.Kind, .bool x22.Purl, iv x22.A, iv x22.B]) r29.1.made r36 hx37 S1) rfl (lb rfl) fun _ a w S => ?_
  refine sBin (iv (w64 (s10 + r36))) S (wN rfl) rfl rfl rfl (bAdd _ _ _ _ s10 r36) rfl (lb rfl) fun a S => ?_
  refine sMove (iv (w64 (s10 + r36))) S (wN rfl) (.inr rfl) rfl rfl (lb rfl) fun a S => ?_
  refine leafL (leafB (leafT (hK20 _ _ ?_)))
  refine sRegion ?_
  refine sBin (iv (w64 (s11 + 1))) S (wN rfl) rfl rfl rfl (bAdd _ _ _ _ s11 1) rfl (lb rfl) fun a S => ?_
  refine sMove (iv (w64 (s11 + 1))) S (wN rfl) (.inl rfl) rfl rfl (lb rfl) fun a S => ?_
  exact leafL (leafT (⟨(w64 (s9 + r34), w64 (s10 + r36), w64 (s11 + 1)), (Option.some.inj h).symm, (S.fix [] [4] (by decide) rfl rfl rfl)⟩))

end Go.Proofs.YtmedbnjhgkcndaaDoor
namespace Go.Proofs.YtmedbnjhgkcndaaDoor
open Go.RowKit
set_option linter.unusedVariables false

noncomputable def F_stitch_within (p0 : Int) (p1 : (Int × Int)) : Option Bool :=
  Option.bind (α := Bool) (
    if decide (p1.1 ≤ p0) then
      some (decide (p0 ≤ p1.2))
    else
      some false) fun o3 =>
  some o3
set_option maxHeartbeats 4000000 in
set_option maxRecDepth 100000 in
theorem c_stitch_within (E : Nat → Prop) (w0 : World) (p0 : Int) (p1 : (Int × Int)) (v1 : Value) (r : Bool) (h : F_stitch_within p0 p1 = some r) (S : St0 E [] w0 w0 [] [fRep r_A2_Int (v1) p1]) :
    Calls Tryd.prog 69 #[iv p0, v1] w0 (Ret (X := Unit) E [] w0 (fun _ => .bool r) (fun _ => []) (fun _ => [])) := by
  unfold F_stitch_within at h
  obtain rfl : v1 = .agg #[iv p1.1, iv p1.2] := S.know (i := 0) (e := fRep r_A2_Int (v1) p1) rfl
  refine sEnter (args := [iv p0, .agg #[iv p1.1, iv p1.2]]) 15 Tryd.func69 rfl rfl (by simp) S (fun a S => ?_)
  refine sSeq (fun K1 hK1 => ?_)
  refine sRegion ?_
  refine sBox (v := .agg #[iv p1.1, iv p1.2]) S (wN rfl) rfl rfl [iv p1.1, iv p1.2] rfl rfl (lb rfl) fun a b2 w S => ?_
  refine sMove (.bool false) S (wN rfl) (.inr rfl) rfl rfl (lb rfl) fun a S => ?_
  refine leafL (leafT (hK1 _ _ ?_))
  obtain ⟨t4, h, g5⟩ := bindSome h
  refine sCut (fun a w => ∃ o3, o3 = t4 ∧ St [] E [] w0 15 a w [(4, .bool o3)] [] []) ?_ (fun a w hI => ?_)
  rotate_left
  · obtain ⟨o3, rfl, S⟩ := hI
    have h := g5
    clear g5
    try dsimp only at h
    obtain rfl := Option.some.inj h
    exact wp_ret (sRet (.bool o3) S (rsl1 rfl (rvT (t := 4) (v := .bool o3) S rfl)) ⟨(), rfl, S.mem.sel [] [] (by decide) rfl rfl⟩)
  refine sRegion ?_
  refine sMove (iv p0) S (wN rfl) (.inl rfl) rfl rfl (lb rfl) fun a S => ?_
  refine sIdxV (v := .pointer (some ⟨b2, 0, none⟩)) (k := .i64) (j := 0) (q := .pointer (some ⟨b2, 0, none⟩)) S (wN rfl) rfl rfl rfl (idxV_arr (m := 2) (sz := 1) Tryd.underlying61 rfl (by decide) (by decide) 0) rfl (lb rfl) fun a S => ?_
  refine sLoad1 (p := b2) (off := 0) (T := 61) (vs := [iv p1.1, iv p1.2]) 0 (iv p1.1) S (wN rfl) rfl rfl rfl rfl rfl rfl (lb rfl) fun a S => ?_
  refine sBin (.bool (decide (p1.1 ≤ p0))) S (wN rfl) rfl rfl rfl (bGe _ _ _ _ .i64 p0 p1.1) rfl (lb rfl) fun a S => ?_
  refine sMove (.bool (decide (p1.1 ≤ p0))) S (wN rfl) (.inl rfl) rfl rfl (lb rfl) fun a S => ?_
  rcases iteSome h with ⟨hc6, h⟩ | ⟨hc6, h⟩
  rotate_left
  · refine sSkip 4 true 9 10 S rfl rfl rfl hc6 rfl (lb rfl) fun a S => ?_
    refine sSkip 4 true 9 11 S rfl rfl rfl hc6 rfl (lb rfl) fun a S => ?_
    refine sSkip 4 true 9 12 S rfl rfl rfl hc6 rfl (lb rfl) fun a S => ?_
    refine sSkip 4 true 9 13 S rfl rfl rfl hc6 rfl (lb rfl) fun a S => ?_
    refine sPickF (.bool false) S (wN rfl) rfl rfl hc6 rfl rfl (lb rfl) fun a S => ?_
    refine sMove (.bool false) S (wN rfl) (.inr rfl) rfl rfl (lb rfl) fun a S => ?_
    exact leafL (leafT (⟨false, Option.some.inj h, S.fix [] [] (by decide) rfl rfl rfl⟩))
  refine sMove (iv p0) S (wG 4 true 9 rfl rfl rfl hc6) (.inl rfl) rfl rfl (lb rfl) fun a S => ?_
  refine sIdxV (v := .pointer (some ⟨b2, 0, none⟩)) (k := .i64) (j := 1) (q := .pointer (some ⟨b2, 1, none⟩)) S (wG 4 true 9 rfl rfl rfl hc6) rfl rfl rfl (idxV_arr (m := 2) (sz := 1) Tryd.underlying61 rfl (by decide) (by decide) 0) rfl (lb rfl) fun a S => ?_
  refine sLoad1 (p := b2) (off := 1) (T := 61) (vs := [iv p1.1, iv p1.2]) 0 (iv p1.2) S (wG 4 true 9 rfl rfl rfl hc6) rfl rfl rfl rfl rfl rfl (lb rfl) fun a S => ?_
  refine sBin (.bool (decide (p0 ≤ p1.2))) S (wG 4 true 9 rfl rfl rfl hc6) rfl rfl rfl (bLe _ _ _ _ .i64 p0 p1.2) rfl (lb rfl) fun a S => ?_
  refine sPickT (.bool (decide (p0 ≤ p1.2))) S (wN rfl) rfl rfl hc6 rfl rfl (lb rfl) fun a S => ?_
  refine sMove (.bool (decide (p0 ≤ p1.2))) S (wN rfl) (.inr rfl) rfl rfl (lb rfl) fun a S => ?_
  exact leafL (leafT (⟨decide (p0 ≤ p1.2), Option.some.inj h, S.fix [] [] (by decide) rfl rfl rfl⟩))

end Go.Proofs.YtmedbnjhgkcndaaDoor
namespace Go.Proofs.YtmedbnjhgkcndaaDoor
open Go.RowKit
set_option linter.unusedVariables false

noncomputable def F_stitch_Check (p0 : api_Stitch) : Option Int :=
  Option.bind (F_stitch_forms p0.Kind) fun r4 =>
  Option.bind (α := Bool) (
    if !r4.2 then
      some true
    else
      Option.bind (F_stitch_within p0.A r4.1.a) fun r13 =>
      if !r13 then
        some true
      else
        Option.bind (F_stitch_within p0.B r4.1.b) fun r16 =>
        if !r16 then
          some true
        else
          if p0.Purl then
            some (!r4.1.sided)
          else
            some false) fun o9 =>
  if o9 then
    some 8
  else
    some 0
set_option maxHeartbeats 4000000 in
set_option maxRecDepth 100000 in
theorem c_stitch_Check (E : Nat → Prop) (w0 : World) (p0 : api_Stitch) (v0 : Value) (r : Int) (h : F_stitch_Check p0 = some r) (S : St0 E [] w0 w0 [] [fRep r_api_Stitch (v0) p0]) :
    Calls Tryd.prog 55 #[v0] w0 (Ret (X := Unit) E [] w0 (fun _ => .int .i64 r) (fun _ => []) (fun _ => [])) := by
  unfold F_stitch_Check at h
  obtain rfl : v0 = .agg #[.int .u8 p0.Kind, .bool p0.Purl, iv p0.A, iv p0.B] := S.know (i := 0) (e := fRep r_api_Stitch (v0) p0) rfl
  refine sEnter (args := [.agg #[.int .u8 p0.Kind, .bool p0.Purl, iv p0.A, iv p0.B]]) 38 Tryd.func55 rfl rfl (by simp) S (fun a S => ?_)
  refine sSeq (fun K1 hK1 => ?_)
  refine sRegion ?_
  refine sBox (v := .agg #[.int .u8 p0.Kind, .bool p0.Purl, iv p0.A, iv p0.B]) S (wN rfl) rfl rfl [.int .u8 p0.Kind, .bool p0.Purl, iv p0.A, iv p0.B] rfl rfl (lb rfl) fun a b2 w S => ?_
  refine sMove (iv 0) S (wN rfl) (.inr rfl) rfl rfl (lb rfl) fun a S => ?_
  refine leafL (leafT (hK1 _ _ ?_))
  refine sSeq (fun K3 hK3 => ?_)
  refine sRegion ?_
  refine sField (b := b2) (off := 0) 0 0 S (wN rfl) rfl rfl rfl rfl rfl (lb rfl) fun a S => ?_
  refine sLoad1 (p := b2) (off := 0) (T := 56) (vs := [.int .u8 p0.Kind, .bool p0.Purl, iv p0.A, iv p0.B]) 0 (.int .u8 p0.Kind) S (wN rfl) rfl rfl rfl rfl rfl rfl (lb rfl) fun a S => ?_
  obtain ⟨r4, hx5, h⟩ := bindSome h
  refine sCall (X := Value) (f := 52) (vs := [.int .u8 p0.Kind]) (val := c_stitch_forms_val r4) (B' := fun _ => []) (D' := c_stitch_forms_D r4) [] [eBox b2 56 [.int .u8 p0.Kind, .bool p0.Purl, iv p0.A, iv p0.B]] [] [0] [] S (wN rfl) rfl callee52 rfl (by decide) rfl rfl (fun E1 w1 S1 => c_stitch_forms E1 w1 p0.Kind r4 hx5 S1) rfl (lb rfl) fun u6 a w S => ?_
  obtain rfl : u6 = gv_stitch_form r4.1 := S.mem.know (i := 0) (e := fRep r_stitch_form (u6) r4.1) rfl
  refine sMove (.tuple #[gv_stitch_form r4.1, .bool r4.2]) S (wN rfl) (.inl rfl) rfl rfl (lb rfl) fun a S => ?_
  refine sExtract (vs := [gv_stitch_form r4.1, .bool r4.2]) (gv_stitch_form r4.1) S (wN rfl) rfl rfl rfl rfl (lb rfl) fun a S => ?_
  refine sExtract (vs := [gv_stitch_form r4.1, .bool r4.2]) (.bool r4.2) S (wN rfl) rfl rfl rfl rfl (lb rfl) fun a S => ?_
  refine sAlloc (gv_stitch_form (stitch_form.mk (⟨#[]⟩ : ByteArray) (0, 0) (0, 0) false 0 0)) S (wN rfl) rfl rfl (gl_stitch_form (stitch_form.mk (⟨#[]⟩ : ByteArray) (0, 0) (0, 0) false 0 0)) rfl rfl (lb rfl) fun a b7 w S => ?_
  refine sStore (p := b7) (off := 0) (T := 100) (vs := [.string (⟨#[]⟩ : ByteArray), iv 0, iv 0, iv 0, iv 0, .bool false, iv 0, iv 0]) (v := gv_stitch_form r4.1) 0 [.string r4.1.letter, iv r4.1.a.1, iv r4.1.a.2, iv r4.1.b.1, iv r4.1.b.2, .bool r4.1.sided, iv r4.1.uses, iv r4.1.made] S (wN rfl) rfl rfl rfl rfl rfl rfl rfl (by simp) rfl fun a w S => ?_
  refine sMove (.bool r4.2) S (wN rfl) (.inr rfl) rfl rfl (lb rfl) fun a S => ?_
  refine leafL (leafT (hK3 _ _ ?_))
  refine sSeq (fun K8 hK8 => ?_)
  obtain ⟨t10, h, g11⟩ := bindSome h
  refine sCut (fun a w => ∃ o9, o9 = t10 ∧ St [] E [] w0 38 a w [(37, .bool o9)] [] []) ?_ (fun a w hI => ?_)
  rotate_left
  · obtain ⟨o9, rfl, S⟩ := hI
    have h := g11
    clear g11
    try dsimp only at h
    rcases iteSome h with ⟨hc20, h⟩ | ⟨hc20, h⟩
    · refine sCondT S rfl hc20 ?_
      refine sSeq (fun K21 hK21 => ?_)
      refine sRegion ?_
      refine sMove (iv 8) S (wN rfl) (.inr rfl) rfl rfl (lb rfl) fun a S => ?_
      refine leafL (leafT (hK21 _ _ ?_))
      obtain rfl := Option.some.inj h
      exact wp_ret (rThen (sRet (iv 8) S (rsl1 rfl (rvT (t := 2) (v := iv 8) S rfl)) ⟨(), rfl, S.mem.sel [] [] (by decide) rfl rfl⟩))
    refine sCondF S rfl hc20 ?_
    refine wp_skip (leafT (hK8 _ _ ?_))
    refine sSeq (fun K22 hK22 => ?_)
    refine sRegion ?_
    refine sMove (iv 0) S (wN rfl) (.inr rfl) rfl rfl (lb rfl) fun a S => ?_
    refine leafL (leafT (hK22 _ _ ?_))
    obtain rfl := Option.some.inj h
    exact wp_ret (sRet (iv 0) S (rsl1 rfl (rvT (t := 2) (v := iv 0) S rfl)) ⟨(), rfl, S.mem.sel [] [] (by decide) rfl rfl⟩)
  refine sRegion ?_
  refine sMove (.bool r4.2) S (wN rfl) (.inl rfl) rfl rfl (lb rfl) fun a S => ?_
  refine sNot (b := r4.2) S (wN rfl) rfl rfl rfl (lb rfl) fun a S => ?_
  refine sMove (.bool (!r4.2)) S (wN rfl) (.inl rfl) rfl rfl (lb rfl) fun a S => ?_
  rcases iteSome h with ⟨hc12, h⟩ | ⟨hc12, h⟩
  · refine sSkip 2 false 13 14 S rfl rfl rfl hc12 rfl (lb rfl) fun a S => ?_
    refine sSkip 2 false 13 15 S rfl rfl rfl hc12 rfl (lb rfl) fun a S => ?_
    refine sSkip 2 false 13 16 S rfl rfl rfl hc12 rfl (lb rfl) fun a S => ?_
    refine sSkip 2 false 13 17 S rfl rfl rfl hc12 rfl (lb rfl) fun a S => ?_
    refine sSkip 2 false 13 18 S rfl rfl rfl hc12 rfl (lb rfl) fun a S => ?_
    refine sSkip 2 false 13 19 S rfl rfl rfl hc12 rfl (lb rfl) fun a S => ?_
    refine sPickT (.bool true) S (wN rfl) rfl rfl hc12 rfl rfl (lb rfl) fun a S => ?_
    refine sMove (.bool true) S (wN rfl) (.inl rfl) rfl rfl (lb rfl) fun a S => ?_
    refine sSkip 10 false 21 22 S rfl rfl rfl rfl rfl (lb rfl) fun a S => ?_
    refine sSkip 10 false 21 23 S rfl rfl rfl rfl rfl (lb rfl) fun a S => ?_
    refine sSkip 10 false 21 24 S rfl rfl rfl rfl rfl (lb rfl) fun a S => ?_
    refine sSkip 10 false 21 25 S rfl rfl rfl rfl rfl (lb rfl) fun a S => ?_
    refine sSkip 10 false 21 26 S rfl rfl rfl rfl rfl (lb rfl) fun a S => ?_
    refine sSkip 10 false 21 27 S rfl rfl rfl rfl rfl (lb rfl) fun a S => ?_
    refine sPickT (.bool true) S (wN rfl) rfl rfl rfl rfl rfl (lb rfl) fun a S => ?_
    refine sMove (.bool true) S (wN rfl) (.inl rfl) rfl rfl (lb rfl) fun a S => ?_
    refine sSkip 18 false 29 30 S rfl rfl rfl rfl rfl (lb rfl) fun a S => ?_
    refine sSkip 18 false 29 31 S rfl rfl rfl rfl rfl (lb rfl) fun a S => ?_
    refine sSkip 18 false 29 32 S rfl rfl rfl rfl rfl (lb rfl) fun a S => ?_
    refine sSkipU 21 true 32 33 S rfl rfl rfl rfl (lb rfl) fun a S => ?_
    refine sSkipU 21 true 32 34 S rfl rfl rfl rfl (lb rfl) fun a S => ?_
    refine sSkipU 21 true 32 35 S rfl rfl rfl rfl (lb rfl) fun a S => ?_
    refine sSkip 18 false 29 36 S rfl rfl rfl rfl rfl (lb rfl) fun a S => ?_
    refine sPickT (.bool true) S (wN rfl) rfl rfl rfl rfl rfl (lb rfl) fun a S => ?_
    exact leafL (leafT (⟨true, Option.some.inj h, S.fix [] [] (by decide) rfl rfl rfl⟩))
  refine sField (b := b2) (off := 0) 2 2 S (wG 2 false 13 rfl rfl rfl hc12) rfl rfl rfl rfl rfl (lb rfl) fun a S => ?_
  refine sLoad1 (p := b2) (off := 2) (T := 56) (vs := [.int .u8 p0.Kind, .bool p0.Purl, iv p0.A, iv p0.B]) 1 (iv p0.A) S (wG 2 false 13 rfl rfl rfl hc12) rfl rfl rfl rfl rfl rfl (lb rfl) fun a S => ?_
  refine sField (b := b7) (off := 0) 1 1 S (wG 2 false 13 rfl rfl rfl hc12) rfl rfl rfl rfl rfl (lb rfl) fun a S => ?_
  refine sLoadN (p := b7) (off := 1) (T := 100) (vs := (gl_stitch_form r4.1)) 0 [iv r4.1.a.1, iv r4.1.a.2] S (wG 2 false 13 rfl rfl rfl hc12) rfl rfl rfl rfl rfl rfl rfl (lb rfl) fun a S => ?_
  obtain ⟨r13, hx14, h⟩ := bindSome h
  have S1 := S.mem
  have S1 := S1.learn (fRep r_A2_Int (.agg #[iv r4.1.a.1, iv r4.1.a.2]) r4.1.a) rfl
  refine sCallQ (X := Unit) (f := 69) (vs := [iv p0.A, .agg #[iv r4.1.a.1, iv r4.1.a.2]]) (val := fun _ => .bool r13) S (wG 2 false 13 rfl rfl rfl hc12) rfl callee69 rfl (S1.quiet [0] rfl) (fun E1 w1 S1 => c_stitch_within E1 w1 p0.A r4.1.a (.agg #[iv r4.1.a.1, iv r4.1.a.2]) r13 hx14 S1) rfl (lb rfl) fun _ a w S => ?_
  refine sNot (b := r13) S (wG 2 false 13 rfl rfl rfl hc12) rfl rfl rfl (lb rfl) fun a S => ?_
  refine sPickF (.bool (!r13)) S (wN rfl) rfl rfl hc12 rfl rfl (lb rfl) fun a S => ?_
  refine sMove (.bool (!r13)) S (wN rfl) (.inl rfl) rfl rfl (lb rfl) fun a S => ?_
  rcases iteSome h with ⟨hc15, h⟩ | ⟨hc15, h⟩
  · refine sSkip 10 false 21 22 S rfl rfl rfl hc15 rfl (lb rfl) fun a S => ?_
    refine sSkip 10 false 21 23 S rfl rfl rfl hc15 rfl (lb rfl) fun a S => ?_
    refine sSkip 10 false 21 24 S rfl rfl rfl hc15 rfl (lb rfl) fun a S => ?_
    refine sSkip 10 false 21 25 S rfl rfl rfl hc15 rfl (lb rfl) fun a S => ?_
    refine sSkip 10 false 21 26 S rfl rfl rfl hc15 rfl (lb rfl) fun a S => ?_
    refine sSkip 10 false 21 27 S rfl rfl rfl hc15 rfl (lb rfl) fun a S => ?_
    refine sPickT (.bool true) S (wN rfl) rfl rfl hc15 rfl rfl (lb rfl) fun a S => ?_
    refine sMove (.bool true) S (wN rfl) (.inl rfl) rfl rfl (lb rfl) fun a S => ?_
    refine sSkip 18 false 29 30 S rfl rfl rfl rfl rfl (lb rfl) fun a S => ?_
    refine sSkip 18 false 29 31 S rfl rfl rfl rfl rfl (lb rfl) fun a S => ?_
    refine sSkip 18 false 29 32 S rfl rfl rfl rfl rfl (lb rfl) fun a S => ?_
    refine sSkipU 21 true 32 33 S rfl rfl rfl rfl (lb rfl) fun a S => ?_
    refine sSkipU 21 true 32 34 S rfl rfl rfl rfl (lb rfl) fun a S => ?_
    refine sSkipU 21 true 32 35 S rfl rfl rfl rfl (lb rfl) fun a S => ?_
    refine sSkip 18 false 29 36 S rfl rfl rfl rfl rfl (lb rfl) fun a S => ?_
    refine sPickT (.bool true) S (wN rfl) rfl rfl rfl rfl rfl (lb rfl) fun a S => ?_
    exact leafL (leafT (⟨true, Option.some.inj h, S.fix [] [] (by decide) rfl rfl rfl⟩))
  refine sField (b := b2) (off := 0) 3 3 S (wG 10 false 21 rfl rfl rfl hc15) rfl rfl rfl rfl rfl (lb rfl) fun a S => ?_
  refine sLoad1 (p := b2) (off := 3) (T := 56) (vs := [.int .u8 p0.Kind, .bool p0.Purl, iv p0.A, iv p0.B]) 1 (iv p0.B) S (wG 10 false 21 rfl rfl rfl hc15) rfl rfl rfl rfl rfl rfl (lb rfl) fun a S => ?_
  refine sField (b := b7) (off := 0) 3 3 S (wG 10 false 21 rfl rfl rfl hc15) rfl rfl rfl rfl rfl (lb rfl) fun a S => ?_
  refine sLoadN (p := b7) (off := 3) (T := 100) (vs := (gl_stitch_form r4.1)) 0 [iv r4.1.b.1, iv r4.1.b.2] S (wG 10 false 21 rfl rfl rfl hc15) rfl rfl rfl rfl rfl rfl rfl (lb rfl) fun a S => ?_
  obtain ⟨r16, hx17, h⟩ := bindSome h
  have S1 := S.mem
  have S1 := S1.learn (fRep r_A2_Int (.agg #[iv r4.1.b.1, iv r4.1.b.2]) r4.1.b) rfl
  refine sCallQ (X := Unit) (f := 69) (vs := [iv p0.B, .agg #[iv r4.1.b.1, iv r4.1.b.2]]) (val := fun _ => .bool r16) S (wG 10 false 21 rfl rfl rfl hc15) rfl callee69 rfl (S1.quiet [0] rfl) (fun E1 w1 S1 => c_stitch_within E1 w1 p0.B r4.1.b (.agg #[iv r4.1.b.1, iv r4.1.b.2]) r16 hx17 S1) rfl (lb rfl) fun _ a w S => ?_
  refine sNot (b := r16) S (wG 10 false 21 rfl rfl rfl hc15) rfl rfl rfl (lb rfl) fun a S => ?_
  refine sPickF (.bool (!r16)) S (wN rfl) rfl rfl hc15 rfl rfl (lb rfl) fun a S => ?_
  refine sMove (.bool (!r16)) S (wN rfl) (.inl rfl) rfl rfl (lb rfl) fun a S => ?_
  rcases iteSome h with ⟨hc18, h⟩ | ⟨hc18, h⟩
  · refine sSkip 18 false 29 30 S rfl rfl rfl hc18 rfl (lb rfl) fun a S => ?_
    refine sSkip 18 false 29 31 S rfl rfl rfl hc18 rfl (lb rfl) fun a S => ?_
    refine sSkip 18 false 29 32 S rfl rfl rfl hc18 rfl (lb rfl) fun a S => ?_
    refine sSkipU 21 true 32 33 S rfl rfl rfl rfl (lb rfl) fun a S => ?_
    refine sSkipU 21 true 32 34 S rfl rfl rfl rfl (lb rfl) fun a S => ?_
    refine sSkipU 21 true 32 35 S rfl rfl rfl rfl (lb rfl) fun a S => ?_
    refine sSkip 18 false 29 36 S rfl rfl rfl hc18 rfl (lb rfl) fun a S => ?_
    refine sPickT (.bool true) S (wN rfl) rfl rfl hc18 rfl rfl (lb rfl) fun a S => ?_
    exact leafL (leafT (⟨true, Option.some.inj h, S.fix [] [] (by decide) rfl rfl rfl⟩))
  refine sField (b := b2) (off := 0) 1 1 S (wG 18 false 29 rfl rfl rfl hc18) rfl rfl rfl rfl rfl (lb rfl) fun a S => ?_
  refine sLoad1 (p := b2) (off := 1) (T := 56) (vs := [.int .u8 p0.Kind, .bool p0.Purl, iv p0.A, iv p0.B]) 1 (.bool p0.Purl) S (wG 18 false 29 rfl rfl rfl hc18) rfl rfl rfl rfl rfl rfl (lb rfl) fun a S => ?_
  refine sMove (.bool p0.Purl) S (wG 18 false 29 rfl rfl rfl hc18) (.inl rfl) rfl rfl (lb rfl) fun a S => ?_
  rcases iteSome h with ⟨hc19, h⟩ | ⟨hc19, h⟩
  rotate_left
  · refine sSkip 21 true 32 33 S rfl rfl rfl hc19 rfl (lb rfl) fun a S => ?_
    refine sSkip 21 true 32 34 S rfl rfl rfl hc19 rfl (lb rfl) fun a S => ?_
    refine sSkip 21 true 32 35 S rfl rfl rfl hc19 rfl (lb rfl) fun a S => ?_
    refine sPickF (.bool false) S (wG 18 false 29 rfl rfl rfl hc18) rfl rfl hc19 rfl rfl (lb rfl) fun a S => ?_
    refine sPickF (.bool false) S (wN rfl) rfl rfl hc18 rfl rfl (lb rfl) fun a S => ?_
    exact leafL (leafT (⟨false, Option.some.inj h, S.fix [] [] (by decide) rfl rfl rfl⟩))
  refine sField (b := b7) (off := 0) 5 5 S (wG 21 true 32 rfl rfl rfl hc19) rfl rfl rfl rfl rfl (lb rfl) fun a S => ?_
  refine sLoad1 (p := b7) (off := 5) (T := 100) (vs := (gl_stitch_form r4.1)) 0 (.bool r4.1.sided) S (wG 21 true 32 rfl rfl rfl hc19) rfl rfl rfl rfl rfl rfl (lb rfl) fun a S => ?_
  refine sNot (b := r4.1.sided) S (wG 21 true 32 rfl rfl rfl hc19) rfl rfl rfl (lb rfl) fun a S => ?_
  refine sPickT (.bool (!r4.1.sided)) S (wG 18 false 29 rfl rfl rfl hc18) rfl rfl hc19 rfl rfl (lb rfl) fun a S => ?_
  refine sPickF (.bool (!r4.1.sided)) S (wN rfl) rfl rfl hc18 rfl rfl (lb rfl) fun a S => ?_
  exact leafL (leafT (⟨!r4.1.sided, Option.some.inj h, S.fix [] [] (by decide) rfl rfl rfl⟩))

end Go.Proofs.YtmedbnjhgkcndaaDoor
namespace Go.Proofs.YtmedbnjhgkcndaaDoor
open Go.RowKit
set_option linter.unusedVariables false

noncomputable def F_stitch_All_1 (p0 : api_Stitch) : Option Bool :=
  Option.bind (F_stitch_Check p0) fun r4 =>
  some (r4 != 0)
set_option maxHeartbeats 4000000 in
set_option maxRecDepth 100000 in
theorem c_stitch_All_1 (E : Nat → Prop) (w0 : World) (p0 : api_Stitch) (v0 : Value) (r : Bool) (h : F_stitch_All_1 p0 = some r) (S : St0 E [] w0 w0 [] [fRep r_api_Stitch (v0) p0]) :
    Calls Tryd.prog 54 #[v0] w0 (Ret (X := Unit) E [] w0 (fun _ => .bool r) (fun _ => []) (fun _ => [])) := by
  unfold F_stitch_All_1 at h
  obtain rfl : v0 = .agg #[.int .u8 p0.Kind, .bool p0.Purl, iv p0.A, iv p0.B] := S.know (i := 0) (e := fRep r_api_Stitch (v0) p0) rfl
  refine sEnter (args := [.agg #[.int .u8 p0.Kind, .bool p0.Purl, iv p0.A, iv p0.B]]) 6 Tryd.func54 rfl rfl (by simp) S (fun a S => ?_)
  refine sSeq (fun K1 hK1 => ?_)
  refine sRegion ?_
  refine sBox (v := .agg #[.int .u8 p0.Kind, .bool p0.Purl, iv p0.A, iv p0.B]) S (wN rfl) rfl rfl [.int .u8 p0.Kind, .bool p0.Purl, iv p0.A, iv p0.B] rfl rfl (lb rfl) fun a b2 w S => ?_
  refine sMove (.bool false) S (wN rfl) (.inr rfl) rfl rfl (lb rfl) fun a S => ?_
  refine leafL (leafT (hK1 _ _ ?_))
  refine sSeq (fun K3 hK3 => ?_)
  refine sRegion ?_
  refine sLoadN (p := b2) (off := 0) (T := 56) (vs := [.int .u8 p0.Kind, .bool p0.Purl, iv p0.A, iv p0.B]) 0 [.int .u8 p0.Kind, .bool p0.Purl, iv p0.A, iv p0.B] S (wN rfl) rfl rfl rfl rfl rfl rfl rfl (lb rfl) fun a S => ?_
  obtain ⟨r4, hx5, h⟩ := bindSome h
  have S1 := S.mem
  refine sCallQ (X := Unit) (f := 55) (vs := [.agg #[.int .u8 p0.Kind, .bool p0.Purl, iv p0.A, iv p0.B]]) (val := fun _ => iv r4) S (wN rfl) rfl callee55 rfl (S1.quiet [0] rfl) (fun E1 w1 S1 => c_stitch_Check E1 w1 p0 (.agg #[.int .u8 p0.Kind, .bool p0.Purl, iv p0.A, iv p0.B]) r4 hx5 S1) rfl (lb rfl) fun _ a w S => ?_
  refine sBin (.bool (r4 != 0)) S (wN rfl) rfl rfl rfl (bNe _ _ _ _ .i64 r4 0) rfl (lb rfl) fun a S => ?_
  refine sMove (.bool (r4 != 0)) S (wN rfl) (.inr rfl) rfl rfl (lb rfl) fun a S => ?_
  refine leafL (leafT (hK3 _ _ ?_))
  obtain rfl := Option.some.inj h
  exact wp_ret (sRet (.bool (r4 != 0)) S (rsl1 rfl (rvT (t := 2) (v := .bool (r4 != 0)) S rfl)) ⟨(), rfl, S.mem.sel [] [] (by decide) rfl rfl⟩)

end Go.Proofs.YtmedbnjhgkcndaaDoor
namespace Go.Proofs.YtmedbnjhgkcndaaDoor
open Go.RowKit
set_option linter.unusedVariables false

noncomputable def slices_IndexFunc___api_Stitch_api_Stitch__s0_l1 (p0 : (List api_Stitch)) : Int → Option (Int ⊕ (Int ⊕ Unit)) := fun s0 => match s0 with
  | s7 =>
    if decide (s7 < (p0.length : Int)) then
      Option.bind (idxO p0 s7) fun x17 =>
      Option.bind (F_stitch_All_1 x17) fun r22 =>
      if r22 then
        some (.inr (.inl s7))
      else
        some (.inl (w64 (s7 + 1)))
    else
      some (.inr (.inr ()))
noncomputable def F_slices_IndexFunc___api_Stitch_api_Stitch__s0 (p0 : (List api_Stitch)) : Option Int :=
  Option.bind (α := Unit ⊕ Int) (
    Option.bind (whileO (slices_IndexFunc___api_Stitch_api_Stitch__s0_l1 p0) 0) fun z0 => match z0 with
      | .inl z =>
        some (.inr z)
      | .inr _ =>
        some (.inl ())) fun z0 => match z0 with
    | .inl _ =>
      some (-1)
    | .inr z =>
      some z
set_option maxHeartbeats 4000000 in
set_option maxRecDepth 100000 in
theorem c_slices_IndexFunc___api_Stitch_api_Stitch__s0 (E : Nat → Prop) (w0 : World) (p0 : (List api_Stitch)) (v0 : Value) (r : Int) (h : F_slices_IndexFunc___api_Stitch_api_Stitch__s0 p0 = some r) (S : St0 E [] w0 w0 [] [fRep (rL r_api_Stitch) (v0) p0]) :
    Calls Tryd.prog 68 #[v0, .func (.func 54) #[] #[]] w0 (Ret (X := Unit) E [] w0 (fun _ => .int .i64 r) (fun _ => []) (fun _ => [])) := by
  unfold F_slices_IndexFunc___api_Stitch_api_Stitch__s0 at h
  obtain ⟨ad1, cp2, _, rfl, _⟩ := S.know (i := 0) (e := fRep (rL r_api_Stitch) (v0) p0) rfl
  refine sEnter (args := [.slice ad1 p0.length cp2, .func (.func 54) #[] #[]]) 19 Tryd.func68 rfl rfl (by simp) S (fun a S => ?_)
  refine sSeq (fun K3 hK3 => ?_)
  refine sRegion ?_
  refine sMove (iv 0) S (wN rfl) (.inr rfl) rfl rfl (lb rfl) fun a S => ?_
  refine leafL (leafT (hK3 _ _ ?_))
  obtain ⟨t4, h, g5⟩ := bindSome h
  refine sCut (fun a w => .inl () = t4 ∧ St [] E [] w0 19 a w [] [] []) ?_ (fun a w hI => ?_)
  rotate_left
  · obtain ⟨rfl, S⟩ := hI
    have h := g5
    clear g5
    try dsimp only at h
    refine sSeq (fun K26 hK26 => ?_)
    refine sRegion ?_
    refine sMove (iv (-1)) S (wN rfl) (.inr rfl) rfl rfl (lb rfl) fun a S => ?_
    refine leafL (leafT (hK26 _ _ ?_))
    obtain rfl := Option.some.inj h
    exact wp_ret (sRet (iv (-1)) S (rsl1 rfl (rvT (t := 4) (v := iv (-1)) S rfl)) ⟨(), rfl, S.mem.sel [] [] (by decide) rfl rfl⟩)
  refine sSeq (fun K6 hK6 => ?_)
  refine sRegion ?_
  refine sMove (.slice ad1 p0.length cp2) S (wN rfl) (.inl rfl) rfl rfl (lb rfl) fun a S => ?_
  refine sLen (ad := ad1) (m := p0.length) (c := cp2) S (wN rfl) rfl Tryd.underlying52 rfl rfl (lb rfl) fun a S => ?_
  refine sMove (iv 0) S (wN rfl) (.inl rfl) rfl rfl (lb rfl) fun a S => ?_
  refine leafL (leafT (hK6 _ _ ?_))
  refine wp_block ?_
  obtain ⟨t10, hl, g9⟩ := bindSome h
  refine sLoop hl (fun s0 a w => match s0 with | s7 => St [] E [] w0 19 a w [(0, .slice ad1 p0.length cp2), (1, .func (.func 54) #[] #[]), (7, iv (p0.length : Int)), (8, iv s7)] [] [fRep (rL r_api_Stitch) (.slice ad1 p0.length cp2) p0]) (S.fix [] [0] (by decide) rfl rfl rfl) ?_
  clear hl h
  intro s7 a w c0 hI h hu8
  unfold slices_IndexFunc___api_Stitch_api_Stitch__s0_l1 at h
  dsimp only at h hI
  have S := hI
  refine sSeq (fun K11 hK11 => ?_)
  refine sRegion ?_
  refine sBin (.bool (decide (s7 < (p0.length : Int)))) S (wN rfl) rfl rfl rfl (bLt _ _ _ _ .i64 s7 (p0.length : Int)) rfl (lb rfl) fun a S => ?_
  refine leafL (leafT (hK11 _ _ ?_))
  refine sSeq (fun K12 hK12 => ?_)
  rcases iteSome h with ⟨hc13, h⟩ | ⟨hc13, h⟩
  rotate_left
  · refine sCondF S rfl hc13 ?_
    obtain rfl := Option.some.inj h
    obtain rfl := hu8 _ rfl
    have h := g9
    clear g9
    try dsimp only at h
    exact wp_exit (xThen (xThen (xHit (leafT (⟨Option.some.inj h, S.fix [] [] (by decide) rfl rfl rfl⟩)))))
  refine sCondT S rfl hc13 ?_
  refine wp_skip (leafT (hK12 _ _ ?_))
  refine sSeq (fun K14 hK14 => ?_)
  refine wp_block ?_
  refine sSeq (fun K15 hK15 => ?_)
  refine sRegion ?_
  refine sMove (iv s7) S (wN rfl) (.inl rfl) rfl rfl (lb rfl) fun a S => ?_
  refine sMove (iv s7) S (wN rfl) (.inr rfl) rfl rfl (lb rfl) fun a S => ?_
  refine leafL (leafT (hK15 _ _ ?_))
  refine sSeq (fun K16 hK16 => ?_)
  refine sRegion ?_
  refine sMove (.func (.func 54) #[] #[]) S (wN rfl) (.inl rfl) rfl rfl (lb rfl) fun a S => ?_
  refine sMove (.slice ad1 p0.length cp2) S (wN rfl) (.inl rfl) rfl rfl (lb rfl) fun a S => ?_
  refine sMove (iv s7) S (wN rfl) (.inl rfl) rfl rfl (lb rfl) fun a S => ?_
  obtain ⟨x17, hx18, h⟩ := bindSome h
  obtain ⟨q19, hq20, S⟩ := pIdx (P := Tryd.prog) (r := r_api_Stitch) (v := .slice ad1 p0.length cp2) (xs := p0) (j := s7) 52 56 0 S Tryd.underlying52 rfl rfl hx18
  refine sIdxV (v := .slice ad1 p0.length cp2) (k := .i64) (j := s7) S (wN rfl) rfl rfl rfl hq20 rfl (lb rfl) fun a S => ?_
  obtain ⟨u21, S⟩ := pLoad (r := r_api_Stitch) (q := q19) (x := x17) 0 S rfl
  obtain rfl : u21 = .agg #[.int .u8 x17.Kind, .bool x17.Purl, iv x17.A, iv x17.B] := S.mem.know (i := 1) (e := fRep r_api_Stitch (u21) x17) rfl
  refine sLoadVN (vq := q19) 0 [.int .u8 x17.Kind, .bool x17.Purl, iv x17.A, iv x17.B] S (wN rfl) rfl rfl rfl rfl rfl rfl (lb rfl) fun a S => ?_
  obtain ⟨r22, hx23, h⟩ := bindSome h
  have S1 := S.mem
  refine sCallVQ (X := Unit) (g := 54) (vs := [.agg #[.int .u8 x17.Kind, .bool x17.Purl, iv x17.A, iv x17.B]]) (caps := []) (val := fun _ => .bool r22) S (wN rfl) rfl rfl callee54 rfl (S1.quiet [1] rfl) (fun E1 w1 S1 => c_stitch_All_1 E1 w1 x17 (.agg #[.int .u8 x17.Kind, .bool x17.Purl, iv x17.A, iv x17.B]) r22 hx23 S1) rfl (lb rfl) fun _ a w S => ?_
  refine leafL (leafT (hK16 _ _ ?_))
  rcases iteSome h with ⟨hc24, h⟩ | ⟨hc24, h⟩
  rotate_left
  · refine sCondF S rfl hc24 ?_
    refine wp_skip (leafB (leafT (hK14 _ _ ?_)))
    refine sRegion ?_
    refine sBin (iv (w64 (s7 + 1))) S (wN rfl) rfl rfl rfl (bAdd _ _ _ _ s7 1) rfl (lb rfl) fun a S => ?_
    refine sMove (iv (w64 (s7 + 1))) S (wN rfl) (.inl rfl) rfl rfl (lb rfl) fun a S => ?_
    exact leafL (leafT (⟨w64 (s7 + 1), (Option.some.inj h).symm, (S.fix [] [3] (by decide) rfl rfl rfl)⟩))
  refine sCondT S rfl hc24 ?_
  refine sSeq (fun K25 hK25 => ?_)
  refine sRegion ?_
  refine sMove (iv s7) S (wN rfl) (.inl rfl) rfl rfl (lb rfl) fun a S => ?_
  refine sMove (iv s7) S (wN rfl) (.inr rfl) rfl rfl (lb rfl) fun a S => ?_
  refine leafL (leafT (hK25 _ _ ?_))
  obtain rfl := Option.some.inj h
  obtain rfl := hu8 _ rfl
  have h := g9
  clear g9
  try dsimp only at h
  obtain rfl := Option.some.inj h
  have h := g5
  clear g5
  try dsimp only at h
  obtain rfl := Option.some.inj h
  exact wp_ret (rBlock (rThen (rThen (rBlock (rThen (sRet (iv s7) S (rsl1 rfl (rvT (t := 4) (v := iv s7) S rfl)) ⟨(), rfl, S.mem.sel [] [] (by decide) rfl rfl⟩))))))

end Go.Proofs.YtmedbnjhgkcndaaDoor
namespace Go.Proofs.YtmedbnjhgkcndaaDoor
open Go.RowKit
set_option linter.unusedVariables false

noncomputable def F_slices_ContainsFunc___api_Stitch_api_Stitch__s0 (p0 : (List api_Stitch)) : Option Bool :=
  Option.bind (F_slices_IndexFunc___api_Stitch_api_Stitch__s0 p0) fun r5 =>
  some (decide (0 ≤ r5))
set_option maxHeartbeats 4000000 in
set_option maxRecDepth 100000 in
theorem c_slices_ContainsFunc___api_Stitch_api_Stitch__s0 (E : Nat → Prop) (w0 : World) (p0 : (List api_Stitch)) (v0 : Value) (r : Bool) (h : F_slices_ContainsFunc___api_Stitch_api_Stitch__s0 p0 = some r) (S : St0 E [] w0 w0 [] [fRep (rL r_api_Stitch) (v0) p0]) :
    Calls Tryd.prog 53 #[v0, .func (.func 54) #[] #[]] w0 (Ret (X := Unit) E [] w0 (fun _ => .bool r) (fun _ => []) (fun _ => [])) := by
  unfold F_slices_ContainsFunc___api_Stitch_api_Stitch__s0 at h
  obtain ⟨ad1, cp2, _, rfl, _⟩ := S.know (i := 0) (e := fRep (rL r_api_Stitch) (v0) p0) rfl
  refine sEnter (args := [.slice ad1 p0.length cp2, .func (.func 54) #[] #[]]) 9 Tryd.func53 rfl rfl (by simp) S (fun a S => ?_)
  refine sSeq (fun K3 hK3 => ?_)
  refine sRegion ?_
  refine sMove (.bool false) S (wN rfl) (.inr rfl) rfl rfl (lb rfl) fun a S => ?_
  refine leafL (leafT (hK3 _ _ ?_))
  refine sSeq (fun K4 hK4 => ?_)
  refine sRegion ?_
  refine sMove (.slice ad1 p0.length cp2) S (wN rfl) (.inl rfl) rfl rfl (lb rfl) fun a S => ?_
  refine sMove (.func (.func 54) #[] #[]) S (wN rfl) (.inl rfl) rfl rfl (lb rfl) fun a S => ?_
  obtain ⟨r5, hx6, h⟩ := bindSome h
  have S1 := S.mem
  refine sCallQ (X := Unit) (f := 68) (vs := [.slice ad1 p0.length cp2, .func (.func 54) #[] #[]]) (val := fun _ => iv r5) S (wN rfl) rfl callee68 rfl (S1.quiet [0] rfl) (fun E1 w1 S1 => c_slices_IndexFunc___api_Stitch_api_Stitch__s0 E1 w1 p0 (.slice ad1 p0.length cp2) r5 hx6 S1) rfl (lb rfl) fun _ a w S => ?_
  refine sBin (.bool (decide (0 ≤ r5))) S (wN rfl) rfl rfl rfl (bGe _ _ _ _ .i64 r5 0) rfl (lb rfl) fun a S => ?_
  refine sMove (.bool (decide (0 ≤ r5))) S (wN rfl) (.inr rfl) rfl rfl (lb rfl) fun a S => ?_
  refine leafL (leafT (hK4 _ _ ?_))
  obtain rfl := Option.some.inj h
  exact wp_ret (sRet (.bool (decide (0 ≤ r5))) S (rsl1 rfl (rvT (t := 4) (v := .bool (decide (0 ≤ r5))) S rfl)) ⟨(), rfl, S.mem.sel [] [] (by decide) rfl rfl⟩)

end Go.Proofs.YtmedbnjhgkcndaaDoor
namespace Go.Proofs.YtmedbnjhgkcndaaDoor
open Go.RowKit
set_option linter.unusedVariables false

noncomputable def F_stitch_All (p0 : (List api_Stitch)) : Option Int :=
  if decide (200 < (p0.length : Int)) then
    some 4
  else
    Option.bind (F_slices_ContainsFunc___api_Stitch_api_Stitch__s0 p0) fun r10 =>
    if r10 then
      some 8
    else
      Option.bind (F_stitch_sum p0) fun r16 =>
      if decide (200 < (if r16.1 < r16.2 then r16.2 else r16.1)) then
        some 4
      else
        some 0
set_option maxHeartbeats 4000000 in
set_option maxRecDepth 100000 in
theorem c_stitch_All (E : Nat → Prop) (w0 : World) (p0 : (List api_Stitch)) (v0 : Value) (r : Int) (h : F_stitch_All p0 = some r) (S : St0 E [] w0 w0 [] [fRep (rL r_api_Stitch) (v0) p0]) :
    Calls Tryd.prog 40 #[v0] w0 (Ret (X := Unit) E [] w0 (fun _ => .int .i64 r) (fun _ => []) (fun _ => [])) := by
  unfold F_stitch_All at h
  obtain ⟨ad1, cp2, _, rfl, _⟩ := S.know (i := 0) (e := fRep (rL r_api_Stitch) (v0) p0) rfl
  refine sEnter (args := [.slice ad1 p0.length cp2]) 19 Tryd.func40 rfl rfl (by simp) S (fun a S => ?_)
  refine sSeq (fun K3 hK3 => ?_)
  refine sRegion ?_
  refine sMove (iv 0) S (wN rfl) (.inr rfl) rfl rfl (lb rfl) fun a S => ?_
  refine leafL (leafT (hK3 _ _ ?_))
  refine sSeq (fun K4 hK4 => ?_)
  refine sSeq (fun K5 hK5 => ?_)
  refine sRegion ?_
  refine sMove (.slice ad1 p0.length cp2) S (wN rfl) (.inl rfl) rfl rfl (lb rfl) fun a S => ?_
  refine sLen (ad := ad1) (m := p0.length) (c := cp2) S (wN rfl) rfl Tryd.underlying52 rfl rfl (lb rfl) fun a S => ?_
  refine sBin (.bool (decide (200 < (p0.length : Int)))) S (wN rfl) rfl rfl rfl (bGt _ _ _ _ .i64 (p0.length : Int) 200) rfl (lb rfl) fun a S => ?_
  refine leafL (leafT (hK5 _ _ ?_))
  rcases iteSome h with ⟨hc6, h⟩ | ⟨hc6, h⟩
  · refine sCondT S rfl hc6 ?_
    refine sSeq (fun K7 hK7 => ?_)
    refine sRegion ?_
    refine sMove (iv 4) S (wN rfl) (.inr rfl) rfl rfl (lb rfl) fun a S => ?_
    refine leafL (leafT (hK7 _ _ ?_))
    obtain rfl := Option.some.inj h
    exact wp_ret (rThen (sRet (iv 4) S (rsl1 rfl (rvT (t := 2) (v := iv 4) S rfl)) ⟨(), rfl, S.mem.sel [] [] (by decide) rfl rfl⟩))
  refine sCondF S rfl hc6 ?_
  refine wp_skip (leafT (hK4 _ _ ?_))
  refine sSeq (fun K8 hK8 => ?_)
  refine sSeq (fun K9 hK9 => ?_)
  refine sRegion ?_
  refine sMove (.slice ad1 p0.length cp2) S (wN rfl) (.inl rfl) rfl rfl (lb rfl) fun a S => ?_
  obtain ⟨r10, hx11, h⟩ := bindSome h
  have S1 := S.mem
  refine sCallQ (X := Unit) (f := 53) (vs := [.slice ad1 p0.length cp2, .func (.func 54) #[] #[]]) (val := fun _ => .bool r10) S (wN rfl) rfl callee53 rfl (S1.quiet [0] rfl) (fun E1 w1 S1 => c_slices_ContainsFunc___api_Stitch_api_Stitch__s0 E1 w1 p0 (.slice ad1 p0.length cp2) r10 hx11 S1) rfl (lb rfl) fun _ a w S => ?_
  refine leafL (leafT (hK9 _ _ ?_))
  rcases iteSome h with ⟨hc12, h⟩ | ⟨hc12, h⟩
  · refine sCondT S rfl hc12 ?_
    refine sSeq (fun K13 hK13 => ?_)
    refine sRegion ?_
    refine sMove (iv 8) S (wN rfl) (.inr rfl) rfl rfl (lb rfl) fun a S => ?_
    refine leafL (leafT (hK13 _ _ ?_))
    obtain rfl := Option.some.inj h
    exact wp_ret (rThen (sRet (iv 8) S (rsl1 rfl (rvT (t := 2) (v := iv 8) S rfl)) ⟨(), rfl, S.mem.sel [] [] (by decide) rfl rfl⟩))
  refine sCondF S rfl hc12 ?_
  refine wp_skip (leafT (hK8 _ _ ?_))
  refine sSeq (fun K14 hK14 => ?_)
  refine sSeq (fun K15 hK15 => ?_)
  refine sRegion ?_
  refine sMove (.slice ad1 p0.length cp2) S (wN rfl) (.inl rfl) rfl rfl (lb rfl) fun a S => ?_
  obtain ⟨r16, hx17, h⟩ := bindSome h
  have S1 := S.mem
  refine sCallQ (X := Unit) (f := 46) (vs := [.slice ad1 p0.length cp2]) (val := fun _ => .tuple #[iv r16.1, iv r16.2]) S (wN rfl) rfl callee46 rfl (S1.quiet [0] rfl) (fun E1 w1 S1 => c_stitch_sum E1 w1 p0 (.slice ad1 p0.length cp2) r16 hx17 S1) rfl (lb rfl) fun _ a w S => ?_
  refine sMove (.tuple #[iv r16.1, iv r16.2]) S (wN rfl) (.inl rfl) rfl rfl (lb rfl) fun a S => ?_
  refine sExtract (vs := [iv r16.1, iv r16.2]) (iv r16.1) S (wN rfl) rfl rfl rfl rfl (lb rfl) fun a S => ?_
  refine sExtract (vs := [iv r16.1, iv r16.2]) (iv r16.2) S (wN rfl) rfl rfl rfl rfl (lb rfl) fun a S => ?_
  refine sMove (iv r16.1) S (wN rfl) (.inr rfl) rfl rfl (lb rfl) fun a S => ?_
  refine sMove (iv r16.2) S (wN rfl) (.inr rfl) rfl rfl (lb rfl) fun a S => ?_
  refine leafL (leafT (hK15 _ _ ?_))
  refine sSeq (fun K18 hK18 => ?_)
  refine sRegion ?_
  refine sMove (iv r16.1) S (wN rfl) (.inl rfl) rfl rfl (lb rfl) fun a S => ?_
  refine sMove (iv r16.2) S (wN rfl) (.inl rfl) rfl rfl (lb rfl) fun a S => ?_
  refine sMax2 (p := r16.1) (q := r16.2) S (wN rfl) rfl rfl rfl rfl (lb rfl) fun a S => ?_
  refine sBin (.bool (decide (200 < (if r16.1 < r16.2 then r16.2 else r16.1)))) S (wN rfl) rfl rfl rfl (bGt _ _ _ _ .i64 (if r16.1 < r16.2 then r16.2 else r16.1) 200) rfl (lb rfl) fun a S => ?_
  refine leafL (leafT (hK18 _ _ ?_))
  rcases iteSome h with ⟨hc19, h⟩ | ⟨hc19, h⟩
  · refine sCondT S rfl hc19 ?_
    refine sSeq (fun K20 hK20 => ?_)
    refine sRegion ?_
    refine sMove (iv 4) S (wN rfl) (.inr rfl) rfl rfl (lb rfl) fun a S => ?_
    refine leafL (leafT (hK20 _ _ ?_))
    obtain rfl := Option.some.inj h
    exact wp_ret (rThen (sRet (iv 4) S (rsl1 rfl (rvT (t := 2) (v := iv 4) S rfl)) ⟨(), rfl, S.mem.sel [] [] (by decide) rfl rfl⟩))
  refine sCondF S rfl hc19 ?_
  refine wp_skip (leafT (hK14 _ _ ?_))
  refine sSeq (fun K21 hK21 => ?_)
  refine sRegion ?_
  refine sMove (iv 0) S (wN rfl) (.inr rfl) rfl rfl (lb rfl) fun a S => ?_
  refine leafL (leafT (hK21 _ _ ?_))
  obtain rfl := Option.some.inj h
  exact wp_ret (sRet (iv 0) S (rsl1 rfl (rvT (t := 2) (v := iv 0) S rfl)) ⟨(), rfl, S.mem.sel [] [] (by decide) rfl rfl⟩)

end Go.Proofs.YtmedbnjhgkcndaaDoor
namespace Go.Proofs.YtmedbnjhgkcndaaDoor
open Go.RowKit
set_option linter.unusedVariables false

noncomputable def F_slices_Backward___api_Stitch_api_Stitch_ (p0 : (List api_Stitch)) : Option (List api_Stitch) :=
  some p0
def c_slices_Backward___api_Stitch_api_Stitch__val (r : (List api_Stitch)) (x : Value) : Value := .func (.func 67) #[] #[x]
def c_slices_Backward___api_Stitch_api_Stitch__D (r : (List api_Stitch)) (x : Value) : List Fact := [fPtr (rL r_api_Stitch) x r]
set_option maxHeartbeats 4000000 in
set_option maxRecDepth 100000 in
theorem c_slices_Backward___api_Stitch_api_Stitch_ (E : Nat → Prop) (w0 : World) (p0 : (List api_Stitch)) (v0 : Value) (r : (List api_Stitch)) (h : F_slices_Backward___api_Stitch_api_Stitch_ p0 = some r) (S : St0 E [] w0 w0 [] [fRep (rL r_api_Stitch) (v0) p0]) :
    Calls Tryd.prog 51 #[v0] w0 (Ret (X := Value) E [] w0 (c_slices_Backward___api_Stitch_api_Stitch__val r) (fun _ => []) (c_slices_Backward___api_Stitch_api_Stitch__D r)) := by
  unfold F_slices_Backward___api_Stitch_api_Stitch_ at h
  obtain ⟨ad1, cp2, _, rfl, _⟩ := S.know (i := 0) (e := fRep (rL r_api_Stitch) (v0) p0) rfl
  refine sEnter (args := [.slice ad1 p0.length cp2]) 4 Tryd.func51 rfl rfl (by simp) S (fun a S => ?_)
  refine sSeq (fun K3 hK3 => ?_)
  refine sRegion ?_
  refine sBox (v := .slice ad1 p0.length cp2) S (wN rfl) rfl rfl [.slice ad1 p0.length cp2] rfl rfl (lb rfl) fun a b4 w S => ?_
  refine sMove (.nilFunc) S (wN rfl) (.inr rfl) rfl rfl (lb rfl) fun a S => ?_
  refine leafL (leafT (hK3 _ _ ?_))
  refine sSeq (fun K5 hK5 => ?_)
  refine sRegion ?_
  refine sFunc (g := 67) (vs := [.pointer (some ⟨b4, 0, none⟩)]) S (wN rfl) rfl rfl rfl (lb rfl) fun a S => ?_
  refine sMove (.func (.func 67) #[] #[.pointer (some ⟨b4, 0, none⟩)]) S (wN rfl) (.inr rfl) rfl rfl (lb rfl) fun a S => ?_
  refine leafL (leafT (hK5 _ _ ?_))
  have S := S.shutB (r := (rL r_api_Stitch)) (T := 52) (b := b4) (cs := [.slice ad1 p0.length cp2]) 0 (.slice ad1 p0.length cp2) p0 rfl rfl (S.mem.know (i := 0) (e := fRep (rL r_api_Stitch) (.slice ad1 p0.length cp2) p0) rfl)
  obtain rfl := Option.some.inj h
  exact wp_ret (sRet (.func (.func 67) #[] #[.pointer (some ⟨b4, 0, none⟩)]) S (rsl1 rfl (rvT (t := 2) (v := .func (.func 67) #[] #[.pointer (some ⟨b4, 0, none⟩)]) S rfl)) ⟨(.pointer (some ⟨b4, 0, none⟩)), rfl, S.mem.sel [] [0] (by decide) rfl rfl⟩)

end Go.Proofs.YtmedbnjhgkcndaaDoor
namespace Go.Proofs.YtmedbnjhgkcndaaDoor
open Go.RowKit
set_option linter.unusedVariables false

noncomputable def slices_Backward___api_Stitch_api_Stitch__1_l1 {σ τ : Type} (p0 : (List api_Stitch)) (B : σ → (Int × api_Stitch) → Option (σ ⊕ τ)) : (Int × σ) → Option ((Int × σ) ⊕ ((σ ⊕ τ) ⊕ (σ))) := fun s0 => match s0 with
  | (s5, gz6) =>
    if decide (0 ≤ s5) then
      Option.bind (idxO p0 s5) fun x20 =>
      Option.bind (B gz6 (s5, x20)) fun y25 =>
      match y25 with
      | .inl gz27 =>
        some (.inl (w64 (s5 - 1), gz27))
      | .inr tz28 =>
        some (.inr (.inl (.inr tz28)))
    else
      some (.inr (.inr gz6))
noncomputable def I_slices_Backward___api_Stitch_api_Stitch__1 (p0 : (List api_Stitch)) (σ τ : Type) (B : σ → (Int × api_Stitch) → Option (σ ⊕ τ)) (gz0 : σ) : Option (σ ⊕ τ) :=
  Option.bind (whileO (slices_Backward___api_Stitch_api_Stitch__1_l1 p0 B) (w64 ((p0.length : Int) - 1), gz0)) fun z0 => match z0 with
    | .inl z =>
      some z
    | .inr gz10 =>
      some (.inl gz10)
set_option maxHeartbeats 4000000 in
set_option maxRecDepth 100000 in
theorem it_slices_Backward___api_Stitch_api_Stitch__1 (p0 : (List api_Stitch)) (v0 : Value) : SeqF Tryd.prog 67 #[v0] (fA2 (rI .i64) r_api_Stitch) (I_slices_Backward___api_Stitch_api_Stitch__1 p0) [fPtr (rL r_api_Stitch) (v0) p0] := by
  refine seqF_of (lb := [v0]) (fun σ τ B gz0 r h l J Jx E w0 hC S hJ => ?_)
  unfold I_slices_Backward___api_Stitch_api_Stitch__1 at h
  refine sEnterI (args := [.func (.yield l) #[] #[], v0]) 19 Tryd.func67 rfl rfl (by simp) S (fun a S => ?_)
  refine sSeq (fun K1 hK1 => ?_)
  refine sRegion ?_
  obtain ⟨u2, S⟩ := pLoad (r := (rL r_api_Stitch)) (q := v0) (x := p0) 0 S rfl
  obtain ⟨ad3, cp4, _, rfl, _⟩ := S.mem.know (i := 1) (e := fRep (rL r_api_Stitch) (u2) p0) rfl
  refine sLoadV1 (vq := v0) 0 (.slice ad3 p0.length cp4) S (wN rfl) rfl rfl rfl rfl rfl (lb rfl) fun a S => ?_
  refine sLen (ad := ad3) (m := p0.length) (c := cp4) S (wN rfl) rfl Tryd.underlying52 rfl rfl (lb rfl) fun a S => ?_
  refine sBin (iv (w64 ((p0.length : Int) - 1))) S (wN rfl) rfl rfl rfl (bSub _ _ _ _ (p0.length : Int) 1) rfl (lb rfl) fun a S => ?_
  refine sMove (iv (w64 ((p0.length : Int) - 1))) S (wN rfl) (.inr rfl) rfl rfl (lb rfl) fun a S => ?_
  refine leafL (leafT (hK1 _ _ ?_))
  refine wp_block ?_
  obtain ⟨t9, hl, g8⟩ := bindSome h
  refine sLoop hl (fun s0 a w => match s0 with | (s5, gz6) => ∃ E w0, J gz6 E w0 ∧ St [] E [] w0 19 a w [(0, .func (.yield l) #[] #[]), (1, v0), (3, iv s5)] [] [fPtr (rL r_api_Stitch) (v0) p0]) ⟨_, _, hJ, S.fix [] [2] (by decide) rfl rfl rfl⟩ ?_
  clear hl h
  intro s0 a w c0 hI h hu7
  obtain ⟨s5, gz6⟩ := s0
  unfold slices_Backward___api_Stitch_api_Stitch__1_l1 at h
  dsimp only at h hI
  obtain ⟨E, w0, hJ, S⟩ := hI
  refine sSeq (fun K11 hK11 => ?_)
  refine sSeq (fun K12 hK12 => ?_)
  refine sRegion ?_
  refine sMove (iv s5) S (wN rfl) (.inl rfl) rfl rfl (lb rfl) fun a S => ?_
  refine sBin (.bool (decide (0 ≤ s5))) S (wN rfl) rfl rfl rfl (bGe _ _ _ _ .i64 s5 0) rfl (lb rfl) fun a S => ?_
  refine leafL (leafT (hK12 _ _ ?_))
  rcases iteSome h with ⟨hc13, h⟩ | ⟨hc13, h⟩
  rotate_left
  · refine sCondF S rfl hc13 ?_
    obtain rfl := Option.some.inj h
    obtain rfl := hu7 _ rfl
    have h := g8
    clear g8
    try dsimp only at h
    exact wp_exit (xThen (xThen (xHit (sEnd (.tuple #[]) S (res0 rfl) (sGoI S hC hJ (Option.some.inj h) _)))))
  refine sCondT S rfl hc13 ?_
  refine wp_skip (leafT (hK11 _ _ ?_))
  refine sSeq (fun K14 hK14 => ?_)
  refine wp_block ?_
  refine sSeq (fun K15 hK15 => ?_)
  refine sRegionY ?_
  refine sSplitR (by repeat (first | exact roundU_out | exact it_out | exact lo_false | refine lo_then ?_ | refine lo_block ?_)) 6 rfl (fun K16 hK16 => ?_)
  refine sMove (.func (.yield l) #[] #[]) S (wN rfl) (.inl rfl) rfl rfl (lb rfl) fun a S => ?_
  refine sMove (iv s5) S (wN rfl) (.inl rfl) rfl rfl (lb rfl) fun a S => ?_
  obtain ⟨u17, S⟩ := pLoad (r := (rL r_api_Stitch)) (q := v0) (x := p0) 0 S rfl
  obtain ⟨ad18, cp19, _, rfl, _⟩ := S.mem.know (i := 1) (e := fRep (rL r_api_Stitch) (u17) p0) rfl
  refine sLoadV1 (vq := v0) 0 (.slice ad18 p0.length cp19) S (wN rfl) rfl rfl rfl rfl rfl (lb rfl) fun a S => ?_
  refine sMove (iv s5) S (wN rfl) (.inl rfl) rfl rfl (lb rfl) fun a S => ?_
  obtain ⟨x20, hx21, h⟩ := bindSome h
  obtain ⟨q22, hq23, S⟩ := pIdx (P := Tryd.prog) (r := r_api_Stitch) (v := .slice ad18 p0.length cp19) (xs := p0) (j := s5) 52 56 1 S Tryd.underlying52 rfl rfl hx21
  refine sIdxV (v := .slice ad18 p0.length cp19) (k := .i64) (j := s5) S (wN rfl) rfl rfl rfl hq23 rfl (lb rfl) fun a S => ?_
  obtain ⟨u24, S⟩ := pLoad (r := r_api_Stitch) (q := q22) (x := x20) 0 S rfl
  obtain rfl : u24 = .agg #[.int .u8 x20.Kind, .bool x20.Purl, iv x20.A, iv x20.B] := S.mem.know (i := 1) (e := fRep r_api_Stitch (u24) x20) rfl
  refine sLoadVN (vq := q22) 0 [.int .u8 x20.Kind, .bool x20.Purl, iv x20.A, iv x20.B] S (wN rfl) rfl rfl rfl rfl rfl rfl (lb rfl) fun a S => ?_
  refine leafL ⟨rfl, hK16 _ _ ?_⟩
  obtain ⟨y25, hy26, h⟩ := bindSome h
  refine sYieldI (s5, x20) [iv s5, .agg #[.int .u8 x20.Kind, .bool x20.Purl, iv x20.A, iv x20.B]] S hC hJ hy26 (fA2_mk (rfl) (S.mem.know (i := 1) (e := fRep r_api_Stitch (.agg #[.int .u8 x20.Kind, .bool x20.Purl, iv x20.A, iv x20.B]) x20) rfl)) (wN rfl) rfl rfl rfl rfl (by decide) (fun gz27 E a w hb hJ S => ?_) (fun tz28 a w hb hJ S => ?_)
  · obtain rfl := hb
    dsimp only at h
    refine list_inR (by repeat (first | exact roundU_out | exact it_out | exact lo_false | refine lo_then ?_ | refine lo_block ?_)) _ rfl _ _ ?_
    refine sNot (b := true) S (wN rfl) rfl rfl rfl (lb rfl) fun a S => ?_
    refine leafL (leafT (hK15 _ _ ?_))
    refine sCondF S rfl rfl ?_
    refine wp_skip (leafB (leafT (hK14 _ _ ?_)))
    refine sRegion ?_
    refine sMove (iv s5) S (wN rfl) (.inl rfl) rfl rfl (lb rfl) fun a S => ?_
    refine sBin (iv (w64 (s5 - 1))) S (wN rfl) rfl rfl rfl (bSub _ _ _ _ s5 1) rfl (lb rfl) fun a S => ?_
    refine sMove (iv (w64 (s5 - 1))) S (wN rfl) (.inr rfl) rfl rfl (lb rfl) fun a S => ?_
    exact leafL (leafT (⟨(w64 (s5 - 1), gz27), (Option.some.inj h).symm, ⟨_, _, hJ, S.fix [] [5] (by decide) rfl rfl rfl⟩⟩))
  · obtain rfl := hb
    dsimp only at h
    refine list_inR (by repeat (first | exact roundU_out | exact it_out | exact lo_false | refine lo_then ?_ | refine lo_block ?_)) _ rfl _ _ ?_
    refine sNot (b := false) S (wN rfl) rfl rfl rfl (lb rfl) fun a S => ?_
    refine leafL (leafT (hK15 _ _ ?_))
    refine sCondT S rfl rfl ?_
    obtain rfl := Option.some.inj h
    obtain rfl := hu7 _ rfl
    have h := g8
    clear g8
    try dsimp only at h
    exact wp_ret (rBlock (rThen (rThen (rBlock (sRet (.tuple #[]) S (res0 rfl) (sStopI S hC hJ (Option.some.inj h) _))))))

end Go.Proofs.YtmedbnjhgkcndaaDoor
