/- Several texts in one: G3 LPN LPNv FrPieceNear -/
import Derived.WalkKit
import Derived.Maps.AppendAt
import Derived.Deep.AppendLies
import Derived.KernelRfl
import Derived.Laws.OwnMore
import Derived.Great.BuildSlice
import Derived.Orders
import Derived.Laws.StructEq
import Derived.ChangeKeysEq
import Derived.Defers
import Derived.Laws.BytesString
import Derived.RangeFuncNested
import Derived.RangeFuncBound
import Derived.RangeFuncCalls
import Derived.RangeFuncLeaves
import Derived.OrdersIn
import Derived.LoopNIn
import Derived.Test.YtmedbnjhgkcndaaDoorProg
import Derived.ProofKit
import Derived.OpenShut
import Derived.ChangeOld
import Derived.Deep.Slices
import Derived.Lib.SmallJoins
import Derived.JoinedOf
import Derived.JoinedAt
import Derived.Below
import Derived.Shelf.Strings.Builder1
import Derived.Shelf.Strings.Builder2
import Derived.Shelf.Strings.OnBuilder
import Derived.Test.YtmedbnjhgkcndaaDoorRows
import Derived.LaidMore
import Derived.SevenTiedAt
import Derived.Test.YtmedbnjhgkcndaaDoorCards
import Derived.Test.YtmedbnjhgkcndaaDoorTie
import Derived.Test.YtmedbnjhgkcndaaDoorMPieceNear6
namespace Go.Proofs.YtmedbnjhgkcndaaDoor
open Go.RowKit
set_option linter.unusedVariables false

noncomputable def F_raddlelaw37_PieceNear (p0 : api_Shape) : Option Bool :=
  Option.bind (F_raddlelaw37_alive) fun r12 =>
  Option.bind (α := Bool) (
    Option.bind (F_raddleref37_GreatShape p0) fun r18 =>
    if r18 then
      some true
    else
      Option.bind (F_raddleref37_Shape p0) fun r21 =>
      if r21 != 0 then
        some true
      else
        some (!r12)) fun o15 =>
  if o15 then
    some r12
  else
    Option.bind (F_piece_Make p0) fun r27 =>
    if r27.2 != 0 then
      Option.bind (α := Bool) (
        if r12 then
          some (r27.2 == 16)
        else
          some false) fun o42 =>
      some o42
    else
      Option.bind (idxO p0.Left (w64 ((p0.Left.length : Int) - 1))) fun x47 =>
      Option.bind (α := Bool) (
        if r12 then
          Option.bind (F_piece_Check r27.1) fun r58 =>
          if r58 == 0 then
            if (r27.1.Left.length : Int) == (w64 (x47.Y + 1)) then
              if (r27.1.Right.length : Int) == (w64 (x47.Y + 1)) then
                Option.bind (F_raddlelaw37_near r27.1.Left p0.Left) fun r63 =>
                if r63 then
                  Option.bind (F_raddlelaw37_near r27.1.Right p0.Right) fun r66 =>
                  some r66
                else
                  some false
              else
                some false
            else
              some false
          else
            some false
        else
          some false) fun o54 =>
      some o54
set_option maxHeartbeats 4000000 in
set_option maxRecDepth 100000 in
theorem c_raddlelaw37_PieceNear (E : Nat → Prop) (w0 : World) (p0 : api_Shape) (v0 : Value) (r : Bool) (h : F_raddlelaw37_PieceNear p0 = some r) (S : St0 E [] w0 w0 [] [fRep r_api_Shape (v0) p0]) :
    Calls Tryd.prog 3 #[v0] w0 (Ret (X := Unit) E [] w0 (fun _ => .bool r) (fun _ => []) (fun _ => [])) := by
  unfold F_raddlelaw37_PieceNear at h
  obtain ⟨u1, u2, rfl, hu3, hu4⟩ := S.know (i := 0) (e := fRep r_api_Shape (v0) p0) rfl
  have S := S.learn (fRep (rL r_api_Point) u1 p0.Left) hu3
  obtain ⟨ad5, cp6, _, rfl, _⟩ := hu3
  have S := S.learn (fRep (rL r_api_Point) u2 p0.Right) hu4
  obtain ⟨ad7, cp8, _, rfl, _⟩ := hu4
  refine sEnter (args := [.agg #[.slice ad5 p0.Left.length cp6, .slice ad7 p0.Right.length cp8]]) 76 Tryd.func3 rfl rfl (by simp) S (fun a S => ?_)
  refine sSeq (fun K9 hK9 => ?_)
  refine sRegion ?_
  refine sBox (v := .agg #[.slice ad5 p0.Left.length cp6, .slice ad7 p0.Right.length cp8]) S (wN rfl) rfl rfl [.slice ad5 p0.Left.length cp6, .slice ad7 p0.Right.length cp8] rfl rfl (lb rfl) fun a b10 w S => ?_
  refine sMove (.bool false) S (wN rfl) (.inr rfl) rfl rfl (lb rfl) fun a S => ?_
  refine leafL (leafT (hK9 _ _ ?_))
  refine sSeq (fun K11 hK11 => ?_)
  refine sRegion ?_
  obtain ⟨r12, hx13, h⟩ := bindSome h
  have S1 := S.mem
  refine sCallQ (X := Unit) (f := 9) (vs := []) (val := fun _ => .bool r12) S (wN rfl) rfl callee9 rfl (S1.quiet [] rfl) (fun E1 w1 S1 => c_raddlelaw37_alive E1 w1  r12 hx13 S1) rfl (lb rfl) fun _ a w S => ?_
  refine sMove (.bool r12) S (wN rfl) (.inr rfl) rfl rfl (lb rfl) fun a S => ?_
  refine leafL (leafT (hK11 _ _ ?_))
  refine sSeq (fun K14 hK14 => ?_)
  obtain ⟨t16, h, g17⟩ := bindSome h
  refine sCut (fun a w => ∃ o15, o15 = t16 ∧ St [] E [] w0 76 a w [(1, .pointer (some ⟨b10, 0, none⟩)), (3, .bool r12), (18, .bool o15)] [eBox b10 24 [.slice ad5 p0.Left.length cp6, .slice ad7 p0.Right.length cp8]] [fRep (rL r_api_Point) (.slice ad5 p0.Left.length cp6) p0.Left, fRep (rL r_api_Point) (.slice ad7 p0.Right.length cp8) p0.Right]) ?_ (fun a w hI => ?_)
  · refine sRegion ?_
    refine sLoadN (p := b10) (off := 0) (T := 24) (vs := [.slice ad5 p0.Left.length cp6, .slice ad7 p0.Right.length cp8]) 0 [.slice ad5 p0.Left.length cp6, .slice ad7 p0.Right.length cp8] S (wN rfl) rfl rfl rfl rfl rfl rfl rfl (lb rfl) fun a S => ?_
    obtain ⟨r18, hx19, h⟩ := bindSome h
    have S1 := S.mem
    refine sCallQ (X := Unit) (f := 10) (vs := [.agg #[.slice ad5 p0.Left.length cp6, .slice ad7 p0.Right.length cp8]]) (val := fun _ => .bool r18) S (wN rfl) rfl callee10 rfl (S1.quiet [2] rfl) (fun E1 w1 S1 => c_raddleref37_GreatShape E1 w1 p0 (.agg #[.slice ad5 p0.Left.length cp6, .slice ad7 p0.Right.length cp8]) r18 hx19 S1) rfl (lb rfl) fun _ a w S => ?_
    refine sMove (.bool r18) S (wN rfl) (.inl rfl) rfl rfl (lb rfl) fun a S => ?_
    rcases iteSome h with ⟨hc20, h⟩ | ⟨hc20, h⟩
    · refine sSkip 2 false 10 11 S rfl rfl rfl hc20 rfl (lb rfl) fun a S => ?_
      refine sSkip 2 false 10 12 S rfl rfl rfl hc20 rfl (lb rfl) fun a S => ?_
      refine sSkip 2 false 10 13 S rfl rfl rfl hc20 rfl (lb rfl) fun a S => ?_
      refine sPickT (.bool true) S (wN rfl) rfl rfl hc20 rfl rfl (lb rfl) fun a S => ?_
      refine sMove (.bool true) S (wN rfl) (.inl rfl) rfl rfl (lb rfl) fun a S => ?_
      refine sSkip 7 false 15 16 S rfl rfl rfl rfl rfl (lb rfl) fun a S => ?_
      refine sSkip 7 false 15 17 S rfl rfl rfl rfl rfl (lb rfl) fun a S => ?_
      refine sPickT (.bool true) S (wN rfl) rfl rfl rfl rfl rfl (lb rfl) fun a S => ?_
      exact leafL (leafT (⟨true, Option.some.inj h, S.fix [0] [1, 0] (by decide) rfl rfl rfl⟩))
    refine sLoadN (p := b10) (off := 0) (T := 24) (vs := [.slice ad5 p0.Left.length cp6, .slice ad7 p0.Right.length cp8]) 0 [.slice ad5 p0.Left.length cp6, .slice ad7 p0.Right.length cp8] S (wG 2 false 10 rfl rfl rfl hc20) rfl rfl rfl rfl rfl rfl rfl (lb rfl) fun a S => ?_
    obtain ⟨r21, hx22, h⟩ := bindSome h
    have S1 := S.mem
    refine sCallQ (X := Unit) (f := 11) (vs := [.agg #[.slice ad5 p0.Left.length cp6, .slice ad7 p0.Right.length cp8]]) (val := fun _ => iv r21) S (wG 2 false 10 rfl rfl rfl hc20) rfl callee11 rfl (S1.quiet [2] rfl) (fun E1 w1 S1 => c_raddleref37_Shape E1 w1 p0 (.agg #[.slice ad5 p0.Left.length cp6, .slice ad7 p0.Right.length cp8]) r21 hx22 S1) rfl (lb rfl) fun _ a w S => ?_
    refine sBin (.bool (r21 != 0)) S (wG 2 false 10 rfl rfl rfl hc20) rfl rfl rfl (bNe _ _ _ _ .i64 r21 0) rfl (lb rfl) fun a S => ?_
    refine sPickF (.bool (r21 != 0)) S (wN rfl) rfl rfl hc20 rfl rfl (lb rfl) fun a S => ?_
    refine sMove (.bool (r21 != 0)) S (wN rfl) (.inl rfl) rfl rfl (lb rfl) fun a S => ?_
    rcases iteSome h with ⟨hc23, h⟩ | ⟨hc23, h⟩
    · refine sSkip 7 false 15 16 S rfl rfl rfl hc23 rfl (lb rfl) fun a S => ?_
      refine sSkip 7 false 15 17 S rfl rfl rfl hc23 rfl (lb rfl) fun a S => ?_
      refine sPickT (.bool true) S (wN rfl) rfl rfl hc23 rfl rfl (lb rfl) fun a S => ?_
      exact leafL (leafT (⟨true, Option.some.inj h, S.fix [0] [1, 0] (by decide) rfl rfl rfl⟩))
    refine sMove (.bool r12) S (wG 7 false 15 rfl rfl rfl hc23) (.inl rfl) rfl rfl (lb rfl) fun a S => ?_
    refine sNot (b := r12) S (wG 7 false 15 rfl rfl rfl hc23) rfl rfl rfl (lb rfl) fun a S => ?_
    refine sPickF (.bool (!r12)) S (wN rfl) rfl rfl hc23 rfl rfl (lb rfl) fun a S => ?_
    exact leafL (leafT (⟨!r12, Option.some.inj h, S.fix [0] [1, 0] (by decide) rfl rfl rfl⟩))
  obtain ⟨o15, rfl, S⟩ := hI
  have h := g17
  clear g17
  try dsimp only at h
  rcases iteSome h with ⟨hc24, h⟩ | ⟨hc24, h⟩
  · refine sCondT S rfl hc24 ?_
    refine sSeq (fun K25 hK25 => ?_)
    refine sRegion ?_
    refine sMove (.bool r12) S (wN rfl) (.inl rfl) rfl rfl (lb rfl) fun a S => ?_
    refine sMove (.bool r12) S (wN rfl) (.inr rfl) rfl rfl (lb rfl) fun a S => ?_
    refine leafL (leafT (hK25 _ _ ?_))
    obtain rfl := Option.some.inj h
    exact wp_ret (rThen (sRet (.bool r12) S (rsl1 rfl (rvT (t := 2) (v := .bool r12) S rfl)) ⟨(), rfl, S.mem.sel [] [] (by decide) rfl rfl⟩))
  refine sCondF S rfl hc24 ?_
  refine wp_skip (leafT (hK14 _ _ ?_))
  refine sSeq (fun K26 hK26 => ?_)
  refine sRegion ?_
  refine sLoadN (p := b10) (off := 0) (T := 24) (vs := [.slice ad5 p0.Left.length cp6, .slice ad7 p0.Right.length cp8]) 0 [.slice ad5 p0.Left.length cp6, .slice ad7 p0.Right.length cp8] S (wN rfl) rfl rfl rfl rfl rfl rfl rfl (lb rfl) fun a S => ?_
  obtain ⟨r27, hx28, h⟩ := bindSome h
  have S := S.learn (fRep r_api_Shape (.agg #[.slice ad5 p0.Left.length cp6, .slice ad7 p0.Right.length cp8]) p0) ⟨_, _, rfl, S.mem.know (i := 0) (e := fRep (rL r_api_Point) (.slice ad5 p0.Left.length cp6) p0.Left) rfl, S.mem.know (i := 1) (e := fRep (rL r_api_Point) (.slice ad7 p0.Right.length cp8) p0.Right) rfl⟩
  refine sCall (X := Value) (f := 12) (vs := [.agg #[.slice ad5 p0.Left.length cp6, .slice ad7 p0.Right.length cp8]]) (val := c_piece_Make_val r27) (B' := fun _ => []) (D' := c_piece_Make_D r27) [] [eBox b10 24 [.slice ad5 p0.Left.length cp6, .slice ad7 p0.Right.length cp8]] [fRep r_api_Shape (.agg #[.slice ad5 p0.Left.length cp6, .slice ad7 p0.Right.length cp8]) p0] [0] [0] S (wN rfl) rfl callee12 rfl (by decide) rfl rfl (fun E1 w1 S1 => c_piece_Make E1 w1 p0 (.agg #[.slice ad5 p0.Left.length cp6, .slice ad7 p0.Right.length cp8]) r27 hx28 S1) rfl (lb rfl) fun u29 a w S => ?_
  obtain ⟨u30, u31, rfl, hu32, hu33⟩ := S.mem.know (i := 0) (e := fRep r_api_Piece (u29) r27.1) rfl
  have S := S.learn (fRep (rL (rI .i64)) u30 r27.1.Left) hu32
  obtain ⟨ad34, cp35, _, rfl, _⟩ := hu32
  have S := S.learn (fRep (rL (rI .i64)) u31 r27.1.Right) hu33
  obtain ⟨ad36, cp37, _, rfl, _⟩ := hu33
  refine sMove (.tuple #[.agg #[.slice ad34 r27.1.Left.length cp35, .slice ad36 r27.1.Right.length cp37], iv r27.2]) S (wN rfl) (.inl rfl) rfl rfl (lb rfl) fun a S => ?_
  refine sExtract (vs := [.agg #[.slice ad34 r27.1.Left.length cp35, .slice ad36 r27.1.Right.length cp37], iv r27.2]) (.agg #[.slice ad34 r27.1.Left.length cp35, .slice ad36 r27.1.Right.length cp37]) S (wN rfl) rfl rfl rfl rfl (lb rfl) fun a S => ?_
  refine sExtract (vs := [.agg #[.slice ad34 r27.1.Left.length cp35, .slice ad36 r27.1.Right.length cp37], iv r27.2]) (iv r27.2) S (wN rfl) rfl rfl rfl rfl (lb rfl) fun a S => ?_
  refine sAlloc (.agg #[.slice none 0 0, .slice none 0 0]) S (wN rfl) rfl rfl [.slice none 0 0, .slice none 0 0] rfl rfl (lb rfl) fun a b38 w S => ?_
  refine sStore (p := b38) (off := 0) (T := 30) (vs := [.slice none 0 0, .slice none 0 0]) (v := .agg #[.slice ad34 r27.1.Left.length cp35, .slice ad36 r27.1.Right.length cp37]) 0 [.slice ad34 r27.1.Left.length cp35, .slice ad36 r27.1.Right.length cp37] S (wN rfl) rfl rfl rfl rfl rfl rfl rfl (by simp) rfl fun a w S => ?_
  refine sMove (iv r27.2) S (wN rfl) (.inr rfl) rfl rfl (lb rfl) fun a S => ?_
  refine leafL (leafT (hK26 _ _ ?_))
  refine sSeq (fun K39 hK39 => ?_)
  refine sSeq (fun K40 hK40 => ?_)
  refine sRegion ?_
  refine sMove (iv r27.2) S (wN rfl) (.inl rfl) rfl rfl (lb rfl) fun a S => ?_
  refine sBin (.bool (r27.2 != 0)) S (wN rfl) rfl rfl rfl (bNe _ _ _ _ .i64 r27.2 0) rfl (lb rfl) fun a S => ?_
  refine leafL (leafT (hK40 _ _ ?_))
  rcases iteSome h with ⟨hc41, h⟩ | ⟨hc41, h⟩
  · refine sCondT S rfl hc41 ?_
    obtain ⟨t43, h, g44⟩ := bindSome h
    refine sCut (fun a w => ∃ o42, o42 = t43 ∧ St [] E [] w0 76 a w [(2, .bool o42)] [] []) ?_ (fun a w hI => ?_)
    rotate_left
    · obtain ⟨o42, rfl, S⟩ := hI
      have h := g44
      clear g44
      try dsimp only at h
      obtain rfl := Option.some.inj h
      exact wp_ret (rThen (sRet (.bool o42) S (rsl1 rfl (rvT (t := 2) (v := .bool o42) S rfl)) ⟨(), rfl, S.mem.sel [] [] (by decide) rfl rfl⟩))
    refine sRegion ?_
    refine sMove (.bool r12) S (wN rfl) (.inl rfl) rfl rfl (lb rfl) fun a S => ?_
    refine sMove (.bool r12) S (wN rfl) (.inl rfl) rfl rfl (lb rfl) fun a S => ?_
    rcases iteSome h with ⟨hc45, h⟩ | ⟨hc45, h⟩
    rotate_left
    · refine sSkip 1 true 28 29 S rfl rfl rfl hc45 rfl (lb rfl) fun a S => ?_
      refine sSkip 1 true 28 30 S rfl rfl rfl hc45 rfl (lb rfl) fun a S => ?_
      refine sPickF (.bool false) S (wN rfl) rfl rfl hc45 rfl rfl (lb rfl) fun a S => ?_
      refine sMove (.bool false) S (wN rfl) (.inr rfl) rfl rfl (lb rfl) fun a S => ?_
      exact leafL (leafT (⟨false, Option.some.inj h, S.fix [] [] (by decide) rfl rfl rfl⟩))
    refine sMove (iv r27.2) S (wG 1 true 28 rfl rfl rfl hc45) (.inl rfl) rfl rfl (lb rfl) fun a S => ?_
    refine sBin (.bool (r27.2 == 16)) S (wG 1 true 28 rfl rfl rfl hc45) rfl rfl rfl (bEq _ _ _ _ .i64 r27.2 16) rfl (lb rfl) fun a S => ?_
    refine sPickT (.bool (r27.2 == 16)) S (wN rfl) rfl rfl hc45 rfl rfl (lb rfl) fun a S => ?_
    refine sMove (.bool (r27.2 == 16)) S (wN rfl) (.inr rfl) rfl rfl (lb rfl) fun a S => ?_
    exact leafL (leafT (⟨r27.2 == 16, Option.some.inj h, S.fix [] [] (by decide) rfl rfl rfl⟩))
  refine sCondF S rfl hc41 ?_
  refine wp_skip (leafT (hK39 _ _ ?_))
  refine sSeq (fun K46 hK46 => ?_)
  refine sRegion ?_
  refine sField (b := b10) (off := 0) 0 0 S (wN rfl) rfl rfl rfl rfl rfl (lb rfl) fun a S => ?_
  refine sLoad1 (p := b10) (off := 0) (T := 24) (vs := [.slice ad5 p0.Left.length cp6, .slice ad7 p0.Right.length cp8]) 1 (.slice ad5 p0.Left.length cp6) S (wN rfl) rfl rfl rfl rfl rfl rfl (lb rfl) fun a S => ?_
  refine sField (b := b10) (off := 0) 0 0 S (wN rfl) rfl rfl rfl rfl rfl (lb rfl) fun a S => ?_
  refine sLoad1 (p := b10) (off := 0) (T := 24) (vs := [.slice ad5 p0.Left.length cp6, .slice ad7 p0.Right.length cp8]) 1 (.slice ad5 p0.Left.length cp6) S (wN rfl) rfl rfl rfl rfl rfl rfl (lb rfl) fun a S => ?_
  refine sLen (ad := ad5) (m := p0.Left.length) (c := cp6) S (wN rfl) rfl Tryd.underlying22 rfl rfl (lb rfl) fun a S => ?_
  refine sBin (iv (w64 ((p0.Left.length : Int) - 1))) S (wN rfl) rfl rfl rfl (bSub _ _ _ _ (p0.Left.length : Int) 1) rfl (lb rfl) fun a S => ?_
  obtain ⟨x47, hx48, h⟩ := bindSome h
  obtain ⟨q49, hq50, S⟩ := pIdx (P := Tryd.prog) (r := r_api_Point) (v := .slice ad5 p0.Left.length cp6) (xs := p0.Left) (j := w64 ((p0.Left.length : Int) - 1)) 22 35 4 S Tryd.underlying22 rfl rfl hx48
  refine sIdxV (v := .slice ad5 p0.Left.length cp6) (k := .i64) (j := w64 ((p0.Left.length : Int) - 1)) S (wN rfl) rfl rfl rfl hq50 rfl (lb rfl) fun a S => ?_
  obtain ⟨q51, hq52, S⟩ := pFld (P := Tryd.prog) (r := r_api_Point) (s2 := (rI .i64)) (g := (·.Y)) (q := q49) (z := x47) 35 1 0 1 S rfl rfl comp_api_Point_Y
  refine sFldV (q := q49) S (wN rfl) rfl rfl hq52 rfl (lb rfl) fun a S => ?_
  obtain ⟨u53, S⟩ := pLoad (r := (rI .i64)) (q := q51) (x := x47.Y) 0 S rfl
  obtain rfl : u53 = iv x47.Y := S.mem.know (i := 1) (e := fRep (rI .i64) (u53) x47.Y) rfl
  refine sLoadV1 (vq := q51) 0 (iv x47.Y) S (wN rfl) rfl rfl rfl rfl rfl (lb rfl) fun a S => ?_
  refine sBin (iv (w64 (x47.Y + 1))) S (wN rfl) rfl rfl rfl (bAdd _ _ _ _ x47.Y 1) rfl (lb rfl) fun a S => ?_
  refine sMove (iv (w64 (x47.Y + 1))) S (wN rfl) (.inr rfl) rfl rfl (lb rfl) fun a S => ?_
  refine leafL (leafT (hK46 _ _ ?_))
  obtain ⟨t55, h, g56⟩ := bindSome h
  refine sCut (fun a w => ∃ o54, o54 = t55 ∧ St [] E [] w0 76 a w [(2, .bool o54)] [] []) ?_ (fun a w hI => ?_)
  rotate_left
  · obtain ⟨o54, rfl, S⟩ := hI
    have h := g56
    clear g56
    try dsimp only at h
    obtain rfl := Option.some.inj h
    exact wp_ret (sRet (.bool o54) S (rsl1 rfl (rvT (t := 2) (v := .bool o54) S rfl)) ⟨(), rfl, S.mem.sel [] [] (by decide) rfl rfl⟩)
  refine sRegion ?_
  refine sMove (.bool r12) S (wN rfl) (.inl rfl) rfl rfl (lb rfl) fun a S => ?_
  refine sMove (.bool r12) S (wN rfl) (.inl rfl) rfl rfl (lb rfl) fun a S => ?_
  rcases iteSome h with ⟨hc57, h⟩ | ⟨hc57, h⟩
  rotate_left
  · refine sSkip 1 true 43 44 S rfl rfl rfl hc57 rfl (lb rfl) fun a S => ?_
    refine sSkip 1 true 43 45 S rfl rfl rfl hc57 rfl (lb rfl) fun a S => ?_
    refine sSkip 1 true 43 46 S rfl rfl rfl hc57 rfl (lb rfl) fun a S => ?_
    refine sPickF (.bool false) S (wN rfl) rfl rfl hc57 rfl rfl (lb rfl) fun a S => ?_
    refine sMove (.bool false) S (wN rfl) (.inl rfl) rfl rfl (lb rfl) fun a S => ?_
    refine sSkip 6 true 48 49 S rfl rfl rfl rfl rfl (lb rfl) fun a S => ?_
    refine sSkip 6 true 48 50 S rfl rfl rfl rfl rfl (lb rfl) fun a S => ?_
    refine sSkip 6 true 48 51 S rfl rfl rfl rfl rfl (lb rfl) fun a S => ?_
    refine sSkip 6 true 48 52 S rfl rfl rfl rfl rfl (lb rfl) fun a S => ?_
    refine sSkip 6 true 48 53 S rfl rfl rfl rfl rfl (lb rfl) fun a S => ?_
    refine sPickF (.bool false) S (wN rfl) rfl rfl rfl rfl rfl (lb rfl) fun a S => ?_
    refine sMove (.bool false) S (wN rfl) (.inl rfl) rfl rfl (lb rfl) fun a S => ?_
    refine sSkip 13 true 55 56 S rfl rfl rfl rfl rfl (lb rfl) fun a S => ?_
    refine sSkip 13 true 55 57 S rfl rfl rfl rfl rfl (lb rfl) fun a S => ?_
    refine sSkip 13 true 55 58 S rfl rfl rfl rfl rfl (lb rfl) fun a S => ?_
    refine sSkip 13 true 55 59 S rfl rfl rfl rfl rfl (lb rfl) fun a S => ?_
    refine sSkip 13 true 55 60 S rfl rfl rfl rfl rfl (lb rfl) fun a S => ?_
    refine sPickF (.bool false) S (wN rfl) rfl rfl rfl rfl rfl (lb rfl) fun a S => ?_
    refine sMove (.bool false) S (wN rfl) (.inl rfl) rfl rfl (lb rfl) fun a S => ?_
    refine sSkip 20 true 62 63 S rfl rfl rfl rfl rfl (lb rfl) fun a S => ?_
    refine sSkip 20 true 62 64 S rfl rfl rfl rfl rfl (lb rfl) fun a S => ?_
    refine sSkip 20 true 62 65 S rfl rfl rfl rfl rfl (lb rfl) fun a S => ?_
    refine sSkip 20 true 62 66 S rfl rfl rfl rfl rfl (lb rfl) fun a S => ?_
    refine sSkip 20 true 62 67 S rfl rfl rfl rfl rfl (lb rfl) fun a S => ?_
    refine sPickF (.bool false) S (wN rfl) rfl rfl rfl rfl rfl (lb rfl) fun a S => ?_
    refine sMove (.bool false) S (wN rfl) (.inl rfl) rfl rfl (lb rfl) fun a S => ?_
    refine sSkip 27 true 69 70 S rfl rfl rfl rfl rfl (lb rfl) fun a S => ?_
    refine sSkip 27 true 69 71 S rfl rfl rfl rfl rfl (lb rfl) fun a S => ?_
    refine sSkip 27 true 69 72 S rfl rfl rfl rfl rfl (lb rfl) fun a S => ?_
    refine sSkip 27 true 69 73 S rfl rfl rfl rfl rfl (lb rfl) fun a S => ?_
    refine sSkip 27 true 69 74 S rfl rfl rfl rfl rfl (lb rfl) fun a S => ?_
    refine sPickF (.bool false) S (wN rfl) rfl rfl rfl rfl rfl (lb rfl) fun a S => ?_
    refine sMove (.bool false) S (wN rfl) (.inr rfl) rfl rfl (lb rfl) fun a S => ?_
    exact leafL (leafT (⟨false, Option.some.inj h, S.fix [] [] (by decide) rfl rfl rfl⟩))
  refine sLoadN (p := b38) (off := 0) (T := 30) (vs := [.slice ad34 r27.1.Left.length cp35, .slice ad36 r27.1.Right.length cp37]) 0 [.slice ad34 r27.1.Left.length cp35, .slice ad36 r27.1.Right.length cp37] S (wG 1 true 43 rfl rfl rfl hc57) rfl rfl rfl rfl rfl rfl rfl (lb rfl) fun a S => ?_
  obtain ⟨r58, hx59, h⟩ := bindSome h
  have S1 := S.mem
  refine sCallQ (X := Unit) (f := 13) (vs := [.agg #[.slice ad34 r27.1.Left.length cp35, .slice ad36 r27.1.Right.length cp37]]) (val := fun _ => iv r58) S (wG 1 true 43 rfl rfl rfl hc57) rfl callee13 rfl (S1.quiet [6] rfl) (fun E1 w1 S1 => c_piece_Check E1 w1 r27.1 (.agg #[.slice ad34 r27.1.Left.length cp35, .slice ad36 r27.1.Right.length cp37]) r58 hx59 S1) rfl (lb rfl) fun _ a w S => ?_
  refine sBin (.bool (r58 == 0)) S (wG 1 true 43 rfl rfl rfl hc57) rfl rfl rfl (bEq _ _ _ _ .i64 r58 0) rfl (lb rfl) fun a S => ?_
  refine sPickT (.bool (r58 == 0)) S (wN rfl) rfl rfl hc57 rfl rfl (lb rfl) fun a S => ?_
  refine sMove (.bool (r58 == 0)) S (wN rfl) (.inl rfl) rfl rfl (lb rfl) fun a S => ?_
  rcases iteSome h with ⟨hc60, h⟩ | ⟨hc60, h⟩
  rotate_left
  · refine sSkip 6 true 48 49 S rfl rfl rfl hc60 rfl (lb rfl) fun a S => ?_
    refine sSkip 6 true 48 50 S rfl rfl rfl hc60 rfl (lb rfl) fun a S => ?_
    refine sSkip 6 true 48 51 S rfl rfl rfl hc60 rfl (lb rfl) fun a S => ?_
    refine sSkip 6 true 48 52 S rfl rfl rfl hc60 rfl (lb rfl) fun a S => ?_
    refine sSkip 6 true 48 53 S rfl rfl rfl hc60 rfl (lb rfl) fun a S => ?_
    refine sPickF (.bool false) S (wN rfl) rfl rfl hc60 rfl rfl (lb rfl) fun a S => ?_
    refine sMove (.bool false) S (wN rfl) (.inl rfl) rfl rfl (lb rfl) fun a S => ?_
    refine sSkip 13 true 55 56 S rfl rfl rfl rfl rfl (lb rfl) fun a S => ?_
    refine sSkip 13 true 55 57 S rfl rfl rfl rfl rfl (lb rfl) fun a S => ?_
    refine sSkip 13 true 55 58 S rfl rfl rfl rfl rfl (lb rfl) fun a S => ?_
    refine sSkip 13 true 55 59 S rfl rfl rfl rfl rfl (lb rfl) fun a S => ?_
    refine sSkip 13 true 55 60 S rfl rfl rfl rfl rfl (lb rfl) fun a S => ?_
    refine sPickF (.bool false) S (wN rfl) rfl rfl rfl rfl rfl (lb rfl) fun a S => ?_
    refine sMove (.bool false) S (wN rfl) (.inl rfl) rfl rfl (lb rfl) fun a S => ?_
    refine sSkip 20 true 62 63 S rfl rfl rfl rfl rfl (lb rfl) fun a S => ?_
    refine sSkip 20 true 62 64 S rfl rfl rfl rfl rfl (lb rfl) fun a S => ?_
    refine sSkip 20 true 62 65 S rfl rfl rfl rfl rfl (lb rfl) fun a S => ?_
    refine sSkip 20 true 62 66 S rfl rfl rfl rfl rfl (lb rfl) fun a S => ?_
    refine sSkip 20 true 62 67 S rfl rfl rfl rfl rfl (lb rfl) fun a S => ?_
    refine sPickF (.bool false) S (wN rfl) rfl rfl rfl rfl rfl (lb rfl) fun a S => ?_
    refine sMove (.bool false) S (wN rfl) (.inl rfl) rfl rfl (lb rfl) fun a S => ?_
    refine sSkip 27 true 69 70 S rfl rfl rfl rfl rfl (lb rfl) fun a S => ?_
    refine sSkip 27 true 69 71 S rfl rfl rfl rfl rfl (lb rfl) fun a S => ?_
    refine sSkip 27 true 69 72 S rfl rfl rfl rfl rfl (lb rfl) fun a S => ?_
    refine sSkip 27 true 69 73 S rfl rfl rfl rfl rfl (lb rfl) fun a S => ?_
    refine sSkip 27 true 69 74 S rfl rfl rfl rfl rfl (lb rfl) fun a S => ?_
    refine sPickF (.bool false) S (wN rfl) rfl rfl rfl rfl rfl (lb rfl) fun a S => ?_
    refine sMove (.bool false) S (wN rfl) (.inr rfl) rfl rfl (lb rfl) fun a S => ?_
    exact leafL (leafT (⟨false, Option.some.inj h, S.fix [] [] (by decide) rfl rfl rfl⟩))
  refine sField (b := b38) (off := 0) 0 0 S (wG 6 true 48 rfl rfl rfl hc60) rfl rfl rfl rfl rfl (lb rfl) fun a S => ?_
  refine sLoad1 (p := b38) (off := 0) (T := 30) (vs := [.slice ad34 r27.1.Left.length cp35, .slice ad36 r27.1.Right.length cp37]) 0 (.slice ad34 r27.1.Left.length cp35) S (wG 6 true 48 rfl rfl rfl hc60) rfl rfl rfl rfl rfl rfl (lb rfl) fun a S => ?_
  refine sLen (ad := ad34) (m := r27.1.Left.length) (c := cp35) S (wG 6 true 48 rfl rfl rfl hc60) rfl Tryd.underlying28 rfl rfl (lb rfl) fun a S => ?_
  refine sMove (iv (w64 (x47.Y + 1))) S (wG 6 true 48 rfl rfl rfl hc60) (.inl rfl) rfl rfl (lb rfl) fun a S => ?_
  refine sBin (.bool ((r27.1.Left.length : Int) == (w64 (x47.Y + 1)))) S (wG 6 true 48 rfl rfl rfl hc60) rfl rfl rfl (bEq _ _ _ _ .i64 (r27.1.Left.length : Int) (w64 (x47.Y + 1))) rfl (lb rfl) fun a S => ?_
  refine sPickT (.bool ((r27.1.Left.length : Int) == (w64 (x47.Y + 1)))) S (wN rfl) rfl rfl hc60 rfl rfl (lb rfl) fun a S => ?_
  refine sMove (.bool ((r27.1.Left.length : Int) == (w64 (x47.Y + 1)))) S (wN rfl) (.inl rfl) rfl rfl (lb rfl) fun a S => ?_
  rcases iteSome h with ⟨hc61, h⟩ | ⟨hc61, h⟩
  rotate_left
  · refine sSkip 13 true 55 56 S rfl rfl rfl hc61 rfl (lb rfl) fun a S => ?_
    refine sSkip 13 true 55 57 S rfl rfl rfl hc61 rfl (lb rfl) fun a S => ?_
    refine sSkip 13 true 55 58 S rfl rfl rfl hc61 rfl (lb rfl) fun a S => ?_
    refine sSkip 13 true 55 59 S rfl rfl rfl hc61 rfl (lb rfl) fun a S => ?_
    refine sSkip 13 true 55 60 S rfl rfl rfl hc61 rfl (lb rfl) fun a S => ?_
    refine sPickF (.bool false) S (wN rfl) rfl rfl hc61 rfl rfl (lb rfl) fun a S => ?_
    refine sMove (.bool false) S (wN rfl) (.inl rfl) rfl rfl (lb rfl) fun a S => ?_
    refine sSkip 20 true 62 63 S rfl rfl rfl rfl rfl (lb rfl) fun a S => ?_
    refine sSkip 20 true 62 64 S rfl rfl rfl rfl rfl (lb rfl) fun a S => ?_
    refine sSkip 20 true 62 65 S rfl rfl rfl rfl rfl (lb rfl) fun a S => ?_
    refine sSkip 20 true 62 66 S rfl rfl rfl rfl rfl (lb rfl) fun a S => ?_
    refine sSkip 20 true 62 67 S rfl rfl rfl rfl rfl (lb rfl) fun a S => ?_
    refine sPickF (.bool false) S (wN rfl) rfl rfl rfl rfl rfl (lb rfl) fun a S => ?_
    refine sMove (.bool false) S (wN rfl) (.inl rfl) rfl rfl (lb rfl) fun a S => ?_
    refine sSkip 27 true 69 70 S rfl rfl rfl rfl rfl (lb rfl) fun a S => ?_
    refine sSkip 27 true 69 71 S rfl rfl rfl rfl rfl (lb rfl) fun a S => ?_
    refine sSkip 27 true 69 72 S rfl rfl rfl rfl rfl (lb rfl) fun a S => ?_
    refine sSkip 27 true 69 73 S rfl rfl rfl rfl rfl (lb rfl) fun a S => ?_
    refine sSkip 27 true 69 74 S rfl rfl rfl rfl rfl (lb rfl) fun a S => ?_
    refine sPickF (.bool false) S (wN rfl) rfl rfl rfl rfl rfl (lb rfl) fun a S => ?_
    refine sMove (.bool false) S (wN rfl) (.inr rfl) rfl rfl (lb rfl) fun a S => ?_
    exact leafL (leafT (⟨false, Option.some.inj h, S.fix [] [] (by decide) rfl rfl rfl⟩))
  refine sField (b := b38) (off := 0) 1 1 S (wG 13 true 55 rfl rfl rfl hc61) rfl rfl rfl rfl rfl (lb rfl) fun a S => ?_
  refine sLoad1 (p := b38) (off := 1) (T := 30) (vs := [.slice ad34 r27.1.Left.length cp35, .slice ad36 r27.1.Right.length cp37]) 0 (.slice ad36 r27.1.Right.length cp37) S (wG 13 true 55 rfl rfl rfl hc61) rfl rfl rfl rfl rfl rfl (lb rfl) fun a S => ?_
  refine sLen (ad := ad36) (m := r27.1.Right.length) (c := cp37) S (wG 13 true 55 rfl rfl rfl hc61) rfl Tryd.underlying28 rfl rfl (lb rfl) fun a S => ?_
  refine sMove (iv (w64 (x47.Y + 1))) S (wG 13 true 55 rfl rfl rfl hc61) (.inl rfl) rfl rfl (lb rfl) fun a S => ?_
  refine sBin (.bool ((r27.1.Right.length : Int) == (w64 (x47.Y + 1)))) S (wG 13 true 55 rfl rfl rfl hc61) rfl rfl rfl (bEq _ _ _ _ .i64 (r27.1.Right.length : Int) (w64 (x47.Y + 1))) rfl (lb rfl) fun a S => ?_
  refine sPickT (.bool ((r27.1.Right.length : Int) == (w64 (x47.Y + 1)))) S (wN rfl) rfl rfl hc61 rfl rfl (lb rfl) fun a S => ?_
  refine sMove (.bool ((r27.1.Right.length : Int) == (w64 (x47.Y + 1)))) S (wN rfl) (.inl rfl) rfl rfl (lb rfl) fun a S => ?_
  rcases iteSome h with ⟨hc62, h⟩ | ⟨hc62, h⟩
  rotate_left
  · refine sSkip 20 true 62 63 S rfl rfl rfl hc62 rfl (lb rfl) fun a S => ?_
    refine sSkip 20 true 62 64 S rfl rfl rfl hc62 rfl (lb rfl) fun a S => ?_
    refine sSkip 20 true 62 65 S rfl rfl rfl hc62 rfl (lb rfl) fun a S => ?_
    refine sSkip 20 true 62 66 S rfl rfl rfl hc62 rfl (lb rfl) fun a S => ?_
    refine sSkip 20 true 62 67 S rfl rfl rfl hc62 rfl (lb rfl) fun a S => ?_
    refine sPickF (.bool false) S (wN rfl) rfl rfl hc62 rfl rfl (lb rfl) fun a S => ?_
    refine sMove (.bool false) S (wN rfl) (.inl rfl) rfl rfl (lb rfl) fun a S => ?_
    refine sSkip 27 true 69 70 S rfl rfl rfl rfl rfl (lb rfl) fun a S => ?_
    refine sSkip 27 true 69 71 S rfl rfl rfl rfl rfl (lb rfl) fun a S => ?_
    refine sSkip 27 true 69 72 S rfl rfl rfl rfl rfl (lb rfl) fun a S => ?_
    refine sSkip 27 true 69 73 S rfl rfl rfl rfl rfl (lb rfl) fun a S => ?_
    refine sSkip 27 true 69 74 S rfl rfl rfl rfl rfl (lb rfl) fun a S => ?_
    refine sPickF (.bool false) S (wN rfl) rfl rfl rfl rfl rfl (lb rfl) fun a S => ?_
    refine sMove (.bool false) S (wN rfl) (.inr rfl) rfl rfl (lb rfl) fun a S => ?_
    exact leafL (leafT (⟨false, Option.some.inj h, S.fix [] [] (by decide) rfl rfl rfl⟩))
  refine sField (b := b38) (off := 0) 0 0 S (wG 20 true 62 rfl rfl rfl hc62) rfl rfl rfl rfl rfl (lb rfl) fun a S => ?_
  refine sLoad1 (p := b38) (off := 0) (T := 30) (vs := [.slice ad34 r27.1.Left.length cp35, .slice ad36 r27.1.Right.length cp37]) 0 (.slice ad34 r27.1.Left.length cp35) S (wG 20 true 62 rfl rfl rfl hc62) rfl rfl rfl rfl rfl rfl (lb rfl) fun a S => ?_
  refine sField (b := b10) (off := 0) 0 0 S (wG 20 true 62 rfl rfl rfl hc62) rfl rfl rfl rfl rfl (lb rfl) fun a S => ?_
  refine sLoad1 (p := b10) (off := 0) (T := 24) (vs := [.slice ad5 p0.Left.length cp6, .slice ad7 p0.Right.length cp8]) 1 (.slice ad5 p0.Left.length cp6) S (wG 20 true 62 rfl rfl rfl hc62) rfl rfl rfl rfl rfl rfl (lb rfl) fun a S => ?_
  obtain ⟨r63, hx64, h⟩ := bindSome h
  have S1 := S.mem
  refine sCallQ (X := Unit) (f := 14) (vs := [.slice ad34 r27.1.Left.length cp35, .slice ad5 p0.Left.length cp6]) (val := fun _ => .bool r63) S (wG 20 true 62 rfl rfl rfl hc62) rfl callee14 rfl (S1.quiet [5, 8] rfl) (fun E1 w1 S1 => c_raddlelaw37_near E1 w1 r27.1.Left (.slice ad34 r27.1.Left.length cp35) p0.Left (.slice ad5 p0.Left.length cp6) r63 hx64 S1) rfl (lb rfl) fun _ a w S => ?_
  refine sPickT (.bool r63) S (wN rfl) rfl rfl hc62 rfl rfl (lb rfl) fun a S => ?_
  refine sMove (.bool r63) S (wN rfl) (.inl rfl) rfl rfl (lb rfl) fun a S => ?_
  rcases iteSome h with ⟨hc65, h⟩ | ⟨hc65, h⟩
  rotate_left
  · refine sSkip 27 true 69 70 S rfl rfl rfl hc65 rfl (lb rfl) fun a S => ?_
    refine sSkip 27 true 69 71 S rfl rfl rfl hc65 rfl (lb rfl) fun a S => ?_
    refine sSkip 27 true 69 72 S rfl rfl rfl hc65 rfl (lb rfl) fun a S => ?_
    refine sSkip 27 true 69 73 S rfl rfl rfl hc65 rfl (lb rfl) fun a S => ?_
    refine sSkip 27 true 69 74 S rfl rfl rfl hc65 rfl (lb rfl) fun a S => ?_
    refine sPickF (.bool false) S (wN rfl) rfl rfl hc65 rfl rfl (lb rfl) fun a S => ?_
    refine sMove (.bool false) S (wN rfl) (.inr rfl) rfl rfl (lb rfl) fun a S => ?_
    exact leafL (leafT (⟨false, Option.some.inj h, S.fix [] [] (by decide) rfl rfl rfl⟩))
  refine sField (b := b38) (off := 0) 1 1 S (wG 27 true 69 rfl rfl rfl hc65) rfl rfl rfl rfl rfl (lb rfl) fun a S => ?_
  refine sLoad1 (p := b38) (off := 1) (T := 30) (vs := [.slice ad34 r27.1.Left.length cp35, .slice ad36 r27.1.Right.length cp37]) 0 (.slice ad36 r27.1.Right.length cp37) S (wG 27 true 69 rfl rfl rfl hc65) rfl rfl rfl rfl rfl rfl (lb rfl) fun a S => ?_
  refine sField (b := b10) (off := 0) 1 1 S (wG 27 true 69 rfl rfl rfl hc65) rfl rfl rfl rfl rfl (lb rfl) fun a S => ?_
  refine sLoad1 (p := b10) (off := 1) (T := 24) (vs := [.slice ad5 p0.Left.length cp6, .slice ad7 p0.Right.length cp8]) 1 (.slice ad7 p0.Right.length cp8) S (wG 27 true 69 rfl rfl rfl hc65) rfl rfl rfl rfl rfl rfl (lb rfl) fun a S => ?_
  obtain ⟨r66, hx67, h⟩ := bindSome h
  have S1 := S.mem
  refine sCallQ (X := Unit) (f := 14) (vs := [.slice ad36 r27.1.Right.length cp37, .slice ad7 p0.Right.length cp8]) (val := fun _ => .bool r66) S (wG 27 true 69 rfl rfl rfl hc65) rfl callee14 rfl (S1.quiet [4, 9] rfl) (fun E1 w1 S1 => c_raddlelaw37_near E1 w1 r27.1.Right (.slice ad36 r27.1.Right.length cp37) p0.Right (.slice ad7 p0.Right.length cp8) r66 hx67 S1) rfl (lb rfl) fun _ a w S => ?_
  refine sPickT (.bool r66) S (wN rfl) rfl rfl hc65 rfl rfl (lb rfl) fun a S => ?_
  refine sMove (.bool r66) S (wN rfl) (.inr rfl) rfl rfl (lb rfl) fun a S => ?_
  exact leafL (leafT (⟨r66, Option.some.inj h, S.fix [] [] (by decide) rfl rfl rfl⟩))

end Go.Proofs.YtmedbnjhgkcndaaDoor
namespace Go.Proofs.YtmedbnjhgkcndaaDoor
open Go.RowKit
set_option linter.unusedVariables false

def up (l : List api_Point) (k : Nat) : Prop := ∀ (h : k < l.length), 0 < k → (l[k - 1]'(by omega)).Y < l[k].Y
def good1 (l : List api_Point) (k : Nat) : Prop := ∀ (h : k < l.length), (-500 ≤ l[k].X ∧ l[k].X ≤ 500) ∧ up l k
def good2 (l : List api_Point) (k : Nat) : Prop := ∀ (h : k < l.length), (-500 ≤ l[k].X ∧ l[k].X ≤ 500) ∧ (0 ≤ l[k].Y ∧ l[k].Y ≤ 99) ∧ up l k
theorem side_loop1 (l : List api_Point) (hl : l.length ≤ 50) : ∃ t, whileO (piece_side_l1 l) 0 = some t ∧ ((t = .inr () ∧ ∀ k, k < l.length → good1 l k) ∨ (t = .inl false ∧ ∃ k, k < l.length ∧ ¬ good1 l k)) := by
  refine loop_ix l.length (fun k => ∀ j, j < k → good1 l j) _ (fun j h => absurd h (Nat.not_lt_zero j)) ?_ ?_
  · intro k hk hI
    have hx := idxO_nat hk
    have hkk : decide ((k : Int) < (l.length : Int)) = true := by simp; omega
    have hsucc : w64 ((k : Int) + 1) = ((k + 1 : Nat) : Int) := w64_succ (by omega)
    by_cases hc : -500 ≤ l[k].X ∧ l[k].X ≤ 500
    · have hcb : (decide (-500 ≤ l[k].X) && decide (l[k].X ≤ 500)) = true := by simpa using hc
      by_cases h0 : 0 < k
      · have hd : decide ((0 : Int) < (k : Int)) = true := by simp; omega
        have hp : idxO l (w64 ((k : Int) - 1)) = some (l[k - 1]'(by omega)) := idxO_of (by rw [w64_of (by omega) (by omega)]; omega) (by omega)
        by_cases hy : (l[k]).Y ≤ (l[k - 1]'(by omega)).Y
        · refine .inr ⟨.inl false, ?_, .inr ⟨rfl, k, hk, fun hg => ?_⟩⟩
          · unfold piece_side_l1
            simp only [if_true, if_false, Option.bind_some, Bool.not_true, Bool.not_false, Bool.false_eq_true, hkk, hx, (col_eq _).1, hcb, hd, hp, hy, decide_true]
          · have := (hg hk).2 hk h0; omega
        · refine .inl ⟨?_, fun j hj => ?_⟩
          · unfold piece_side_l1
            simp only [if_true, if_false, Option.bind_some, Bool.not_true, Bool.not_false, Bool.false_eq_true, hkk, hx, (col_eq _).1, hcb, hd, hp, hy, decide_false, hsucc]
          · by_cases e : j = k
            · subst e; exact fun _ => ⟨hc, fun _ _ => by omega⟩
            · exact hI j (by omega)
      · obtain rfl : k = 0 := by omega
        refine .inl ⟨?_, fun j hj => ?_⟩
        · unfold piece_side_l1
          simp only [if_true, if_false, Option.bind_some, Bool.not_true, Bool.not_false, Bool.false_eq_true, hkk, hx, (col_eq _).1, hcb, hsucc, show decide ((0 : Int) < ((0 : Nat) : Int)) = false from rfl]
        · obtain rfl : j = 0 := by omega
          exact fun _ => ⟨hc, fun _ h => absurd h (by omega)⟩
    · have hcb : (decide (-500 ≤ l[k].X) && decide (l[k].X ≤ 500)) = false := by simpa using hc
      refine .inr ⟨.inl false, ?_, .inr ⟨rfl, k, hk, fun hg => hc (hg hk).1⟩⟩
      unfold piece_side_l1
      simp only [if_true, if_false, Option.bind_some, Bool.not_true, Bool.not_false, Bool.false_eq_true, hkk, hx, (col_eq _).1, hcb]
  · intro hI
    refine ⟨.inr (), ?_, .inl ⟨rfl, hI⟩⟩
    unfold piece_side_l1
    simp
theorem side_loop2 (l : List api_Point) (hl : l.length ≤ 50) : ∃ t, whileO (raddleref37_side_l1 l) 0 = some t ∧ ((t = .inr () ∧ ∀ k, k < l.length → good2 l k) ∨ (t = .inl false ∧ ∃ k, k < l.length ∧ ¬ good2 l k)) := by
  refine loop_ix l.length (fun k => ∀ j, j < k → good2 l j) _ (fun j h => absurd h (Nat.not_lt_zero j)) ?_ ?_
  · intro k hk hI
    have hx := idxO_nat hk
    have hkk : decide ((k : Int) < (l.length : Int)) = true := by simp; omega
    have hsucc : w64 ((k : Int) + 1) = ((k + 1 : Nat) : Int) := w64_succ (by omega)
    by_cases hc : -500 ≤ l[k].X ∧ l[k].X ≤ 500
    · have hcb : (decide (-500 ≤ l[k].X) && decide (l[k].X ≤ 500)) = true := by simpa using hc
      by_cases hy0 : l[k].Y < 0
      · refine .inr ⟨.inl false, ?_, .inr ⟨rfl, k, hk, fun hg => by have := (hg hk).2.1; omega⟩⟩
        unfold raddleref37_side_l1
        simp only [if_true, if_false, Option.bind_some, Bool.not_true, Bool.not_false, Bool.false_eq_true, hkk, hx, (col_eq _).2, hcb, hy0, decide_true]
      by_cases hy1 : 99 < l[k].Y
      · refine .inr ⟨.inl false, ?_, .inr ⟨rfl, k, hk, fun hg => by have := (hg hk).2.1; omega⟩⟩
        unfold raddleref37_side_l1
        simp only [if_true, if_false, Option.bind_some, Bool.not_true, Bool.not_false, Bool.false_eq_true, hkk, hx, (col_eq _).2, hcb, hy0, hy1, decide_true, decide_false]
      by_cases h0 : 0 < k
      · have hd : decide ((0 : Int) < (k : Int)) = true := by simp; omega
        have hp : idxO l (w64 ((k : Int) - 1)) = some (l[k - 1]'(by omega)) := idxO_of (by rw [w64_of (by omega) (by omega)]; omega) (by omega)
        by_cases hy : (l[k]).Y ≤ (l[k - 1]'(by omega)).Y
        · refine .inr ⟨.inl false, ?_, .inr ⟨rfl, k, hk, fun hg => ?_⟩⟩
          · unfold raddleref37_side_l1
            simp only [if_true, if_false, Option.bind_some, Bool.not_true, Bool.not_false, Bool.false_eq_true, hkk, hx, (col_eq _).2, hcb, hy0, hy1, hd, hp, hy, decide_true, decide_false]
          · have := (hg hk).2.2 hk h0; omega
        · refine .inl ⟨?_, fun j hj => ?_⟩
          · unfold raddleref37_side_l1
            simp only [if_true, if_false, Option.bind_some, Bool.not_true, Bool.not_false, Bool.false_eq_true, hkk, hx, (col_eq _).2, hcb, hy0, hy1, hd, hp, hy, decide_false, hsucc]
          · by_cases e : j = k
            · subst e; exact fun _ => ⟨hc, ⟨by omega, by omega⟩, fun _ _ => by omega⟩
            · exact hI j (by omega)
      · obtain rfl : k = 0 := by omega
        refine .inl ⟨?_, fun j hj => ?_⟩
        · unfold raddleref37_side_l1
          simp only [if_true, if_false, Option.bind_some, Bool.not_true, Bool.not_false, Bool.false_eq_true, hkk, hx, (col_eq _).2, hcb, hy0, hy1, decide_false, hsucc, show decide ((0 : Int) < ((0 : Nat) : Int)) = false from rfl]
        · obtain rfl : j = 0 := by omega
          exact fun _ => ⟨hc, ⟨by omega, by omega⟩, fun _ h => absurd h (by omega)⟩
    · have hcb : (decide (-500 ≤ l[k].X) && decide (l[k].X ≤ 500)) = false := by simpa using hc
      refine .inr ⟨.inl false, ?_, .inr ⟨rfl, k, hk, fun hg => hc (hg hk).1⟩⟩
      unfold raddleref37_side_l1
      simp only [if_true, if_false, Option.bind_some, Bool.not_true, Bool.not_false, Bool.false_eq_true, hkk, hx, (col_eq _).2, hcb]
  · intro hI
    refine ⟨.inr (), ?_, .inl ⟨rfl, hI⟩⟩
    unfold raddleref37_side_l1
    simp
/-- numbers that grow lie between the first and the last -/
theorem up_le {l : List api_Point} (h : ∀ k, k < l.length → up l k) : ∀ (k j : Nat) (hk : k < l.length) (hj : j ≤ k), (l[j]'(by omega)).Y ≤ l[k].Y := by
  intro k
  induction k with
  | zero =>
    intro j hk hj
    obtain rfl : j = 0 := by omega
    exact Int.le_refl _
  | succ k ih =>
    intro j hk hj
    by_cases e : j = k + 1
    · subst e; exact Int.le_refl _
    · have h1 := ih j (by omega) (by omega)
      have h2 := h (k + 1) hk hk (by omega)
      simp only [Nat.add_sub_cancel] at h2
      omega
def pz : api_Point := ⟨0, 0⟩
theorem side_eq (l : List api_Point) (hl : l.length ≤ 1000) : ∃ b, F_piece_side l = some b ∧ F_raddleref37_side l = some b ∧ (b = true → 0 < l.length ∧ l.length ≤ 50 ∧ (l.getD 0 pz).Y = 0 ∧ ∀ k, k < l.length → good2 l k) := by
  unfold F_piece_side F_raddleref37_side
  by_cases h0 : l.length = 0
  · refine ⟨false, ?_, ?_, by simp⟩
    · have : ((l.length : Int) == 0) = true := by simp [h0]
      simp only [this, if_true, Option.bind_some]
    · have : decide ((l.length : Int) < 1) = true := by simp; omega
      simp only [this, if_true, Option.bind_some]
  have e0 : ((l.length : Int) == 0) = false := by simp; intro h; exact h0 (by simp [h])
  have e1 : decide ((l.length : Int) < 1) = false := by simp; omega
  by_cases h1 : 50 < l.length
  · have e2 : decide ((50 : Int) < (l.length : Int)) = true := by simp; omega
    exact ⟨false, by simp only [e0, e2, if_true, if_false, Bool.false_eq_true, Option.bind_some], by simp only [e1, e2, if_true, if_false, Bool.false_eq_true, Option.bind_some], by simp⟩
  have e2 : decide ((50 : Int) < (l.length : Int)) = false := by simp; omega
  have hx0 : idxO l 0 = some (l[0]'(by omega)) := idxO_of (k := 0) rfl (by omega)
  by_cases h2 : (l[0]'(by omega)).Y = 0
  case neg =>
    have e3 : ((l[0]'(by omega)).Y != 0) = true := by simpa using h2
    exact ⟨false, by simp only [e0, e2, hx0, e3, if_true, if_false, Bool.false_eq_true, Option.bind_some], by simp only [e1, e2, hx0, e3, if_true, if_false, Bool.false_eq_true, Option.bind_some], by simp⟩
  have e3 : ((l[0]'(by omega)).Y != 0) = false := by simpa using h2
  have hxl : idxO l (w64 ((l.length : Int) - 1)) = some (l[l.length - 1]'(by omega)) := idxO_of (by rw [w64_of (by omega) (by omega)]; omega) (by omega)
  obtain ⟨t, t1, t2⟩ := side_loop1 l (by omega)
  obtain ⟨u, u1, u2⟩ := side_loop2 l (by omega)
  by_cases h3 : 100 ≤ (l[l.length - 1]'(by omega)).Y
  · have e4 : decide (100 ≤ (l[l.length - 1]'(by omega)).Y) = true := by simpa using h3
    refine ⟨false, by simp only [e0, e2, hx0, e3, hxl, e4, if_true, if_false, Bool.false_eq_true, Option.bind_some], ?_, by simp⟩
    rcases u2 with ⟨rfl, hg⟩ | ⟨rfl, _⟩
    · have := (hg (l.length - 1) (by omega) (by omega)).2.1; omega
    · simp only [e1, e2, hx0, e3, u1, if_false, Bool.false_eq_true, Option.bind_some]
  · have e4 : decide (100 ≤ (l[l.length - 1]'(by omega)).Y) = false := by simpa using h3
    have hiff : (∀ k, k < l.length → good1 l k) ↔ (∀ k, k < l.length → good2 l k) := by
      constructor
      · intro h k hk _
        have hu : ∀ k, k < l.length → up l k := fun k hk => (h k hk hk).2
        have a := up_le hu k 0 hk (Nat.zero_le _)
        have b := up_le hu (l.length - 1) k (by omega) (by omega)
        exact ⟨(h k hk hk).1, ⟨by omega, by omega⟩, hu k hk⟩
      · exact fun h k hk _ => ⟨(h k hk hk).1, (h k hk hk).2.2⟩
    rcases t2 with ⟨rfl, hg⟩ | ⟨rfl, j, hj, hg⟩
    · rcases u2 with ⟨rfl, _⟩ | ⟨rfl, j, hj, hn⟩
      · exact ⟨true, by simp only [e0, e2, hx0, e3, hxl, e4, t1, if_false, Bool.false_eq_true, Option.bind_some], by simp only [e1, e2, hx0, e3, u1, if_false, Bool.false_eq_true, Option.bind_some], fun _ => ⟨by omega, by omega, by rw [← h2]; simp [show 0 < l.length by omega], hiff.1 hg⟩⟩
      · exact absurd (hiff.1 hg j hj) hn
    · rcases u2 with ⟨rfl, hn⟩ | ⟨rfl, _⟩
      · exact absurd (hiff.2 hn j hj) hg
      · exact ⟨false, by simp only [e0, e2, hx0, e3, hxl, e4, t1, if_false, Bool.false_eq_true, Option.bind_some], by simp only [e1, e2, hx0, e3, u1, if_false, Bool.false_eq_true, Option.bind_some], by simp⟩
theorem shape_eq (s : api_Shape) (h1 : s.Left.length ≤ 1000) (h2 : s.Right.length ≤ 1000) : ∃ e, F_piece_shape s = some e ∧ F_raddleref37_Shape s = some e ∧ (e = 0 ∨ e = 8) ∧
    (e = 0 → (0 < s.Left.length ∧ s.Left.length ≤ 50 ∧ (s.Left.getD 0 pz).Y = 0 ∧ ∀ k, k < s.Left.length → good2 s.Left k) ∧ (0 < s.Right.length ∧ s.Right.length ≤ 50 ∧ (s.Right.getD 0 pz).Y = 0 ∧ ∀ k, k < s.Right.length → good2 s.Right k) ∧ (s.Left.getD (s.Left.length - 1) pz).Y = (s.Right.getD (s.Right.length - 1) pz).Y) := by
  obtain ⟨a, a1, a2, a3⟩ := side_eq s.Left h1
  obtain ⟨b, b1, b2, b3⟩ := side_eq s.Right h2
  unfold F_piece_shape F_raddleref37_Shape
  rw [a1, a2, b1, b2]
  cases a with
  | false => exact ⟨8, rfl, rfl, .inr rfl, fun h => by cases h⟩
  | true =>
    cases b with
    | false => exact ⟨8, rfl, rfl, .inr rfl, fun h => by cases h⟩
    | true =>
      have c1 := a3 rfl
      have c2 := b3 rfl
      have x1 : idxO s.Left (w64 ((s.Left.length : Int) - 1)) = some (s.Left[s.Left.length - 1]'(by omega)) := idxO_of (by rw [w64_of (by omega) (by omega)]; omega) (by omega)
      have x2 : idxO s.Right (w64 ((s.Right.length : Int) - 1)) = some (s.Right[s.Right.length - 1]'(by omega)) := idxO_of (by rw [w64_of (by omega) (by omega)]; omega) (by omega)
      simp only [Option.bind_some, Bool.not_true, Bool.false_eq_true, if_false, x1, x2]
      cases hy : ((s.Left[s.Left.length - 1]'(by omega)).Y != (s.Right[s.Right.length - 1]'(by omega)).Y)
      · refine ⟨0, rfl, rfl, .inl rfl, fun _ => ⟨c1, c2, ?_⟩⟩
        have hy : (s.Left[s.Left.length - 1]'(by omega)).Y = (s.Right[s.Right.length - 1]'(by omega)).Y := by simpa using hy
        simpa [show s.Left.length - 1 < s.Left.length by omega, show s.Right.length - 1 < s.Right.length by omega] using hy
      · exact ⟨8, rfl, rfl, .inr rfl, fun h => by cases h⟩

/-- P36.1: a number of a line -/
def lin (a b n i : Int) : Int := a + (2 * (b - a) * i + n) / (2 * n)
theorem swithin_eq (x a b : Int) : F_slope_within x a b = some (decide (a ≤ x) && decide (x ≤ b)) := by
  unfold F_slope_within
  by_cases h : a ≤ x <;> simp [h]
theorem at_eq {a b n i : Int} (a0 : -500 ≤ a) (a1 : a ≤ 500) (b0 : -500 ≤ b) (b1 : b ≤ 500) (n0 : 1 ≤ n) (n1 : n ≤ 100) (i0 : 0 ≤ i) (i1 : i ≤ n) :
    F_slope_at a b n i = some (lin a b n i) ∧ -100000000 ≤ lin a b n i ∧ lin a b n i ≤ 100000000 := by
  have e3 : w64 (2 * n) = 2 * n := w64_of (by omega) (by omega)
  have m1 := mul_bd (u := a + 1000) (v := n - i) (a := 1500) (b := 100) (by omega) (by omega) (by omega) (by omega)
  have m2 := mul_bd (u := b + 1000) (v := i) (a := 1500) (b := 100) (by omega) (by omega) (by omega) (by omega)
  have m3 := mul_bd (u := 2 * (b - a) + 2000) (v := i) (a := 4000) (b := 100) (by omega) (by omega) (by omega) (by omega)
  have m4 : (2 * (b - a) + 2000) * i = 2 * (b - a) * i + 2000 * i := Int.add_mul _ _ _
  have m5 := mul_bd (u := n) (v := a + 1000) (a := 100) (b := 1500) (by omega) (by omega) (by omega) (by omega)
  have key : 2 * ((a + 1000) * (n - i) + (b + 1000) * i) + n = (2 * (b - a) * i + n) + 2 * n * (a + 1000) := by
    have k1 : (a + 1000) * (n - i) = n * (a + 1000) - (a * i + 1000 * i) := by rw [Int.mul_sub, Int.mul_comm (a + 1000) n, Int.add_mul]
    have k2 : (b + 1000) * i = b * i + 1000 * i := Int.add_mul _ _ _
    have k3 : 2 * (b - a) * i = 2 * (b * i) - 2 * (a * i) := by rw [Int.mul_assoc, Int.sub_mul, Int.mul_sub]
    have k4 : 2 * n * (a + 1000) = 2 * (n * (a + 1000)) := Int.mul_assoc _ _ _
    rw [k1, k2, k3, k4]
    omega
  have hn : (2 * n : Int) ≠ 0 := by omega
  have hd := Int.add_mul_ediv_left (2 * (b - a) * i + n) (a + 1000) hn
  rw [← key] at hd
  have f0 : 0 ≤ (2 * ((a + 1000) * (n - i) + (b + 1000) * i) + n) / (2 * n) := Int.ediv_nonneg (by omega) (by omega)
  have f1 : (2 * ((a + 1000) * (n - i) + (b + 1000) * i) + n) / (2 * n) ≤ 2 * ((a + 1000) * (n - i) + (b + 1000) * i) + n := Int.ediv_le_self _ (by omega)
  refine ⟨?_, ?_⟩
  · unfold F_slope_at lin
    have g1 : w64 (a + 1000) = a + 1000 := w64_of (by omega) (by omega)
    have g2 : w64 (n - i) = n - i := w64_of (by omega) (by omega)
    have g3 : w64 (b + 1000) = b + 1000 := w64_of (by omega) (by omega)
    have g4 : w64 ((a + 1000) * (n - i)) = (a + 1000) * (n - i) := w64_of (by omega) (by omega)
    have g5 : w64 ((b + 1000) * i) = (b + 1000) * i := w64_of (by omega) (by omega)
    have g6 : w64 ((a + 1000) * (n - i) + (b + 1000) * i) = (a + 1000) * (n - i) + (b + 1000) * i := w64_of (by omega) (by omega)
    have g7 : w64 (2 * ((a + 1000) * (n - i) + (b + 1000) * i)) = 2 * ((a + 1000) * (n - i) + (b + 1000) * i) := w64_of (by omega) (by omega)
    have g8 : w64 (2 * ((a + 1000) * (n - i) + (b + 1000) * i) + n) = 2 * ((a + 1000) * (n - i) + (b + 1000) * i) + n := w64_of (by omega) (by omega)
    simp only [g1, g2, g3, g4, g5, g6, g7, g8, e3, quoI, hn, if_false, Option.bind_some]
    have g9 : w64 ((2 * ((a + 1000) * (n - i) + (b + 1000) * i) + n) / (2 * n)) = (2 * ((a + 1000) * (n - i) + (b + 1000) * i) + n) / (2 * n) := w64_of (by omega) (by omega)
    rw [Int.tdiv_eq_ediv_of_nonneg (by omega), g9, w64_of (by omega) (by omega)]
    congr 1
    omega
  · unfold lin
    omega

def lnL (a b n : Int) : List Int := (List.range (n.toNat + 1)).map (fun i : Nat => lin a b n (i : Int))
theorem line_eq {a b n : Int} (a0 : -500 ≤ a) (a1 : a ≤ 500) (b0 : -500 ≤ b) (b1 : b ≤ 500) (n0 : 1 ≤ n) (n1 : n ≤ 100) :
    F_slope_Line a b n = some (lnL a b n, 0) := by
  obtain ⟨N, rfl⟩ : ∃ N : Nat, n = N := ⟨n.toNat, by omega⟩
  have hN : ((N : Int)).toNat = N := by omega
  · have hc : F_slope_check a b N = some 0 := by
      unfold F_slope_check
      simp [swithin_eq, show -1000 ≤ a by omega, show a ≤ 1000 by omega, show -1000 ≤ b by omega, show b ≤ 1000 by omega, show (1 : Int) ≤ N by omega, show (N : Int) ≤ 1000 by omega]
    have hl : whileO (slope_list_int__s0_l1 (((N + 1 : Nat) : Int)) a b N) (List.replicate (N + 1) 0, 0) = some (lnL a b N) := by
      refine loop_set (N + 1) (fun i : Nat => lin a b N (i : Int)) (0 : Int) (fun k s hk hs => ?_) ?_
      · unfold slope_list_int__s0_l1 F_slope_Line_1_s0
        simp only [dT (show (k : Int) < ((N + 1 : Nat) : Int) by omega), if_true, (at_eq a0 a1 b0 b1 n0 n1 (show (0 : Int) ≤ k by omega) (show (k : Int) ≤ N by omega)).1, Option.bind_some, idxO_nat (show k < s.length by omega), setO_nat (show k < s.length by omega), w64_succ (show k < 9223372036854775807 by omega)]
      · unfold slope_list_int__s0_l1 lnL
        rw [hN]
        simp
    have hm : makeO (((N + 1 : Nat) : Int)) (0 : Int) = some (List.replicate (N + 1) 0) := makeO_of rfl (by omega)
    unfold F_slope_Line F_slope_list_int__s0
    rw [hc]
    simp only [Option.bind_some, w64_succ (show N < 9223372036854775807 by omega), hm, hl, nF (rfl : (0 : Int) = 0), Bool.false_eq_true, if_false]
def seg (l : List api_Point) (k : Nat) : List Int := (lnL (l.getD k pz).X (l.getD (k + 1) pz).X ((l.getD (k + 1) pz).Y - (l.getD k pz).Y)).drop 1
def colsTo (l : List api_Point) (k : Nat) : List Int := (List.range k).foldl (fun acc k => acc ++ seg l k) [(l.getD 0 pz).X]
theorem colsTo_succ (l : List api_Point) (k : Nat) : colsTo l (k + 1) = colsTo l k ++ seg l k := by
  unfold colsTo; rw [List.range_succ, List.foldl_append]; rfl
theorem step_ok {l : List api_Point} (hg : ∀ k, k < l.length → good2 l k) {k : Nat} (hk : k + 1 < l.length) :
    -500 ≤ (l.getD k pz).X ∧ (l.getD k pz).X ≤ 500 ∧ -500 ≤ (l.getD (k + 1) pz).X ∧ (l.getD (k + 1) pz).X ≤ 500 ∧ 1 ≤ (l.getD (k + 1) pz).Y - (l.getD k pz).Y ∧ (l.getD (k + 1) pz).Y - (l.getD k pz).Y ≤ 100 ∧
    0 ≤ (l.getD k pz).Y ∧ (l.getD k pz).Y ≤ 99 ∧ (l.getD (k + 1) pz).Y ≤ 99 := by
  have h1 := hg k (by omega) (by omega)
  have h2 := hg (k + 1) hk hk
  have h3 := h2.2.2 hk (by omega)
  have e1 : l.getD k pz = l[k]'(by omega) := by simp [show k < l.length by omega]
  have e2 : l.getD (k + 1) pz = l[k + 1]'hk := by simp [hk]
  simp only [Nat.add_sub_cancel] at h3
  rw [e1, e2]
  omega
theorem seg_len {l : List api_Point} (hg : ∀ k, k < l.length → good2 l k) {k : Nat} (hk : k + 1 < l.length) : (seg l k).length ≤ 100 := by
  have := step_ok hg hk
  unfold seg lnL
  simp only [List.length_drop, List.length_map, List.length_range]
  omega
theorem colsTo_len {l : List api_Point} (hg : ∀ k, k < l.length → good2 l k) : ∀ {k : Nat}, k < l.length → (colsTo l k).length ≤ 1 + 100 * k := by
  intro k
  induction k with
  | zero => intro _; simp [colsTo]
  | succ k ih =>
    intro hk
    have h1 := ih (by omega)
    have h2 := seg_len hg hk
    rw [colsTo_succ, List.length_append]
    omega
theorem columns_eq (l : List api_Point) (h0 : 0 < l.length) (h1 : l.length ≤ 50) (hg : ∀ k, k < l.length → good2 l k) :
    F_piece_columns l = some (colsTo l (l.length - 1)) := by
  have hx0 : idxO l 0 = some (l.getD 0 pz) := idxO_D (k := 0) pz h0
  have hsl : sliceO l 1 (l.length : Int) = some (l.drop 1) := sliceO_all (k := 1) h0
  have hL : ∀ k, k + 1 < l.length → ∀ s : List Int, s.length ≤ 1 + 100 * k → Option.bind (sliceO (lnL (l.getD k pz).X (l.getD (k + 1) pz).X ((l.getD (k + 1) pz).Y - (l.getD k pz).Y)) 1 ((lnL (l.getD k pz).X (l.getD (k + 1) pz).X ((l.getD (k + 1) pz).Y - (l.getD k pz).Y)).length : Int)) (fun y => appO s y) = some (s ++ seg l k) := by
    intro k hk s hs
    have := seg_len hg hk
    have e : sliceO (lnL (l.getD k pz).X (l.getD (k + 1) pz).X ((l.getD (k + 1) pz).Y - (l.getD k pz).Y)) 1 ((lnL (l.getD k pz).X (l.getD (k + 1) pz).X ((l.getD (k + 1) pz).Y - (l.getD k pz).Y)).length : Int) = some (seg l k) := sliceO_all (k := 1) (by unfold lnL; simp)
    rw [e, Option.bind_some, appO_of (by omega)]
  · unfold F_piece_columns
    have hw : whileO (piece_columns_l1 (l.drop 1) l) ([(l.getD 0 pz).X], 0) = some (colsTo l (l.length - 1)) := by
      refine loop_fold (l.length - 1) (fun acc k => acc ++ seg l k) _ (fun k s hk hs => ?_) ?_
      · have hk1 : k + 1 < l.length := by omega
        have hst := step_ok hg hk1
        have hy := idxO_D (xs := l.drop 1) (k := k) pz (by simp; omega)
        rw [getD_drop] at hy
        have hs' : s.length ≤ 1 + 100 * k := by rw [hs]; exact colsTo_len hg (by omega)
        have hw : w64 ((l.getD (k + 1) pz).Y - (l.getD k pz).Y) = (l.getD (k + 1) pz).Y - (l.getD k pz).Y := w64_of (by omega) (by omega)
        have hln := line_eq hst.1 hst.2.1 hst.2.2.1 hst.2.2.2.1 hst.2.2.2.2.1 hst.2.2.2.2.2.1
        have hf := hL k hk1 s hs'
        unfold piece_columns_l1
        simp only [dT (show (k : Int) < ((l.drop 1).length : Int) by simp; omega), if_true, hy, idxO_D pz (show k < l.length by omega), Option.bind_some, hw, hln]
        rw [← Option.bind_assoc, hf]
        simp only [Option.bind_some, w64_succ (show k < 9223372036854775807 by omega)]
      · unfold piece_columns_l1 colsTo
        have : decide (((l.length - 1 : Nat) : Int) < ((l.drop 1).length : Int)) = false := dF (by simp)
        simp only [this, Bool.false_eq_true, if_false]
    simp only [hx0, Option.bind_some, hsl, hw]
theorem make_eq (s : api_Shape) (h1 : s.Left.length ≤ 1000) (h2 : s.Right.length ≤ 1000) (h0 : F_raddleref37_Shape s = some 0) :
    ∃ l r : List Int, l = colsTo s.Left (s.Left.length - 1) ∧ r = colsTo s.Right (s.Right.length - 1) ∧ F_piece_Make s = some (if pok ⟨l, r⟩ = true then (⟨l, r⟩, 0) else (⟨[], []⟩, 16)) := by
  obtain ⟨e, e1, e2, e3, e4⟩ := shape_eq s h1 h2
  rw [h0] at e2
  cases e2
  obtain ⟨⟨l0, l1, _, lg⟩, ⟨r0, r1, _, rg⟩, _⟩ := e4 rfl
  have hl := columns_eq s.Left l0 l1 lg
  have hr := columns_eq s.Right r0 r1 rg
  have nl := colsTo_len lg (show s.Left.length - 1 < s.Left.length by omega)
  have nr := colsTo_len rg (show s.Right.length - 1 < s.Right.length by omega)
  refine ⟨_, _, rfl, rfl, ?_⟩
  have hc := pcheck_eq (api_Piece.mk (colsTo s.Left (s.Left.length - 1)) (colsTo s.Right (s.Right.length - 1))) (by show (colsTo _ _).length ≤ _; omega) (by show (colsTo _ _).length ≤ _; omega)
  unfold F_piece_Make
  simp only [e1, Option.bind_some, nF (rfl : (0 : Int) = 0), Bool.false_eq_true, if_false, hl, hr, hc.1]
  generalize colsTo s.Left (s.Left.length - 1) = cl at *
  generalize colsTo s.Right (s.Right.length - 1) = cr at *
  cases pok (api_Piece.mk cl cr) <;> rfl
theorem lin_zero {a b n : Int} (hn : 1 ≤ n) : lin a b n 0 = a := by
  unfold lin
  rw [Int.mul_zero, Int.zero_add, Int.ediv_eq_zero_of_lt (by omega) (by omega)]
  omega
theorem lin_end {a b n : Int} (hn : 1 ≤ n) : lin a b n n = b := by
  unfold lin
  have : 2 * (b - a) * n + n = n + 2 * n * (b - a) := by
    rw [Int.mul_assoc 2 (b - a) n, Int.mul_assoc 2 n (b - a), Int.mul_comm n (b - a)]
    omega
  rw [this, Int.add_mul_ediv_left _ _ (by omega), Int.ediv_eq_zero_of_lt (by omega) (by omega)]
  omega
theorem lin_near {a b n i : Int} (hn : 1 ≤ n) : -n ≤ 2 * (n * (lin a b n i - a) - (b - a) * i) ∧ 2 * (n * (lin a b n i - a) - (b - a) * i) ≤ n := by
  unfold lin
  have h1 := Int.emod_add_mul_ediv (2 * (b - a) * i + n) (2 * n)
  have h2 := Int.emod_nonneg (2 * (b - a) * i + n) (show 2 * n ≠ 0 by omega)
  have h3 := Int.emod_lt_of_pos (2 * (b - a) * i + n) (show 0 < 2 * n by omega)
  generalize (2 * (b - a) * i + n) / (2 * n) = q at *
  generalize (2 * (b - a) * i + n) % (2 * n) = r at *
  rw [Int.mul_assoc 2 (b - a) i, Int.mul_assoc 2 n q] at h1
  rw [show a + q - a = q by omega]
  generalize (b - a) * i = x at *
  generalize n * q = y at *
  omega
def Y (l : List api_Point) (k : Nat) : Int := (l.getD k pz).Y
def X (l : List api_Point) (k : Nat) : Int := (l.getD k pz).X
theorem cols_at {l : List api_Point} (hg : ∀ k, k < l.length → good2 l k) (h0 : Y l 0 = 0) : ∀ k, k < l.length → ((colsTo l k).length : Int) = Y l k + 1 ∧ (colsTo l k).getD (Y l k).toNat 0 = X l k ∧
    ∀ j, j < k → ∀ i : Int, Y l j ≤ i → i ≤ Y l (j + 1) → (colsTo l k).getD i.toNat 0 = lin (X l j) (X l (j + 1)) (Y l (j + 1) - Y l j) (i - Y l j) := by
  intro k
  induction k with
  | zero =>
    intro hk
    refine ⟨by rw [h0]; rfl, by rw [h0]; rfl, fun j hj => absurd hj (Nat.not_lt_zero j)⟩
  | succ k ih =>
    intro hk
    obtain ⟨i1, i2, i3⟩ := ih (by omega)
    have st := step_ok hg hk
    have yk : Y l k = (l.getD k pz).Y := rfl
    have yk1 : Y l (k + 1) = (l.getD (k + 1) pz).Y := rfl
    have hs : seg l k = (lnL (X l k) (X l (k + 1)) (Y l (k + 1) - Y l k)).drop 1 := rfl
    rw [← yk, ← yk1] at st
    have hsl : (seg l k).length = (Y l (k + 1) - Y l k).toNat := by
      rw [hs]; unfold lnL; simp
    have hlen : ((colsTo l (k + 1)).length : Int) = Y l (k + 1) + 1 := by
      rw [colsTo_succ, List.length_append, hsl]; omega
    have hlow : ∀ i : Int, 0 ≤ i → i ≤ Y l k → (colsTo l (k + 1)).getD i.toNat 0 = (colsTo l k).getD i.toNat 0 := by
      intro i hi0 hi
      rw [colsTo_succ, List.getD_eq_getElem?_getD, List.getElem?_append_left (by omega), ← List.getD_eq_getElem?_getD]
    have hhigh : ∀ i : Int, Y l k < i → i ≤ Y l (k + 1) → (colsTo l (k + 1)).getD i.toNat 0 = lin (X l k) (X l (k + 1)) (Y l (k + 1) - Y l k) (i - Y l k) := by
      intro i hi0 hi
      rw [colsTo_succ, List.getD_eq_getElem?_getD, List.getElem?_append_right (by omega), ← List.getD_eq_getElem?_getD, hs, getD_drop]
      have e : i.toNat - (colsTo l k).length + 1 = (i - Y l k).toNat := by omega
      rw [e]
      unfold lnL
      have hm : (i - Y l k).toNat < (Y l (k + 1) - Y l k).toNat + 1 := by omega
      simp only [List.getD_eq_getElem?_getD, List.getElem?_map, List.getElem?_range hm, Option.map_some, Option.getD_some]
      rw [show (((i - Y l k).toNat : Nat) : Int) = i - Y l k by omega]
    have hat : ∀ i : Int, Y l k ≤ i → i ≤ Y l (k + 1) → (colsTo l (k + 1)).getD i.toNat 0 = lin (X l k) (X l (k + 1)) (Y l (k + 1) - Y l k) (i - Y l k) := by
      intro i hi0 hi
      by_cases e : i = Y l k
      · subst e
        rw [hlow _ (by omega) (Int.le_refl _), i2, Int.sub_self, lin_zero (by omega)]
      · exact hhigh i (by omega) hi
    refine ⟨hlen, ?_, fun j hj i hi0 hi => ?_⟩
    · rw [hat _ (by omega) (Int.le_refl _), lin_end (by omega)]
    · by_cases e : j = k
      · subst e; exact hat i hi0 hi
      · have sj := step_ok hg (show j + 1 < l.length by omega)
        have yj : 0 ≤ Y l j := sj.2.2.2.2.2.2.1
        have : Y l (j + 1) ≤ Y l k := by
          have hu : ∀ k, k < l.length → up l k := fun k hk => (hg k hk hk).2.2
          have := up_le hu k (j + 1) (by omega) (by omega)
          unfold Y
          simpa [show j + 1 < l.length by omega, show k < l.length by omega] using this
        rw [hlow i (by omega) (by omega)]
        exact i3 j (by omega) i hi0 hi
theorem loop_from {τ : Type} {B : Int → Option (Int ⊕ τ)} (a n : Nat) (ha : a ≤ n) {t : τ} (step : ∀ k, a ≤ k → k < n → B (k : Int) = some (.inl ((k + 1 : Nat) : Int))) (last : B (n : Int) = some (.inr t)) : whileO B (a : Int) = some t := by
  have key : ∃ u, whileO B (a : Int) = some u ∧ u = t := by
    refine whileO_inv (fun s => ∃ k : Nat, a ≤ k ∧ k ≤ n ∧ s = (k : Int)) (fun s => ((n : Int) - s).toNat) _ ⟨a, Nat.le_refl _, ha, rfl⟩ ?_
    rintro i ⟨k, hak, hk, rfl⟩
    by_cases hlt : k < n
    · exact .inl ⟨_, step k hak hlt, ⟨k + 1, by omega, hlt, rfl⟩, by simp; omega⟩
    · obtain rfl : k = n := by omega
      exact .inr ⟨t, last, rfl⟩
  obtain ⟨u, h1, rfl⟩ := key
  exact h1
theorem abs_le {x : Int} {b : Int} (h0 : -b ≤ 2 * x) (h1 : 2 * x ≤ b) (hb : b ≤ 10000) : ¬ b < w64 (2 * (if w64 x < w64 (0 - w64 x) then w64 (0 - w64 x) else w64 x)) := by
  rw [w64_of (x := x) (by omega) (by omega), w64_of (x := 0 - x) (by omega) (by omega)]
  split <;> rw [w64_of (by omega) (by omega)] <;> omega
theorem inner_eq {l : List api_Point} (hg : ∀ k, k < l.length → good2 l k) (h0 : Y l 0 = 0) {j n : Nat} (hj : j + 1 < l.length) (hn : n < l.length) (hjn : j + 1 ≤ n) :
    whileO (raddlelaw37_near_l1 (Y l (j + 1)) (colsTo l n) (Y l j) (X l j) (X l (j + 1))) (Y l j) = some (.inr ()) := by
  obtain ⟨c1, c2, c3⟩ := cols_at hg h0 n hn
  have sj := step_ok hg hj
  have yj : Y l j = (l.getD j pz).Y := rfl
  have yj1 : Y l (j + 1) = (l.getD (j + 1) pz).Y := rfl
  have xj : X l j = (l.getD j pz).X := rfl
  have xj1 : X l (j + 1) = (l.getD (j + 1) pz).X := rfl
  rw [← yj, ← yj1, ← xj, ← xj1] at sj
  have hyn : Y l (j + 1) ≤ Y l n := by
    have hu : ∀ k, k < l.length → up l k := fun k hk => (hg k hk hk).2.2
    have := up_le hu n (j + 1) hn hjn
    unfold Y
    simpa [hj, hn] using this
  have hc : ∀ i : Int, Y l j ≤ i → i ≤ Y l (j + 1) → idxO (colsTo l n) i = some (lin (X l j) (X l (j + 1)) (Y l (j + 1) - Y l j) (i - Y l j)) := by
    intro i i0 i1
    rw [← c3 j (by omega) i i0 i1]
    have := idxO_D (xs := colsTo l n) (k := i.toNat) (0 : Int) (by omega)
    rwa [show ((i.toNat : Nat) : Int) = i by omega] at this
  clear c2 c3
  generalize Y l j = y0 at *
  generalize Y l (j + 1) = y1 at *
  generalize X l j = a at *
  generalize X l (j + 1) = b at *
  obtain ⟨u0, rfl⟩ : ∃ u : Nat, y0 = (u : Int) := ⟨y0.toNat, by omega⟩
  obtain ⟨u1, rfl⟩ : ∃ u : Nat, y1 = (u : Int) := ⟨y1.toNat, by omega⟩
  refine loop_from u0 (u1 + 1) (by omega) (fun k k0 k1 => ?_) ?_
  · have h := hc (k : Int) (by omega) (by omega)
    have hb := (at_eq (a := a) (b := b) (n := (u1 : Int) - u0) (i := (k : Int) - u0) (by omega) (by omega) (by omega) (by omega) (by omega) (by omega) (by omega) (by omega)).2
    have hnr := lin_near (a := a) (b := b) (n := (u1 : Int) - u0) (i := (k : Int) - u0) (by omega)
    have m2 := mul_bd (u := b - a + 1000) (v := (k : Int) - u0) (a := 2000) (b := 100) (by omega) (by omega) (by omega) (by omega)
    rw [Int.add_mul] at m2
    have hne := abs_le hnr.1 hnr.2 (by omega)
    generalize lin a b ((u1 : Int) - u0) ((k : Int) - u0) = x at *
    unfold raddlelaw37_near_l1
    have w1 : w64 ((u1 : Int) - u0) = u1 - u0 := w64_of (by omega) (by omega)
    have w2 : w64 (x - a) = x - a := w64_of (by omega) (by omega)
    have w3 : w64 (b - a) = b - a := w64_of (by omega) (by omega)
    have w4 : w64 ((k : Int) - u0) = k - u0 := w64_of (by omega) (by omega)
    have w5 : w64 ((b - a) * ((k : Int) - u0)) = (b - a) * (k - u0) := by
      generalize (b - a) * ((k : Int) - u0) = z at *
      exact w64_of (by omega) (by omega)
    have w6 : w64 (((u1 : Int) - u0) * (x - a)) = (u1 - u0) * (x - a) := by
      generalize ((u1 : Int) - u0) * (x - a) = z at *
      generalize (b - a) * ((k : Int) - u0) = z' at *
      exact w64_of (by omega) (by omega)
    simp only [dT (show (k : Int) ≤ (u1 : Int) by omega), if_true, h, Option.bind_some, w1, w2, w3, w4, w5, w6, dF hne, Bool.false_eq_true, if_false, w64_succ (show k < 9223372036854775807 by omega)]
  · unfold raddlelaw37_near_l1
    simp only [dF (show ¬ ((u1 + 1 : Nat) : Int) ≤ (u1 : Int) by omega), Bool.false_eq_true, if_false]
theorem near_eq {l : List api_Point} (hg : ∀ k, k < l.length → good2 l k) (h0 : Y l 0 = 0) (hl : 0 < l.length) (hl2 : l.length ≤ 50) : F_raddlelaw37_near (colsTo l (l.length - 1)) l = some true := by
  have hw : ∃ t, whileO (raddlelaw37_near_l2 l (colsTo l (l.length - 1))) 0 = some t ∧ t = .inr () := by
    refine loop_ix l.length (fun _ => True) _ trivial ?_ ?_
    · intro k hk _
      refine .inl ⟨?_, trivial⟩
      have yb : 0 ≤ Y l k ∧ Y l k ≤ Y l (l.length - 1) := by
        have hu : ∀ k, k < l.length → up l k := fun k hk => (hg k hk hk).2.2
        have a := up_le hu (l.length - 1) k (by omega) (by omega)
        have b := (hg k hk hk).2.1.1
        unfold Y
        simpa [hk, show l.length - 1 < l.length by omega] using And.intro b a
      obtain ⟨c1, c2, c3⟩ := cols_at hg h0 (l.length - 1) (by omega)
      have hX : idxO (colsTo l (l.length - 1)) (Y l k) = some (X l k) := by
        have := idxO_D (xs := colsTo l (l.length - 1)) (k := (Y l k).toNat) (0 : Int) (by omega)
        rw [show (((Y l k).toNat : Nat) : Int) = Y l k by omega] at this
        rw [this]
        congr 1
        by_cases e : k = l.length - 1
        · rw [e, c2]
        · have st := step_ok hg (show k + 1 < l.length by omega)
          have y1 : Y l k = (l.getD k pz).Y := rfl
          have y2 : Y l (k + 1) = (l.getD (k + 1) pz).Y := rfl
          rw [← y1, ← y2] at st
          rw [c3 k (by omega) (Y l k) (Int.le_refl _) (by omega), Int.sub_self, lin_zero (by omega)]
      have hY : (l.getD k pz).Y = Y l k := rfl
      have hXX : (l.getD k pz).X = X l k := rfl
      unfold raddlelaw37_near_l2
      simp only [dT (show (k : Int) < (l.length : Int) by omega), if_true, idxO_D pz hk, Option.bind_some, hY, hXX, dF (show ¬ ((colsTo l (l.length - 1)).length : Int) ≤ Y l k by omega), Bool.false_eq_true, if_false, hX, bne_self_eq_false, w64_succ (show k < 9223372036854775807 by omega)]
      by_cases e : k = 0
      · subst e; rfl
      · obtain ⟨j, rfl⟩ : ∃ j, k = j + 1 := ⟨k - 1, by omega⟩
        have hi := inner_eq hg h0 hk (show l.length - 1 < l.length by omega) (by omega)
        have hp : idxO l (w64 (((j + 1 : Nat) : Int) - 1)) = some (l.getD j pz) := by
          rw [w64_of (by omega) (by omega), show ((j + 1 : Nat) : Int) - 1 = (j : Int) by omega]
          exact idxO_D pz (by omega)
        have hY' : (l.getD j pz).Y = Y l j := rfl
        have hX' : (l.getD j pz).X = X l j := rfl
        simp only [bF (show ¬ ((j + 1 : Nat) : Int) = 0 by omega), Bool.false_eq_true, if_false, hp, Option.bind_some, hY', hX', hi]
    · intro _
      refine ⟨.inr (), ?_, rfl⟩
      unfold raddlelaw37_near_l2
      simp
  obtain ⟨t, t1, rfl⟩ := hw
  unfold F_raddlelaw37_near
  rw [t1]
  rfl
theorem law_PieceNear' (ha : F_raddlelaw37_alive = some true) (s : api_Shape) : F_raddlelaw37_PieceNear s = some true := by
  unfold F_raddlelaw37_PieceNear
  rw [ha]
  by_cases a1 : s.Left.length ≤ 55 ∧ s.Right.length ≤ 55
  case neg =>
    have : F_raddleref37_GreatShape s = some true := by
      unfold F_raddleref37_GreatShape
      by_cases a2 : s.Left.length ≤ 55
      · simp [show ¬ (55 : Int) < (s.Left.length : Int) by omega, show (55 : Int) < (s.Right.length : Int) by omega]
      · simp [show (55 : Int) < (s.Left.length : Int) by omega]
    simp [this]
  have hgs : F_raddleref37_GreatShape s = some false := by
    unfold F_raddleref37_GreatShape
    simp [show ¬ (55 : Int) < (s.Left.length : Int) by omega, show ¬ (55 : Int) < (s.Right.length : Int) by omega]
  obtain ⟨e, e1, e2, e3, e4⟩ := shape_eq s (by omega) (by omega)
  rcases e3 with rfl | rfl
  · obtain ⟨⟨l0, l1, lz, lg⟩, ⟨r0, r1, rz, rg⟩, lr⟩ := e4 rfl
    obtain ⟨l, r, hl, hr, hm⟩ := make_eq s (by omega) (by omega) e2
    simp only [hgs, e2, Option.bind_some, nF (rfl : (0 : Int) = 0), Bool.false_eq_true, if_false, Bool.not_true, hm]
    cases hp : pok ⟨l, r⟩ with
    | false => simp
    | true =>
      have c1 := cols_at lg lz (s.Left.length - 1) (by omega)
      have c2 := cols_at rg rz (s.Right.length - 1) (by omega)
      have n1 := near_eq lg lz l0 l1
      have n2 := near_eq rg rz r0 r1
      rw [← hl] at c1 n1
      rw [← hr] at c2 n2
      have nl := (pok_len hp).2
      have nlr := (pok_len hp).1
      dsimp only at nl nlr
      have hc := (pcheck_eq ⟨l, r⟩ (by show l.length ≤ _; omega) (by show r.length ≤ _; omega)).1
      rw [hp, if_pos rfl] at hc
      have hx : idxO s.Left (w64 ((s.Left.length : Int) - 1)) = some (s.Left.getD (s.Left.length - 1) pz) := by
        rw [w64_of (by omega) (by omega), show (s.Left.length : Int) - 1 = ((s.Left.length - 1 : Nat) : Int) by omega]
        exact idxO_D pz (by omega)
      have hy : (s.Left.getD (s.Left.length - 1) pz).Y = Y s.Left (s.Left.length - 1) := rfl
      have b1 : w64 (Y s.Left (s.Left.length - 1) + 1) = (l.length : Int) := by rw [w64_of (by omega) (by omega)]; omega
      simp only [if_true, bne_self_eq_false, Bool.false_eq_true, if_false, hx, Option.bind_some, hc, beq_self_eq_true, hy, b1, n1, n2, nlr]
  · simp [hgs, e2]

end Go.Proofs.YtmedbnjhgkcndaaDoor
namespace Go.Proofs.YtmedbnjhgkcndaaDoor
open Go.RowKit
set_option linter.unusedVariables false

theorem law_PieceNear (s : api_Shape) (_ : wf_api_Shape s) : F_raddlelaw37_PieceNear s = some true := law_PieceNear' k_raddlelaw37_alive s

end Go.Proofs.YtmedbnjhgkcndaaDoor
namespace Go.Proofs.YtmedbnjhgkcndaaDoor
open Go.RowKit
set_option linter.unusedVariables false

namespace framePieceNear
open Go.ChangeShapes Go.WideShapes Go.ChangeAt Go.Joins
theorem own : ownKnob Tryd.prog.godebug = none := by kernel_rfl
theorem laidOut : laidOutB Tryd.prog = true := by kernel_rfl
set_option maxRecDepth 100000 in
theorem door_met (os : Os) (args : Array Value) : laidMetH Tryd.prog Rows.pieceNearRow.laid ((World.doorLaid Tryd.prog 400 os).forCall (fun _ _ => 0) ⟨#[], args, []⟩).memory :=
  laidMetH_of_parts3 (fuel := 8) (laidMet_of_run' 8 (by kernel_rfl) (by kernel_rfl)) (by kernel_rfl) (by kernel_rfl)
set_option maxRecDepth 100000 in
theorem lifted (os : Os) (started : os.Started) (H : Type) (enc : TypeId × Value → H) :
    ReturnsInHanded {} Tryd.checked os 3 .any (fun w args => (Rows.pieceNearSpec.pre enc Tryd.prog Tryd.f3 Rows.pieceNearRow.domain false w args ∧ laidMetH Tryd.prog Rows.pieceNearRow.laid w) ∧ sizedMet enc Tryd.prog Tryd.f3 (OpenSpec.ofChange Rows.pieceNearSpec) false w args) (Rows.pieceNearSpec.post enc Tryd.prog Tryd.f3 false true false false) := by
  refine returnsInHanded_of_change_and (C := Tryd.checked) (X := fun w _ => laidMetH Tryd.prog Rows.pieceNearRow.laid w) (fun _ _ _ hh h => h.of_heap hh) own started (by kernel_rfl) Tryd.func3
    (ChangeSpec.witness_shaped (enc := enc) (C := Tryd.checked) (os := os) (X := fun w _ => laidMetH Tryd.prog Rows.pieceNearRow.laid w) false (World.doorLaid Tryd.prog 400 os) #[.agg #[.slice none 0 0, .slice none 0 0]] 8 rfl (World.shaped_of_RefB (by kernel_rfl) (by kernel_rfl)) (by kernel_rfl) (by kernel_rfl) (by kernel_rfl) (door_met os _)) ?_
  intro W base args ds gs before hval0 hW _ _ _ _
  have hval : ∀ (j : Nat) t v, Tryd.f3.params[j]? = some t → args[j]? = some v → Value.okWide Tryd.prog W .any base t v := hval0
  have hW' := hW
  obtain ⟨p, q, hA0, hV, rfl, hfz, hnd⟩ := hW
  have hA : DataW.TrodAll enc Tryd.prog W 0 (fun _ => true) true Tryd.f3.params.toList args.toList ds p := hA0
  rw [Tryd.params3] at hA hval
  obtain ⟨v0, vs0, d0, ds0, p0, q0, hargs, rfl, rfl, h0, r0⟩ := trodAll_cons hA
  obtain ⟨rfl, rfl, rfl⟩ := trodAll_nil r0
  obtain rfl : args = #[v0] := by cases args; simp_all
  obtain ⟨rfl, rfl⟩ := trodVars_none hV
  have k0 := h0
  have lt0 : ∀ x ∈ p0, x.block < W.heap.size := by obtain ⟨m, hm⟩ := k0; exact DataW.trod_lt m _ _ _ hm
  obtain ⟨x0, rep0, wf0⟩ := top_agg Tryd.underlying24 aggr_api_Shape op_api_Shape (hval 0 _ v0 rfl rfl) h0
  clear hA0 hval0
  refine (c_raddlelaw37_PieceNear (fun _ => False) W x0 v0 true (law_PieceNear x0 wf0) (St0.start (by intro d hd; simp only [List.mem_cons, List.not_mem_nil, or_false] at hd; subst hd; exact rep0))).mono fun e W' hr => ?_
  obtain ⟨_, he, hS⟩ := hr
  have bel := hS.chg.below
  subst he
  exact ⟨_, rfl, _, _, _, [], _, [], hW', trodAll_mk1 (shut_bool Tryd.underlying4 _), (trodAll_cons_mk (Below.trod laidOut (by kernel_rfl) (of_decide_eq_true (by kernel_rfl)) k0 bel lt0) trodAll_mk0), rfl, bel.frame _, fun h => by cases h⟩
theorem over : Rows.pieceNearRow.holds Tryd.pinned (OpenSpec.ofChange Rows.pieceNearSpec) :=
  OpenClaim.holds_of_wide 3 Tryd.f3 rfl rfl rfl rfl rfl rfl rfl ⟨rfl, rfl, rfl, rfl, rfl⟩ rfl rfl rfl rfl rfl (by kernel_rfl) Tryd.func3 (by kernel_rfl)
    (of_decide_eq_true (by kernel_rfl)) (by unfold Func.isWrapper; first | (rw [if_pos (by decide +kernel)]; kernel_rfl) | (rw [if_neg (by decide +kernel)]; exact ⟨rfl, rfl⟩))
    (fun os started H enc _ => lifted os started H enc)
theorem card : Rows.PieceNearCardSaid :=
  Claim7.holds_tied_plain_at .later [] [.data, .data, .data] true (true, "307e61196d3f4886c0049f613c394b681f3254770779ea132fb8ea05f59173ca") false
    over (fun _ h => by cases h) (by kernel_rfl) (fun _ h => by cases h) pieceNear_row_tie rfl ⟨rfl, rfl⟩ (by kernel_rfl) rfl
    (fun f fn hf hfn => by
      obtain rfl : f = 3 := Option.some.inj ((show Tryd.prog.funcNamed "raddle/raddlelaw37.PieceNear" = some 3 by kernel_rfl).symm.trans hf) |>.symm
      obtain rfl : fn = Tryd.f3 := (Option.some.inj (Tryd.func3.symm.trans hfn)).symm
      exact ⟨by kernel_rfl, fun j t ht => by
        rw [Tryd.params3] at ht
        have hm : t ∈ [24] := by simpa using Array.mem_of_getElem? ht
        have hall : ([24].all fun u => !Tryd.prog.wantsStandIn u) = true := by kernel_rfl
        exact (show Tryd.prog.wantsStandIn t = false by simpa using List.all_eq_true.1 hall t hm)⟩)
    (by kernel_rfl)
end framePieceNear
theorem pieceNear_holds : Rows.PieceNearCardSaid := framePieceNear.card

end Go.Proofs.YtmedbnjhgkcndaaDoor
