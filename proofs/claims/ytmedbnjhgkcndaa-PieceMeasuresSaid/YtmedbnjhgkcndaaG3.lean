import Derived.Test.YtmedbnjhgkcndaaGTy
import Derived.Test.YtmedbnjhgkcndaaG6
import Derived.Test.YtmedbnjhgkcndaaG7
import Derived.Test.YtmedbnjhgkcndaaG8
namespace Go.Proofs.Ytmedbnjhgkcndaa
open Go.RowKit
set_option linter.unusedVariables false

noncomputable def F_raddlelaw37_PieceMeasures (p0 : api_Gauge) (p1 : (List api_Point)) (p2 : (List api_Point)) : Option Bool :=
  Option.bind (α := Bool) (
    if decide (55 < (p1.length : Int)) then
      some true
    else
      some (decide (55 < (p2.length : Int)))) fun o8 =>
  if o8 then
    some true
  else
    Option.bind (F_piece_Measure p0 p1 p2) fun r15 =>
    Option.bind (F_raddleref37_Measure p0 p1 p2) fun r28 =>
    Option.bind (α := Bool) (
      Option.bind (F_raddleref37_SamePoints r15.1.Left r28.1.Left) fun r43 =>
      if r43 then
        Option.bind (F_raddleref37_SamePoints r15.1.Right r28.1.Right) fun r46 =>
        if r46 then
          some (r15.2 == r28.2)
        else
          some false
      else
        some false) fun o40 =>
    some o40
set_option maxHeartbeats 4000000 in
set_option maxRecDepth 100000 in
theorem c_raddlelaw37_PieceMeasures (E : Nat → Prop) (w0 : World) (p0 : api_Gauge) (v0 : Value) (p1 : (List api_Point)) (v1 : Value) (p2 : (List api_Point)) (v2 : Value) (r : Bool) (h : F_raddlelaw37_PieceMeasures p0 p1 p2 = some r) (S : St0 E [] w0 w0 [] [fRep r_api_Gauge v0 p0, fRep (rL r_api_Point) v1 p1, fRep (rL r_api_Point) v2 p2]) :
    Calls Try.prog 3 #[v0, v1, v2] w0 (Ret (X := Unit) E [] w0 (fun _ => .bool r) (fun _ => []) (fun _ => [])) := by
  unfold F_raddlelaw37_PieceMeasures at h
  obtain rfl : v0 = .agg #[.int .i64 p0.Stitches, .int .i64 p0.Width, .int .i64 p0.Rows, .int .i64 p0.Height] := S.know (i := 0) (e := fRep r_api_Gauge (v0) p0) (by kernel_rfl)
  obtain ⟨ad1, cp2, _, rfl, _⟩ := S.know (i := 1) (e := fRep (rL r_api_Point) (v1) p1) (by kernel_rfl)
  obtain ⟨ad3, cp4, _, rfl, _⟩ := S.know (i := 2) (e := fRep (rL r_api_Point) (v2) p2) (by kernel_rfl)
  refine sEnter (args := [.agg #[.int .i64 p0.Stitches, .int .i64 p0.Width, .int .i64 p0.Rows, .int .i64 p0.Height], .slice ad1 p1.length cp2, .slice ad3 p2.length cp4]) 50 Try.func3 rfl rfl (by simp) S (fun a S => ?_)
  refine sSeq (fun K5 hK5 => ?_)
  refine sRegion ?_
  refine sBox (v := .agg #[.int .i64 p0.Stitches, .int .i64 p0.Width, .int .i64 p0.Rows, .int .i64 p0.Height]) S (wN rfl) rfl (by kernel_rfl) [.int .i64 p0.Stitches, .int .i64 p0.Width, .int .i64 p0.Rows, .int .i64 p0.Height] rfl rfl (by decide) (fun a b6 w S => ?_)
  refine sMove (.bool false) S (wN rfl) (.inr rfl) (by kernel_rfl) rfl (by decide) (fun a S => ?_)
  refine leafL (leafT (hK5 _ _ ?_))
  refine sSeq (fun K7 hK7 => ?_)
  obtain ⟨t9, h, g10⟩ := bindSome h
  refine sCut (fun a w => ∃ o8, o8 = t9 ∧ St E [] w0 50 a w [(1, .slice ad1 p1.length cp2), (2, .slice ad3 p2.length cp4), (3, .pointer (some ⟨b6, 0, none⟩)), (18, .bool o8)] [eBox b6 23 [.int .i64 p0.Stitches, .int .i64 p0.Width, .int .i64 p0.Rows, .int .i64 p0.Height]] [fRep (rL r_api_Point) (.slice ad1 p1.length cp2) p1, fRep (rL r_api_Point) (.slice ad3 p2.length cp4) p2]) ?_ (fun a w hI => ?_)
  · refine sRegion ?_
    refine sMove (.slice ad1 p1.length cp2) S (wN rfl) (.inl rfl) (by kernel_rfl) rfl (by decide) (fun a S => ?_)
    refine sLen (ad := ad1) (m := p1.length) (c := cp2) S (wN rfl) rfl Try.underlying24 (by kernel_rfl) rfl (by decide) (fun a S => ?_)
    refine sBin (.bool (decide (55 < (p1.length : Int)))) S (wN rfl) rfl (by kernel_rfl) (by kernel_rfl) (bGt _ _ _ _ .i64 (p1.length : Int) 55) rfl (by decide) (fun a S => ?_)
    refine sMove (.bool (decide (55 < (p1.length : Int)))) S (wN rfl) (.inl rfl) (by kernel_rfl) rfl (by decide) (fun a S => ?_)
    rcases iteSome h with ⟨hc11, h⟩ | ⟨hc11, h⟩
    · refine sSkip (c := decide (55 < (p1.length : Int))) 3 false 14 15 S rfl rfl (by kernel_rfl) hc11 rfl (by decide) (fun a S => ?_)
      refine sSkip (c := decide (55 < (p1.length : Int))) 3 false 14 16 S rfl rfl (by kernel_rfl) hc11 rfl (by decide) (fun a S => ?_)
      refine sSkip (c := decide (55 < (p1.length : Int))) 3 false 14 17 S rfl rfl (by kernel_rfl) hc11 rfl (by decide) (fun a S => ?_)
      refine sPickT (b := decide (55 < (p1.length : Int))) (.bool true) S (wN rfl) rfl (by kernel_rfl) hc11 (by kernel_rfl) rfl (by decide) (fun a S => ?_)
      exact leafL (leafT (⟨true, Option.some.inj h, S.fix [0] [1, 2] (by decide) (by kernel_rfl) (by kernel_rfl) (by kernel_rfl)⟩))
    · refine sMove (.slice ad3 p2.length cp4) S (wG (c := decide (55 < (p1.length : Int))) 3 false 14 rfl rfl (by kernel_rfl) hc11) (.inl rfl) (by kernel_rfl) rfl (by decide) (fun a S => ?_)
      refine sLen (ad := ad3) (m := p2.length) (c := cp4) S (wG (c := decide (55 < (p1.length : Int))) 3 false 14 rfl rfl (by kernel_rfl) hc11) rfl Try.underlying24 (by kernel_rfl) rfl (by decide) (fun a S => ?_)
      refine sBin (.bool (decide (55 < (p2.length : Int)))) S (wG (c := decide (55 < (p1.length : Int))) 3 false 14 rfl rfl (by kernel_rfl) hc11) rfl (by kernel_rfl) (by kernel_rfl) (bGt _ _ _ _ .i64 (p2.length : Int) 55) rfl (by decide) (fun a S => ?_)
      refine sPickF (b := decide (55 < (p1.length : Int))) (.bool (decide (55 < (p2.length : Int)))) S (wN rfl) rfl (by kernel_rfl) hc11 (by kernel_rfl) rfl (by decide) (fun a S => ?_)
      exact leafL (leafT (⟨decide (55 < (p2.length : Int)), Option.some.inj h, S.fix [0] [1, 2] (by decide) (by kernel_rfl) (by kernel_rfl) (by kernel_rfl)⟩))
  · obtain ⟨o8, rfl, S⟩ := hI
    have h := g10
    clear g10
    try dsimp only at h
    rcases iteSome h with ⟨hc12, h⟩ | ⟨hc12, h⟩
    · refine sCondT (b := o8) S (by kernel_rfl) hc12 ?_
      refine sSeq (fun K13 hK13 => ?_)
      refine sRegion ?_
      refine sMove (.bool true) S (wN rfl) (.inr rfl) (by kernel_rfl) rfl (by decide) (fun a S => ?_)
      refine leafL (leafT (hK13 _ _ ?_))
      obtain rfl := Option.some.inj h
      exact wp_ret (rThen (sRet (.bool true) S (rsl1 rfl (rvT (t := 6) (v := .bool true) S (by kernel_rfl))) ⟨(), rfl, S.mem.sel [] [] (by decide) (by kernel_rfl) (by kernel_rfl)⟩))
    · refine sCondF (b := o8) S (by kernel_rfl) hc12 ?_
      refine wp_skip (leafT (hK7 _ _ ?_))
      refine sSeq (fun K14 hK14 => ?_)
      refine sRegion ?_
      refine sLoadN (p := b6) (off := 0) (T := 23) (vs := [.int .i64 p0.Stitches, .int .i64 p0.Width, .int .i64 p0.Rows, .int .i64 p0.Height]) 0 [.int .i64 p0.Stitches, .int .i64 p0.Width, .int .i64 p0.Rows, .int .i64 p0.Height] S (wN rfl) rfl (by kernel_rfl) (by kernel_rfl) (by kernel_rfl) (by kernel_rfl) rfl rfl (by decide) (fun a S => ?_)
      refine sMove (.slice ad1 p1.length cp2) S (wN rfl) (.inl rfl) (by kernel_rfl) rfl (by decide) (fun a S => ?_)
      refine sMove (.slice ad3 p2.length cp4) S (wN rfl) (.inl rfl) (by kernel_rfl) rfl (by decide) (fun a S => ?_)
      obtain ⟨r15, hx16, h⟩ := bindSome h
      have S := S.learn (fRep r_api_Gauge (.agg #[.int .i64 p0.Stitches, .int .i64 p0.Width, .int .i64 p0.Rows, .int .i64 p0.Height]) p0) rfl
      refine sCall (X := Value) (f := 6) (vs := [.agg #[.int .i64 p0.Stitches, .int .i64 p0.Width, .int .i64 p0.Rows, .int .i64 p0.Height], .slice ad1 p1.length cp2, .slice ad3 p2.length cp4]) (val := c_piece_Measure_val r15) (B' := fun _ => []) (D' := c_piece_Measure_D r15) [] [eBox b6 23 [.int .i64 p0.Stitches, .int .i64 p0.Width, .int .i64 p0.Rows, .int .i64 p0.Height]] [fRep r_api_Gauge (.agg #[.int .i64 p0.Stitches, .int .i64 p0.Width, .int .i64 p0.Rows, .int .i64 p0.Height]) p0, fRep (rL r_api_Point) (.slice ad1 p1.length cp2) p1, fRep (rL r_api_Point) (.slice ad3 p2.length cp4) p2] [0] [0, 1, 2] S (wN rfl) rfl callee6 (by kernel_rfl) (by decide) (by kernel_rfl) (by kernel_rfl) (fun E1 w1 S1 => c_piece_Measure E1 w1 p0 (.agg #[.int .i64 p0.Stitches, .int .i64 p0.Width, .int .i64 p0.Rows, .int .i64 p0.Height]) p1 (.slice ad1 p1.length cp2) p2 (.slice ad3 p2.length cp4) r15 hx16 S1) rfl (by decide) (fun u17 a w S => ?_)
      obtain ⟨u18, u19, rfl, hu20, hu21⟩ := S.mem.know (i := 0) (e := fRep r_api_Shape (u17) r15.1) (by kernel_rfl)
      have S := S.learn (fRep (rL r_api_Point) u18 r15.1.Left) hu20
      obtain ⟨ad22, cp23, _, rfl, _⟩ := hu20
      have S := S.learn (fRep (rL r_api_Point) u19 r15.1.Right) hu21
      obtain ⟨ad24, cp25, _, rfl, _⟩ := hu21
      refine sMove (.tuple #[.agg #[.slice ad22 r15.1.Left.length cp23, .slice ad24 r15.1.Right.length cp25], .int .i64 r15.2]) S (wN rfl) (.inl rfl) (by kernel_rfl) rfl (by decide) (fun a S => ?_)
      refine sExtract (vs := [.agg #[.slice ad22 r15.1.Left.length cp23, .slice ad24 r15.1.Right.length cp25], .int .i64 r15.2]) (.agg #[.slice ad22 r15.1.Left.length cp23, .slice ad24 r15.1.Right.length cp25]) S (wN rfl) rfl (by kernel_rfl) rfl rfl (by decide) (fun a S => ?_)
      refine sExtract (vs := [.agg #[.slice ad22 r15.1.Left.length cp23, .slice ad24 r15.1.Right.length cp25], .int .i64 r15.2]) (.int .i64 r15.2) S (wN rfl) rfl (by kernel_rfl) rfl rfl (by decide) (fun a S => ?_)
      refine sAlloc (.agg #[.slice none 0 0, .slice none 0 0]) S (wN rfl) rfl (by kernel_rfl) [.slice none 0 0, .slice none 0 0] rfl rfl (by decide) (fun a b26 w S => ?_)
      refine sStore (p := b26) (off := 0) (T := 26) (vs := [.slice none 0 0, .slice none 0 0]) (v := .agg #[.slice ad22 r15.1.Left.length cp23, .slice ad24 r15.1.Right.length cp25]) 0 [.slice ad22 r15.1.Left.length cp23, .slice ad24 r15.1.Right.length cp25] S (wN rfl) rfl (by kernel_rfl) (by kernel_rfl) rfl (by kernel_rfl) (by kernel_rfl) rfl (by simp) rfl (fun a w S => ?_)
      refine sMove (.int .i64 r15.2) S (wN rfl) (.inr rfl) (by kernel_rfl) rfl (by decide) (fun a S => ?_)
      refine leafL (leafT (hK14 _ _ ?_))
      refine sSeq (fun K27 hK27 => ?_)
      refine sRegion ?_
      refine sLoadN (p := b6) (off := 0) (T := 23) (vs := [.int .i64 p0.Stitches, .int .i64 p0.Width, .int .i64 p0.Rows, .int .i64 p0.Height]) 1 [.int .i64 p0.Stitches, .int .i64 p0.Width, .int .i64 p0.Rows, .int .i64 p0.Height] S (wN rfl) rfl (by kernel_rfl) (by kernel_rfl) (by kernel_rfl) (by kernel_rfl) rfl rfl (by decide) (fun a S => ?_)
      refine sMove (.slice ad1 p1.length cp2) S (wN rfl) (.inl rfl) (by kernel_rfl) rfl (by decide) (fun a S => ?_)
      refine sMove (.slice ad3 p2.length cp4) S (wN rfl) (.inl rfl) (by kernel_rfl) rfl (by decide) (fun a S => ?_)
      obtain ⟨r28, hx29, h⟩ := bindSome h
      refine sCall (X := Value) (f := 7) (vs := [.agg #[.int .i64 p0.Stitches, .int .i64 p0.Width, .int .i64 p0.Rows, .int .i64 p0.Height], .slice ad1 p1.length cp2, .slice ad3 p2.length cp4]) (val := c_raddleref37_Measure_val r28) (B' := fun _ => []) (D' := c_raddleref37_Measure_D r28) [] [eBox b26 26 [.slice ad22 r15.1.Left.length cp23, .slice ad24 r15.1.Right.length cp25], eBox b6 23 [.int .i64 p0.Stitches, .int .i64 p0.Width, .int .i64 p0.Rows, .int .i64 p0.Height]] [fRep r_api_Gauge (.agg #[.int .i64 p0.Stitches, .int .i64 p0.Width, .int .i64 p0.Rows, .int .i64 p0.Height]) p0, fRep (rL r_api_Point) (.slice ad1 p1.length cp2) p1, fRep (rL r_api_Point) (.slice ad3 p2.length cp4) p2] [0, 1] [3, 4, 5] S (wN rfl) rfl callee7 (by kernel_rfl) (by decide) (by kernel_rfl) (by kernel_rfl) (fun E1 w1 S1 => c_raddleref37_Measure E1 w1 p0 (.agg #[.int .i64 p0.Stitches, .int .i64 p0.Width, .int .i64 p0.Rows, .int .i64 p0.Height]) p1 (.slice ad1 p1.length cp2) p2 (.slice ad3 p2.length cp4) r28 hx29 S1) rfl (by decide) (fun u30 a w S => ?_)
      obtain ⟨u31, u32, rfl, hu33, hu34⟩ := S.mem.know (i := 0) (e := fRep r_api_Shape (u30) r28.1) (by kernel_rfl)
      have S := S.learn (fRep (rL r_api_Point) u31 r28.1.Left) hu33
      obtain ⟨ad35, cp36, _, rfl, _⟩ := hu33
      have S := S.learn (fRep (rL r_api_Point) u32 r28.1.Right) hu34
      obtain ⟨ad37, cp38, _, rfl, _⟩ := hu34
      refine sMove (.tuple #[.agg #[.slice ad35 r28.1.Left.length cp36, .slice ad37 r28.1.Right.length cp38], .int .i64 r28.2]) S (wN rfl) (.inl rfl) (by kernel_rfl) rfl (by decide) (fun a S => ?_)
      refine sExtract (vs := [.agg #[.slice ad35 r28.1.Left.length cp36, .slice ad37 r28.1.Right.length cp38], .int .i64 r28.2]) (.agg #[.slice ad35 r28.1.Left.length cp36, .slice ad37 r28.1.Right.length cp38]) S (wN rfl) rfl (by kernel_rfl) rfl rfl (by decide) (fun a S => ?_)
      refine sExtract (vs := [.agg #[.slice ad35 r28.1.Left.length cp36, .slice ad37 r28.1.Right.length cp38], .int .i64 r28.2]) (.int .i64 r28.2) S (wN rfl) rfl (by kernel_rfl) rfl rfl (by decide) (fun a S => ?_)
      refine sAlloc (.agg #[.slice none 0 0, .slice none 0 0]) S (wN rfl) rfl (by kernel_rfl) [.slice none 0 0, .slice none 0 0] rfl rfl (by decide) (fun a b39 w S => ?_)
      refine sStore (p := b39) (off := 0) (T := 26) (vs := [.slice none 0 0, .slice none 0 0]) (v := .agg #[.slice ad35 r28.1.Left.length cp36, .slice ad37 r28.1.Right.length cp38]) 0 [.slice ad35 r28.1.Left.length cp36, .slice ad37 r28.1.Right.length cp38] S (wN rfl) rfl (by kernel_rfl) (by kernel_rfl) rfl (by kernel_rfl) (by kernel_rfl) rfl (by simp) rfl (fun a w S => ?_)
      refine sMove (.int .i64 r28.2) S (wN rfl) (.inr rfl) (by kernel_rfl) rfl (by decide) (fun a S => ?_)
      refine leafL (leafT (hK27 _ _ ?_))
      obtain ⟨t41, h, g42⟩ := bindSome h
      refine sCut (fun a w => ∃ o40, o40 = t41 ∧ St E [] w0 50 a w [(6, .bool o40)] [] []) ?_ (fun a w hI => ?_)
      · refine sRegion ?_
        refine sField (b := b26) (off := 0) 0 0 S (wN rfl) rfl (by kernel_rfl) (by kernel_rfl) rfl rfl (by decide) (fun a S => ?_)
        refine sLoad1 (p := b26) (off := 0) (T := 26) (vs := [.slice ad22 r15.1.Left.length cp23, .slice ad24 r15.1.Right.length cp25]) 1 (.slice ad22 r15.1.Left.length cp23) S (wN rfl) rfl (by kernel_rfl) (by kernel_rfl) (by kernel_rfl) rfl rfl (by decide) (fun a S => ?_)
        refine sField (b := b39) (off := 0) 0 0 S (wN rfl) rfl (by kernel_rfl) (by kernel_rfl) rfl rfl (by decide) (fun a S => ?_)
        refine sLoad1 (p := b39) (off := 0) (T := 26) (vs := [.slice ad35 r28.1.Left.length cp36, .slice ad37 r28.1.Right.length cp38]) 0 (.slice ad35 r28.1.Left.length cp36) S (wN rfl) rfl (by kernel_rfl) (by kernel_rfl) (by kernel_rfl) rfl rfl (by decide) (fun a S => ?_)
        obtain ⟨r43, hx44, h⟩ := bindSome h
        have S1 := S.mem
        refine sCallQ (X := Unit) (f := 8) (vs := [.slice ad22 r15.1.Left.length cp23, .slice ad35 r28.1.Left.length cp36]) (val := fun _ => .bool r43) S (wN rfl) rfl callee8 (by kernel_rfl) (S1.quiet [4, 1] (by kernel_rfl)) (fun E1 w1 S1 => c_raddleref37_SamePoints E1 w1 r15.1.Left (.slice ad22 r15.1.Left.length cp23) r28.1.Left (.slice ad35 r28.1.Left.length cp36) r43 hx44 S1) rfl (by decide) (fun _ a w S => ?_)
        refine sMove (.bool r43) S (wN rfl) (.inl rfl) (by kernel_rfl) rfl (by decide) (fun a S => ?_)
        rcases iteSome h with ⟨hc45, h⟩ | ⟨hc45, h⟩
        · refine sField (b := b26) (off := 0) 1 1 S (wG (c := r43) 5 true 38 rfl rfl (by kernel_rfl) hc45) rfl (by kernel_rfl) (by kernel_rfl) rfl rfl (by decide) (fun a S => ?_)
          refine sLoad1 (p := b26) (off := 1) (T := 26) (vs := [.slice ad22 r15.1.Left.length cp23, .slice ad24 r15.1.Right.length cp25]) 1 (.slice ad24 r15.1.Right.length cp25) S (wG (c := r43) 5 true 38 rfl rfl (by kernel_rfl) hc45) rfl (by kernel_rfl) (by kernel_rfl) (by kernel_rfl) rfl rfl (by decide) (fun a S => ?_)
          refine sField (b := b39) (off := 0) 1 1 S (wG (c := r43) 5 true 38 rfl rfl (by kernel_rfl) hc45) rfl (by kernel_rfl) (by kernel_rfl) rfl rfl (by decide) (fun a S => ?_)
          refine sLoad1 (p := b39) (off := 1) (T := 26) (vs := [.slice ad35 r28.1.Left.length cp36, .slice ad37 r28.1.Right.length cp38]) 0 (.slice ad37 r28.1.Right.length cp38) S (wG (c := r43) 5 true 38 rfl rfl (by kernel_rfl) hc45) rfl (by kernel_rfl) (by kernel_rfl) (by kernel_rfl) rfl rfl (by decide) (fun a S => ?_)
          obtain ⟨r46, hx47, h⟩ := bindSome h
          have S1 := S.mem
          refine sCallQ (X := Unit) (f := 8) (vs := [.slice ad24 r15.1.Right.length cp25, .slice ad37 r28.1.Right.length cp38]) (val := fun _ => .bool r46) S (wG (c := r43) 5 true 38 rfl rfl (by kernel_rfl) hc45) rfl callee8 (by kernel_rfl) (S1.quiet [3, 0] (by kernel_rfl)) (fun E1 w1 S1 => c_raddleref37_SamePoints E1 w1 r15.1.Right (.slice ad24 r15.1.Right.length cp25) r28.1.Right (.slice ad37 r28.1.Right.length cp38) r46 hx47 S1) rfl (by decide) (fun _ a w S => ?_)
          refine sPickT (b := r43) (.bool r46) S (wN rfl) rfl (by kernel_rfl) hc45 (by kernel_rfl) rfl (by decide) (fun a S => ?_)
          refine sMove (.bool r46) S (wN rfl) (.inl rfl) (by kernel_rfl) rfl (by decide) (fun a S => ?_)
          rcases iteSome h with ⟨hc48, h⟩ | ⟨hc48, h⟩
          · refine sMove (.int .i64 r15.2) S (wG (c := r46) 12 true 45 rfl rfl (by kernel_rfl) hc48) (.inl rfl) (by kernel_rfl) rfl (by decide) (fun a S => ?_)
            refine sMove (.int .i64 r28.2) S (wG (c := r46) 12 true 45 rfl rfl (by kernel_rfl) hc48) (.inl rfl) (by kernel_rfl) rfl (by decide) (fun a S => ?_)
            refine sBin (.bool (r15.2 == r28.2)) S (wG (c := r46) 12 true 45 rfl rfl (by kernel_rfl) hc48) rfl (by kernel_rfl) (by kernel_rfl) (bEq _ _ _ _ .i64 r15.2 r28.2) rfl (by decide) (fun a S => ?_)
            refine sPickT (b := r46) (.bool (r15.2 == r28.2)) S (wN rfl) rfl (by kernel_rfl) hc48 (by kernel_rfl) rfl (by decide) (fun a S => ?_)
            refine sMove (.bool (r15.2 == r28.2)) S (wN rfl) (.inr rfl) (by kernel_rfl) rfl (by decide) (fun a S => ?_)
            exact leafL (leafT (⟨r15.2 == r28.2, Option.some.inj h, S.fix [] [] (by decide) (by kernel_rfl) (by kernel_rfl) (by kernel_rfl)⟩))
          · refine sSkip (c := r46) 12 true 45 46 S rfl rfl (by kernel_rfl) hc48 rfl (by decide) (fun a S => ?_)
            refine sSkip (c := r46) 12 true 45 47 S rfl rfl (by kernel_rfl) hc48 rfl (by decide) (fun a S => ?_)
            refine sSkip (c := r46) 12 true 45 48 S rfl rfl (by kernel_rfl) hc48 rfl (by decide) (fun a S => ?_)
            refine sPickF (b := r46) (.bool false) S (wN rfl) rfl (by kernel_rfl) hc48 (by kernel_rfl) rfl (by decide) (fun a S => ?_)
            refine sMove (.bool false) S (wN rfl) (.inr rfl) (by kernel_rfl) rfl (by decide) (fun a S => ?_)
            exact leafL (leafT (⟨false, Option.some.inj h, S.fix [] [] (by decide) (by kernel_rfl) (by kernel_rfl) (by kernel_rfl)⟩))
        · refine sSkip (c := r43) 5 true 38 39 S rfl rfl (by kernel_rfl) hc45 rfl (by decide) (fun a S => ?_)
          refine sSkip (c := r43) 5 true 38 40 S rfl rfl (by kernel_rfl) hc45 rfl (by decide) (fun a S => ?_)
          refine sSkip (c := r43) 5 true 38 41 S rfl rfl (by kernel_rfl) hc45 rfl (by decide) (fun a S => ?_)
          refine sSkip (c := r43) 5 true 38 42 S rfl rfl (by kernel_rfl) hc45 rfl (by decide) (fun a S => ?_)
          refine sSkip (c := r43) 5 true 38 43 S rfl rfl (by kernel_rfl) hc45 rfl (by decide) (fun a S => ?_)
          refine sPickF (b := r43) (.bool false) S (wN rfl) rfl (by kernel_rfl) hc45 (by kernel_rfl) rfl (by decide) (fun a S => ?_)
          refine sMove (.bool false) S (wN rfl) (.inl rfl) (by kernel_rfl) rfl (by decide) (fun a S => ?_)
          refine sSkip (c := false) 12 true 45 46 S rfl rfl (by kernel_rfl) rfl rfl (by decide) (fun a S => ?_)
          refine sSkip (c := false) 12 true 45 47 S rfl rfl (by kernel_rfl) rfl rfl (by decide) (fun a S => ?_)
          refine sSkip (c := false) 12 true 45 48 S rfl rfl (by kernel_rfl) rfl rfl (by decide) (fun a S => ?_)
          refine sPickF (b := false) (.bool false) S (wN rfl) rfl (by kernel_rfl) rfl (by kernel_rfl) rfl (by decide) (fun a S => ?_)
          refine sMove (.bool false) S (wN rfl) (.inr rfl) (by kernel_rfl) rfl (by decide) (fun a S => ?_)
          exact leafL (leafT (⟨false, Option.some.inj h, S.fix [] [] (by decide) (by kernel_rfl) (by kernel_rfl) (by kernel_rfl)⟩))
      · obtain ⟨o40, rfl, S⟩ := hI
        have h := g42
        clear g42
        try dsimp only at h
        obtain rfl := Option.some.inj h
        exact wp_ret (sRet (.bool o40) S (rsl1 rfl (rvT (t := 6) (v := .bool o40) S (by kernel_rfl))) ⟨(), rfl, S.mem.sel [] [] (by decide) (by kernel_rfl) (by kernel_rfl)⟩)

end Go.Proofs.Ytmedbnjhgkcndaa
