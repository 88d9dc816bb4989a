import Derived.Test.YtmedbnjhgkcndaaGTy
import Derived.Test.YtmedbnjhgkcndaaG64
import Derived.Test.YtmedbnjhgkcndaaG65
namespace Go.Proofs.Ytmedbnjhgkcndaa
open Go.RowKit
set_option linter.unusedVariables false

noncomputable def F_raddleref37_placed (p0 : api_Gauge) (p1 : api_Point) : Option (api_Point × Int) :=
  Option.bind (F_raddleref35_Stitches p0 p1.X) fun r6 =>
  Option.bind (α := (Int × Int)) (
    Option.bind (α := Bool) (
      if decide (p1.X < 0) then
        some (decide ((-1000000) ≤ p1.X))
      else
        some false) fun o12 =>
    if o12 then
      Option.bind (F_raddleref35_Stitches p0 (w64 (0 - p1.X))) fun r18 =>
      some (w64 (0 - r18.1), r18.2)
    else
      some (r6.1, r6.2)) fun (o8, o9) =>
  if o9 != 0 then
    some ((api_Point.mk 0 0), o9)
  else
    Option.bind (F_raddleref35_Rows p0 p1.Y) fun r25 =>
    if r25.2 != 0 then
      some ((api_Point.mk 0 0), r25.2)
    else
      some ((api_Point.mk o8 r25.1), 0)
def c_raddleref37_placed_val (r : (api_Point × Int)) (x : Value) : Value := .tuple #[x, .int .i64 r.2]
def c_raddleref37_placed_D (r : (api_Point × Int)) (x : Value) : List Fact := [fRep r_api_Point x r.1]
set_option maxHeartbeats 4000000 in
set_option maxRecDepth 100000 in
theorem c_raddleref37_placed (E : Nat → Prop) (w0 : World) (p0 : api_Gauge) (v0 : Value) (p1 : api_Point) (v1 : Value) (r : (api_Point × Int)) (h : F_raddleref37_placed p0 p1 = some r) (S : St0 E [] w0 w0 [] [fRep r_api_Gauge v0 p0, fRep r_api_Point v1 p1]) :
    Calls Try.prog 48 #[v0, v1] w0 (Ret (X := Value) E [] w0 (c_raddleref37_placed_val r) (fun _ => []) (c_raddleref37_placed_D r)) := by
  unfold F_raddleref37_placed at h
  obtain rfl : v0 = .agg #[.int .i64 p0.Stitches, .int .i64 p0.Width, .int .i64 p0.Rows, .int .i64 p0.Height] := S.know (i := 0) (e := fRep r_api_Gauge (v0) p0) (by kernel_rfl)
  obtain rfl : v1 = .agg #[.int .i64 p1.X, .int .i64 p1.Y] := S.know (i := 1) (e := fRep r_api_Point (v1) p1) (by kernel_rfl)
  refine sEnter (args := [.agg #[.int .i64 p0.Stitches, .int .i64 p0.Width, .int .i64 p0.Rows, .int .i64 p0.Height], .agg #[.int .i64 p1.X, .int .i64 p1.Y]]) 52 Try.func48 rfl rfl (by simp) S (fun a S => ?_)
  refine sSeq (fun K1 hK1 => ?_)
  refine sRegion ?_
  refine sBox (v := .agg #[.int .i64 p0.Stitches, .int .i64 p0.Width, .int .i64 p0.Rows, .int .i64 p0.Height]) S (wN rfl) rfl (by kernel_rfl) [.int .i64 p0.Stitches, .int .i64 p0.Width, .int .i64 p0.Rows, .int .i64 p0.Height] rfl rfl (by decide) (fun a b2 w S => ?_)
  refine sBox (v := .agg #[.int .i64 p1.X, .int .i64 p1.Y]) S (wN rfl) rfl (by kernel_rfl) [.int .i64 p1.X, .int .i64 p1.Y] rfl rfl (by decide) (fun a b3 w S => ?_)
  refine sAlloc (.agg #[.int .i64 0, .int .i64 0]) S (wN rfl) rfl (by kernel_rfl) [.int .i64 0, .int .i64 0] rfl rfl (by decide) (fun a b4 w S => ?_)
  refine sMove (.int .i64 0) S (wN rfl) (.inr rfl) (by kernel_rfl) rfl (by decide) (fun a S => ?_)
  refine leafL (leafT (hK1 _ _ ?_))
  refine sSeq (fun K5 hK5 => ?_)
  refine sRegion ?_
  refine sLoadN (p := b2) (off := 0) (T := 23) (vs := [.int .i64 p0.Stitches, .int .i64 p0.Width, .int .i64 p0.Rows, .int .i64 p0.Height]) 2 [.int .i64 p0.Stitches, .int .i64 p0.Width, .int .i64 p0.Rows, .int .i64 p0.Height] S (wN rfl) rfl (by kernel_rfl) (by kernel_rfl) (by kernel_rfl) (by kernel_rfl) rfl rfl (by decide) (fun a S => ?_)
  refine sField (b := b3) (off := 0) 0 0 S (wN rfl) rfl (by kernel_rfl) (by kernel_rfl) rfl rfl (by decide) (fun a S => ?_)
  refine sLoad1 (p := b3) (off := 0) (T := 75) (vs := [.int .i64 p1.X, .int .i64 p1.Y]) 1 (.int .i64 p1.X) S (wN rfl) rfl (by kernel_rfl) (by kernel_rfl) (by kernel_rfl) rfl rfl (by decide) (fun a S => ?_)
  obtain ⟨r6, hx7, h⟩ := bindSome h
  have S1 := S.mem
  refine sCallQ (X := Unit) (f := 64) (vs := [.agg #[.int .i64 p0.Stitches, .int .i64 p0.Width, .int .i64 p0.Rows, .int .i64 p0.Height], .int .i64 p1.X]) (val := fun _ => .tuple #[.int .i64 r6.1, .int .i64 r6.2]) S (wN rfl) rfl callee64 (by kernel_rfl) (S1.quiet [0] (by kernel_rfl)) (fun E1 w1 S1 => c_raddleref35_Stitches E1 w1 p0 (.agg #[.int .i64 p0.Stitches, .int .i64 p0.Width, .int .i64 p0.Rows, .int .i64 p0.Height]) p1.X r6 hx7 S1) rfl (by decide) (fun _ a w S => ?_)
  refine sMove (.tuple #[.int .i64 r6.1, .int .i64 r6.2]) S (wN rfl) (.inl rfl) (by kernel_rfl) rfl (by decide) (fun a S => ?_)
  refine sExtract (vs := [.int .i64 r6.1, .int .i64 r6.2]) (.int .i64 r6.1) S (wN rfl) rfl (by kernel_rfl) rfl rfl (by decide) (fun a S => ?_)
  refine sExtract (vs := [.int .i64 r6.1, .int .i64 r6.2]) (.int .i64 r6.2) S (wN rfl) rfl (by kernel_rfl) rfl rfl (by decide) (fun a S => ?_)
  refine sMove (.int .i64 r6.1) S (wN rfl) (.inr rfl) (by kernel_rfl) rfl (by decide) (fun a S => ?_)
  refine sMove (.int .i64 r6.2) S (wN rfl) (.inr rfl) (by kernel_rfl) rfl (by decide) (fun a S => ?_)
  refine leafL (leafT (hK5 _ _ ?_))
  obtain ⟨t10, h, g11⟩ := bindSome h
  refine sCut (fun a w => ∃ o8, ∃ o9, (o8, o9) = t10 ∧ St E [] w0 52 a w [(2, .pointer (some ⟨b2, 0, none⟩)), (3, .pointer (some ⟨b3, 0, none⟩)), (4, .pointer (some ⟨b4, 0, none⟩)), (6, .int .i64 o8), (7, .int .i64 o9)] [eBox b2 23 [.int .i64 p0.Stitches, .int .i64 p0.Width, .int .i64 p0.Rows, .int .i64 p0.Height], eBox b3 75 [.int .i64 p1.X, .int .i64 p1.Y], eBox b4 75 [.int .i64 0, .int .i64 0]] []) ?_ (fun a w hI => ?_)
  · obtain ⟨t13, h, g14⟩ := bindSome h
    refine sCut (fun a w => ∃ o12, o12 = t13 ∧ St E [] w0 52 a w [(2, .pointer (some ⟨b2, 0, none⟩)), (3, .pointer (some ⟨b3, 0, none⟩)), (4, .pointer (some ⟨b4, 0, none⟩)), (6, .int .i64 r6.1), (7, .int .i64 r6.2), (23, .bool o12)] [eBox b2 23 [.int .i64 p0.Stitches, .int .i64 p0.Width, .int .i64 p0.Rows, .int .i64 p0.Height], eBox b3 75 [.int .i64 p1.X, .int .i64 p1.Y], eBox b4 75 [.int .i64 0, .int .i64 0]] []) ?_ (fun a w hI => ?_)
    · refine sRegion ?_
      refine sField (b := b3) (off := 0) 0 0 S (wN rfl) rfl (by kernel_rfl) (by kernel_rfl) rfl rfl (by decide) (fun a S => ?_)
      refine sLoad1 (p := b3) (off := 0) (T := 75) (vs := [.int .i64 p1.X, .int .i64 p1.Y]) 1 (.int .i64 p1.X) S (wN rfl) rfl (by kernel_rfl) (by kernel_rfl) (by kernel_rfl) rfl rfl (by decide) (fun a S => ?_)
      refine sBin (.bool (decide (p1.X < 0))) S (wN rfl) rfl (by kernel_rfl) (by kernel_rfl) (bLt _ _ _ _ .i64 p1.X 0) rfl (by decide) (fun a S => ?_)
      refine sMove (.bool (decide (p1.X < 0))) S (wN rfl) (.inl rfl) (by kernel_rfl) rfl (by decide) (fun a S => ?_)
      rcases iteSome h with ⟨hc15, h⟩ | ⟨hc15, h⟩
      · refine sField (b := b3) (off := 0) 0 0 S (wG (c := decide (p1.X < 0)) 3 true 19 rfl rfl (by kernel_rfl) hc15) rfl (by kernel_rfl) (by kernel_rfl) rfl rfl (by decide) (fun a S => ?_)
        refine sLoad1 (p := b3) (off := 0) (T := 75) (vs := [.int .i64 p1.X, .int .i64 p1.Y]) 1 (.int .i64 p1.X) S (wG (c := decide (p1.X < 0)) 3 true 19 rfl rfl (by kernel_rfl) hc15) rfl (by kernel_rfl) (by kernel_rfl) (by kernel_rfl) rfl rfl (by decide) (fun a S => ?_)
        refine sBin (.bool (decide ((-1000000) ≤ p1.X))) S (wG (c := decide (p1.X < 0)) 3 true 19 rfl rfl (by kernel_rfl) hc15) rfl (by kernel_rfl) (by kernel_rfl) (bGe _ _ _ _ .i64 p1.X (-1000000)) rfl (by decide) (fun a S => ?_)
        refine sPickT (b := decide (p1.X < 0)) (.bool (decide ((-1000000) ≤ p1.X))) S (wN rfl) rfl (by kernel_rfl) hc15 (by kernel_rfl) rfl (by decide) (fun a S => ?_)
        exact leafL (leafT (⟨decide ((-1000000) ≤ p1.X), Option.some.inj h, S.fix [2, 1, 0] [] (by decide) (by kernel_rfl) (by kernel_rfl) (by kernel_rfl)⟩))
      · refine sSkip (c := decide (p1.X < 0)) 3 true 19 20 S rfl rfl (by kernel_rfl) hc15 rfl (by decide) (fun a S => ?_)
        refine sSkip (c := decide (p1.X < 0)) 3 true 19 21 S rfl rfl (by kernel_rfl) hc15 rfl (by decide) (fun a S => ?_)
        refine sSkip (c := decide (p1.X < 0)) 3 true 19 22 S rfl rfl (by kernel_rfl) hc15 rfl (by decide) (fun a S => ?_)
        refine sPickF (b := decide (p1.X < 0)) (.bool false) S (wN rfl) rfl (by kernel_rfl) hc15 (by kernel_rfl) rfl (by decide) (fun a S => ?_)
        exact leafL (leafT (⟨false, Option.some.inj h, S.fix [2, 1, 0] [] (by decide) (by kernel_rfl) (by kernel_rfl) (by kernel_rfl)⟩))
    · obtain ⟨o12, rfl, S⟩ := hI
      have h := g14
      clear g14
      try dsimp only at h
      rcases iteSome h with ⟨hc16, h⟩ | ⟨hc16, h⟩
      · refine sCondT (b := o12) S (by kernel_rfl) hc16 ?_
        refine sSeq (fun K17 hK17 => ?_)
        refine sRegion ?_
        refine sLoadN (p := b2) (off := 0) (T := 23) (vs := [.int .i64 p0.Stitches, .int .i64 p0.Width, .int .i64 p0.Rows, .int .i64 p0.Height]) 0 [.int .i64 p0.Stitches, .int .i64 p0.Width, .int .i64 p0.Rows, .int .i64 p0.Height] S (wN rfl) rfl (by kernel_rfl) (by kernel_rfl) (by kernel_rfl) (by kernel_rfl) rfl rfl (by decide) (fun a S => ?_)
        refine sField (b := b3) (off := 0) 0 0 S (wN rfl) rfl (by kernel_rfl) (by kernel_rfl) rfl rfl (by decide) (fun a S => ?_)
        refine sLoad1 (p := b3) (off := 0) (T := 75) (vs := [.int .i64 p1.X, .int .i64 p1.Y]) 1 (.int .i64 p1.X) S (wN rfl) rfl (by kernel_rfl) (by kernel_rfl) (by kernel_rfl) rfl rfl (by decide) (fun a S => ?_)
        refine sNeg (b := p1.X) S (wN rfl) rfl (by kernel_rfl) rfl (by decide) (fun a S => ?_)
        obtain ⟨r18, hx19, h⟩ := bindSome h
        have S1 := S.mem
        have S1 := S1.learn (fRep r_api_Gauge (.agg #[.int .i64 p0.Stitches, .int .i64 p0.Width, .int .i64 p0.Rows, .int .i64 p0.Height]) p0) rfl
        refine sCallQ (X := Unit) (f := 64) (vs := [.agg #[.int .i64 p0.Stitches, .int .i64 p0.Width, .int .i64 p0.Rows, .int .i64 p0.Height], .int .i64 (w64 (0 - p1.X))]) (val := fun _ => .tuple #[.int .i64 r18.1, .int .i64 r18.2]) S (wN rfl) rfl callee64 (by kernel_rfl) (S1.quiet [0] (by kernel_rfl)) (fun E1 w1 S1 => c_raddleref35_Stitches E1 w1 p0 (.agg #[.int .i64 p0.Stitches, .int .i64 p0.Width, .int .i64 p0.Rows, .int .i64 p0.Height]) (w64 (0 - p1.X)) r18 hx19 S1) rfl (by decide) (fun _ a w S => ?_)
        refine sMove (.tuple #[.int .i64 r18.1, .int .i64 r18.2]) S (wN rfl) (.inl rfl) (by kernel_rfl) rfl (by decide) (fun a S => ?_)
        refine sExtract (vs := [.int .i64 r18.1, .int .i64 r18.2]) (.int .i64 r18.1) S (wN rfl) rfl (by kernel_rfl) rfl rfl (by decide) (fun a S => ?_)
        refine sExtract (vs := [.int .i64 r18.1, .int .i64 r18.2]) (.int .i64 r18.2) S (wN rfl) rfl (by kernel_rfl) rfl rfl (by decide) (fun a S => ?_)
        refine sMove (.int .i64 r18.1) S (wN rfl) (.inr rfl) (by kernel_rfl) rfl (by decide) (fun a S => ?_)
        refine sMove (.int .i64 r18.2) S (wN rfl) (.inr rfl) (by kernel_rfl) rfl (by decide) (fun a S => ?_)
        refine leafL (leafT (hK17 _ _ ?_))
        refine sRegion ?_
        refine sMove (.int .i64 r18.1) S (wN rfl) (.inl rfl) (by kernel_rfl) rfl (by decide) (fun a S => ?_)
        refine sNeg (b := r18.1) S (wN rfl) rfl (by kernel_rfl) rfl (by decide) (fun a S => ?_)
        refine sMove (.int .i64 (w64 (0 - r18.1))) S (wN rfl) (.inr rfl) (by kernel_rfl) rfl (by decide) (fun a S => ?_)
        exact leafL (leafT (⟨w64 (0 - r18.1), r18.2, Option.some.inj h, S.fix [0, 1, 2] [] (by decide) (by kernel_rfl) (by kernel_rfl) (by kernel_rfl)⟩))
      · refine sCondF (b := o12) S (by kernel_rfl) hc16 ?_
        exact wp_skip (leafT (⟨r6.1, r6.2, Option.some.inj h, S.fix [0, 1, 2] [] (by decide) (by kernel_rfl) (by kernel_rfl) (by kernel_rfl)⟩))
  · obtain ⟨o8, o9, rfl, S⟩ := hI
    have h := g11
    clear g11
    try dsimp only at h
    refine sSeq (fun K20 hK20 => ?_)
    refine sSeq (fun K21 hK21 => ?_)
    refine sRegion ?_
    refine sMove (.int .i64 o9) S (wN rfl) (.inl rfl) (by kernel_rfl) rfl (by decide) (fun a S => ?_)
    refine sBin (.bool (o9 != 0)) S (wN rfl) rfl (by kernel_rfl) (by kernel_rfl) (bNe _ _ _ _ .i64 o9 0) rfl (by decide) (fun a S => ?_)
    refine leafL (leafT (hK21 _ _ ?_))
    rcases iteSome h with ⟨hc22, h⟩ | ⟨hc22, h⟩
    · refine sCondT (b := o9 != 0) S (by kernel_rfl) hc22 ?_
      refine sSeq (fun K23 hK23 => ?_)
      refine sRegion ?_
      refine sBuild [] [.int .i64 0, .int .i64 0] S (wN rfl) rfl (by kernel_rfl) (by kernel_rfl) rfl (by decide) (fun a S => ?_)
      refine sMove (.int .i64 o9) S (wN rfl) (.inl rfl) (by kernel_rfl) rfl (by decide) (fun a S => ?_)
      refine sStore (p := b4) (off := 0) (T := 75) (vs := [.int .i64 0, .int .i64 0]) (v := .agg #[.int .i64 0, .int .i64 0]) 2 [.int .i64 0, .int .i64 0] S (wN rfl) rfl (by kernel_rfl) (by kernel_rfl) rfl (by kernel_rfl) (by kernel_rfl) rfl (by simp) rfl (fun a w S => ?_)
      refine sMove (.int .i64 o9) S (wN rfl) (.inr rfl) (by kernel_rfl) rfl (by decide) (fun a S => ?_)
      refine leafL (leafT (hK23 _ _ ?_))
      obtain rfl := Option.some.inj h
      have S := S.learn (fRep r_api_Point (.agg #[.int .i64 0, .int .i64 0]) (api_Point.mk 0 0)) rfl
      exact wp_ret (rThen (sRet (.tuple #[.agg #[.int .i64 0, .int .i64 0], .int .i64 o9]) S (rsl2 rfl (rvN (c := 4) (t := 75) (T := 75) (p := b4) 0 [.int .i64 0, .int .i64 0] S (by kernel_rfl) (by kernel_rfl) (by kernel_rfl) (by kernel_rfl)) (rvT (t := 5) (v := .int .i64 o9) S (by kernel_rfl))) ⟨(.agg #[.int .i64 0, .int .i64 0]), rfl, S.mem.sel [] [0] (by decide) (by kernel_rfl) (by kernel_rfl)⟩))
    · refine sCondF (b := o9 != 0) S (by kernel_rfl) hc22 ?_
      refine wp_skip (leafT (hK20 _ _ ?_))
      refine sSeq (fun K24 hK24 => ?_)
      refine sRegion ?_
      refine sLoadN (p := b2) (off := 0) (T := 23) (vs := [.int .i64 p0.Stitches, .int .i64 p0.Width, .int .i64 p0.Rows, .int .i64 p0.Height]) 0 [.int .i64 p0.Stitches, .int .i64 p0.Width, .int .i64 p0.Rows, .int .i64 p0.Height] S (wN rfl) rfl (by kernel_rfl) (by kernel_rfl) (by kernel_rfl) (by kernel_rfl) rfl rfl (by decide) (fun a S => ?_)
      refine sField (b := b3) (off := 0) 1 1 S (wN rfl) rfl (by kernel_rfl) (by kernel_rfl) rfl rfl (by decide) (fun a S => ?_)
      refine sLoad1 (p := b3) (off := 1) (T := 75) (vs := [.int .i64 p1.X, .int .i64 p1.Y]) 1 (.int .i64 p1.Y) S (wN rfl) rfl (by kernel_rfl) (by kernel_rfl) (by kernel_rfl) rfl rfl (by decide) (fun a S => ?_)
      obtain ⟨r25, hx26, h⟩ := bindSome h
      have S1 := S.mem
      have S1 := S1.learn (fRep r_api_Gauge (.agg #[.int .i64 p0.Stitches, .int .i64 p0.Width, .int .i64 p0.Rows, .int .i64 p0.Height]) p0) rfl
      refine sCallQ (X := Unit) (f := 65) (vs := [.agg #[.int .i64 p0.Stitches, .int .i64 p0.Width, .int .i64 p0.Rows, .int .i64 p0.Height], .int .i64 p1.Y]) (val := fun _ => .tuple #[.int .i64 r25.1, .int .i64 r25.2]) S (wN rfl) rfl callee65 (by kernel_rfl) (S1.quiet [0] (by kernel_rfl)) (fun E1 w1 S1 => c_raddleref35_Rows E1 w1 p0 (.agg #[.int .i64 p0.Stitches, .int .i64 p0.Width, .int .i64 p0.Rows, .int .i64 p0.Height]) p1.Y r25 hx26 S1) rfl (by decide) (fun _ a w S => ?_)
      refine sMove (.tuple #[.int .i64 r25.1, .int .i64 r25.2]) S (wN rfl) (.inl rfl) (by kernel_rfl) rfl (by decide) (fun a S => ?_)
      refine sExtract (vs := [.int .i64 r25.1, .int .i64 r25.2]) (.int .i64 r25.1) S (wN rfl) rfl (by kernel_rfl) rfl rfl (by decide) (fun a S => ?_)
      refine sExtract (vs := [.int .i64 r25.1, .int .i64 r25.2]) (.int .i64 r25.2) S (wN rfl) rfl (by kernel_rfl) rfl rfl (by decide) (fun a S => ?_)
      refine sMove (.int .i64 r25.1) S (wN rfl) (.inr rfl) (by kernel_rfl) rfl (by decide) (fun a S => ?_)
      refine sMove (.int .i64 r25.2) S (wN rfl) (.inr rfl) (by kernel_rfl) rfl (by decide) (fun a S => ?_)
      refine leafL (leafT (hK24 _ _ ?_))
      refine sSeq (fun K27 hK27 => ?_)
      refine sSeq (fun K28 hK28 => ?_)
      refine sRegion ?_
      refine sMove (.int .i64 r25.2) S (wN rfl) (.inl rfl) (by kernel_rfl) rfl (by decide) (fun a S => ?_)
      refine sBin (.bool (r25.2 != 0)) S (wN rfl) rfl (by kernel_rfl) (by kernel_rfl) (bNe _ _ _ _ .i64 r25.2 0) rfl (by decide) (fun a S => ?_)
      refine leafL (leafT (hK28 _ _ ?_))
      rcases iteSome h with ⟨hc29, h⟩ | ⟨hc29, h⟩
      · refine sCondT (b := r25.2 != 0) S (by kernel_rfl) hc29 ?_
        refine sSeq (fun K30 hK30 => ?_)
        refine sRegion ?_
        refine sBuild [] [.int .i64 0, .int .i64 0] S (wN rfl) rfl (by kernel_rfl) (by kernel_rfl) rfl (by decide) (fun a S => ?_)
        refine sMove (.int .i64 r25.2) S (wN rfl) (.inl rfl) (by kernel_rfl) rfl (by decide) (fun a S => ?_)
        refine sStore (p := b4) (off := 0) (T := 75) (vs := [.int .i64 0, .int .i64 0]) (v := .agg #[.int .i64 0, .int .i64 0]) 2 [.int .i64 0, .int .i64 0] S (wN rfl) rfl (by kernel_rfl) (by kernel_rfl) rfl (by kernel_rfl) (by kernel_rfl) rfl (by simp) rfl (fun a w S => ?_)
        refine sMove (.int .i64 r25.2) S (wN rfl) (.inr rfl) (by kernel_rfl) rfl (by decide) (fun a S => ?_)
        refine leafL (leafT (hK30 _ _ ?_))
        obtain rfl := Option.some.inj h
        have S := S.learn (fRep r_api_Point (.agg #[.int .i64 0, .int .i64 0]) (api_Point.mk 0 0)) rfl
        exact wp_ret (rThen (sRet (.tuple #[.agg #[.int .i64 0, .int .i64 0], .int .i64 r25.2]) S (rsl2 rfl (rvN (c := 4) (t := 75) (T := 75) (p := b4) 0 [.int .i64 0, .int .i64 0] S (by kernel_rfl) (by kernel_rfl) (by kernel_rfl) (by kernel_rfl)) (rvT (t := 5) (v := .int .i64 r25.2) S (by kernel_rfl))) ⟨(.agg #[.int .i64 0, .int .i64 0]), rfl, S.mem.sel [] [0] (by decide) (by kernel_rfl) (by kernel_rfl)⟩))
      · refine sCondF (b := r25.2 != 0) S (by kernel_rfl) hc29 ?_
        refine wp_skip (leafT (hK27 _ _ ?_))
        refine sSeq (fun K31 hK31 => ?_)
        refine sRegion ?_
        refine sMove (.int .i64 o8) S (wN rfl) (.inl rfl) (by kernel_rfl) rfl (by decide) (fun a S => ?_)
        refine sMove (.int .i64 r25.1) S (wN rfl) (.inl rfl) (by kernel_rfl) rfl (by decide) (fun a S => ?_)
        refine sBuild [(0, .int .i64 o8), (1, .int .i64 r25.1)] [.int .i64 o8, .int .i64 r25.1] S (wN rfl) rfl (by kernel_rfl) (by kernel_rfl) rfl (by decide) (fun a S => ?_)
        refine sStore (p := b4) (off := 0) (T := 75) (vs := [.int .i64 0, .int .i64 0]) (v := .agg #[.int .i64 o8, .int .i64 r25.1]) 2 [.int .i64 o8, .int .i64 r25.1] S (wN rfl) rfl (by kernel_rfl) (by kernel_rfl) rfl (by kernel_rfl) (by kernel_rfl) rfl (by simp) rfl (fun a w S => ?_)
        refine sMove (.int .i64 0) S (wN rfl) (.inr rfl) (by kernel_rfl) rfl (by decide) (fun a S => ?_)
        refine leafL (leafT (hK31 _ _ ?_))
        obtain rfl := Option.some.inj h
        have S := S.learn (fRep r_api_Point (.agg #[.int .i64 o8, .int .i64 r25.1]) (api_Point.mk o8 r25.1)) rfl
        exact wp_ret (sRet (.tuple #[.agg #[.int .i64 o8, .int .i64 r25.1], .int .i64 0]) S (rsl2 rfl (rvN (c := 4) (t := 75) (T := 75) (p := b4) 0 [.int .i64 o8, .int .i64 r25.1] S (by kernel_rfl) (by kernel_rfl) (by kernel_rfl) (by kernel_rfl)) (rvT (t := 5) (v := .int .i64 0) S (by kernel_rfl))) ⟨(.agg #[.int .i64 o8, .int .i64 r25.1]), rfl, S.mem.sel [] [0] (by decide) (by kernel_rfl) (by kernel_rfl)⟩)

end Go.Proofs.Ytmedbnjhgkcndaa
