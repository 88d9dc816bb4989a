import Derived.Test.YtmedbnjhgkcndaaGTy
import Derived.Test.YtmedbnjhgkcndaaG27
import Derived.Test.YtmedbnjhgkcndaaG28
namespace Go.Proofs.Ytmedbnjhgkcndaa
open Go.RowKit
set_option linter.unusedVariables false

noncomputable def F_piece_Measure (p0 : api_Gauge) (p1 : (List api_Point)) (p2 : (List api_Point)) : Option (api_Shape × Int) :=
  Option.bind (F_piece_place p0 p1) fun r13 =>
  if r13.2 != 0 then
    some ((api_Shape.mk ([] : (List api_Point)) ([] : (List api_Point))), r13.2)
  else
    Option.bind (F_piece_place p0 p2) fun r23 =>
    if r23.2 != 0 then
      some ((api_Shape.mk ([] : (List api_Point)) ([] : (List api_Point))), r23.2)
    else
      Option.bind (F_piece_shape (api_Shape.mk r13.1 r23.1)) fun r33 =>
      if r33 != 0 then
        some ((api_Shape.mk ([] : (List api_Point)) ([] : (List api_Point))), r33)
      else
        some ((api_Shape.mk r13.1 r23.1), 0)
def c_piece_Measure_val (r : (api_Shape × Int)) (x : Value) : Value := .tuple #[x, .int .i64 r.2]
def c_piece_Measure_D (r : (api_Shape × Int)) (x : Value) : List Fact := [fRep r_api_Shape x r.1]
set_option maxHeartbeats 4000000 in
set_option maxRecDepth 100000 in
theorem c_piece_Measure (E : Nat → Prop) (w0 : World) (p0 : api_Gauge) (v0 : Value) (p1 : (List api_Point)) (v1 : Value) (p2 : (List api_Point)) (v2 : Value) (r : (api_Shape × Int)) (h : F_piece_Measure p0 p1 p2 = some r) (S : St0 E [] w0 w0 [] [fRep r_api_Gauge v0 p0, fRep (rL r_api_Point) v1 p1, fRep (rL r_api_Point) v2 p2]) :
    Calls Try.prog 6 #[v0, v1, v2] w0 (Ret (X := Value) E [] w0 (c_piece_Measure_val r) (fun _ => []) (c_piece_Measure_D r)) := by
  unfold F_piece_Measure at h
  obtain rfl : v0 = .agg #[.int .i64 p0.Stitches, .int .i64 p0.Width, .int .i64 p0.Rows, .int .i64 p0.Height] := S.know (i := 0) (e := fRep r_api_Gauge (v0) p0) (by kernel_rfl)
  obtain ⟨ad1, cp2, _, rfl, _⟩ := S.know (i := 1) (e := fRep (rL r_api_Point) (v1) p1) (by kernel_rfl)
  obtain ⟨ad3, cp4, _, rfl, _⟩ := S.know (i := 2) (e := fRep (rL r_api_Point) (v2) p2) (by kernel_rfl)
  refine sEnter (args := [.agg #[.int .i64 p0.Stitches, .int .i64 p0.Width, .int .i64 p0.Rows, .int .i64 p0.Height], .slice ad1 p1.length cp2, .slice ad3 p2.length cp4]) 39 Try.func6 rfl rfl (by simp) S (fun a S => ?_)
  refine sSeq (fun K5 hK5 => ?_)
  refine sRegion ?_
  refine sBox (v := .agg #[.int .i64 p0.Stitches, .int .i64 p0.Width, .int .i64 p0.Rows, .int .i64 p0.Height]) S (wN rfl) rfl (by kernel_rfl) [.int .i64 p0.Stitches, .int .i64 p0.Width, .int .i64 p0.Rows, .int .i64 p0.Height] rfl rfl (by decide) (fun a b6 w S => ?_)
  refine sAlloc (.agg #[.slice none 0 0, .slice none 0 0]) S (wN rfl) rfl (by kernel_rfl) [.slice none 0 0, .slice none 0 0] rfl rfl (by decide) (fun a b7 w S => ?_)
  refine sMove (.int .i64 0) S (wN rfl) (.inr rfl) (by kernel_rfl) rfl (by decide) (fun a S => ?_)
  refine leafL (leafT (hK5 _ _ ?_))
  refine sSeq (fun K8 hK8 => ?_)
  refine sRegion ?_
  refine sAlloc (.agg #[.slice none 0 0, .slice none 0 0]) S (wN rfl) rfl (by kernel_rfl) [.slice none 0 0, .slice none 0 0] rfl rfl (by decide) (fun a b9 w S => ?_)
  refine leafL (leafT (hK8 _ _ ?_))
  refine sSeq (fun K10 hK10 => ?_)
  refine sRegion ?_
  refine sMove (.int .i64 0) S (wN rfl) (.inr rfl) (by kernel_rfl) rfl (by decide) (fun a S => ?_)
  refine leafL (leafT (hK10 _ _ ?_))
  refine sSeq (fun K11 hK11 => ?_)
  refine sSeq (fun K12 hK12 => ?_)
  refine sRegion ?_
  refine sLoadN (p := b6) (off := 0) (T := 23) (vs := [.int .i64 p0.Stitches, .int .i64 p0.Width, .int .i64 p0.Rows, .int .i64 p0.Height]) 2 [.int .i64 p0.Stitches, .int .i64 p0.Width, .int .i64 p0.Rows, .int .i64 p0.Height] S (wN rfl) rfl (by kernel_rfl) (by kernel_rfl) (by kernel_rfl) (by kernel_rfl) rfl rfl (by decide) (fun a S => ?_)
  refine sMove (.slice ad1 p1.length cp2) S (wN rfl) (.inl rfl) (by kernel_rfl) rfl (by decide) (fun a S => ?_)
  obtain ⟨r13, hx14, h⟩ := bindSome h
  refine sCall (X := Value) (f := 27) (vs := [.agg #[.int .i64 p0.Stitches, .int .i64 p0.Width, .int .i64 p0.Rows, .int .i64 p0.Height], .slice ad1 p1.length cp2]) (val := c_piece_place_val r13) (B' := fun _ => []) (D' := c_piece_place_D r13) [] [eBox b9 26 [.slice none 0 0, .slice none 0 0], eBox b7 26 [.slice none 0 0, .slice none 0 0], eBox b6 23 [.int .i64 p0.Stitches, .int .i64 p0.Width, .int .i64 p0.Rows, .int .i64 p0.Height]] [fRep r_api_Gauge (.agg #[.int .i64 p0.Stitches, .int .i64 p0.Width, .int .i64 p0.Rows, .int .i64 p0.Height]) p0, fRep (rL r_api_Point) (.slice ad1 p1.length cp2) p1] [0, 1, 2] [0, 1] S (wN rfl) rfl callee27 (by kernel_rfl) (by decide) (by kernel_rfl) (by kernel_rfl) (fun E1 w1 S1 => c_piece_place E1 w1 p0 (.agg #[.int .i64 p0.Stitches, .int .i64 p0.Width, .int .i64 p0.Rows, .int .i64 p0.Height]) p1 (.slice ad1 p1.length cp2) r13 hx14 S1) rfl (by decide) (fun u15 a w S => ?_)
  obtain ⟨ad16, cp17, _, rfl, _⟩ := S.mem.know (i := 0) (e := fRep (rL r_api_Point) (u15) r13.1) (by kernel_rfl)
  refine sMove (.tuple #[.slice ad16 r13.1.length cp17, .int .i64 r13.2]) S (wN rfl) (.inl rfl) (by kernel_rfl) rfl (by decide) (fun a S => ?_)
  refine sExtract (vs := [.slice ad16 r13.1.length cp17, .int .i64 r13.2]) (.slice ad16 r13.1.length cp17) S (wN rfl) rfl (by kernel_rfl) rfl rfl (by decide) (fun a S => ?_)
  refine sExtract (vs := [.slice ad16 r13.1.length cp17, .int .i64 r13.2]) (.int .i64 r13.2) S (wN rfl) rfl (by kernel_rfl) rfl rfl (by decide) (fun a S => ?_)
  refine sField (b := b9) (off := 0) 0 0 S (wN rfl) rfl (by kernel_rfl) (by kernel_rfl) rfl rfl (by decide) (fun a S => ?_)
  refine sStore (p := b9) (off := 0) (T := 26) (vs := [.slice none 0 0, .slice none 0 0]) (v := .slice ad16 r13.1.length cp17) 0 [.slice ad16 r13.1.length cp17] S (wN rfl) rfl (by kernel_rfl) (by kernel_rfl) rfl (by kernel_rfl) (by kernel_rfl) rfl (by simp) rfl (fun a w S => ?_)
  refine sMove (.int .i64 r13.2) S (wN rfl) (.inr rfl) (by kernel_rfl) rfl (by decide) (fun a S => ?_)
  refine leafL (leafT (hK12 _ _ ?_))
  refine sSeq (fun K18 hK18 => ?_)
  refine sRegion ?_
  refine sMove (.int .i64 r13.2) S (wN rfl) (.inl rfl) (by kernel_rfl) rfl (by decide) (fun a S => ?_)
  refine sBin (.bool (r13.2 != 0)) S (wN rfl) rfl (by kernel_rfl) (by kernel_rfl) (bNe _ _ _ _ .i64 r13.2 0) rfl (by decide) (fun a S => ?_)
  refine leafL (leafT (hK18 _ _ ?_))
  rcases iteSome h with ⟨hc19, h⟩ | ⟨hc19, h⟩
  · refine sCondT (b := r13.2 != 0) S (by kernel_rfl) hc19 ?_
    refine sSeq (fun K20 hK20 => ?_)
    refine sRegion ?_
    refine sBuild [] [.slice none 0 0, .slice none 0 0] S (wN rfl) rfl (by kernel_rfl) (by kernel_rfl) rfl (by decide) (fun a S => ?_)
    refine sMove (.int .i64 r13.2) S (wN rfl) (.inl rfl) (by kernel_rfl) rfl (by decide) (fun a S => ?_)
    refine sStore (p := b7) (off := 0) (T := 26) (vs := [.slice none 0 0, .slice none 0 0]) (v := .agg #[.slice none 0 0, .slice none 0 0]) 1 [.slice none 0 0, .slice none 0 0] S (wN rfl) rfl (by kernel_rfl) (by kernel_rfl) rfl (by kernel_rfl) (by kernel_rfl) rfl (by simp) rfl (fun a w S => ?_)
    refine sMove (.int .i64 r13.2) S (wN rfl) (.inr rfl) (by kernel_rfl) rfl (by decide) (fun a S => ?_)
    refine leafL (leafT (hK20 _ _ ?_))
    obtain rfl := Option.some.inj h
    have S := S.learn (fRep (rL r_api_Point) (.slice none 0 0) ([] : (List api_Point))) (rL_nil _ _ _)
    have S := S.learn (fRep r_api_Shape (.agg #[.slice none 0 0, .slice none 0 0]) (api_Shape.mk ([] : (List api_Point)) ([] : (List api_Point)))) ⟨_, _, rfl, S.mem.know (i := 0) (e := fRep (rL r_api_Point) (.slice none 0 0) ([] : (List api_Point))) (by kernel_rfl), S.mem.know (i := 0) (e := fRep (rL r_api_Point) (.slice none 0 0) ([] : (List api_Point))) (by kernel_rfl)⟩
    exact wp_ret (rThen (sRet (.tuple #[.agg #[.slice none 0 0, .slice none 0 0], .int .i64 r13.2]) S (rsl2 rfl (rvN (c := 6) (t := 26) (T := 26) (p := b7) 0 [.slice none 0 0, .slice none 0 0] S (by kernel_rfl) (by kernel_rfl) (by kernel_rfl) (by kernel_rfl)) (rvT (t := 7) (v := .int .i64 r13.2) S (by kernel_rfl))) ⟨(.agg #[.slice none 0 0, .slice none 0 0]), rfl, S.mem.sel [] [0] (by decide) (by kernel_rfl) (by kernel_rfl)⟩))
  · refine sCondF (b := r13.2 != 0) S (by kernel_rfl) hc19 ?_
    refine wp_skip (leafT (hK11 _ _ ?_))
    refine sSeq (fun K21 hK21 => ?_)
    refine sSeq (fun K22 hK22 => ?_)
    refine sRegion ?_
    refine sLoadN (p := b6) (off := 0) (T := 23) (vs := [.int .i64 p0.Stitches, .int .i64 p0.Width, .int .i64 p0.Rows, .int .i64 p0.Height]) 2 [.int .i64 p0.Stitches, .int .i64 p0.Width, .int .i64 p0.Rows, .int .i64 p0.Height] S (wN rfl) rfl (by kernel_rfl) (by kernel_rfl) (by kernel_rfl) (by kernel_rfl) rfl rfl (by decide) (fun a S => ?_)
    refine sMove (.slice ad3 p2.length cp4) S (wN rfl) (.inl rfl) (by kernel_rfl) rfl (by decide) (fun a S => ?_)
    obtain ⟨r23, hx24, h⟩ := bindSome h
    refine sCall (X := Value) (f := 27) (vs := [.agg #[.int .i64 p0.Stitches, .int .i64 p0.Width, .int .i64 p0.Rows, .int .i64 p0.Height], .slice ad3 p2.length cp4]) (val := c_piece_place_val r23) (B' := fun _ => []) (D' := c_piece_place_D r23) [] [eBox b9 26 [.slice ad16 r13.1.length cp17, .slice none 0 0], eBox b7 26 [.slice none 0 0, .slice none 0 0], eBox b6 23 [.int .i64 p0.Stitches, .int .i64 p0.Width, .int .i64 p0.Rows, .int .i64 p0.Height]] [fRep r_api_Gauge (.agg #[.int .i64 p0.Stitches, .int .i64 p0.Width, .int .i64 p0.Rows, .int .i64 p0.Height]) p0, fRep (rL r_api_Point) (.slice ad3 p2.length cp4) p2] [0, 1, 2] [1, 3] S (wN rfl) rfl callee27 (by kernel_rfl) (by decide) (by kernel_rfl) (by kernel_rfl) (fun E1 w1 S1 => c_piece_place E1 w1 p0 (.agg #[.int .i64 p0.Stitches, .int .i64 p0.Width, .int .i64 p0.Rows, .int .i64 p0.Height]) p2 (.slice ad3 p2.length cp4) r23 hx24 S1) rfl (by decide) (fun u25 a w S => ?_)
    obtain ⟨ad26, cp27, _, rfl, _⟩ := S.mem.know (i := 0) (e := fRep (rL r_api_Point) (u25) r23.1) (by kernel_rfl)
    refine sMove (.tuple #[.slice ad26 r23.1.length cp27, .int .i64 r23.2]) S (wN rfl) (.inl rfl) (by kernel_rfl) rfl (by decide) (fun a S => ?_)
    refine sExtract (vs := [.slice ad26 r23.1.length cp27, .int .i64 r23.2]) (.slice ad26 r23.1.length cp27) S (wN rfl) rfl (by kernel_rfl) rfl rfl (by decide) (fun a S => ?_)
    refine sExtract (vs := [.slice ad26 r23.1.length cp27, .int .i64 r23.2]) (.int .i64 r23.2) S (wN rfl) rfl (by kernel_rfl) rfl rfl (by decide) (fun a S => ?_)
    refine sField (b := b9) (off := 0) 1 1 S (wN rfl) rfl (by kernel_rfl) (by kernel_rfl) rfl rfl (by decide) (fun a S => ?_)
    refine sStore (p := b9) (off := 1) (T := 26) (vs := [.slice ad16 r13.1.length cp17, .slice none 0 0]) (v := .slice ad26 r23.1.length cp27) 0 [.slice ad26 r23.1.length cp27] S (wN rfl) rfl (by kernel_rfl) (by kernel_rfl) rfl (by kernel_rfl) (by kernel_rfl) rfl (by simp) rfl (fun a w S => ?_)
    refine sMove (.int .i64 r23.2) S (wN rfl) (.inr rfl) (by kernel_rfl) rfl (by decide) (fun a S => ?_)
    refine leafL (leafT (hK22 _ _ ?_))
    refine sSeq (fun K28 hK28 => ?_)
    refine sRegion ?_
    refine sMove (.int .i64 r23.2) S (wN rfl) (.inl rfl) (by kernel_rfl) rfl (by decide) (fun a S => ?_)
    refine sBin (.bool (r23.2 != 0)) S (wN rfl) rfl (by kernel_rfl) (by kernel_rfl) (bNe _ _ _ _ .i64 r23.2 0) rfl (by decide) (fun a S => ?_)
    refine leafL (leafT (hK28 _ _ ?_))
    rcases iteSome h with ⟨hc29, h⟩ | ⟨hc29, h⟩
    · refine sCondT (b := r23.2 != 0) S (by kernel_rfl) hc29 ?_
      refine sSeq (fun K30 hK30 => ?_)
      refine sRegion ?_
      refine sBuild [] [.slice none 0 0, .slice none 0 0] S (wN rfl) rfl (by kernel_rfl) (by kernel_rfl) rfl (by decide) (fun a S => ?_)
      refine sMove (.int .i64 r23.2) S (wN rfl) (.inl rfl) (by kernel_rfl) rfl (by decide) (fun a S => ?_)
      refine sStore (p := b7) (off := 0) (T := 26) (vs := [.slice none 0 0, .slice none 0 0]) (v := .agg #[.slice none 0 0, .slice none 0 0]) 1 [.slice none 0 0, .slice none 0 0] S (wN rfl) rfl (by kernel_rfl) (by kernel_rfl) rfl (by kernel_rfl) (by kernel_rfl) rfl (by simp) rfl (fun a w S => ?_)
      refine sMove (.int .i64 r23.2) S (wN rfl) (.inr rfl) (by kernel_rfl) rfl (by decide) (fun a S => ?_)
      refine leafL (leafT (hK30 _ _ ?_))
      obtain rfl := Option.some.inj h
      have S := S.learn (fRep (rL r_api_Point) (.slice none 0 0) ([] : (List api_Point))) (rL_nil _ _ _)
      have S := S.learn (fRep r_api_Shape (.agg #[.slice none 0 0, .slice none 0 0]) (api_Shape.mk ([] : (List api_Point)) ([] : (List api_Point)))) ⟨_, _, rfl, S.mem.know (i := 0) (e := fRep (rL r_api_Point) (.slice none 0 0) ([] : (List api_Point))) (by kernel_rfl), S.mem.know (i := 0) (e := fRep (rL r_api_Point) (.slice none 0 0) ([] : (List api_Point))) (by kernel_rfl)⟩
      exact wp_ret (rThen (sRet (.tuple #[.agg #[.slice none 0 0, .slice none 0 0], .int .i64 r23.2]) S (rsl2 rfl (rvN (c := 6) (t := 26) (T := 26) (p := b7) 0 [.slice none 0 0, .slice none 0 0] S (by kernel_rfl) (by kernel_rfl) (by kernel_rfl) (by kernel_rfl)) (rvT (t := 7) (v := .int .i64 r23.2) S (by kernel_rfl))) ⟨(.agg #[.slice none 0 0, .slice none 0 0]), rfl, S.mem.sel [] [0] (by decide) (by kernel_rfl) (by kernel_rfl)⟩))
    · refine sCondF (b := r23.2 != 0) S (by kernel_rfl) hc29 ?_
      refine wp_skip (leafT (hK21 _ _ ?_))
      refine sSeq (fun K31 hK31 => ?_)
      refine sSeq (fun K32 hK32 => ?_)
      refine sRegion ?_
      refine sLoadN (p := b9) (off := 0) (T := 26) (vs := [.slice ad16 r13.1.length cp17, .slice ad26 r23.1.length cp27]) 0 [.slice ad16 r13.1.length cp17, .slice ad26 r23.1.length cp27] S (wN rfl) rfl (by kernel_rfl) (by kernel_rfl) (by kernel_rfl) (by kernel_rfl) rfl rfl (by decide) (fun a S => ?_)
      obtain ⟨r33, hx34, h⟩ := bindSome h
      have S1 := S.mem
      have S1 := S1.learn (fRep r_api_Shape (.agg #[.slice ad16 r13.1.length cp17, .slice ad26 r23.1.length cp27]) (api_Shape.mk r13.1 r23.1)) ⟨_, _, rfl, S1.know (i := 1) (e := fRep (rL r_api_Point) (.slice ad16 r13.1.length cp17) r13.1) (by kernel_rfl), S1.know (i := 0) (e := fRep (rL r_api_Point) (.slice ad26 r23.1.length cp27) r23.1) (by kernel_rfl)⟩
      refine sCallQ (X := Unit) (f := 28) (vs := [.agg #[.slice ad16 r13.1.length cp17, .slice ad26 r23.1.length cp27]]) (val := fun _ => .int .i64 r33) S (wN rfl) rfl callee28 (by kernel_rfl) (S1.quiet [0] (by kernel_rfl)) (fun E1 w1 S1 => c_piece_shape E1 w1 (api_Shape.mk r13.1 r23.1) (.agg #[.slice ad16 r13.1.length cp17, .slice ad26 r23.1.length cp27]) r33 hx34 S1) rfl (by decide) (fun _ a w S => ?_)
      refine sMove (.int .i64 r33) S (wN rfl) (.inr rfl) (by kernel_rfl) rfl (by decide) (fun a S => ?_)
      refine leafL (leafT (hK32 _ _ ?_))
      refine sSeq (fun K35 hK35 => ?_)
      refine sRegion ?_
      refine sMove (.int .i64 r33) S (wN rfl) (.inl rfl) (by kernel_rfl) rfl (by decide) (fun a S => ?_)
      refine sBin (.bool (r33 != 0)) S (wN rfl) rfl (by kernel_rfl) (by kernel_rfl) (bNe _ _ _ _ .i64 r33 0) rfl (by decide) (fun a S => ?_)
      refine leafL (leafT (hK35 _ _ ?_))
      rcases iteSome h with ⟨hc36, h⟩ | ⟨hc36, h⟩
      · refine sCondT (b := r33 != 0) S (by kernel_rfl) hc36 ?_
        refine sSeq (fun K37 hK37 => ?_)
        refine sRegion ?_
        refine sBuild [] [.slice none 0 0, .slice none 0 0] S (wN rfl) rfl (by kernel_rfl) (by kernel_rfl) rfl (by decide) (fun a S => ?_)
        refine sMove (.int .i64 r33) S (wN rfl) (.inl rfl) (by kernel_rfl) rfl (by decide) (fun a S => ?_)
        refine sStore (p := b7) (off := 0) (T := 26) (vs := [.slice none 0 0, .slice none 0 0]) (v := .agg #[.slice none 0 0, .slice none 0 0]) 1 [.slice none 0 0, .slice none 0 0] S (wN rfl) rfl (by kernel_rfl) (by kernel_rfl) rfl (by kernel_rfl) (by kernel_rfl) rfl (by simp) rfl (fun a w S => ?_)
        refine sMove (.int .i64 r33) S (wN rfl) (.inr rfl) (by kernel_rfl) rfl (by decide) (fun a S => ?_)
        refine leafL (leafT (hK37 _ _ ?_))
        obtain rfl := Option.some.inj h
        have S := S.learn (fRep (rL r_api_Point) (.slice none 0 0) ([] : (List api_Point))) (rL_nil _ _ _)
        have S := S.learn (fRep r_api_Shape (.agg #[.slice none 0 0, .slice none 0 0]) (api_Shape.mk ([] : (List api_Point)) ([] : (List api_Point)))) ⟨_, _, rfl, S.mem.know (i := 0) (e := fRep (rL r_api_Point) (.slice none 0 0) ([] : (List api_Point))) (by kernel_rfl), S.mem.know (i := 0) (e := fRep (rL r_api_Point) (.slice none 0 0) ([] : (List api_Point))) (by kernel_rfl)⟩
        exact wp_ret (rThen (sRet (.tuple #[.agg #[.slice none 0 0, .slice none 0 0], .int .i64 r33]) S (rsl2 rfl (rvN (c := 6) (t := 26) (T := 26) (p := b7) 0 [.slice none 0 0, .slice none 0 0] S (by kernel_rfl) (by kernel_rfl) (by kernel_rfl) (by kernel_rfl)) (rvT (t := 7) (v := .int .i64 r33) S (by kernel_rfl))) ⟨(.agg #[.slice none 0 0, .slice none 0 0]), rfl, S.mem.sel [] [0] (by decide) (by kernel_rfl) (by kernel_rfl)⟩))
      · refine sCondF (b := r33 != 0) S (by kernel_rfl) hc36 ?_
        refine wp_skip (leafT (hK31 _ _ ?_))
        refine sSeq (fun K38 hK38 => ?_)
        refine sRegion ?_
        refine sLoadN (p := b9) (off := 0) (T := 26) (vs := [.slice ad16 r13.1.length cp17, .slice ad26 r23.1.length cp27]) 0 [.slice ad16 r13.1.length cp17, .slice ad26 r23.1.length cp27] S (wN rfl) rfl (by kernel_rfl) (by kernel_rfl) (by kernel_rfl) (by kernel_rfl) rfl rfl (by decide) (fun a S => ?_)
        refine sStore (p := b7) (off := 0) (T := 26) (vs := [.slice none 0 0, .slice none 0 0]) (v := .agg #[.slice ad16 r13.1.length cp17, .slice ad26 r23.1.length cp27]) 1 [.slice ad16 r13.1.length cp17, .slice ad26 r23.1.length cp27] S (wN rfl) rfl (by kernel_rfl) (by kernel_rfl) rfl (by kernel_rfl) (by kernel_rfl) rfl (by simp) rfl (fun a w S => ?_)
        refine sMove (.int .i64 0) S (wN rfl) (.inr rfl) (by kernel_rfl) rfl (by decide) (fun a S => ?_)
        refine leafL (leafT (hK38 _ _ ?_))
        obtain rfl := Option.some.inj h
        have S := S.learn (fRep r_api_Shape (.agg #[.slice ad16 r13.1.length cp17, .slice ad26 r23.1.length cp27]) (api_Shape.mk r13.1 r23.1)) ⟨_, _, rfl, S.mem.know (i := 1) (e := fRep (rL r_api_Point) (.slice ad16 r13.1.length cp17) r13.1) (by kernel_rfl), S.mem.know (i := 0) (e := fRep (rL r_api_Point) (.slice ad26 r23.1.length cp27) r23.1) (by kernel_rfl)⟩
        exact wp_ret (sRet (.tuple #[.agg #[.slice ad16 r13.1.length cp17, .slice ad26 r23.1.length cp27], .int .i64 0]) S (rsl2 rfl (rvN (c := 6) (t := 26) (T := 26) (p := b7) 0 [.slice ad16 r13.1.length cp17, .slice ad26 r23.1.length cp27] S (by kernel_rfl) (by kernel_rfl) (by kernel_rfl) (by kernel_rfl)) (rvT (t := 7) (v := .int .i64 0) S (by kernel_rfl))) ⟨(.agg #[.slice ad16 r13.1.length cp17, .slice ad26 r23.1.length cp27]), rfl, S.mem.sel [] [0] (by decide) (by kernel_rfl) (by kernel_rfl)⟩)

end Go.Proofs.Ytmedbnjhgkcndaa
