import Derived.Test.YtmedbnjhgkcndaaGTy
import Derived.Test.YtmedbnjhgkcndaaG29
import Derived.Test.YtmedbnjhgkcndaaG30
namespace Go.Proofs.Ytmedbnjhgkcndaa
open Go.RowKit
set_option linter.unusedVariables false

noncomputable def F_raddleref37_Measure (p0 : api_Gauge) (p1 : (List api_Point)) (p2 : (List api_Point)) : Option (api_Shape × Int) :=
  Option.bind (F_raddleref37_placedAll p0 p1) fun r9 =>
  if r9.2 != 0 then
    some ((api_Shape.mk ([] : (List api_Point)) ([] : (List api_Point))), r9.2)
  else
    Option.bind (F_raddleref37_placedAll p0 p2) fun r19 =>
    if r19.2 != 0 then
      some ((api_Shape.mk ([] : (List api_Point)) ([] : (List api_Point))), r19.2)
    else
      Option.bind (F_raddleref37_Shape (api_Shape.mk r9.1 r19.1)) fun r32 =>
      if r32 != 0 then
        some ((api_Shape.mk ([] : (List api_Point)) ([] : (List api_Point))), 8)
      else
        some ((api_Shape.mk r9.1 r19.1), 0)
def c_raddleref37_Measure_val (r : (api_Shape × Int)) (x : Value) : Value := .tuple #[x, .int .i64 r.2]
def c_raddleref37_Measure_D (r : (api_Shape × Int)) (x : Value) : List Fact := [fRep r_api_Shape x r.1]
set_option maxHeartbeats 4000000 in
set_option maxRecDepth 100000 in
theorem c_raddleref37_Measure (E : Nat → Prop) (w0 : World) (p0 : api_Gauge) (v0 : Value) (p1 : (List api_Point)) (v1 : Value) (p2 : (List api_Point)) (v2 : Value) (r : (api_Shape × Int)) (h : F_raddleref37_Measure p0 p1 p2 = some r) (S : St0 E [] w0 w0 [] [fRep r_api_Gauge v0 p0, fRep (rL r_api_Point) v1 p1, fRep (rL r_api_Point) v2 p2]) :
    Calls Try.prog 7 #[v0, v1, v2] w0 (Ret (X := Value) E [] w0 (c_raddleref37_Measure_val r) (fun _ => []) (c_raddleref37_Measure_D r)) := by
  unfold F_raddleref37_Measure at h
  obtain rfl : v0 = .agg #[.int .i64 p0.Stitches, .int .i64 p0.Width, .int .i64 p0.Rows, .int .i64 p0.Height] := S.know (i := 0) (e := fRep r_api_Gauge (v0) p0) (by kernel_rfl)
  obtain ⟨ad1, cp2, _, rfl, _⟩ := S.know (i := 1) (e := fRep (rL r_api_Point) (v1) p1) (by kernel_rfl)
  obtain ⟨ad3, cp4, _, rfl, _⟩ := S.know (i := 2) (e := fRep (rL r_api_Point) (v2) p2) (by kernel_rfl)
  refine sEnter (args := [.agg #[.int .i64 p0.Stitches, .int .i64 p0.Width, .int .i64 p0.Rows, .int .i64 p0.Height], .slice ad1 p1.length cp2, .slice ad3 p2.length cp4]) 40 Try.func7 rfl rfl (by simp) S (fun a S => ?_)
  refine sSeq (fun K5 hK5 => ?_)
  refine sRegion ?_
  refine sBox (v := .agg #[.int .i64 p0.Stitches, .int .i64 p0.Width, .int .i64 p0.Rows, .int .i64 p0.Height]) S (wN rfl) rfl (by kernel_rfl) [.int .i64 p0.Stitches, .int .i64 p0.Width, .int .i64 p0.Rows, .int .i64 p0.Height] rfl rfl (by decide) (fun a b6 w S => ?_)
  refine sAlloc (.agg #[.slice none 0 0, .slice none 0 0]) S (wN rfl) rfl (by kernel_rfl) [.slice none 0 0, .slice none 0 0] rfl rfl (by decide) (fun a b7 w S => ?_)
  refine sMove (.int .i64 0) S (wN rfl) (.inr rfl) (by kernel_rfl) rfl (by decide) (fun a S => ?_)
  refine leafL (leafT (hK5 _ _ ?_))
  refine sSeq (fun K8 hK8 => ?_)
  refine sRegion ?_
  refine sLoadN (p := b6) (off := 0) (T := 23) (vs := [.int .i64 p0.Stitches, .int .i64 p0.Width, .int .i64 p0.Rows, .int .i64 p0.Height]) 1 [.int .i64 p0.Stitches, .int .i64 p0.Width, .int .i64 p0.Rows, .int .i64 p0.Height] S (wN rfl) rfl (by kernel_rfl) (by kernel_rfl) (by kernel_rfl) (by kernel_rfl) rfl rfl (by decide) (fun a S => ?_)
  refine sMove (.slice ad1 p1.length cp2) S (wN rfl) (.inl rfl) (by kernel_rfl) rfl (by decide) (fun a S => ?_)
  obtain ⟨r9, hx10, h⟩ := bindSome h
  refine sCall (X := Value) (f := 29) (vs := [.agg #[.int .i64 p0.Stitches, .int .i64 p0.Width, .int .i64 p0.Rows, .int .i64 p0.Height], .slice ad1 p1.length cp2]) (val := c_raddleref37_placedAll_val r9) (B' := fun _ => []) (D' := c_raddleref37_placedAll_D r9) [] [eBox b7 26 [.slice none 0 0, .slice none 0 0], eBox b6 23 [.int .i64 p0.Stitches, .int .i64 p0.Width, .int .i64 p0.Rows, .int .i64 p0.Height]] [fRep r_api_Gauge (.agg #[.int .i64 p0.Stitches, .int .i64 p0.Width, .int .i64 p0.Rows, .int .i64 p0.Height]) p0, fRep (rL r_api_Point) (.slice ad1 p1.length cp2) p1] [0, 1] [0, 1] S (wN rfl) rfl callee29 (by kernel_rfl) (by decide) (by kernel_rfl) (by kernel_rfl) (fun E1 w1 S1 => c_raddleref37_placedAll E1 w1 p0 (.agg #[.int .i64 p0.Stitches, .int .i64 p0.Width, .int .i64 p0.Rows, .int .i64 p0.Height]) p1 (.slice ad1 p1.length cp2) r9 hx10 S1) rfl (by decide) (fun u11 a w S => ?_)
  obtain ⟨ad12, cp13, _, rfl, _⟩ := S.mem.know (i := 0) (e := fRep (rL r_api_Point) (u11) r9.1) (by kernel_rfl)
  refine sMove (.tuple #[.slice ad12 r9.1.length cp13, .int .i64 r9.2]) S (wN rfl) (.inl rfl) (by kernel_rfl) rfl (by decide) (fun a S => ?_)
  refine sExtract (vs := [.slice ad12 r9.1.length cp13, .int .i64 r9.2]) (.slice ad12 r9.1.length cp13) S (wN rfl) rfl (by kernel_rfl) rfl rfl (by decide) (fun a S => ?_)
  refine sExtract (vs := [.slice ad12 r9.1.length cp13, .int .i64 r9.2]) (.int .i64 r9.2) S (wN rfl) rfl (by kernel_rfl) rfl rfl (by decide) (fun a S => ?_)
  refine sMove (.slice ad12 r9.1.length cp13) S (wN rfl) (.inr rfl) (by kernel_rfl) rfl (by decide) (fun a S => ?_)
  refine sMove (.int .i64 r9.2) S (wN rfl) (.inr rfl) (by kernel_rfl) rfl (by decide) (fun a S => ?_)
  refine leafL (leafT (hK8 _ _ ?_))
  refine sSeq (fun K14 hK14 => ?_)
  refine sSeq (fun K15 hK15 => ?_)
  refine sRegion ?_
  refine sMove (.int .i64 r9.2) S (wN rfl) (.inl rfl) (by kernel_rfl) rfl (by decide) (fun a S => ?_)
  refine sBin (.bool (r9.2 != 0)) S (wN rfl) rfl (by kernel_rfl) (by kernel_rfl) (bNe _ _ _ _ .i64 r9.2 0) rfl (by decide) (fun a S => ?_)
  refine leafL (leafT (hK15 _ _ ?_))
  rcases iteSome h with ⟨hc16, h⟩ | ⟨hc16, h⟩
  · refine sCondT (b := r9.2 != 0) S (by kernel_rfl) hc16 ?_
    refine sSeq (fun K17 hK17 => ?_)
    refine sRegion ?_
    refine sBuild [] [.slice none 0 0, .slice none 0 0] S (wN rfl) rfl (by kernel_rfl) (by kernel_rfl) rfl (by decide) (fun a S => ?_)
    refine sMove (.int .i64 r9.2) S (wN rfl) (.inl rfl) (by kernel_rfl) rfl (by decide) (fun a S => ?_)
    refine sStore (p := b7) (off := 0) (T := 26) (vs := [.slice none 0 0, .slice none 0 0]) (v := .agg #[.slice none 0 0, .slice none 0 0]) 0 [.slice none 0 0, .slice none 0 0] S (wN rfl) rfl (by kernel_rfl) (by kernel_rfl) rfl (by kernel_rfl) (by kernel_rfl) rfl (by simp) rfl (fun a w S => ?_)
    refine sMove (.int .i64 r9.2) S (wN rfl) (.inr rfl) (by kernel_rfl) rfl (by decide) (fun a S => ?_)
    refine leafL (leafT (hK17 _ _ ?_))
    obtain rfl := Option.some.inj h
    have S := S.learn (fRep (rL r_api_Point) (.slice none 0 0) ([] : (List api_Point))) (rL_nil _ _ _)
    have S := S.learn (fRep r_api_Shape (.agg #[.slice none 0 0, .slice none 0 0]) (api_Shape.mk ([] : (List api_Point)) ([] : (List api_Point)))) ⟨_, _, rfl, S.mem.know (i := 0) (e := fRep (rL r_api_Point) (.slice none 0 0) ([] : (List api_Point))) (by kernel_rfl), S.mem.know (i := 0) (e := fRep (rL r_api_Point) (.slice none 0 0) ([] : (List api_Point))) (by kernel_rfl)⟩
    exact wp_ret (rThen (sRet (.tuple #[.agg #[.slice none 0 0, .slice none 0 0], .int .i64 r9.2]) S (rsl2 rfl (rvN (c := 6) (t := 26) (T := 26) (p := b7) 0 [.slice none 0 0, .slice none 0 0] S (by kernel_rfl) (by kernel_rfl) (by kernel_rfl) (by kernel_rfl)) (rvT (t := 7) (v := .int .i64 r9.2) S (by kernel_rfl))) ⟨(.agg #[.slice none 0 0, .slice none 0 0]), rfl, S.mem.sel [] [0] (by decide) (by kernel_rfl) (by kernel_rfl)⟩))
  · refine sCondF (b := r9.2 != 0) S (by kernel_rfl) hc16 ?_
    refine wp_skip (leafT (hK14 _ _ ?_))
    refine sSeq (fun K18 hK18 => ?_)
    refine sRegion ?_
    refine sLoadN (p := b6) (off := 0) (T := 23) (vs := [.int .i64 p0.Stitches, .int .i64 p0.Width, .int .i64 p0.Rows, .int .i64 p0.Height]) 1 [.int .i64 p0.Stitches, .int .i64 p0.Width, .int .i64 p0.Rows, .int .i64 p0.Height] S (wN rfl) rfl (by kernel_rfl) (by kernel_rfl) (by kernel_rfl) (by kernel_rfl) rfl rfl (by decide) (fun a S => ?_)
    refine sMove (.slice ad3 p2.length cp4) S (wN rfl) (.inl rfl) (by kernel_rfl) rfl (by decide) (fun a S => ?_)
    obtain ⟨r19, hx20, h⟩ := bindSome h
    refine sCall (X := Value) (f := 29) (vs := [.agg #[.int .i64 p0.Stitches, .int .i64 p0.Width, .int .i64 p0.Rows, .int .i64 p0.Height], .slice ad3 p2.length cp4]) (val := c_raddleref37_placedAll_val r19) (B' := fun _ => []) (D' := c_raddleref37_placedAll_D r19) [] [eBox b7 26 [.slice none 0 0, .slice none 0 0], eBox b6 23 [.int .i64 p0.Stitches, .int .i64 p0.Width, .int .i64 p0.Rows, .int .i64 p0.Height]] [fRep r_api_Gauge (.agg #[.int .i64 p0.Stitches, .int .i64 p0.Width, .int .i64 p0.Rows, .int .i64 p0.Height]) p0, fRep (rL r_api_Point) (.slice ad3 p2.length cp4) p2] [0, 1] [1, 3] S (wN rfl) rfl callee29 (by kernel_rfl) (by decide) (by kernel_rfl) (by kernel_rfl) (fun E1 w1 S1 => c_raddleref37_placedAll E1 w1 p0 (.agg #[.int .i64 p0.Stitches, .int .i64 p0.Width, .int .i64 p0.Rows, .int .i64 p0.Height]) p2 (.slice ad3 p2.length cp4) r19 hx20 S1) rfl (by decide) (fun u21 a w S => ?_)
    obtain ⟨ad22, cp23, _, rfl, _⟩ := S.mem.know (i := 0) (e := fRep (rL r_api_Point) (u21) r19.1) (by kernel_rfl)
    refine sMove (.tuple #[.slice ad22 r19.1.length cp23, .int .i64 r19.2]) S (wN rfl) (.inl rfl) (by kernel_rfl) rfl (by decide) (fun a S => ?_)
    refine sExtract (vs := [.slice ad22 r19.1.length cp23, .int .i64 r19.2]) (.slice ad22 r19.1.length cp23) S (wN rfl) rfl (by kernel_rfl) rfl rfl (by decide) (fun a S => ?_)
    refine sExtract (vs := [.slice ad22 r19.1.length cp23, .int .i64 r19.2]) (.int .i64 r19.2) S (wN rfl) rfl (by kernel_rfl) rfl rfl (by decide) (fun a S => ?_)
    refine sMove (.slice ad22 r19.1.length cp23) S (wN rfl) (.inr rfl) (by kernel_rfl) rfl (by decide) (fun a S => ?_)
    refine sMove (.int .i64 r19.2) S (wN rfl) (.inr rfl) (by kernel_rfl) rfl (by decide) (fun a S => ?_)
    refine leafL (leafT (hK18 _ _ ?_))
    refine sSeq (fun K24 hK24 => ?_)
    refine sSeq (fun K25 hK25 => ?_)
    refine sRegion ?_
    refine sMove (.int .i64 r19.2) S (wN rfl) (.inl rfl) (by kernel_rfl) rfl (by decide) (fun a S => ?_)
    refine sBin (.bool (r19.2 != 0)) S (wN rfl) rfl (by kernel_rfl) (by kernel_rfl) (bNe _ _ _ _ .i64 r19.2 0) rfl (by decide) (fun a S => ?_)
    refine leafL (leafT (hK25 _ _ ?_))
    rcases iteSome h with ⟨hc26, h⟩ | ⟨hc26, h⟩
    · refine sCondT (b := r19.2 != 0) S (by kernel_rfl) hc26 ?_
      refine sSeq (fun K27 hK27 => ?_)
      refine sRegion ?_
      refine sBuild [] [.slice none 0 0, .slice none 0 0] S (wN rfl) rfl (by kernel_rfl) (by kernel_rfl) rfl (by decide) (fun a S => ?_)
      refine sMove (.int .i64 r19.2) S (wN rfl) (.inl rfl) (by kernel_rfl) rfl (by decide) (fun a S => ?_)
      refine sStore (p := b7) (off := 0) (T := 26) (vs := [.slice none 0 0, .slice none 0 0]) (v := .agg #[.slice none 0 0, .slice none 0 0]) 0 [.slice none 0 0, .slice none 0 0] S (wN rfl) rfl (by kernel_rfl) (by kernel_rfl) rfl (by kernel_rfl) (by kernel_rfl) rfl (by simp) rfl (fun a w S => ?_)
      refine sMove (.int .i64 r19.2) S (wN rfl) (.inr rfl) (by kernel_rfl) rfl (by decide) (fun a S => ?_)
      refine leafL (leafT (hK27 _ _ ?_))
      obtain rfl := Option.some.inj h
      have S := S.learn (fRep (rL r_api_Point) (.slice none 0 0) ([] : (List api_Point))) (rL_nil _ _ _)
      have S := S.learn (fRep r_api_Shape (.agg #[.slice none 0 0, .slice none 0 0]) (api_Shape.mk ([] : (List api_Point)) ([] : (List api_Point)))) ⟨_, _, rfl, S.mem.know (i := 0) (e := fRep (rL r_api_Point) (.slice none 0 0) ([] : (List api_Point))) (by kernel_rfl), S.mem.know (i := 0) (e := fRep (rL r_api_Point) (.slice none 0 0) ([] : (List api_Point))) (by kernel_rfl)⟩
      exact wp_ret (rThen (sRet (.tuple #[.agg #[.slice none 0 0, .slice none 0 0], .int .i64 r19.2]) S (rsl2 rfl (rvN (c := 6) (t := 26) (T := 26) (p := b7) 0 [.slice none 0 0, .slice none 0 0] S (by kernel_rfl) (by kernel_rfl) (by kernel_rfl) (by kernel_rfl)) (rvT (t := 7) (v := .int .i64 r19.2) S (by kernel_rfl))) ⟨(.agg #[.slice none 0 0, .slice none 0 0]), rfl, S.mem.sel [] [0] (by decide) (by kernel_rfl) (by kernel_rfl)⟩))
    · refine sCondF (b := r19.2 != 0) S (by kernel_rfl) hc26 ?_
      refine wp_skip (leafT (hK24 _ _ ?_))
      refine sSeq (fun K28 hK28 => ?_)
      refine sRegion ?_
      refine sMove (.slice ad12 r9.1.length cp13) S (wN rfl) (.inl rfl) (by kernel_rfl) rfl (by decide) (fun a S => ?_)
      refine sMove (.slice ad22 r19.1.length cp23) S (wN rfl) (.inl rfl) (by kernel_rfl) rfl (by decide) (fun a S => ?_)
      refine sBuild [(0, .slice ad12 r9.1.length cp13), (1, .slice ad22 r19.1.length cp23)] [.slice ad12 r9.1.length cp13, .slice ad22 r19.1.length cp23] S (wN rfl) rfl (by kernel_rfl) (by kernel_rfl) rfl (by decide) (fun a S => ?_)
      refine sAlloc (.agg #[.slice none 0 0, .slice none 0 0]) S (wN rfl) rfl (by kernel_rfl) [.slice none 0 0, .slice none 0 0] rfl rfl (by decide) (fun a b29 w S => ?_)
      refine sStore (p := b29) (off := 0) (T := 26) (vs := [.slice none 0 0, .slice none 0 0]) (v := .agg #[.slice ad12 r9.1.length cp13, .slice ad22 r19.1.length cp23]) 0 [.slice ad12 r9.1.length cp13, .slice ad22 r19.1.length cp23] S (wN rfl) rfl (by kernel_rfl) (by kernel_rfl) rfl (by kernel_rfl) (by kernel_rfl) rfl (by simp) rfl (fun a w S => ?_)
      refine leafL (leafT (hK28 _ _ ?_))
      refine sSeq (fun K30 hK30 => ?_)
      refine sSeq (fun K31 hK31 => ?_)
      refine sRegion ?_
      refine sLoadN (p := b29) (off := 0) (T := 26) (vs := [.slice ad12 r9.1.length cp13, .slice ad22 r19.1.length cp23]) 0 [.slice ad12 r9.1.length cp13, .slice ad22 r19.1.length cp23] S (wN rfl) rfl (by kernel_rfl) (by kernel_rfl) (by kernel_rfl) (by kernel_rfl) rfl rfl (by decide) (fun a S => ?_)
      obtain ⟨r32, hx33, h⟩ := bindSome h
      have S1 := S.mem
      have S1 := S1.learn (fRep r_api_Shape (.agg #[.slice ad12 r9.1.length cp13, .slice ad22 r19.1.length cp23]) (api_Shape.mk r9.1 r19.1)) ⟨_, _, rfl, S1.know (i := 1) (e := fRep (rL r_api_Point) (.slice ad12 r9.1.length cp13) r9.1) (by kernel_rfl), S1.know (i := 0) (e := fRep (rL r_api_Point) (.slice ad22 r19.1.length cp23) r19.1) (by kernel_rfl)⟩
      refine sCallQ (X := Unit) (f := 30) (vs := [.agg #[.slice ad12 r9.1.length cp13, .slice ad22 r19.1.length cp23]]) (val := fun _ => .int .i64 r32) S (wN rfl) rfl callee30 (by kernel_rfl) (S1.quiet [0] (by kernel_rfl)) (fun E1 w1 S1 => c_raddleref37_Shape E1 w1 (api_Shape.mk r9.1 r19.1) (.agg #[.slice ad12 r9.1.length cp13, .slice ad22 r19.1.length cp23]) r32 hx33 S1) rfl (by decide) (fun _ a w S => ?_)
      refine sBin (.bool (r32 != 0)) S (wN rfl) rfl (by kernel_rfl) (by kernel_rfl) (bNe _ _ _ _ .i64 r32 0) rfl (by decide) (fun a S => ?_)
      refine leafL (leafT (hK31 _ _ ?_))
      rcases iteSome h with ⟨hc34, h⟩ | ⟨hc34, h⟩
      · refine sCondT (b := r32 != 0) S (by kernel_rfl) hc34 ?_
        refine sSeq (fun K35 hK35 => ?_)
        refine sRegion ?_
        refine sBuild [] [.slice none 0 0, .slice none 0 0] S (wN rfl) rfl (by kernel_rfl) (by kernel_rfl) rfl (by decide) (fun a S => ?_)
        refine sStore (p := b7) (off := 0) (T := 26) (vs := [.slice none 0 0, .slice none 0 0]) (v := .agg #[.slice none 0 0, .slice none 0 0]) 1 [.slice none 0 0, .slice none 0 0] S (wN rfl) rfl (by kernel_rfl) (by kernel_rfl) rfl (by kernel_rfl) (by kernel_rfl) rfl (by simp) rfl (fun a w S => ?_)
        refine sMove (.int .i64 8) S (wN rfl) (.inr rfl) (by kernel_rfl) rfl (by decide) (fun a S => ?_)
        refine leafL (leafT (hK35 _ _ ?_))
        obtain rfl := Option.some.inj h
        have S := S.learn (fRep (rL r_api_Point) (.slice none 0 0) ([] : (List api_Point))) (rL_nil _ _ _)
        have S := S.learn (fRep r_api_Shape (.agg #[.slice none 0 0, .slice none 0 0]) (api_Shape.mk ([] : (List api_Point)) ([] : (List api_Point)))) ⟨_, _, rfl, S.mem.know (i := 0) (e := fRep (rL r_api_Point) (.slice none 0 0) ([] : (List api_Point))) (by kernel_rfl), S.mem.know (i := 0) (e := fRep (rL r_api_Point) (.slice none 0 0) ([] : (List api_Point))) (by kernel_rfl)⟩
        exact wp_ret (rThen (sRet (.tuple #[.agg #[.slice none 0 0, .slice none 0 0], .int .i64 8]) S (rsl2 rfl (rvN (c := 6) (t := 26) (T := 26) (p := b7) 0 [.slice none 0 0, .slice none 0 0] S (by kernel_rfl) (by kernel_rfl) (by kernel_rfl) (by kernel_rfl)) (rvT (t := 7) (v := .int .i64 8) S (by kernel_rfl))) ⟨(.agg #[.slice none 0 0, .slice none 0 0]), rfl, S.mem.sel [] [0] (by decide) (by kernel_rfl) (by kernel_rfl)⟩))
      · refine sCondF (b := r32 != 0) S (by kernel_rfl) hc34 ?_
        refine wp_skip (leafT (hK30 _ _ ?_))
        refine sSeq (fun K36 hK36 => ?_)
        refine sRegion ?_
        refine sLoadN (p := b29) (off := 0) (T := 26) (vs := [.slice ad12 r9.1.length cp13, .slice ad22 r19.1.length cp23]) 0 [.slice ad12 r9.1.length cp13, .slice ad22 r19.1.length cp23] S (wN rfl) rfl (by kernel_rfl) (by kernel_rfl) (by kernel_rfl) (by kernel_rfl) rfl rfl (by decide) (fun a S => ?_)
        refine sStore (p := b7) (off := 0) (T := 26) (vs := [.slice none 0 0, .slice none 0 0]) (v := .agg #[.slice ad12 r9.1.length cp13, .slice ad22 r19.1.length cp23]) 1 [.slice ad12 r9.1.length cp13, .slice ad22 r19.1.length cp23] S (wN rfl) rfl (by kernel_rfl) (by kernel_rfl) rfl (by kernel_rfl) (by kernel_rfl) rfl (by simp) rfl (fun a w S => ?_)
        refine sMove (.int .i64 0) S (wN rfl) (.inr rfl) (by kernel_rfl) rfl (by decide) (fun a S => ?_)
        refine leafL (leafT (hK36 _ _ ?_))
        obtain rfl := Option.some.inj h
        have S := S.learn (fRep r_api_Shape (.agg #[.slice ad12 r9.1.length cp13, .slice ad22 r19.1.length cp23]) (api_Shape.mk r9.1 r19.1)) ⟨_, _, rfl, S.mem.know (i := 1) (e := fRep (rL r_api_Point) (.slice ad12 r9.1.length cp13) r9.1) (by kernel_rfl), S.mem.know (i := 0) (e := fRep (rL r_api_Point) (.slice ad22 r19.1.length cp23) r19.1) (by kernel_rfl)⟩
        exact wp_ret (sRet (.tuple #[.agg #[.slice ad12 r9.1.length cp13, .slice ad22 r19.1.length cp23], .int .i64 0]) S (rsl2 rfl (rvN (c := 6) (t := 26) (T := 26) (p := b7) 0 [.slice ad12 r9.1.length cp13, .slice ad22 r19.1.length cp23] S (by kernel_rfl) (by kernel_rfl) (by kernel_rfl) (by kernel_rfl)) (rvT (t := 7) (v := .int .i64 0) S (by kernel_rfl))) ⟨(.agg #[.slice ad12 r9.1.length cp13, .slice ad22 r19.1.length cp23]), rfl, S.mem.sel [] [0] (by decide) (by kernel_rfl) (by kernel_rfl)⟩)

end Go.Proofs.Ytmedbnjhgkcndaa
