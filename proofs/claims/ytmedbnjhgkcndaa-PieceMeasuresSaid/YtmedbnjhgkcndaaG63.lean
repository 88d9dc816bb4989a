import Derived.Test.YtmedbnjhgkcndaaGTy
import Derived.Test.YtmedbnjhgkcndaaG79
import Derived.Test.YtmedbnjhgkcndaaG80
import Derived.Test.YtmedbnjhgkcndaaG81
namespace Go.Proofs.Ytmedbnjhgkcndaa
open Go.RowKit
set_option linter.unusedVariables false

noncomputable def F_gauge_scale (p0 : api_Gauge) (p1 : gauge_ratio) (p2 : Int) (p3 : Int) (p4 : Int) : Option (Int × Int) :=
  Option.bind (F_gauge_Check p0) fun r6 =>
  if r6 != 0 then
    some (0, r6)
  else
    Option.bind (F_gauge_within p2 0 p3) fun r13 =>
    if !r13 then
      some (0, 2)
    else
      Option.bind (F_gauge_ratio_of p1 p2) fun r18 =>
      if decide (p4 < r18) then
        some (0, 16)
      else
        some (r18, 0)
set_option maxHeartbeats 4000000 in
set_option maxRecDepth 100000 in
theorem c_gauge_scale (E : Nat → Prop) (w0 : World) (p0 : api_Gauge) (v0 : Value) (p1 : gauge_ratio) (v1 : Value) (p2 : Int) (p3 : Int) (p4 : Int) (r : (Int × Int)) (h : F_gauge_scale p0 p1 p2 p3 p4 = some r) (S : St0 E [] w0 w0 [] [fRep r_api_Gauge v0 p0, fRep r_gauge_ratio v1 p1]) :
    Calls Try.prog 63 #[v0, v1, .int .i64 p2, .int .i64 p3, .int .i64 p4] w0 (Ret (X := Unit) E [] w0 (fun _ => .tuple #[.int .i64 r.1, .int .i64 r.2]) (fun _ => []) (fun _ => [])) := by
  unfold F_gauge_scale at h
  obtain rfl : v0 = .agg #[.int .i64 p0.Stitches, .int .i64 p0.Width, .int .i64 p0.Rows, .int .i64 p0.Height] := S.know (i := 0) (e := fRep r_api_Gauge (v0) p0) (by kernel_rfl)
  obtain rfl : v1 = .agg #[.int .i64 p1.num, .int .i64 p1.den] := S.know (i := 1) (e := fRep r_gauge_ratio (v1) p1) (by kernel_rfl)
  refine sEnter (args := [.agg #[.int .i64 p0.Stitches, .int .i64 p0.Width, .int .i64 p0.Rows, .int .i64 p0.Height], .agg #[.int .i64 p1.num, .int .i64 p1.den], .int .i64 p2, .int .i64 p3, .int .i64 p4]) 30 Try.func63 rfl rfl (by simp) S (fun a S => ?_)
  refine sSeq (fun K1 hK1 => ?_)
  refine sRegion ?_
  refine sBox (v := .agg #[.int .i64 p0.Stitches, .int .i64 p0.Width, .int .i64 p0.Rows, .int .i64 p0.Height]) S (wN rfl) rfl (by kernel_rfl) [.int .i64 p0.Stitches, .int .i64 p0.Width, .int .i64 p0.Rows, .int .i64 p0.Height] rfl rfl (by decide) (fun a b2 w S => ?_)
  refine sBox (v := .agg #[.int .i64 p1.num, .int .i64 p1.den]) S (wN rfl) rfl (by kernel_rfl) [.int .i64 p1.num, .int .i64 p1.den] rfl rfl (by decide) (fun a b3 w S => ?_)
  refine sMove (.int .i64 0) S (wN rfl) (.inr rfl) (by kernel_rfl) rfl (by decide) (fun a S => ?_)
  refine sMove (.int .i64 0) S (wN rfl) (.inr rfl) (by kernel_rfl) rfl (by decide) (fun a S => ?_)
  refine leafL (leafT (hK1 _ _ ?_))
  refine sSeq (fun K4 hK4 => ?_)
  refine sSeq (fun K5 hK5 => ?_)
  refine sRegion ?_
  refine sLoadN (p := b2) (off := 0) (T := 23) (vs := [.int .i64 p0.Stitches, .int .i64 p0.Width, .int .i64 p0.Rows, .int .i64 p0.Height]) 1 [.int .i64 p0.Stitches, .int .i64 p0.Width, .int .i64 p0.Rows, .int .i64 p0.Height] S (wN rfl) rfl (by kernel_rfl) (by kernel_rfl) (by kernel_rfl) (by kernel_rfl) rfl rfl (by decide) (fun a S => ?_)
  obtain ⟨r6, hx7, h⟩ := bindSome h
  have S1 := S.mem
  refine sCallQ (X := Unit) (f := 79) (vs := [.agg #[.int .i64 p0.Stitches, .int .i64 p0.Width, .int .i64 p0.Rows, .int .i64 p0.Height]]) (val := fun _ => .int .i64 r6) S (wN rfl) rfl callee79 (by kernel_rfl) (S1.quiet [0] (by kernel_rfl)) (fun E1 w1 S1 => c_gauge_Check E1 w1 p0 (.agg #[.int .i64 p0.Stitches, .int .i64 p0.Width, .int .i64 p0.Rows, .int .i64 p0.Height]) r6 hx7 S1) rfl (by decide) (fun _ a w S => ?_)
  refine sMove (.int .i64 r6) S (wN rfl) (.inr rfl) (by kernel_rfl) rfl (by decide) (fun a S => ?_)
  refine leafL (leafT (hK5 _ _ ?_))
  refine sSeq (fun K8 hK8 => ?_)
  refine sRegion ?_
  refine sMove (.int .i64 r6) S (wN rfl) (.inl rfl) (by kernel_rfl) rfl (by decide) (fun a S => ?_)
  refine sBin (.bool (r6 != 0)) S (wN rfl) rfl (by kernel_rfl) (by kernel_rfl) (bNe _ _ _ _ .i64 r6 0) rfl (by decide) (fun a S => ?_)
  refine leafL (leafT (hK8 _ _ ?_))
  rcases iteSome h with ⟨hc9, h⟩ | ⟨hc9, h⟩
  · refine sCondT (b := r6 != 0) S (by kernel_rfl) hc9 ?_
    refine sSeq (fun K10 hK10 => ?_)
    refine sRegion ?_
    refine sMove (.int .i64 r6) S (wN rfl) (.inl rfl) (by kernel_rfl) rfl (by decide) (fun a S => ?_)
    refine sMove (.int .i64 0) S (wN rfl) (.inr rfl) (by kernel_rfl) rfl (by decide) (fun a S => ?_)
    refine sMove (.int .i64 r6) S (wN rfl) (.inr rfl) (by kernel_rfl) rfl (by decide) (fun a S => ?_)
    refine leafL (leafT (hK10 _ _ ?_))
    obtain rfl := Option.some.inj h
    exact wp_ret (rThen (sRet (.tuple #[.int .i64 0, .int .i64 r6]) S (rsl2 rfl (rvT (t := 10) (v := .int .i64 0) S (by kernel_rfl)) (rvT (t := 11) (v := .int .i64 r6) S (by kernel_rfl))) ⟨(), rfl, S.mem.sel [] [] (by decide) (by kernel_rfl) (by kernel_rfl)⟩))
  · refine sCondF (b := r6 != 0) S (by kernel_rfl) hc9 ?_
    refine wp_skip (leafT (hK4 _ _ ?_))
    refine sSeq (fun K11 hK11 => ?_)
    refine sSeq (fun K12 hK12 => ?_)
    refine sRegion ?_
    refine sMove (.int .i64 p2) S (wN rfl) (.inl rfl) (by kernel_rfl) rfl (by decide) (fun a S => ?_)
    refine sMove (.int .i64 p3) S (wN rfl) (.inl rfl) (by kernel_rfl) rfl (by decide) (fun a S => ?_)
    obtain ⟨r13, hx14, h⟩ := bindSome h
    have S1 := S.mem
    refine sCallQ (X := Unit) (f := 80) (vs := [.int .i64 p2, .int .i64 0, .int .i64 p3]) (val := fun _ => .bool r13) S (wN rfl) rfl callee80 (by kernel_rfl) (S1.quiet [] (by kernel_rfl)) (fun E1 w1 S1 => c_gauge_within E1 w1 p2 0 p3 r13 hx14 S1) rfl (by decide) (fun _ a w S => ?_)
    refine sNot (b := r13) S (wN rfl) rfl (by kernel_rfl) rfl (by decide) (fun a S => ?_)
    refine leafL (leafT (hK12 _ _ ?_))
    rcases iteSome h with ⟨hc15, h⟩ | ⟨hc15, h⟩
    · refine sCondT (b := !r13) S (by kernel_rfl) hc15 ?_
      refine sSeq (fun K16 hK16 => ?_)
      refine sRegion ?_
      refine sMove (.int .i64 0) S (wN rfl) (.inr rfl) (by kernel_rfl) rfl (by decide) (fun a S => ?_)
      refine sMove (.int .i64 2) S (wN rfl) (.inr rfl) (by kernel_rfl) rfl (by decide) (fun a S => ?_)
      refine leafL (leafT (hK16 _ _ ?_))
      obtain rfl := Option.some.inj h
      exact wp_ret (rThen (sRet (.tuple #[.int .i64 0, .int .i64 2]) S (rsl2 rfl (rvT (t := 10) (v := .int .i64 0) S (by kernel_rfl)) (rvT (t := 11) (v := .int .i64 2) S (by kernel_rfl))) ⟨(), rfl, S.mem.sel [] [] (by decide) (by kernel_rfl) (by kernel_rfl)⟩))
    · refine sCondF (b := !r13) S (by kernel_rfl) hc15 ?_
      refine wp_skip (leafT (hK11 _ _ ?_))
      refine sSeq (fun K17 hK17 => ?_)
      refine sRegion ?_
      refine sLoadN (p := b3) (off := 0) (T := 121) (vs := [.int .i64 p1.num, .int .i64 p1.den]) 0 [.int .i64 p1.num, .int .i64 p1.den] S (wN rfl) rfl (by kernel_rfl) (by kernel_rfl) (by kernel_rfl) (by kernel_rfl) rfl rfl (by decide) (fun a S => ?_)
      refine sMove (.int .i64 p2) S (wN rfl) (.inl rfl) (by kernel_rfl) rfl (by decide) (fun a S => ?_)
      obtain ⟨r18, hx19, h⟩ := bindSome h
      have S1 := S.mem
      refine sCallQ (X := Unit) (f := 81) (vs := [.agg #[.int .i64 p1.num, .int .i64 p1.den], .int .i64 p2]) (val := fun _ => .int .i64 r18) S (wN rfl) rfl callee81 (by kernel_rfl) (S1.quiet [1] (by kernel_rfl)) (fun E1 w1 S1 => c_gauge_ratio_of E1 w1 p1 (.agg #[.int .i64 p1.num, .int .i64 p1.den]) p2 r18 hx19 S1) rfl (by decide) (fun _ a w S => ?_)
      refine sMove (.int .i64 r18) S (wN rfl) (.inr rfl) (by kernel_rfl) rfl (by decide) (fun a S => ?_)
      refine leafL (leafT (hK17 _ _ ?_))
      refine sSeq (fun K20 hK20 => ?_)
      refine sSeq (fun K21 hK21 => ?_)
      refine sRegion ?_
      refine sMove (.int .i64 r18) S (wN rfl) (.inl rfl) (by kernel_rfl) rfl (by decide) (fun a S => ?_)
      refine sMove (.int .i64 p4) S (wN rfl) (.inl rfl) (by kernel_rfl) rfl (by decide) (fun a S => ?_)
      refine sBin (.bool (decide (p4 < r18))) S (wN rfl) rfl (by kernel_rfl) (by kernel_rfl) (bGt _ _ _ _ .i64 r18 p4) rfl (by decide) (fun a S => ?_)
      refine leafL (leafT (hK21 _ _ ?_))
      rcases iteSome h with ⟨hc22, h⟩ | ⟨hc22, h⟩
      · refine sCondT (b := decide (p4 < r18)) S (by kernel_rfl) hc22 ?_
        refine sSeq (fun K23 hK23 => ?_)
        refine sRegion ?_
        refine sMove (.int .i64 0) S (wN rfl) (.inr rfl) (by kernel_rfl) rfl (by decide) (fun a S => ?_)
        refine sMove (.int .i64 16) S (wN rfl) (.inr rfl) (by kernel_rfl) rfl (by decide) (fun a S => ?_)
        refine leafL (leafT (hK23 _ _ ?_))
        obtain rfl := Option.some.inj h
        exact wp_ret (rThen (sRet (.tuple #[.int .i64 0, .int .i64 16]) S (rsl2 rfl (rvT (t := 10) (v := .int .i64 0) S (by kernel_rfl)) (rvT (t := 11) (v := .int .i64 16) S (by kernel_rfl))) ⟨(), rfl, S.mem.sel [] [] (by decide) (by kernel_rfl) (by kernel_rfl)⟩))
      · refine sCondF (b := decide (p4 < r18)) S (by kernel_rfl) hc22 ?_
        refine wp_skip (leafT (hK20 _ _ ?_))
        refine sSeq (fun K24 hK24 => ?_)
        refine sRegion ?_
        refine sMove (.int .i64 r18) S (wN rfl) (.inl rfl) (by kernel_rfl) rfl (by decide) (fun a S => ?_)
        refine sMove (.int .i64 r18) S (wN rfl) (.inr rfl) (by kernel_rfl) rfl (by decide) (fun a S => ?_)
        refine sMove (.int .i64 0) S (wN rfl) (.inr rfl) (by kernel_rfl) rfl (by decide) (fun a S => ?_)
        refine leafL (leafT (hK24 _ _ ?_))
        obtain rfl := Option.some.inj h
        exact wp_ret (sRet (.tuple #[.int .i64 r18, .int .i64 0]) S (rsl2 rfl (rvT (t := 10) (v := .int .i64 r18) S (by kernel_rfl)) (rvT (t := 11) (v := .int .i64 0) S (by kernel_rfl))) ⟨(), rfl, S.mem.sel [] [] (by decide) (by kernel_rfl) (by kernel_rfl)⟩)

end Go.Proofs.Ytmedbnjhgkcndaa
