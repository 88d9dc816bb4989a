import Derived.Test.YtjndecalogklhaaGTy
import Derived.Test.YtjndecalogklhaaG49
import Derived.Test.YtjndecalogklhaaG52
namespace Go.Proofs.Ytjndecalogklhaa
open Go.RowKit
set_option linter.unusedVariables false

noncomputable def F_sett_Cloth (p0 : Int) (p1 : api_Ratio) : Option (Int × Int) :=
  Option.bind (F_sett_upTo p1 p0) fun r5 =>
  if r5 != 0 then
    some (0, r5)
  else
    Option.bind (F_sett_over_int64_ (w64 (p0 * p1.Den)) (w64 (p1.Den + p1.Num)) false) fun r11 =>
    some (r11, 0)
set_option maxHeartbeats 4000000 in
set_option maxRecDepth 100000 in
theorem c_sett_Cloth (E : Nat → Prop) (w0 : World) (p0 : Int) (p1 : api_Ratio) (v1 : Value) (r : (Int × Int)) (h : F_sett_Cloth p0 p1 = some r) (S : St0 E [] w0 w0 [] [fRep r_api_Ratio (v1) p1]) :
    Calls Try.prog 26 #[.int .i64 p0, v1] w0 (Ret (X := Unit) E [] w0 (fun _ => .tuple #[.int .i64 r.1, .int .i64 r.2]) (fun _ => []) (fun _ => [])) := by
  unfold F_sett_Cloth at h
  obtain rfl : v1 = .agg #[.int .i64 p1.Num, .int .i64 p1.Den] := S.know (i := 0) (e := fRep r_api_Ratio (v1) p1) (by kernel_rfl)
  refine sEnter (args := [.int .i64 p0, .agg #[.int .i64 p1.Num, .int .i64 p1.Den]]) 23 Try.func26 rfl rfl (by simp) S (fun a S => ?_)
  refine sSeq (fun K1 hK1 => ?_)
  refine sRegion ?_
  refine sBox (v := .agg #[.int .i64 p1.Num, .int .i64 p1.Den]) S (wN rfl) rfl (by kernel_rfl) [.int .i64 p1.Num, .int .i64 p1.Den] rfl rfl (by decide) (fun a b2 w S => ?_)
  refine sMove (.int .i64 0) S (wN rfl) (.inr rfl) (by kernel_rfl) rfl (by decide) (fun a S => ?_)
  refine sMove (.int .i64 0) S (wN rfl) (.inr rfl) (by kernel_rfl) rfl (by decide) (fun a S => ?_)
  refine leafL (leafT (hK1 _ _ ?_))
  refine sSeq (fun K3 hK3 => ?_)
  refine sSeq (fun K4 hK4 => ?_)
  refine sRegion ?_
  refine sLoadN (p := b2) (off := 0) (T := 34) (vs := [.int .i64 p1.Num, .int .i64 p1.Den]) 0 [.int .i64 p1.Num, .int .i64 p1.Den] S (wN rfl) rfl (by kernel_rfl) (by kernel_rfl) (by kernel_rfl) (by kernel_rfl) rfl rfl (by decide) (fun a S => ?_)
  refine sMove (.int .i64 p0) S (wN rfl) (.inl rfl) (by kernel_rfl) rfl (by decide) (fun a S => ?_)
  obtain ⟨r5, hx6, h⟩ := bindSome h
  have S1 := S.mem
  refine sCallQ (X := Unit) (f := 52) (vs := [.agg #[.int .i64 p1.Num, .int .i64 p1.Den], .int .i64 p0]) (val := fun _ => .int .i64 r5) S (wN rfl) rfl callee52 (by kernel_rfl) (S1.quiet [0] (by kernel_rfl)) (fun E1 w1 S1 => c_sett_upTo E1 w1 p1 (.agg #[.int .i64 p1.Num, .int .i64 p1.Den]) p0 r5 hx6 S1) rfl (by decide) (fun _ a w S => ?_)
  refine sMove (.int .i64 r5) S (wN rfl) (.inr rfl) (by kernel_rfl) rfl (by decide) (fun a S => ?_)
  refine leafL (leafT (hK4 _ _ ?_))
  refine sSeq (fun K7 hK7 => ?_)
  refine sRegion ?_
  refine sMove (.int .i64 r5) S (wN rfl) (.inl rfl) (by kernel_rfl) rfl (by decide) (fun a S => ?_)
  refine sBin (.bool (r5 != 0)) S (wN rfl) rfl (by kernel_rfl) (by kernel_rfl) (bNe _ _ _ _ .i64 r5 0) rfl (by decide) (fun a S => ?_)
  refine leafL (leafT (hK7 _ _ ?_))
  rcases iteSome h with ⟨hc8, h⟩ | ⟨hc8, h⟩
  · refine sCondT (b := r5 != 0) S (by kernel_rfl) hc8 ?_
    refine sSeq (fun K9 hK9 => ?_)
    refine sRegion ?_
    refine sMove (.int .i64 r5) S (wN rfl) (.inl rfl) (by kernel_rfl) rfl (by decide) (fun a S => ?_)
    refine sMove (.int .i64 0) S (wN rfl) (.inr rfl) (by kernel_rfl) rfl (by decide) (fun a S => ?_)
    refine sMove (.int .i64 r5) S (wN rfl) (.inr rfl) (by kernel_rfl) rfl (by decide) (fun a S => ?_)
    refine leafL (leafT (hK9 _ _ ?_))
    obtain rfl := Option.some.inj h
    exact wp_ret (rThen (sRet (.tuple #[.int .i64 0, .int .i64 r5]) S (rsl2 rfl (rvT (t := 4) (v := .int .i64 0) S (by kernel_rfl)) (rvT (t := 5) (v := .int .i64 r5) S (by kernel_rfl))) ⟨(), rfl, S.mem.sel [] [] (by decide) (by kernel_rfl) (by kernel_rfl)⟩))
  · refine sCondF (b := r5 != 0) S (by kernel_rfl) hc8 ?_
    refine wp_skip (leafT (hK3 _ _ ?_))
    refine sSeq (fun K10 hK10 => ?_)
    refine sRegion ?_
    refine sMove (.int .i64 p0) S (wN rfl) (.inl rfl) (by kernel_rfl) rfl (by decide) (fun a S => ?_)
    refine sField (b := b2) (off := 0) 1 1 S (wN rfl) rfl (by kernel_rfl) (by kernel_rfl) rfl rfl (by decide) (fun a S => ?_)
    refine sLoad1 (p := b2) (off := 1) (T := 34) (vs := [.int .i64 p1.Num, .int .i64 p1.Den]) 0 (.int .i64 p1.Den) S (wN rfl) rfl (by kernel_rfl) (by kernel_rfl) (by kernel_rfl) rfl rfl (by decide) (fun a S => ?_)
    refine sBin (.int .i64 (w64 (p0 * p1.Den))) S (wN rfl) rfl (by kernel_rfl) (by kernel_rfl) (bMul _ _ _ _ p0 p1.Den) rfl (by decide) (fun a S => ?_)
    refine sField (b := b2) (off := 0) 1 1 S (wN rfl) rfl (by kernel_rfl) (by kernel_rfl) rfl rfl (by decide) (fun a S => ?_)
    refine sLoad1 (p := b2) (off := 1) (T := 34) (vs := [.int .i64 p1.Num, .int .i64 p1.Den]) 0 (.int .i64 p1.Den) S (wN rfl) rfl (by kernel_rfl) (by kernel_rfl) (by kernel_rfl) rfl rfl (by decide) (fun a S => ?_)
    refine sField (b := b2) (off := 0) 0 0 S (wN rfl) rfl (by kernel_rfl) (by kernel_rfl) rfl rfl (by decide) (fun a S => ?_)
    refine sLoad1 (p := b2) (off := 0) (T := 34) (vs := [.int .i64 p1.Num, .int .i64 p1.Den]) 0 (.int .i64 p1.Num) S (wN rfl) rfl (by kernel_rfl) (by kernel_rfl) (by kernel_rfl) rfl rfl (by decide) (fun a S => ?_)
    refine sBin (.int .i64 (w64 (p1.Den + p1.Num))) S (wN rfl) rfl (by kernel_rfl) (by kernel_rfl) (bAdd _ _ _ _ p1.Den p1.Num) rfl (by decide) (fun a S => ?_)
    obtain ⟨r11, hx12, h⟩ := bindSome h
    have S1 := S.mem
    refine sCallQ (X := Unit) (f := 49) (vs := [.int .i64 (w64 (p0 * p1.Den)), .int .i64 (w64 (p1.Den + p1.Num)), .bool false]) (val := fun _ => .int .i64 r11) S (wN rfl) rfl callee49 (by kernel_rfl) (S1.quiet [] (by kernel_rfl)) (fun E1 w1 S1 => c_sett_over_int64_ E1 w1 (w64 (p0 * p1.Den)) (w64 (p1.Den + p1.Num)) false r11 hx12 S1) rfl (by decide) (fun _ a w S => ?_)
    refine sMove (.int .i64 r11) S (wN rfl) (.inr rfl) (by kernel_rfl) rfl (by decide) (fun a S => ?_)
    refine sMove (.int .i64 0) S (wN rfl) (.inr rfl) (by kernel_rfl) rfl (by decide) (fun a S => ?_)
    refine leafL (leafT (hK10 _ _ ?_))
    obtain rfl := Option.some.inj h
    exact wp_ret (sRet (.tuple #[.int .i64 r11, .int .i64 0]) S (rsl2 rfl (rvT (t := 4) (v := .int .i64 r11) S (by kernel_rfl)) (rvT (t := 5) (v := .int .i64 0) S (by kernel_rfl))) ⟨(), rfl, S.mem.sel [] [] (by decide) (by kernel_rfl) (by kernel_rfl)⟩)

end Go.Proofs.Ytjndecalogklhaa
