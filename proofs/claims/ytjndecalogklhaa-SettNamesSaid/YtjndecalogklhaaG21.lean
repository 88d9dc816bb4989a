import Derived.Test.YtjndecalogklhaaGTy
import Derived.Test.YtjndecalogklhaaG46
import Derived.Test.YtjndecalogklhaaG47
import Derived.Test.YtjndecalogklhaaG48
namespace Go.Proofs.Ytjndecalogklhaa
open Go.RowKit
set_option linter.unusedVariables false

noncomputable def F_sett_Width (p0 : Int) (p1 : api_Ratio) : Option (Int × Int) :=
  Option.bind (F_sett_checked p1 true p0) fun r5 =>
  if r5 != 0 then
    some (0, r5)
  else
    Option.bind (F_math_bits_Mul64 (IntKind.u64.wrap (w64 (p0 * 1000))) (IntKind.u64.wrap p1.Den)) fun r11 =>
    if decide ((IntKind.u64.wrap p1.Num) ≤ r11.1) then
      some (0, 16)
    else
      Option.bind (F_math_bits_Div64 r11.1 r11.2 (IntKind.u64.wrap p1.Num)) fun r18 =>
      Option.bind (α := Int) (
        if decide (0 < r18.2) then
          some (IntKind.u64.wrap (r18.1 + 1))
        else
          some r18.1) fun o20 =>
      if decide (1000000000 < o20) then
        some (0, 16)
      else
        some (IntKind.i64.wrap o20, 0)
set_option maxHeartbeats 4000000 in
set_option maxRecDepth 100000 in
theorem c_sett_Width (E : Nat → Prop) (w0 : World) (p0 : Int) (p1 : api_Ratio) (v1 : Value) (r : (Int × Int)) (h : F_sett_Width p0 p1 = some r) (S : St0 E [] w0 w0 [] [fRep r_api_Ratio (v1) p1]) :
    Calls Try.prog 21 #[.int .i64 p0, v1] w0 (Ret (X := Unit) E [] w0 (fun _ => .tuple #[.int .i64 r.1, .int .i64 r.2]) (fun _ => []) (fun _ => [])) := by
  unfold F_sett_Width at h
  obtain rfl : v1 = .agg #[.int .i64 p1.Num, .int .i64 p1.Den] := S.know (i := 0) (e := fRep r_api_Ratio (v1) p1) (by kernel_rfl)
  refine sEnter (args := [.int .i64 p0, .agg #[.int .i64 p1.Num, .int .i64 p1.Den]]) 49 Try.func21 rfl rfl (by simp) S (fun a S => ?_)
  refine sSeq (fun K1 hK1 => ?_)
  refine sRegion ?_
  refine sBox (v := .agg #[.int .i64 p1.Num, .int .i64 p1.Den]) S (wN rfl) rfl (by kernel_rfl) [.int .i64 p1.Num, .int .i64 p1.Den] rfl rfl (by decide) (fun a b2 w S => ?_)
  refine sMove (.int .i64 0) S (wN rfl) (.inr rfl) (by kernel_rfl) rfl (by decide) (fun a S => ?_)
  refine sMove (.int .i64 0) S (wN rfl) (.inr rfl) (by kernel_rfl) rfl (by decide) (fun a S => ?_)
  refine leafL (leafT (hK1 _ _ ?_))
  refine sSeq (fun K3 hK3 => ?_)
  refine sSeq (fun K4 hK4 => ?_)
  refine sRegion ?_
  refine sLoadN (p := b2) (off := 0) (T := 34) (vs := [.int .i64 p1.Num, .int .i64 p1.Den]) 0 [.int .i64 p1.Num, .int .i64 p1.Den] S (wN rfl) rfl (by kernel_rfl) (by kernel_rfl) (by kernel_rfl) (by kernel_rfl) rfl rfl (by decide) (fun a S => ?_)
  refine sMove (.int .i64 p0) S (wN rfl) (.inl rfl) (by kernel_rfl) rfl (by decide) (fun a S => ?_)
  obtain ⟨r5, hx6, h⟩ := bindSome h
  have S1 := S.mem
  refine sCallQ (X := Unit) (f := 46) (vs := [.agg #[.int .i64 p1.Num, .int .i64 p1.Den], .bool true, .int .i64 p0]) (val := fun _ => .int .i64 r5) S (wN rfl) rfl callee46 (by kernel_rfl) (S1.quiet [0] (by kernel_rfl)) (fun E1 w1 S1 => c_sett_checked E1 w1 p1 (.agg #[.int .i64 p1.Num, .int .i64 p1.Den]) true p0 r5 hx6 S1) rfl (by decide) (fun _ a w S => ?_)
  refine sMove (.int .i64 r5) S (wN rfl) (.inr rfl) (by kernel_rfl) rfl (by decide) (fun a S => ?_)
  refine leafL (leafT (hK4 _ _ ?_))
  refine sSeq (fun K7 hK7 => ?_)
  refine sRegion ?_
  refine sMove (.int .i64 r5) S (wN rfl) (.inl rfl) (by kernel_rfl) rfl (by decide) (fun a S => ?_)
  refine sBin (.bool (r5 != 0)) S (wN rfl) rfl (by kernel_rfl) (by kernel_rfl) (bNe _ _ _ _ .i64 r5 0) rfl (by decide) (fun a S => ?_)
  refine leafL (leafT (hK7 _ _ ?_))
  rcases iteSome h with ⟨hc8, h⟩ | ⟨hc8, h⟩
  · refine sCondT (b := r5 != 0) S (by kernel_rfl) hc8 ?_
    refine sSeq (fun K9 hK9 => ?_)
    refine sRegion ?_
    refine sMove (.int .i64 r5) S (wN rfl) (.inl rfl) (by kernel_rfl) rfl (by decide) (fun a S => ?_)
    refine sMove (.int .i64 0) S (wN rfl) (.inr rfl) (by kernel_rfl) rfl (by decide) (fun a S => ?_)
    refine sMove (.int .i64 r5) S (wN rfl) (.inr rfl) (by kernel_rfl) rfl (by decide) (fun a S => ?_)
    refine leafL (leafT (hK9 _ _ ?_))
    obtain rfl := Option.some.inj h
    exact wp_ret (rThen (sRet (.tuple #[.int .i64 0, .int .i64 r5]) S (rsl2 rfl (rvT (t := 4) (v := .int .i64 0) S (by kernel_rfl)) (rvT (t := 5) (v := .int .i64 r5) S (by kernel_rfl))) ⟨(), rfl, S.mem.sel [] [] (by decide) (by kernel_rfl) (by kernel_rfl)⟩))
  · refine sCondF (b := r5 != 0) S (by kernel_rfl) hc8 ?_
    refine wp_skip (leafT (hK3 _ _ ?_))
    refine sSeq (fun K10 hK10 => ?_)
    refine sRegion ?_
    refine sMove (.int .i64 p0) S (wN rfl) (.inl rfl) (by kernel_rfl) rfl (by decide) (fun a S => ?_)
    refine sBin (.int .i64 (w64 (p0 * 1000))) S (wN rfl) rfl (by kernel_rfl) (by kernel_rfl) (bMul _ _ _ _ p0 1000) rfl (by decide) (fun a S => ?_)
    refine sConv (k := .i64) (k2 := .u64) (b := w64 (p0 * 1000)) S (wN rfl) rfl Try.underlying2 Try.underlying69 (by kernel_rfl) rfl (by decide) (fun a S => ?_)
    refine sField (b := b2) (off := 0) 1 1 S (wN rfl) rfl (by kernel_rfl) (by kernel_rfl) rfl rfl (by decide) (fun a S => ?_)
    refine sLoad1 (p := b2) (off := 1) (T := 34) (vs := [.int .i64 p1.Num, .int .i64 p1.Den]) 0 (.int .i64 p1.Den) S (wN rfl) rfl (by kernel_rfl) (by kernel_rfl) (by kernel_rfl) rfl rfl (by decide) (fun a S => ?_)
    refine sConv (k := .i64) (k2 := .u64) (b := p1.Den) S (wN rfl) rfl Try.underlying2 Try.underlying69 (by kernel_rfl) rfl (by decide) (fun a S => ?_)
    obtain ⟨r11, hx12, h⟩ := bindSome h
    have S1 := S.mem
    refine sCallQ (X := Unit) (f := 47) (vs := [.int .u64 (IntKind.u64.wrap (w64 (p0 * 1000))), .int .u64 (IntKind.u64.wrap p1.Den)]) (val := fun _ => .tuple #[.int .u64 r11.1, .int .u64 r11.2]) S (wN rfl) rfl callee47 (by kernel_rfl) (S1.quiet [] (by kernel_rfl)) (fun E1 w1 S1 => c_math_bits_Mul64 E1 w1 (IntKind.u64.wrap (w64 (p0 * 1000))) (IntKind.u64.wrap p1.Den) r11 hx12 S1) rfl (by decide) (fun _ a w S => ?_)
    refine sMove (.tuple #[.int .u64 r11.1, .int .u64 r11.2]) S (wN rfl) (.inl rfl) (by kernel_rfl) rfl (by decide) (fun a S => ?_)
    refine sExtract (vs := [.int .u64 r11.1, .int .u64 r11.2]) (.int .u64 r11.1) S (wN rfl) rfl (by kernel_rfl) rfl rfl (by decide) (fun a S => ?_)
    refine sExtract (vs := [.int .u64 r11.1, .int .u64 r11.2]) (.int .u64 r11.2) S (wN rfl) rfl (by kernel_rfl) rfl rfl (by decide) (fun a S => ?_)
    refine sMove (.int .u64 r11.1) S (wN rfl) (.inr rfl) (by kernel_rfl) rfl (by decide) (fun a S => ?_)
    refine sMove (.int .u64 r11.2) S (wN rfl) (.inr rfl) (by kernel_rfl) rfl (by decide) (fun a S => ?_)
    refine leafL (leafT (hK10 _ _ ?_))
    refine sSeq (fun K13 hK13 => ?_)
    refine sSeq (fun K14 hK14 => ?_)
    refine sRegion ?_
    refine sMove (.int .u64 r11.1) S (wN rfl) (.inl rfl) (by kernel_rfl) rfl (by decide) (fun a S => ?_)
    refine sField (b := b2) (off := 0) 0 0 S (wN rfl) rfl (by kernel_rfl) (by kernel_rfl) rfl rfl (by decide) (fun a S => ?_)
    refine sLoad1 (p := b2) (off := 0) (T := 34) (vs := [.int .i64 p1.Num, .int .i64 p1.Den]) 0 (.int .i64 p1.Num) S (wN rfl) rfl (by kernel_rfl) (by kernel_rfl) (by kernel_rfl) rfl rfl (by decide) (fun a S => ?_)
    refine sConv (k := .i64) (k2 := .u64) (b := p1.Num) S (wN rfl) rfl Try.underlying2 Try.underlying69 (by kernel_rfl) rfl (by decide) (fun a S => ?_)
    refine sBin (.bool (decide ((IntKind.u64.wrap p1.Num) ≤ r11.1))) S (wN rfl) rfl (by kernel_rfl) (by kernel_rfl) (bGe _ _ _ _ .u64 r11.1 (IntKind.u64.wrap p1.Num)) rfl (by decide) (fun a S => ?_)
    refine leafL (leafT (hK14 _ _ ?_))
    rcases iteSome h with ⟨hc15, h⟩ | ⟨hc15, h⟩
    · refine sCondT (b := decide ((IntKind.u64.wrap p1.Num) ≤ r11.1)) S (by kernel_rfl) hc15 ?_
      refine sSeq (fun K16 hK16 => ?_)
      refine sRegion ?_
      refine sMove (.int .i64 0) S (wN rfl) (.inr rfl) (by kernel_rfl) rfl (by decide) (fun a S => ?_)
      refine sMove (.int .i64 16) S (wN rfl) (.inr rfl) (by kernel_rfl) rfl (by decide) (fun a S => ?_)
      refine leafL (leafT (hK16 _ _ ?_))
      obtain rfl := Option.some.inj h
      exact wp_ret (rThen (sRet (.tuple #[.int .i64 0, .int .i64 16]) S (rsl2 rfl (rvT (t := 4) (v := .int .i64 0) S (by kernel_rfl)) (rvT (t := 5) (v := .int .i64 16) S (by kernel_rfl))) ⟨(), rfl, S.mem.sel [] [] (by decide) (by kernel_rfl) (by kernel_rfl)⟩))
    · refine sCondF (b := decide ((IntKind.u64.wrap p1.Num) ≤ r11.1)) S (by kernel_rfl) hc15 ?_
      refine wp_skip (leafT (hK13 _ _ ?_))
      refine sSeq (fun K17 hK17 => ?_)
      refine sRegion ?_
      refine sMove (.int .u64 r11.1) S (wN rfl) (.inl rfl) (by kernel_rfl) rfl (by decide) (fun a S => ?_)
      refine sMove (.int .u64 r11.2) S (wN rfl) (.inl rfl) (by kernel_rfl) rfl (by decide) (fun a S => ?_)
      refine sField (b := b2) (off := 0) 0 0 S (wN rfl) rfl (by kernel_rfl) (by kernel_rfl) rfl rfl (by decide) (fun a S => ?_)
      refine sLoad1 (p := b2) (off := 0) (T := 34) (vs := [.int .i64 p1.Num, .int .i64 p1.Den]) 0 (.int .i64 p1.Num) S (wN rfl) rfl (by kernel_rfl) (by kernel_rfl) (by kernel_rfl) rfl rfl (by decide) (fun a S => ?_)
      refine sConv (k := .i64) (k2 := .u64) (b := p1.Num) S (wN rfl) rfl Try.underlying2 Try.underlying69 (by kernel_rfl) rfl (by decide) (fun a S => ?_)
      obtain ⟨r18, hx19, h⟩ := bindSome h
      have S1 := S.mem
      refine sCallQ (X := Unit) (f := 48) (vs := [.int .u64 r11.1, .int .u64 r11.2, .int .u64 (IntKind.u64.wrap p1.Num)]) (val := fun _ => .tuple #[.int .u64 r18.1, .int .u64 r18.2]) S (wN rfl) rfl callee48 (by kernel_rfl) (S1.quiet [] (by kernel_rfl)) (fun E1 w1 S1 => c_math_bits_Div64 E1 w1 r11.1 r11.2 (IntKind.u64.wrap p1.Num) r18 hx19 S1) rfl (by decide) (fun _ a w S => ?_)
      refine sMove (.tuple #[.int .u64 r18.1, .int .u64 r18.2]) S (wN rfl) (.inl rfl) (by kernel_rfl) rfl (by decide) (fun a S => ?_)
      refine sExtract (vs := [.int .u64 r18.1, .int .u64 r18.2]) (.int .u64 r18.1) S (wN rfl) rfl (by kernel_rfl) rfl rfl (by decide) (fun a S => ?_)
      refine sExtract (vs := [.int .u64 r18.1, .int .u64 r18.2]) (.int .u64 r18.2) S (wN rfl) rfl (by kernel_rfl) rfl rfl (by decide) (fun a S => ?_)
      refine sMove (.int .u64 r18.1) S (wN rfl) (.inr rfl) (by kernel_rfl) rfl (by decide) (fun a S => ?_)
      refine sMove (.int .u64 r18.2) S (wN rfl) (.inr rfl) (by kernel_rfl) rfl (by decide) (fun a S => ?_)
      refine leafL (leafT (hK17 _ _ ?_))
      obtain ⟨t21, h, g22⟩ := bindSome h
      refine sCut (fun a w => ∃ o20, o20 = t21 ∧ St E [] w0 49 a w [(9, .int .u64 o20)] [] []) ?_ (fun a w hI => ?_)
      · refine sSeq (fun K23 hK23 => ?_)
        refine sRegion ?_
        refine sMove (.int .u64 r18.2) S (wN rfl) (.inl rfl) (by kernel_rfl) rfl (by decide) (fun a S => ?_)
        refine sBin (.bool (decide (0 < r18.2))) S (wN rfl) rfl (by kernel_rfl) (by kernel_rfl) (bGt _ _ _ _ .u64 r18.2 0) rfl (by decide) (fun a S => ?_)
        refine leafL (leafT (hK23 _ _ ?_))
        rcases iteSome h with ⟨hc24, h⟩ | ⟨hc24, h⟩
        · refine sCondT (b := decide (0 < r18.2)) S (by kernel_rfl) hc24 ?_
          refine sRegion ?_
          refine sMove (.int .u64 r18.1) S (wN rfl) (.inl rfl) (by kernel_rfl) rfl (by decide) (fun a S => ?_)
          refine sBin (.int .u64 (IntKind.u64.wrap (r18.1 + 1))) S (wN rfl) rfl (by kernel_rfl) (by kernel_rfl) (bAddK _ _ _ _ .u64 r18.1 1) rfl (by decide) (fun a S => ?_)
          refine sMove (.int .u64 (IntKind.u64.wrap (r18.1 + 1))) S (wN rfl) (.inr rfl) (by kernel_rfl) rfl (by decide) (fun a S => ?_)
          exact leafL (leafT (⟨IntKind.u64.wrap (r18.1 + 1), Option.some.inj h, S.fix [] [] (by decide) (by kernel_rfl) (by kernel_rfl) (by kernel_rfl)⟩))
        · refine sCondF (b := decide (0 < r18.2)) S (by kernel_rfl) hc24 ?_
          exact wp_skip (leafT (⟨r18.1, Option.some.inj h, S.fix [] [] (by decide) (by kernel_rfl) (by kernel_rfl) (by kernel_rfl)⟩))
      · obtain ⟨o20, rfl, S⟩ := hI
        have h := g22
        clear g22
        try dsimp only at h
        refine sSeq (fun K25 hK25 => ?_)
        refine sSeq (fun K26 hK26 => ?_)
        refine sRegion ?_
        refine sMove (.int .u64 o20) S (wN rfl) (.inl rfl) (by kernel_rfl) rfl (by decide) (fun a S => ?_)
        refine sBin (.bool (decide (1000000000 < o20))) S (wN rfl) rfl (by kernel_rfl) (by kernel_rfl) (bGt _ _ _ _ .u64 o20 1000000000) rfl (by decide) (fun a S => ?_)
        refine leafL (leafT (hK26 _ _ ?_))
        rcases iteSome h with ⟨hc27, h⟩ | ⟨hc27, h⟩
        · refine sCondT (b := decide (1000000000 < o20)) S (by kernel_rfl) hc27 ?_
          refine sSeq (fun K28 hK28 => ?_)
          refine sRegion ?_
          refine sMove (.int .i64 0) S (wN rfl) (.inr rfl) (by kernel_rfl) rfl (by decide) (fun a S => ?_)
          refine sMove (.int .i64 16) S (wN rfl) (.inr rfl) (by kernel_rfl) rfl (by decide) (fun a S => ?_)
          refine leafL (leafT (hK28 _ _ ?_))
          obtain rfl := Option.some.inj h
          exact wp_ret (rThen (sRet (.tuple #[.int .i64 0, .int .i64 16]) S (rsl2 rfl (rvT (t := 4) (v := .int .i64 0) S (by kernel_rfl)) (rvT (t := 5) (v := .int .i64 16) S (by kernel_rfl))) ⟨(), rfl, S.mem.sel [] [] (by decide) (by kernel_rfl) (by kernel_rfl)⟩))
        · refine sCondF (b := decide (1000000000 < o20)) S (by kernel_rfl) hc27 ?_
          refine wp_skip (leafT (hK25 _ _ ?_))
          refine sSeq (fun K29 hK29 => ?_)
          refine sRegion ?_
          refine sMove (.int .u64 o20) S (wN rfl) (.inl rfl) (by kernel_rfl) rfl (by decide) (fun a S => ?_)
          refine sConv (k := .u64) (k2 := .i64) (b := o20) S (wN rfl) rfl Try.underlying69 Try.underlying2 (by kernel_rfl) rfl (by decide) (fun a S => ?_)
          refine sMove (.int .i64 (IntKind.i64.wrap o20)) S (wN rfl) (.inr rfl) (by kernel_rfl) rfl (by decide) (fun a S => ?_)
          refine sMove (.int .i64 0) S (wN rfl) (.inr rfl) (by kernel_rfl) rfl (by decide) (fun a S => ?_)
          refine leafL (leafT (hK29 _ _ ?_))
          obtain rfl := Option.some.inj h
          exact wp_ret (sRet (.tuple #[.int .i64 (IntKind.i64.wrap o20), .int .i64 0]) S (rsl2 rfl (rvT (t := 4) (v := .int .i64 (IntKind.i64.wrap o20)) S (by kernel_rfl)) (rvT (t := 5) (v := .int .i64 0) S (by kernel_rfl))) ⟨(), rfl, S.mem.sel [] [] (by decide) (by kernel_rfl) (by kernel_rfl)⟩)

end Go.Proofs.Ytjndecalogklhaa
