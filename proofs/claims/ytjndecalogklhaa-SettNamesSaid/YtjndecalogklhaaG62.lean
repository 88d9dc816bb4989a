import Derived.Test.YtjndecalogklhaaGTy
namespace Go.Proofs.Ytjndecalogklhaa
open Go.RowKit
set_option linter.unusedVariables false

noncomputable def F_math_bits_Len64 (p0 : Int) : Option Int :=
  Option.bind (α := (Int × Int)) (
    if decide (4294967296 ≤ p0) then
      Option.bind (shrI .u64 p0 32) fun z9 =>
      some (z9, 32)
    else
      some (p0, 0)) fun (o2, o3) =>
  Option.bind (α := (Int × Int)) (
    if decide (65536 ≤ o2) then
      Option.bind (shrI .u64 o2 16) fun z18 =>
      some (z18, w64 (o3 + 16))
    else
      some (o2, o3)) fun (o11, o12) =>
  Option.bind (α := (Int × Int)) (
    if decide (256 ≤ o11) then
      Option.bind (shrI .u64 o11 8) fun z27 =>
      some (z27, w64 (o12 + 8))
    else
      some (o11, o12)) fun (o20, o21) =>
  Option.bind (idxS (⟨#[0, 1, 2, 2, 3, 3, 3, 3, 4, 4, 4, 4, 4, 4, 4, 4, 5, 5, 5, 5, 5, 5, 5, 5, 5, 5, 5, 5, 5, 5, 5, 5, 6, 6, 6, 6, 6, 6, 6, 6, 6, 6, 6, 6, 6, 6, 6, 6, 6, 6, 6, 6, 6, 6, 6, 6, 6, 6, 6, 6, 6, 6, 6, 6, 7, 7, 7, 7, 7, 7, 7, 7, 7, 7, 7, 7, 7, 7, 7, 7, 7, 7, 7, 7, 7, 7, 7, 7, 7, 7, 7, 7, 7, 7, 7, 7, 7, 7, 7, 7, 7, 7, 7, 7, 7, 7, 7, 7, 7, 7, 7, 7, 7, 7, 7, 7, 7, 7, 7, 7, 7, 7, 7, 7, 7, 7, 7, 7, 8, 8, 8, 8, 8, 8, 8, 8, 8, 8, 8, 8, 8, 8, 8, 8, 8, 8, 8, 8, 8, 8, 8, 8, 8, 8, 8, 8, 8, 8, 8, 8, 8, 8, 8, 8, 8, 8, 8, 8, 8, 8, 8, 8, 8, 8, 8, 8, 8, 8, 8, 8, 8, 8, 8, 8, 8, 8, 8, 8, 8, 8, 8, 8, 8, 8, 8, 8, 8, 8, 8, 8, 8, 8, 8, 8, 8, 8, 8, 8, 8, 8, 8, 8, 8, 8, 8, 8, 8, 8, 8, 8, 8, 8, 8, 8, 8, 8, 8, 8, 8, 8, 8, 8, 8, 8, 8, 8, 8, 8, 8, 8, 8, 8, 8, 8, 8, 8, 8, 8, 8, 8, 8, 8, 8, 8, 8, 8]⟩ : ByteArray) (IntKind.u8.wrap o20)) fun x30 =>
  some (w64 (o21 + (IntKind.i64.wrap x30)))
set_option maxHeartbeats 4000000 in
set_option maxRecDepth 100000 in
theorem c_math_bits_Len64 (E : Nat → Prop) (w0 : World) (p0 : Int) (r : Int) (h : F_math_bits_Len64 p0 = some r) (S : St0 E [] w0 w0 [] []) :
    Calls Try.prog 62 #[.int .u64 p0] w0 (Ret (X := Unit) E [] w0 (fun _ => .int .i64 r) (fun _ => []) (fun _ => [])) := by
  unfold F_math_bits_Len64 at h
  refine sEnter (args := [.int .u64 p0]) 25 Try.func62 rfl rfl (by simp) S (fun a S => ?_)
  refine sSeq (fun K1 hK1 => ?_)
  refine sRegion ?_
  refine sMove (.int .i64 0) S (wN rfl) (.inr rfl) (by kernel_rfl) rfl (by decide) (fun a S => ?_)
  refine leafL (leafT (hK1 _ _ ?_))
  obtain ⟨t4, h, g5⟩ := bindSome h
  refine sCut (fun a w => ∃ o2, ∃ o3, (o2, o3) = t4 ∧ St E [] w0 25 a w [(0, .int .u64 o2), (2, .int .i64 o3)] [] []) ?_ (fun a w hI => ?_)
  · refine sSeq (fun K6 hK6 => ?_)
    refine sRegion ?_
    refine sMove (.int .u64 p0) S (wN rfl) (.inl rfl) (by kernel_rfl) rfl (by decide) (fun a S => ?_)
    refine sBin (.bool (decide (4294967296 ≤ p0))) S (wN rfl) rfl (by kernel_rfl) (by kernel_rfl) (bGe _ _ _ _ .u64 p0 4294967296) rfl (by decide) (fun a S => ?_)
    refine leafL (leafT (hK6 _ _ ?_))
    rcases iteSome h with ⟨hc7, h⟩ | ⟨hc7, h⟩
    · refine sCondT (b := decide (4294967296 ≤ p0)) S (by kernel_rfl) hc7 ?_
      refine sSeq (fun K8 hK8 => ?_)
      refine sRegion ?_
      refine sMove (.int .u64 p0) S (wN rfl) (.inl rfl) (by kernel_rfl) rfl (by decide) (fun a S => ?_)
      obtain ⟨z9, hx10, h⟩ := bindSome h
      refine sBin (.int .u64 z9) S (wN rfl) rfl (by kernel_rfl) (by kernel_rfl) (bShrK _ _ _ _ (k := .u64) (k' := .u64) (x := p0) (y := 32) hx10) rfl (by decide) (fun a S => ?_)
      refine sMove (.int .u64 z9) S (wN rfl) (.inr rfl) (by kernel_rfl) rfl (by decide) (fun a S => ?_)
      refine leafL (leafT (hK8 _ _ ?_))
      refine sRegion ?_
      refine sMove (.int .i64 32) S (wN rfl) (.inr rfl) (by kernel_rfl) rfl (by decide) (fun a S => ?_)
      exact leafL (leafT (⟨z9, 32, Option.some.inj h, S.fix [] [] (by decide) (by kernel_rfl) (by kernel_rfl) (by kernel_rfl)⟩))
    · refine sCondF (b := decide (4294967296 ≤ p0)) S (by kernel_rfl) hc7 ?_
      exact wp_skip (leafT (⟨p0, 0, Option.some.inj h, S.fix [] [] (by decide) (by kernel_rfl) (by kernel_rfl) (by kernel_rfl)⟩))
  · obtain ⟨o2, o3, rfl, S⟩ := hI
    have h := g5
    clear g5
    try dsimp only at h
    obtain ⟨t13, h, g14⟩ := bindSome h
    refine sCut (fun a w => ∃ o11, ∃ o12, (o11, o12) = t13 ∧ St E [] w0 25 a w [(0, .int .u64 o11), (2, .int .i64 o12)] [] []) ?_ (fun a w hI => ?_)
    · refine sSeq (fun K15 hK15 => ?_)
      refine sRegion ?_
      refine sMove (.int .u64 o2) S (wN rfl) (.inl rfl) (by kernel_rfl) rfl (by decide) (fun a S => ?_)
      refine sBin (.bool (decide (65536 ≤ o2))) S (wN rfl) rfl (by kernel_rfl) (by kernel_rfl) (bGe _ _ _ _ .u64 o2 65536) rfl (by decide) (fun a S => ?_)
      refine leafL (leafT (hK15 _ _ ?_))
      rcases iteSome h with ⟨hc16, h⟩ | ⟨hc16, h⟩
      · refine sCondT (b := decide (65536 ≤ o2)) S (by kernel_rfl) hc16 ?_
        refine sSeq (fun K17 hK17 => ?_)
        refine sRegion ?_
        refine sMove (.int .u64 o2) S (wN rfl) (.inl rfl) (by kernel_rfl) rfl (by decide) (fun a S => ?_)
        obtain ⟨z18, hx19, h⟩ := bindSome h
        refine sBin (.int .u64 z18) S (wN rfl) rfl (by kernel_rfl) (by kernel_rfl) (bShrK _ _ _ _ (k := .u64) (k' := .u64) (x := o2) (y := 16) hx19) rfl (by decide) (fun a S => ?_)
        refine sMove (.int .u64 z18) S (wN rfl) (.inr rfl) (by kernel_rfl) rfl (by decide) (fun a S => ?_)
        refine leafL (leafT (hK17 _ _ ?_))
        refine sRegion ?_
        refine sMove (.int .i64 o3) S (wN rfl) (.inl rfl) (by kernel_rfl) rfl (by decide) (fun a S => ?_)
        refine sBin (.int .i64 (w64 (o3 + 16))) S (wN rfl) rfl (by kernel_rfl) (by kernel_rfl) (bAdd _ _ _ _ o3 16) rfl (by decide) (fun a S => ?_)
        refine sMove (.int .i64 (w64 (o3 + 16))) S (wN rfl) (.inr rfl) (by kernel_rfl) rfl (by decide) (fun a S => ?_)
        exact leafL (leafT (⟨z18, w64 (o3 + 16), Option.some.inj h, S.fix [] [] (by decide) (by kernel_rfl) (by kernel_rfl) (by kernel_rfl)⟩))
      · refine sCondF (b := decide (65536 ≤ o2)) S (by kernel_rfl) hc16 ?_
        exact wp_skip (leafT (⟨o2, o3, Option.some.inj h, S.fix [] [] (by decide) (by kernel_rfl) (by kernel_rfl) (by kernel_rfl)⟩))
    · obtain ⟨o11, o12, rfl, S⟩ := hI
      have h := g14
      clear g14
      try dsimp only at h
      obtain ⟨t22, h, g23⟩ := bindSome h
      refine sCut (fun a w => ∃ o20, ∃ o21, (o20, o21) = t22 ∧ St E [] w0 25 a w [(0, .int .u64 o20), (2, .int .i64 o21)] [] []) ?_ (fun a w hI => ?_)
      · refine sSeq (fun K24 hK24 => ?_)
        refine sRegion ?_
        refine sMove (.int .u64 o11) S (wN rfl) (.inl rfl) (by kernel_rfl) rfl (by decide) (fun a S => ?_)
        refine sBin (.bool (decide (256 ≤ o11))) S (wN rfl) rfl (by kernel_rfl) (by kernel_rfl) (bGe _ _ _ _ .u64 o11 256) rfl (by decide) (fun a S => ?_)
        refine leafL (leafT (hK24 _ _ ?_))
        rcases iteSome h with ⟨hc25, h⟩ | ⟨hc25, h⟩
        · refine sCondT (b := decide (256 ≤ o11)) S (by kernel_rfl) hc25 ?_
          refine sSeq (fun K26 hK26 => ?_)
          refine sRegion ?_
          refine sMove (.int .u64 o11) S (wN rfl) (.inl rfl) (by kernel_rfl) rfl (by decide) (fun a S => ?_)
          obtain ⟨z27, hx28, h⟩ := bindSome h
          refine sBin (.int .u64 z27) S (wN rfl) rfl (by kernel_rfl) (by kernel_rfl) (bShrK _ _ _ _ (k := .u64) (k' := .u64) (x := o11) (y := 8) hx28) rfl (by decide) (fun a S => ?_)
          refine sMove (.int .u64 z27) S (wN rfl) (.inr rfl) (by kernel_rfl) rfl (by decide) (fun a S => ?_)
          refine leafL (leafT (hK26 _ _ ?_))
          refine sRegion ?_
          refine sMove (.int .i64 o12) S (wN rfl) (.inl rfl) (by kernel_rfl) rfl (by decide) (fun a S => ?_)
          refine sBin (.int .i64 (w64 (o12 + 8))) S (wN rfl) rfl (by kernel_rfl) (by kernel_rfl) (bAdd _ _ _ _ o12 8) rfl (by decide) (fun a S => ?_)
          refine sMove (.int .i64 (w64 (o12 + 8))) S (wN rfl) (.inr rfl) (by kernel_rfl) rfl (by decide) (fun a S => ?_)
          exact leafL (leafT (⟨z27, w64 (o12 + 8), Option.some.inj h, S.fix [] [] (by decide) (by kernel_rfl) (by kernel_rfl) (by kernel_rfl)⟩))
        · refine sCondF (b := decide (256 ≤ o11)) S (by kernel_rfl) hc25 ?_
          exact wp_skip (leafT (⟨o11, o12, Option.some.inj h, S.fix [] [] (by decide) (by kernel_rfl) (by kernel_rfl) (by kernel_rfl)⟩))
      · obtain ⟨o20, o21, rfl, S⟩ := hI
        have h := g23
        clear g23
        try dsimp only at h
        refine sSeq (fun K29 hK29 => ?_)
        refine sRegion ?_
        refine sMove (.int .i64 o21) S (wN rfl) (.inl rfl) (by kernel_rfl) rfl (by decide) (fun a S => ?_)
        refine sMove (.int .u64 o20) S (wN rfl) (.inl rfl) (by kernel_rfl) rfl (by decide) (fun a S => ?_)
        refine sConv (k := .u64) (k2 := .u8) (b := o20) S (wN rfl) rfl Try.underlying69 Try.underlying5 (by kernel_rfl) rfl (by decide) (fun a S => ?_)
        obtain ⟨x30, hx31, h⟩ := bindSome h
        refine sIndexS (v := (⟨#[0, 1, 2, 2, 3, 3, 3, 3, 4, 4, 4, 4, 4, 4, 4, 4, 5, 5, 5, 5, 5, 5, 5, 5, 5, 5, 5, 5, 5, 5, 5, 5, 6, 6, 6, 6, 6, 6, 6, 6, 6, 6, 6, 6, 6, 6, 6, 6, 6, 6, 6, 6, 6, 6, 6, 6, 6, 6, 6, 6, 6, 6, 6, 6, 7, 7, 7, 7, 7, 7, 7, 7, 7, 7, 7, 7, 7, 7, 7, 7, 7, 7, 7, 7, 7, 7, 7, 7, 7, 7, 7, 7, 7, 7, 7, 7, 7, 7, 7, 7, 7, 7, 7, 7, 7, 7, 7, 7, 7, 7, 7, 7, 7, 7, 7, 7, 7, 7, 7, 7, 7, 7, 7, 7, 7, 7, 7, 7, 8, 8, 8, 8, 8, 8, 8, 8, 8, 8, 8, 8, 8, 8, 8, 8, 8, 8, 8, 8, 8, 8, 8, 8, 8, 8, 8, 8, 8, 8, 8, 8, 8, 8, 8, 8, 8, 8, 8, 8, 8, 8, 8, 8, 8, 8, 8, 8, 8, 8, 8, 8, 8, 8, 8, 8, 8, 8, 8, 8, 8, 8, 8, 8, 8, 8, 8, 8, 8, 8, 8, 8, 8, 8, 8, 8, 8, 8, 8, 8, 8, 8, 8, 8, 8, 8, 8, 8, 8, 8, 8, 8, 8, 8, 8, 8, 8, 8, 8, 8, 8, 8, 8, 8, 8, 8, 8, 8, 8, 8, 8, 8, 8, 8, 8, 8, 8, 8, 8, 8, 8, 8, 8, 8, 8, 8, 8, 8]⟩ : ByteArray)) (j := IntKind.u8.wrap o20) (k := .u8) S (wN rfl) rfl Try.underlying9 (by kernel_rfl) (by kernel_rfl) hx31 rfl (by decide) (fun a S => ?_)
        refine sConv (k := .u8) (k2 := .i64) (b := x30) S (wN rfl) rfl Try.underlying5 Try.underlying3 (by kernel_rfl) rfl (by decide) (fun a S => ?_)
        refine sBin (.int .i64 (w64 (o21 + (IntKind.i64.wrap x30)))) S (wN rfl) rfl (by kernel_rfl) (by kernel_rfl) (bAdd _ _ _ _ o21 (IntKind.i64.wrap x30)) rfl (by decide) (fun a S => ?_)
        refine sMove (.int .i64 (w64 (o21 + (IntKind.i64.wrap x30)))) S (wN rfl) (.inr rfl) (by kernel_rfl) rfl (by decide) (fun a S => ?_)
        refine leafL (leafT (hK29 _ _ ?_))
        obtain rfl := Option.some.inj h
        exact wp_ret (sRet (.int .i64 (w64 (o21 + (IntKind.i64.wrap x30)))) S (rsl1 rfl (rvT (t := 2) (v := .int .i64 (w64 (o21 + (IntKind.i64.wrap x30)))) S (by kernel_rfl))) ⟨(), rfl, S.mem.sel [] [] (by decide) (by kernel_rfl) (by kernel_rfl)⟩)

end Go.Proofs.Ytjndecalogklhaa
