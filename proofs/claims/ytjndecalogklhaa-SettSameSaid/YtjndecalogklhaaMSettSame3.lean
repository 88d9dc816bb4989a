/- Several texts in one: G62 G61 G48 G21 G49 G22 G38 G50s0 G51s0 G23 G24 G52 G25 KeAlive -/
import Derived.WalkKit
import Derived.Maps.AppendAt
import Derived.Deep.AppendLies
import Derived.KernelRfl
import Derived.Laws.OwnMore
import Derived.Great.BuildSlice
import Derived.Orders
import Derived.Laws.StructEq
import Derived.ChangeKeysEq
import Derived.Test.YtjndecalogklhaaProg
import Derived.ProofKit
import Derived.OpenShut
import Derived.ChangeOld
import Derived.Deep.Slices
import Derived.Lib.SmallJoins
import Derived.JoinedOf
import Derived.JoinedAt
import Derived.Below
import Derived.Test.YtjndecalogklhaaRows
import Derived.Test.YtjndecalogklhaaMSettSame2
namespace Go.Proofs.Ytjndecalogklhaa
open Go.RowKit
set_option linter.unusedVariables false

noncomputable def F_math_bits_Len64 (p0 : Int) : Option Int :=
  Option.bind (α := (Int × Int)) (
    if decide (4294967296 ≤ p0) then
      Option.bind (shrI .u64 p0 32) fun z9 =>
      some (z9, 32)
    else
      some (p0, 0)) fun (o2, o3) =>
  Option.bind (α := (Int × Int)) (
    if decide (65536 ≤ o2) then
      Option.bind (shrI .u64 o2 16) fun z18 =>
      some (z18, w64 (o3 + 16))
    else
      some (o2, o3)) fun (o11, o12) =>
  Option.bind (α := (Int × Int)) (
    if decide (256 ≤ o11) then
      Option.bind (shrI .u64 o11 8) fun z27 =>
      some (z27, w64 (o12 + 8))
    else
      some (o11, o12)) fun (o20, o21) =>
  Option.bind (idxS (⟨#[0, 1, 2, 2, 3, 3, 3, 3, 4, 4, 4, 4, 4, 4, 4, 4, 5, 5, 5, 5, 5, 5, 5, 5, 5, 5, 5, 5, 5, 5, 5, 5, 6, 6, 6, 6, 6, 6, 6, 6, 6, 6, 6, 6, 6, 6, 6, 6, 6, 6, 6, 6, 6, 6, 6, 6, 6, 6, 6, 6, 6, 6, 6, 6, 7, 7, 7, 7, 7, 7, 7, 7, 7, 7, 7, 7, 7, 7, 7, 7, 7, 7, 7, 7, 7, 7, 7, 7, 7, 7, 7, 7, 7, 7, 7, 7, 7, 7, 7, 7, 7, 7, 7, 7, 7, 7, 7, 7, 7, 7, 7, 7, 7, 7, 7, 7, 7, 7, 7, 7, 7, 7, 7, 7, 7, 7, 7, 7, 8, 8, 8, 8, 8, 8, 8, 8, 8, 8, 8, 8, 8, 8, 8, 8, 8, 8, 8, 8, 8, 8, 8, 8, 8, 8, 8, 8, 8, 8, 8, 8, 8, 8, 8, 8, 8, 8, 8, 8, 8, 8, 8, 8, 8, 8, 8, 8, 8, 8, 8, 8, 8, 8, 8, 8, 8, 8, 8, 8, 8, 8, 8, 8, 8, 8, 8, 8, 8, 8, 8, 8, 8, 8, 8, 8, 8, 8, 8, 8, 8, 8, 8, 8, 8, 8, 8, 8, 8, 8, 8, 8, 8, 8, 8, 8, 8, 8, 8, 8, 8, 8, 8, 8, 8, 8, 8, 8, 8, 8, 8, 8, 8, 8, 8, 8, 8, 8, 8, 8, 8, 8, 8, 8, 8, 8, 8, 8]⟩ : ByteArray) (IntKind.u8.wrap o20)) fun x30 =>
  some (w64 (o21 + (IntKind.i64.wrap x30)))
set_option maxHeartbeats 4000000 in
set_option maxRecDepth 100000 in
theorem c_math_bits_Len64 (E : Nat → Prop) (w0 : World) (p0 : Int) (r : Int) (h : F_math_bits_Len64 p0 = some r) (S : St0 E [] w0 w0 [] []) :
    Calls Try.prog 62 #[.int .u64 p0] w0 (Ret (X := Unit) E [] w0 (fun _ => .int .i64 r) (fun _ => []) (fun _ => [])) := by
  unfold F_math_bits_Len64 at h
  refine sEnter (args := [.int .u64 p0]) 25 Try.func62 rfl rfl (by simp) S (fun a S => ?_)
  refine sSeq (fun K1 hK1 => ?_)
  refine sRegion ?_
  refine sMove (.int .i64 0) S (wN rfl) (.inr rfl) (by kernel_rfl) rfl (by decide) (fun a S => ?_)
  refine leafL (leafT (hK1 _ _ ?_))
  obtain ⟨t4, h, g5⟩ := bindSome h
  refine sCut (fun a w => ∃ o2, ∃ o3, (o2, o3) = t4 ∧ St E [] w0 25 a w [(0, .int .u64 o2), (2, .int .i64 o3)] [] []) ?_ (fun a w hI => ?_)
  · refine sSeq (fun K6 hK6 => ?_)
    refine sRegion ?_
    refine sMove (.int .u64 p0) S (wN rfl) (.inl rfl) (by kernel_rfl) rfl (by decide) (fun a S => ?_)
    refine sBin (.bool (decide (4294967296 ≤ p0))) S (wN rfl) rfl (by kernel_rfl) (by kernel_rfl) (bGe _ _ _ _ .u64 p0 4294967296) rfl (by decide) (fun a S => ?_)
    refine leafL (leafT (hK6 _ _ ?_))
    rcases iteSome h with ⟨hc7, h⟩ | ⟨hc7, h⟩
    · refine sCondT (b := decide (4294967296 ≤ p0)) S (by kernel_rfl) hc7 ?_
      refine sSeq (fun K8 hK8 => ?_)
      refine sRegion ?_
      refine sMove (.int .u64 p0) S (wN rfl) (.inl rfl) (by kernel_rfl) rfl (by decide) (fun a S => ?_)
      obtain ⟨z9, hx10, h⟩ := bindSome h
      refine sBin (.int .u64 z9) S (wN rfl) rfl (by kernel_rfl) (by kernel_rfl) (bShrK _ _ _ _ (k := .u64) (k' := .u64) (x := p0) (y := 32) hx10) rfl (by decide) (fun a S => ?_)
      refine sMove (.int .u64 z9) S (wN rfl) (.inr rfl) (by kernel_rfl) rfl (by decide) (fun a S => ?_)
      refine leafL (leafT (hK8 _ _ ?_))
      refine sRegion ?_
      refine sMove (.int .i64 32) S (wN rfl) (.inr rfl) (by kernel_rfl) rfl (by decide) (fun a S => ?_)
      exact leafL (leafT (⟨z9, 32, Option.some.inj h, S.fix [] [] (by decide) (by kernel_rfl) (by kernel_rfl) (by kernel_rfl)⟩))
    · refine sCondF (b := decide (4294967296 ≤ p0)) S (by kernel_rfl) hc7 ?_
      exact wp_skip (leafT (⟨p0, 0, Option.some.inj h, S.fix [] [] (by decide) (by kernel_rfl) (by kernel_rfl) (by kernel_rfl)⟩))
  · obtain ⟨o2, o3, rfl, S⟩ := hI
    have h := g5
    clear g5
    try dsimp only at h
    obtain ⟨t13, h, g14⟩ := bindSome h
    refine sCut (fun a w => ∃ o11, ∃ o12, (o11, o12) = t13 ∧ St E [] w0 25 a w [(0, .int .u64 o11), (2, .int .i64 o12)] [] []) ?_ (fun a w hI => ?_)
    · refine sSeq (fun K15 hK15 => ?_)
      refine sRegion ?_
      refine sMove (.int .u64 o2) S (wN rfl) (.inl rfl) (by kernel_rfl) rfl (by decide) (fun a S => ?_)
      refine sBin (.bool (decide (65536 ≤ o2))) S (wN rfl) rfl (by kernel_rfl) (by kernel_rfl) (bGe _ _ _ _ .u64 o2 65536) rfl (by decide) (fun a S => ?_)
      refine leafL (leafT (hK15 _ _ ?_))
      rcases iteSome h with ⟨hc16, h⟩ | ⟨hc16, h⟩
      · refine sCondT (b := decide (65536 ≤ o2)) S (by kernel_rfl) hc16 ?_
        refine sSeq (fun K17 hK17 => ?_)
        refine sRegion ?_
        refine sMove (.int .u64 o2) S (wN rfl) (.inl rfl) (by kernel_rfl) rfl (by decide) (fun a S => ?_)
        obtain ⟨z18, hx19, h⟩ := bindSome h
        refine sBin (.int .u64 z18) S (wN rfl) rfl (by kernel_rfl) (by kernel_rfl) (bShrK _ _ _ _ (k := .u64) (k' := .u64) (x := o2) (y := 16) hx19) rfl (by decide) (fun a S => ?_)
        refine sMove (.int .u64 z18) S (wN rfl) (.inr rfl) (by kernel_rfl) rfl (by decide) (fun a S => ?_)
        refine leafL (leafT (hK17 _ _ ?_))
        refine sRegion ?_
        refine sMove (.int .i64 o3) S (wN rfl) (.inl rfl) (by kernel_rfl) rfl (by decide) (fun a S => ?_)
        refine sBin (.int .i64 (w64 (o3 + 16))) S (wN rfl) rfl (by kernel_rfl) (by kernel_rfl) (bAdd _ _ _ _ o3 16) rfl (by decide) (fun a S => ?_)
        refine sMove (.int .i64 (w64 (o3 + 16))) S (wN rfl) (.inr rfl) (by kernel_rfl) rfl (by decide) (fun a S => ?_)
        exact leafL (leafT (⟨z18, w64 (o3 + 16), Option.some.inj h, S.fix [] [] (by decide) (by kernel_rfl) (by kernel_rfl) (by kernel_rfl)⟩))
      · refine sCondF (b := decide (65536 ≤ o2)) S (by kernel_rfl) hc16 ?_
        exact wp_skip (leafT (⟨o2, o3, Option.some.inj h, S.fix [] [] (by decide) (by kernel_rfl) (by kernel_rfl) (by kernel_rfl)⟩))
    · obtain ⟨o11, o12, rfl, S⟩ := hI
      have h := g14
      clear g14
      try dsimp only at h
      obtain ⟨t22, h, g23⟩ := bindSome h
      refine sCut (fun a w => ∃ o20, ∃ o21, (o20, o21) = t22 ∧ St E [] w0 25 a w [(0, .int .u64 o20), (2, .int .i64 o21)] [] []) ?_ (fun a w hI => ?_)
      · refine sSeq (fun K24 hK24 => ?_)
        refine sRegion ?_
        refine sMove (.int .u64 o11) S (wN rfl) (.inl rfl) (by kernel_rfl) rfl (by decide) (fun a S => ?_)
        refine sBin (.bool (decide (256 ≤ o11))) S (wN rfl) rfl (by kernel_rfl) (by kernel_rfl) (bGe _ _ _ _ .u64 o11 256) rfl (by decide) (fun a S => ?_)
        refine leafL (leafT (hK24 _ _ ?_))
        rcases iteSome h with ⟨hc25, h⟩ | ⟨hc25, h⟩
        · refine sCondT (b := decide (256 ≤ o11)) S (by kernel_rfl) hc25 ?_
          refine sSeq (fun K26 hK26 => ?_)
          refine sRegion ?_
          refine sMove (.int .u64 o11) S (wN rfl) (.inl rfl) (by kernel_rfl) rfl (by decide) (fun a S => ?_)
          obtain ⟨z27, hx28, h⟩ := bindSome h
          refine sBin (.int .u64 z27) S (wN rfl) rfl (by kernel_rfl) (by kernel_rfl) (bShrK _ _ _ _ (k := .u64) (k' := .u64) (x := o11) (y := 8) hx28) rfl (by decide) (fun a S => ?_)
          refine sMove (.int .u64 z27) S (wN rfl) (.inr rfl) (by kernel_rfl) rfl (by decide) (fun a S => ?_)
          refine leafL (leafT (hK26 _ _ ?_))
          refine sRegion ?_
          refine sMove (.int .i64 o12) S (wN rfl) (.inl rfl) (by kernel_rfl) rfl (by decide) (fun a S => ?_)
          refine sBin (.int .i64 (w64 (o12 + 8))) S (wN rfl) rfl (by kernel_rfl) (by kernel_rfl) (bAdd _ _ _ _ o12 8) rfl (by decide) (fun a S => ?_)
          refine sMove (.int .i64 (w64 (o12 + 8))) S (wN rfl) (.inr rfl) (by kernel_rfl) rfl (by decide) (fun a S => ?_)
          exact leafL (leafT (⟨z27, w64 (o12 + 8), Option.some.inj h, S.fix [] [] (by decide) (by kernel_rfl) (by kernel_rfl) (by kernel_rfl)⟩))
        · refine sCondF (b := decide (256 ≤ o11)) S (by kernel_rfl) hc25 ?_
          exact wp_skip (leafT (⟨o11, o12, Option.some.inj h, S.fix [] [] (by decide) (by kernel_rfl) (by kernel_rfl) (by kernel_rfl)⟩))
      · obtain ⟨o20, o21, rfl, S⟩ := hI
        have h := g23
        clear g23
        try dsimp only at h
        refine sSeq (fun K29 hK29 => ?_)
        refine sRegion ?_
        refine sMove (.int .i64 o21) S (wN rfl) (.inl rfl) (by kernel_rfl) rfl (by decide) (fun a S => ?_)
        refine sMove (.int .u64 o20) S (wN rfl) (.inl rfl) (by kernel_rfl) rfl (by decide) (fun a S => ?_)
        refine sConv (k := .u64) (k2 := .u8) (b := o20) S (wN rfl) rfl Try.underlying69 Try.underlying5 (by kernel_rfl) rfl (by decide) (fun a S => ?_)
        obtain ⟨x30, hx31, h⟩ := bindSome h
        refine sIndexS (v := (⟨#[0, 1, 2, 2, 3, 3, 3, 3, 4, 4, 4, 4, 4, 4, 4, 4, 5, 5, 5, 5, 5, 5, 5, 5, 5, 5, 5, 5, 5, 5, 5, 5, 6, 6, 6, 6, 6, 6, 6, 6, 6, 6, 6, 6, 6, 6, 6, 6, 6, 6, 6, 6, 6, 6, 6, 6, 6, 6, 6, 6, 6, 6, 6, 6, 7, 7, 7, 7, 7, 7, 7, 7, 7, 7, 7, 7, 7, 7, 7, 7, 7, 7, 7, 7, 7, 7, 7, 7, 7, 7, 7, 7, 7, 7, 7, 7, 7, 7, 7, 7, 7, 7, 7, 7, 7, 7, 7, 7, 7, 7, 7, 7, 7, 7, 7, 7, 7, 7, 7, 7, 7, 7, 7, 7, 7, 7, 7, 7, 8, 8, 8, 8, 8, 8, 8, 8, 8, 8, 8, 8, 8, 8, 8, 8, 8, 8, 8, 8, 8, 8, 8, 8, 8, 8, 8, 8, 8, 8, 8, 8, 8, 8, 8, 8, 8, 8, 8, 8, 8, 8, 8, 8, 8, 8, 8, 8, 8, 8, 8, 8, 8, 8, 8, 8, 8, 8, 8, 8, 8, 8, 8, 8, 8, 8, 8, 8, 8, 8, 8, 8, 8, 8, 8, 8, 8, 8, 8, 8, 8, 8, 8, 8, 8, 8, 8, 8, 8, 8, 8, 8, 8, 8, 8, 8, 8, 8, 8, 8, 8, 8, 8, 8, 8, 8, 8, 8, 8, 8, 8, 8, 8, 8, 8, 8, 8, 8, 8, 8, 8, 8, 8, 8, 8, 8, 8, 8]⟩ : ByteArray)) (j := IntKind.u8.wrap o20) (k := .u8) S (wN rfl) rfl Try.underlying9 (by kernel_rfl) (by kernel_rfl) hx31 rfl (by decide) (fun a S => ?_)
        refine sConv (k := .u8) (k2 := .i64) (b := x30) S (wN rfl) rfl Try.underlying5 Try.underlying3 (by kernel_rfl) rfl (by decide) (fun a S => ?_)
        refine sBin (.int .i64 (w64 (o21 + (IntKind.i64.wrap x30)))) S (wN rfl) rfl (by kernel_rfl) (by kernel_rfl) (bAdd _ _ _ _ o21 (IntKind.i64.wrap x30)) rfl (by decide) (fun a S => ?_)
        refine sMove (.int .i64 (w64 (o21 + (IntKind.i64.wrap x30)))) S (wN rfl) (.inr rfl) (by kernel_rfl) rfl (by decide) (fun a S => ?_)
        refine leafL (leafT (hK29 _ _ ?_))
        obtain rfl := Option.some.inj h
        exact wp_ret (sRet (.int .i64 (w64 (o21 + (IntKind.i64.wrap x30)))) S (rsl1 rfl (rvT (t := 2) (v := .int .i64 (w64 (o21 + (IntKind.i64.wrap x30)))) S (by kernel_rfl))) ⟨(), rfl, S.mem.sel [] [] (by decide) (by kernel_rfl) (by kernel_rfl)⟩)

end Go.Proofs.Ytjndecalogklhaa
namespace Go.Proofs.Ytjndecalogklhaa
open Go.RowKit
set_option linter.unusedVariables false

noncomputable def F_math_bits_LeadingZeros64 (p0 : Int) : Option Int :=
  Option.bind (F_math_bits_Len64 p0) fun r3 =>
  some (w64 (64 - r3))
set_option maxHeartbeats 4000000 in
set_option maxRecDepth 100000 in
theorem c_math_bits_LeadingZeros64 (E : Nat → Prop) (w0 : World) (p0 : Int) (r : Int) (h : F_math_bits_LeadingZeros64 p0 = some r) (S : St0 E [] w0 w0 [] []) :
    Calls Try.prog 61 #[.int .u64 p0] w0 (Ret (X := Unit) E [] w0 (fun _ => .int .i64 r) (fun _ => []) (fun _ => [])) := by
  unfold F_math_bits_LeadingZeros64 at h
  refine sEnter (args := [.int .u64 p0]) 6 Try.func61 rfl rfl (by simp) S (fun a S => ?_)
  refine sSeq (fun K1 hK1 => ?_)
  refine sRegion ?_
  refine sMove (.int .i64 0) S (wN rfl) (.inr rfl) (by kernel_rfl) rfl (by decide) (fun a S => ?_)
  refine leafL (leafT (hK1 _ _ ?_))
  refine sSeq (fun K2 hK2 => ?_)
  refine sRegion ?_
  refine sMove (.int .u64 p0) S (wN rfl) (.inl rfl) (by kernel_rfl) rfl (by decide) (fun a S => ?_)
  obtain ⟨r3, hx4, h⟩ := bindSome h
  have S1 := S.mem
  refine sCallQ (X := Unit) (f := 62) (vs := [.int .u64 p0]) (val := fun _ => .int .i64 r3) S (wN rfl) rfl callee62 (by kernel_rfl) (S1.quiet [] (by kernel_rfl)) (fun E1 w1 S1 => c_math_bits_Len64 E1 w1 p0 r3 hx4 S1) rfl (by decide) (fun _ a w S => ?_)
  refine sBin (.int .i64 (w64 (64 - r3))) S (wN rfl) rfl (by kernel_rfl) (by kernel_rfl) (bSub _ _ _ _ 64 r3) rfl (by decide) (fun a S => ?_)
  refine sMove (.int .i64 (w64 (64 - r3))) S (wN rfl) (.inr rfl) (by kernel_rfl) rfl (by decide) (fun a S => ?_)
  refine leafL (leafT (hK2 _ _ ?_))
  obtain rfl := Option.some.inj h
  exact wp_ret (sRet (.int .i64 (w64 (64 - r3))) S (rsl1 rfl (rvT (t := 2) (v := .int .i64 (w64 (64 - r3))) S (by kernel_rfl))) ⟨(), rfl, S.mem.sel [] [] (by decide) (by kernel_rfl) (by kernel_rfl)⟩)

end Go.Proofs.Ytjndecalogklhaa
namespace Go.Proofs.Ytjndecalogklhaa
open Go.RowKit
set_option linter.unusedVariables false

def anc_math_bits_Div64_0 : List (List Nat) := [[], [], [0, 1], [], [], [3, 4], [0, 1, 2], [0, 1, 2, 3, 4, 5, 6]]
noncomputable def math_bits_Div64_l1 (z35 : Int) (z20 : Int) (z23 : Int) : (Int × Int) → Option ((Int × Int) ⊕ Int) := fun s0 => match s0 with
  | (s45, s46) =>
    Option.bind (α := Bool) (
      if decide (4294967296 ≤ s45) then
        some true
      else
        some (decide ((IntKind.u64.wrap ((IntKind.u64.wrap (4294967296 * s46)) + z35)) < (IntKind.u64.wrap (s45 * (andI .u64 z20 4294967295)))))) fun o52 =>
    if o52 then
      if decide (4294967296 ≤ (IntKind.u64.wrap (s46 + z23))) then
        some (.inr (IntKind.u64.wrap (s45 - 1)))
      else
        some (.inl (IntKind.u64.wrap (s45 - 1), IntKind.u64.wrap (s46 + z23)))
    else
      some (.inr s45)
noncomputable def math_bits_Div64_l2 (z32 : Int) (z20 : Int) (z23 : Int) : (Int × Int) → Option ((Int × Int) ⊕ Int) := fun s0 => match s0 with
  | (s69, s70) =>
    Option.bind (α := Bool) (
      if decide (4294967296 ≤ s70) then
        some true
      else
        some (decide ((IntKind.u64.wrap ((IntKind.u64.wrap (4294967296 * s69)) + (andI .u64 z32 4294967295))) < (IntKind.u64.wrap (s70 * (andI .u64 z20 4294967295)))))) fun o76 =>
    if o76 then
      if decide (4294967296 ≤ (IntKind.u64.wrap (s69 + z23))) then
        some (.inr (IntKind.u64.wrap (s70 - 1)))
      else
        some (.inl (IntKind.u64.wrap (s69 + z23), IntKind.u64.wrap (s70 - 1)))
    else
      some (.inr s70)
noncomputable def F_math_bits_Div64 (p0 : Int) (p1 : Int) (p2 : Int) : Option (Int × Int) :=
  if p2 == 0 then
    none
  else
    if decide (p2 ≤ p0) then
      none
    else
      if p0 == 0 then
        Option.bind (quoK .u64 p1 p2) fun z12 =>
        Option.bind (remI p1 p2) fun z14 =>
        some (z12, z14)
      else
        Option.bind (F_math_bits_LeadingZeros64 p2) fun r17 =>
        Option.bind (shlI .u64 p2 (IntKind.u64.wrap r17)) fun z20 =>
        Option.bind (shrI .u64 z20 32) fun z23 =>
        Option.bind (shlI .u64 p0 (IntKind.u64.wrap r17)) fun z27 =>
        Option.bind (shrI .u64 p1 (IntKind.u64.wrap (64 - (IntKind.u64.wrap r17)))) fun z29 =>
        Option.bind (shlI .u64 p1 (IntKind.u64.wrap r17)) fun z32 =>
        Option.bind (shrI .u64 z32 32) fun z35 =>
        Option.bind (quoK .u64 (orI .u64 z27 z29) z23) fun z39 =>
        Option.bind (α := Int) (
          Option.bind (whileO (math_bits_Div64_l1 z35 z20 z23) (z39, IntKind.u64.wrap ((orI .u64 z27 z29) - (IntKind.u64.wrap (z39 * z23))))) fun e50 =>
            some e50) fun o42 =>
        Option.bind (quoK .u64 (IntKind.u64.wrap ((IntKind.u64.wrap ((IntKind.u64.wrap ((orI .u64 z27 z29) * 4294967296)) + z35)) - (IntKind.u64.wrap (o42 * z20)))) z23) fun z63 =>
        Option.bind (α := Int) (
          Option.bind (whileO (math_bits_Div64_l2 z32 z20 z23) (IntKind.u64.wrap ((IntKind.u64.wrap ((IntKind.u64.wrap ((IntKind.u64.wrap ((orI .u64 z27 z29) * 4294967296)) + z35)) - (IntKind.u64.wrap (o42 * z20)))) - (IntKind.u64.wrap (z63 * z23))), z63)) fun e74 =>
            some e74) fun o66 =>
        Option.bind (shrI .u64 (IntKind.u64.wrap ((IntKind.u64.wrap ((IntKind.u64.wrap ((IntKind.u64.wrap ((IntKind.u64.wrap ((IntKind.u64.wrap ((orI .u64 z27 z29) * 4294967296)) + z35)) - (IntKind.u64.wrap (o42 * z20)))) * 4294967296)) + (andI .u64 z32 4294967295))) - (IntKind.u64.wrap (o66 * z20)))) (IntKind.u64.wrap r17)) fun z86 =>
        some (IntKind.u64.wrap ((IntKind.u64.wrap (o42 * 4294967296)) + o66), z86)
set_option maxHeartbeats 4000000 in
set_option maxRecDepth 100000 in
theorem c_math_bits_Div64 (E : Nat → Prop) (w0 : World) (p0 : Int) (p1 : Int) (p2 : Int) (r : (Int × Int)) (h : F_math_bits_Div64 p0 p1 p2 = some r) (S : St0 E [] w0 w0 [] []) :
    Calls Try.prog 48 #[.int .u64 p0, .int .u64 p1, .int .u64 p2] w0 (Ret (X := Unit) E [] w0 (fun _ => .tuple #[.int .u64 r.1, .int .u64 r.2]) (fun _ => []) (fun _ => [])) := by
  unfold F_math_bits_Div64 at h
  refine sEnter (args := [.int .u64 p0, .int .u64 p1, .int .u64 p2]) 135 Try.func48 rfl rfl (by simp) S (fun a S => ?_)
  refine sSeq (fun K1 hK1 => ?_)
  refine sRegion ?_
  refine sMove (.int .u64 0) S (wN rfl) (.inr rfl) (by kernel_rfl) rfl (by decide) (fun a S => ?_)
  refine sMove (.int .u64 0) S (wN rfl) (.inr rfl) (by kernel_rfl) rfl (by decide) (fun a S => ?_)
  refine leafL (leafT (hK1 _ _ ?_))
  refine sSeq (fun K2 hK2 => ?_)
  refine sSeq (fun K3 hK3 => ?_)
  refine sRegion ?_
  refine sMove (.int .u64 p2) S (wN rfl) (.inl rfl) (by kernel_rfl) rfl (by decide) (fun a S => ?_)
  refine sBin (.bool (p2 == 0)) S (wN rfl) rfl (by kernel_rfl) (by kernel_rfl) (bEq _ _ _ _ .u64 p2 0) rfl (by decide) (fun a S => ?_)
  refine leafL (leafT (hK3 _ _ ?_))
  rcases iteSome h with ⟨hc4, h⟩ | ⟨hc4, h⟩
  · refine sCondT (b := p2 == 0) S (by kernel_rfl) hc4 ?_
    refine sRegion ?_
    cases h
  · refine sCondF (b := p2 == 0) S (by kernel_rfl) hc4 ?_
    refine wp_skip (leafT (hK2 _ _ ?_))
    refine sSeq (fun K5 hK5 => ?_)
    refine sSeq (fun K6 hK6 => ?_)
    refine sRegion ?_
    refine sMove (.int .u64 p2) S (wN rfl) (.inl rfl) (by kernel_rfl) rfl (by decide) (fun a S => ?_)
    refine sMove (.int .u64 p0) S (wN rfl) (.inl rfl) (by kernel_rfl) rfl (by decide) (fun a S => ?_)
    refine sBin (.bool (decide (p2 ≤ p0))) S (wN rfl) rfl (by kernel_rfl) (by kernel_rfl) (bLe _ _ _ _ .u64 p2 p0) rfl (by decide) (fun a S => ?_)
    refine leafL (leafT (hK6 _ _ ?_))
    rcases iteSome h with ⟨hc7, h⟩ | ⟨hc7, h⟩
    · refine sCondT (b := decide (p2 ≤ p0)) S (by kernel_rfl) hc7 ?_
      refine sRegion ?_
      cases h
    · refine sCondF (b := decide (p2 ≤ p0)) S (by kernel_rfl) hc7 ?_
      refine wp_skip (leafT (hK5 _ _ ?_))
      refine sSeq (fun K8 hK8 => ?_)
      refine sSeq (fun K9 hK9 => ?_)
      refine sRegion ?_
      refine sMove (.int .u64 p0) S (wN rfl) (.inl rfl) (by kernel_rfl) rfl (by decide) (fun a S => ?_)
      refine sBin (.bool (p0 == 0)) S (wN rfl) rfl (by kernel_rfl) (by kernel_rfl) (bEq _ _ _ _ .u64 p0 0) rfl (by decide) (fun a S => ?_)
      refine leafL (leafT (hK9 _ _ ?_))
      rcases iteSome h with ⟨hc10, h⟩ | ⟨hc10, h⟩
      · refine sCondT (b := p0 == 0) S (by kernel_rfl) hc10 ?_
        refine sSeq (fun K11 hK11 => ?_)
        obtain ⟨z12, hx13, h⟩ := bindSome h
        obtain ⟨z14, hx15, h⟩ := bindSome h
        refine sDraw (nf := []) (W := [(0, 28, .int .u64 p1), (1, 29, .int .u64 p2), (2, 30, .int .u64 z12), (3, 31, .int .u64 p1), (4, 32, .int .u64 p2), (5, 33, .int .u64 z14), (6, 6, .int .u64 z12), (7, 7, .int .u64 z14)]) (by kernel_rfl) S ?_
        refine node_by (A := anc_math_bits_Div64_0) (nf := []) (Y := []) (W := [(0, 28, .int .u64 p1), (1, 29, .int .u64 p2), (2, 30, .int .u64 z12), (3, 31, .int .u64 p1), (4, 32, .int .u64 p2), (5, 33, .int .u64 z14), (6, 6, .int .u64 z12), (7, 7, .int .u64 z14)]) 8 (by kernel_rfl) (by kernel_rfl) (by kernel_rfl) (by kernel_rfl) (by kernel_rfl) [0, 1, 2, 3, 4, 5, 6, 7] (by kernel_rfl) (by decide) (by decide) (aF 0 7 (by decide) ?_ (aF 1 6 (by decide) ?_ (aF 2 5 (by decide) ?_ (aF 3 4 (by decide) ?_ (aF 4 3 (by decide) ?_ (aF 5 2 (by decide) ?_ (aF 6 1 (by decide) ?_ (aF 7 0 (by decide) ?_ (trivial))))))))) [(6, .int .u64 z12), (7, .int .u64 z14)] (fin_of [some 6, some 7] rfl (by kernel_rfl) (by kernel_rfl)) (fun _ a w S => ?_)
        · refine fI 28 (.int .u64 p1) [(1, .int .u64 p1)] 0 [none] rfl rfl (by kernel_rfl) rfl (by kernel_rfl) (by kernel_rfl) fun G a w S => ?_
          refine sMove (.int .u64 p1) S (wN rfl) (.inl rfl) (by kernel_rfl) rfl (by decide) (fun a S => ?_)
          exact leafL ⟨rfl, S⟩
        · refine fI 29 (.int .u64 p2) [(2, .int .u64 p2)] 1 [none] rfl rfl (by kernel_rfl) rfl (by kernel_rfl) (by kernel_rfl) fun G a w S => ?_
          refine sMove (.int .u64 p2) S (wN rfl) (.inl rfl) (by kernel_rfl) rfl (by decide) (fun a S => ?_)
          exact leafL ⟨rfl, S⟩
        · refine fI 30 (.int .u64 z12) [(28, .int .u64 p1), (29, .int .u64 p2)] 2 [some 0, some 1] rfl rfl (by kernel_rfl) rfl (by kernel_rfl) (by kernel_rfl) fun G a w S => ?_
          refine sBin (.int .u64 z12) S (wN rfl) rfl (by kernel_rfl) (by kernel_rfl) (bQuoK _ _ _ _ (k := .u64) (x := p1) (y := p2) hx13) rfl (by decide) (fun a S => ?_)
          exact leafL ⟨rfl, S⟩
        · refine fI 31 (.int .u64 p1) [(1, .int .u64 p1)] 3 [none] rfl rfl (by kernel_rfl) rfl (by kernel_rfl) (by kernel_rfl) fun G a w S => ?_
          refine sMove (.int .u64 p1) S (wN rfl) (.inl rfl) (by kernel_rfl) rfl (by decide) (fun a S => ?_)
          exact leafL ⟨rfl, S⟩
        · refine fI 32 (.int .u64 p2) [(2, .int .u64 p2)] 4 [none] rfl rfl (by kernel_rfl) rfl (by kernel_rfl) (by kernel_rfl) fun G a w S => ?_
          refine sMove (.int .u64 p2) S (wN rfl) (.inl rfl) (by kernel_rfl) rfl (by decide) (fun a S => ?_)
          exact leafL ⟨rfl, S⟩
        · refine fI 33 (.int .u64 z14) [(31, .int .u64 p1), (32, .int .u64 p2)] 5 [some 3, some 4] rfl rfl (by kernel_rfl) rfl (by kernel_rfl) (by kernel_rfl) fun G a w S => ?_
          refine sBin (.int .u64 z14) S (wN rfl) rfl (by kernel_rfl) (by kernel_rfl) (bRemK _ _ _ _ (k := .u64) (x := p1) (y := p2) hx15) rfl (by decide) (fun a S => ?_)
          exact leafL ⟨rfl, S⟩
        · refine fI 6 (.int .u64 z12) [(30, .int .u64 z12)] 6 [some 2] rfl rfl (by kernel_rfl) rfl (by kernel_rfl) (by kernel_rfl) fun G a w S => ?_
          refine sMove (.int .u64 z12) S (wN rfl) (.inr rfl) (by kernel_rfl) rfl (by decide) (fun a S => ?_)
          exact leafL ⟨rfl, S⟩
        · refine fI 7 (.int .u64 z14) [(33, .int .u64 z14)] 7 [some 5] rfl rfl (by kernel_rfl) rfl (by kernel_rfl) (by kernel_rfl) fun G a w S => ?_
          refine sMove (.int .u64 z14) S (wN rfl) (.inr rfl) (by kernel_rfl) rfl (by decide) (fun a S => ?_)
          exact leafL ⟨rfl, S⟩
        · refine leafT (hK11 _ _ ?_)
          obtain rfl := Option.some.inj h
          exact wp_ret (rThen (sRet (.tuple #[.int .u64 z12, .int .u64 z14]) S (rsl2 rfl (rvT (t := 6) (v := .int .u64 z12) S (by kernel_rfl)) (rvT (t := 7) (v := .int .u64 z14) S (by kernel_rfl))) ⟨(), rfl, S.mem.sel [] [] (by decide) (by kernel_rfl) (by kernel_rfl)⟩))
      · refine sCondF (b := p0 == 0) S (by kernel_rfl) hc10 ?_
        refine wp_skip (leafT (hK8 _ _ ?_))
        refine sSeq (fun K16 hK16 => ?_)
        refine sRegion ?_
        refine sMove (.int .u64 p2) S (wN rfl) (.inl rfl) (by kernel_rfl) rfl (by decide) (fun a S => ?_)
        obtain ⟨r17, hx18, h⟩ := bindSome h
        have S1 := S.mem
        refine sCallQ (X := Unit) (f := 61) (vs := [.int .u64 p2]) (val := fun _ => .int .i64 r17) S (wN rfl) rfl callee61 (by kernel_rfl) (S1.quiet [] (by kernel_rfl)) (fun E1 w1 S1 => c_math_bits_LeadingZeros64 E1 w1 p2 r17 hx18 S1) rfl (by decide) (fun _ a w S => ?_)
        refine sConv (k := .i64) (k2 := .u64) (b := r17) S (wN rfl) rfl Try.underlying3 Try.underlying84 (by kernel_rfl) rfl (by decide) (fun a S => ?_)
        refine sMove (.int .u64 (IntKind.u64.wrap r17)) S (wN rfl) (.inr rfl) (by kernel_rfl) rfl (by decide) (fun a S => ?_)
        refine leafL (leafT (hK16 _ _ ?_))
        refine sSeq (fun K19 hK19 => ?_)
        refine sRegion ?_
        refine sMove (.int .u64 p2) S (wN rfl) (.inl rfl) (by kernel_rfl) rfl (by decide) (fun a S => ?_)
        refine sMove (.int .u64 (IntKind.u64.wrap r17)) S (wN rfl) (.inl rfl) (by kernel_rfl) rfl (by decide) (fun a S => ?_)
        obtain ⟨z20, hx21, h⟩ := bindSome h
        refine sBin (.int .u64 z20) S (wN rfl) rfl (by kernel_rfl) (by kernel_rfl) (bShlK _ _ _ _ (k := .u64) (k' := .u64) (x := p2) (y := IntKind.u64.wrap r17) hx21) rfl (by decide) (fun a S => ?_)
        refine sMove (.int .u64 z20) S (wN rfl) (.inr rfl) (by kernel_rfl) rfl (by decide) (fun a S => ?_)
        refine leafL (leafT (hK19 _ _ ?_))
        refine sSeq (fun K22 hK22 => ?_)
        refine sRegion ?_
        refine sMove (.int .u64 z20) S (wN rfl) (.inl rfl) (by kernel_rfl) rfl (by decide) (fun a S => ?_)
        obtain ⟨z23, hx24, h⟩ := bindSome h
        refine sBin (.int .u64 z23) S (wN rfl) rfl (by kernel_rfl) (by kernel_rfl) (bShrK _ _ _ _ (k := .u64) (k' := .u64) (x := z20) (y := 32) hx24) rfl (by decide) (fun a S => ?_)
        refine sMove (.int .u64 z23) S (wN rfl) (.inr rfl) (by kernel_rfl) rfl (by decide) (fun a S => ?_)
        refine leafL (leafT (hK22 _ _ ?_))
        refine sSeq (fun K25 hK25 => ?_)
        refine sRegion ?_
        refine sMove (.int .u64 z20) S (wN rfl) (.inl rfl) (by kernel_rfl) rfl (by decide) (fun a S => ?_)
        refine sBin (.int .u64 (andI .u64 z20 4294967295)) S (wN rfl) rfl (by kernel_rfl) (by kernel_rfl) (bAndK _ _ _ _ .u64 z20 4294967295) rfl (by decide) (fun a S => ?_)
        refine sMove (.int .u64 (andI .u64 z20 4294967295)) S (wN rfl) (.inr rfl) (by kernel_rfl) rfl (by decide) (fun a S => ?_)
        refine leafL (leafT (hK25 _ _ ?_))
        refine sSeq (fun K26 hK26 => ?_)
        refine sRegion ?_
        refine sMove (.int .u64 p0) S (wN rfl) (.inl rfl) (by kernel_rfl) rfl (by decide) (fun a S => ?_)
        refine sMove (.int .u64 (IntKind.u64.wrap r17)) S (wN rfl) (.inl rfl) (by kernel_rfl) rfl (by decide) (fun a S => ?_)
        obtain ⟨z27, hx28, h⟩ := bindSome h
        refine sBin (.int .u64 z27) S (wN rfl) rfl (by kernel_rfl) (by kernel_rfl) (bShlK _ _ _ _ (k := .u64) (k' := .u64) (x := p0) (y := IntKind.u64.wrap r17) hx28) rfl (by decide) (fun a S => ?_)
        refine sMove (.int .u64 p1) S (wN rfl) (.inl rfl) (by kernel_rfl) rfl (by decide) (fun a S => ?_)
        refine sMove (.int .u64 (IntKind.u64.wrap r17)) S (wN rfl) (.inl rfl) (by kernel_rfl) rfl (by decide) (fun a S => ?_)
        refine sBin (.int .u64 (IntKind.u64.wrap (64 - (IntKind.u64.wrap r17)))) S (wN rfl) rfl (by kernel_rfl) (by kernel_rfl) (bSubK _ _ _ _ .u64 64 (IntKind.u64.wrap r17)) rfl (by decide) (fun a S => ?_)
        obtain ⟨z29, hx30, h⟩ := bindSome h
        refine sBin (.int .u64 z29) S (wN rfl) rfl (by kernel_rfl) (by kernel_rfl) (bShrK _ _ _ _ (k := .u64) (k' := .u64) (x := p1) (y := IntKind.u64.wrap (64 - (IntKind.u64.wrap r17))) hx30) rfl (by decide) (fun a S => ?_)
        refine sBin (.int .u64 (orI .u64 z27 z29)) S (wN rfl) rfl (by kernel_rfl) (by kernel_rfl) (bOrK _ _ _ _ .u64 z27 z29) rfl (by decide) (fun a S => ?_)
        refine sMove (.int .u64 (orI .u64 z27 z29)) S (wN rfl) (.inr rfl) (by kernel_rfl) rfl (by decide) (fun a S => ?_)
        refine leafL (leafT (hK26 _ _ ?_))
        refine sSeq (fun K31 hK31 => ?_)
        refine sRegion ?_
        refine sMove (.int .u64 p1) S (wN rfl) (.inl rfl) (by kernel_rfl) rfl (by decide) (fun a S => ?_)
        refine sMove (.int .u64 (IntKind.u64.wrap r17)) S (wN rfl) (.inl rfl) (by kernel_rfl) rfl (by decide) (fun a S => ?_)
        obtain ⟨z32, hx33, h⟩ := bindSome h
        refine sBin (.int .u64 z32) S (wN rfl) rfl (by kernel_rfl) (by kernel_rfl) (bShlK _ _ _ _ (k := .u64) (k' := .u64) (x := p1) (y := IntKind.u64.wrap r17) hx33) rfl (by decide) (fun a S => ?_)
        refine sMove (.int .u64 z32) S (wN rfl) (.inr rfl) (by kernel_rfl) rfl (by decide) (fun a S => ?_)
        refine leafL (leafT (hK31 _ _ ?_))
        refine sSeq (fun K34 hK34 => ?_)
        refine sRegion ?_
        refine sMove (.int .u64 z32) S (wN rfl) (.inl rfl) (by kernel_rfl) rfl (by decide) (fun a S => ?_)
        obtain ⟨z35, hx36, h⟩ := bindSome h
        refine sBin (.int .u64 z35) S (wN rfl) rfl (by kernel_rfl) (by kernel_rfl) (bShrK _ _ _ _ (k := .u64) (k' := .u64) (x := z32) (y := 32) hx36) rfl (by decide) (fun a S => ?_)
        refine sMove (.int .u64 z35) S (wN rfl) (.inr rfl) (by kernel_rfl) rfl (by decide) (fun a S => ?_)
        refine leafL (leafT (hK34 _ _ ?_))
        refine sSeq (fun K37 hK37 => ?_)
        refine sRegion ?_
        refine sMove (.int .u64 z32) S (wN rfl) (.inl rfl) (by kernel_rfl) rfl (by decide) (fun a S => ?_)
        refine sBin (.int .u64 (andI .u64 z32 4294967295)) S (wN rfl) rfl (by kernel_rfl) (by kernel_rfl) (bAndK _ _ _ _ .u64 z32 4294967295) rfl (by decide) (fun a S => ?_)
        refine sMove (.int .u64 (andI .u64 z32 4294967295)) S (wN rfl) (.inr rfl) (by kernel_rfl) rfl (by decide) (fun a S => ?_)
        refine leafL (leafT (hK37 _ _ ?_))
        refine sSeq (fun K38 hK38 => ?_)
        refine sRegion ?_
        refine sMove (.int .u64 (orI .u64 z27 z29)) S (wN rfl) (.inl rfl) (by kernel_rfl) rfl (by decide) (fun a S => ?_)
        refine sMove (.int .u64 z23) S (wN rfl) (.inl rfl) (by kernel_rfl) rfl (by decide) (fun a S => ?_)
        obtain ⟨z39, hx40, h⟩ := bindSome h
        refine sBin (.int .u64 z39) S (wN rfl) rfl (by kernel_rfl) (by kernel_rfl) (bQuoK _ _ _ _ (k := .u64) (x := orI .u64 z27 z29) (y := z23) hx40) rfl (by decide) (fun a S => ?_)
        refine sMove (.int .u64 z39) S (wN rfl) (.inr rfl) (by kernel_rfl) rfl (by decide) (fun a S => ?_)
        refine leafL (leafT (hK38 _ _ ?_))
        refine sSeq (fun K41 hK41 => ?_)
        refine sRegion ?_
        refine sMove (.int .u64 (orI .u64 z27 z29)) S (wN rfl) (.inl rfl) (by kernel_rfl) rfl (by decide) (fun a S => ?_)
        refine sMove (.int .u64 z39) S (wN rfl) (.inl rfl) (by kernel_rfl) rfl (by decide) (fun a S => ?_)
        refine sMove (.int .u64 z23) S (wN rfl) (.inl rfl) (by kernel_rfl) rfl (by decide) (fun a S => ?_)
        refine sBin (.int .u64 (IntKind.u64.wrap (z39 * z23))) S (wN rfl) rfl (by kernel_rfl) (by kernel_rfl) (bMulK _ _ _ _ .u64 z39 z23) rfl (by decide) (fun a S => ?_)
        refine sBin (.int .u64 (IntKind.u64.wrap ((orI .u64 z27 z29) - (IntKind.u64.wrap (z39 * z23))))) S (wN rfl) rfl (by kernel_rfl) (by kernel_rfl) (bSubK _ _ _ _ .u64 (orI .u64 z27 z29) (IntKind.u64.wrap (z39 * z23))) rfl (by decide) (fun a S => ?_)
        refine sMove (.int .u64 (IntKind.u64.wrap ((orI .u64 z27 z29) - (IntKind.u64.wrap (z39 * z23))))) S (wN rfl) (.inr rfl) (by kernel_rfl) rfl (by decide) (fun a S => ?_)
        refine leafL (leafT (hK41 _ _ ?_))
        obtain ⟨t43, h, g44⟩ := bindSome h
        refine sCut (fun a w => ∃ o42, o42 = t43 ∧ St E [] w0 135 a w [(2, .int .u64 z20), (8, .int .u64 (IntKind.u64.wrap r17)), (9, .int .u64 z23), (10, .int .u64 (andI .u64 z20 4294967295)), (11, .int .u64 (orI .u64 z27 z29)), (13, .int .u64 z35), (14, .int .u64 (andI .u64 z32 4294967295)), (15, .int .u64 o42)] [] []) ?_ (fun a w hI => ?_)
        · refine wp_block ?_
          obtain ⟨t49, hl, g48⟩ := bindSome h
          refine sLoop hl (fun s0 a w => match s0 with | (s45, s46) => St E [] w0 135 a w [(2, .int .u64 z20), (8, .int .u64 (IntKind.u64.wrap r17)), (9, .int .u64 z23), (10, .int .u64 (andI .u64 z20 4294967295)), (11, .int .u64 (orI .u64 z27 z29)), (13, .int .u64 z35), (14, .int .u64 (andI .u64 z32 4294967295)), (15, .int .u64 s45), (16, .int .u64 s46)] [] []) (S.fix [] [] (by decide) (by kernel_rfl) (by kernel_rfl) (by kernel_rfl)) ?_
          clear hl h
          intro s0 a w c0 hI h hu47
          obtain ⟨s45, s46⟩ := s0
          unfold math_bits_Div64_l1 at h
          dsimp only at h hI
          have S := hI
          refine sSeq (fun K51 hK51 => ?_)
          obtain ⟨t53, h, g54⟩ := bindSome h
          refine sCut (fun a w => ∃ o52, o52 = t53 ∧ St E [] w0 135 a w [(2, .int .u64 z20), (8, .int .u64 (IntKind.u64.wrap r17)), (9, .int .u64 z23), (10, .int .u64 (andI .u64 z20 4294967295)), (11, .int .u64 (orI .u64 z27 z29)), (13, .int .u64 z35), (14, .int .u64 (andI .u64 z32 4294967295)), (15, .int .u64 s45), (16, .int .u64 s46), (78, .bool o52)] [] []) ?_ (fun a w hI => ?_)
          · refine sRegion ?_
            refine sMove (.int .u64 s45) S (wN rfl) (.inl rfl) (by kernel_rfl) rfl (by decide) (fun a S => ?_)
            refine sBin (.bool (decide (4294967296 ≤ s45))) S (wN rfl) rfl (by kernel_rfl) (by kernel_rfl) (bGe _ _ _ _ .u64 s45 4294967296) rfl (by decide) (fun a S => ?_)
            refine sMove (.bool (decide (4294967296 ≤ s45))) S (wN rfl) (.inl rfl) (by kernel_rfl) rfl (by decide) (fun a S => ?_)
            rcases iteSome h with ⟨hc55, h⟩ | ⟨hc55, h⟩
            · refine sSkip (c := decide (4294967296 ≤ s45)) 2 false 69 70 S rfl rfl (by kernel_rfl) hc55 rfl (by decide) (fun a S => ?_)
              refine sSkip (c := decide (4294967296 ≤ s45)) 2 false 69 71 S rfl rfl (by kernel_rfl) hc55 rfl (by decide) (fun a S => ?_)
              refine sSkip (c := decide (4294967296 ≤ s45)) 2 false 69 72 S rfl rfl (by kernel_rfl) hc55 rfl (by decide) (fun a S => ?_)
              refine sSkip (c := decide (4294967296 ≤ s45)) 2 false 69 73 S rfl rfl (by kernel_rfl) hc55 rfl (by decide) (fun a S => ?_)
              refine sSkip (c := decide (4294967296 ≤ s45)) 2 false 69 74 S rfl rfl (by kernel_rfl) hc55 rfl (by decide) (fun a S => ?_)
              refine sSkip (c := decide (4294967296 ≤ s45)) 2 false 69 75 S rfl rfl (by kernel_rfl) hc55 rfl (by decide) (fun a S => ?_)
              refine sSkip (c := decide (4294967296 ≤ s45)) 2 false 69 76 S rfl rfl (by kernel_rfl) hc55 rfl (by decide) (fun a S => ?_)
              refine sSkip (c := decide (4294967296 ≤ s45)) 2 false 69 77 S rfl rfl (by kernel_rfl) hc55 rfl (by decide) (fun a S => ?_)
              refine sPickT (b := decide (4294967296 ≤ s45)) (.bool true) S (wN rfl) rfl (by kernel_rfl) hc55 (by kernel_rfl) rfl (by decide) (fun a S => ?_)
              exact leafL (leafT (⟨true, Option.some.inj h, S.fix [] [] (by decide) (by kernel_rfl) (by kernel_rfl) (by kernel_rfl)⟩))
            · refine sMove (.int .u64 s45) S (wG (c := decide (4294967296 ≤ s45)) 2 false 69 rfl rfl (by kernel_rfl) hc55) (.inl rfl) (by kernel_rfl) rfl (by decide) (fun a S => ?_)
              refine sMove (.int .u64 (andI .u64 z20 4294967295)) S (wG (c := decide (4294967296 ≤ s45)) 2 false 69 rfl rfl (by kernel_rfl) hc55) (.inl rfl) (by kernel_rfl) rfl (by decide) (fun a S => ?_)
              refine sBin (.int .u64 (IntKind.u64.wrap (s45 * (andI .u64 z20 4294967295)))) S (wG (c := decide (4294967296 ≤ s45)) 2 false 69 rfl rfl (by kernel_rfl) hc55) rfl (by kernel_rfl) (by kernel_rfl) (bMulK _ _ _ _ .u64 s45 (andI .u64 z20 4294967295)) rfl (by decide) (fun a S => ?_)
              refine sMove (.int .u64 s46) S (wG (c := decide (4294967296 ≤ s45)) 2 false 69 rfl rfl (by kernel_rfl) hc55) (.inl rfl) (by kernel_rfl) rfl (by decide) (fun a S => ?_)
              refine sBin (.int .u64 (IntKind.u64.wrap (4294967296 * s46))) S (wG (c := decide (4294967296 ≤ s45)) 2 false 69 rfl rfl (by kernel_rfl) hc55) rfl (by kernel_rfl) (by kernel_rfl) (bMulK _ _ _ _ .u64 4294967296 s46) rfl (by decide) (fun a S => ?_)
              refine sMove (.int .u64 z35) S (wG (c := decide (4294967296 ≤ s45)) 2 false 69 rfl rfl (by kernel_rfl) hc55) (.inl rfl) (by kernel_rfl) rfl (by decide) (fun a S => ?_)
              refine sBin (.int .u64 (IntKind.u64.wrap ((IntKind.u64.wrap (4294967296 * s46)) + z35))) S (wG (c := decide (4294967296 ≤ s45)) 2 false 69 rfl rfl (by kernel_rfl) hc55) rfl (by kernel_rfl) (by kernel_rfl) (bAddK _ _ _ _ .u64 (IntKind.u64.wrap (4294967296 * s46)) z35) rfl (by decide) (fun a S => ?_)
              refine sBin (.bool (decide ((IntKind.u64.wrap ((IntKind.u64.wrap (4294967296 * s46)) + z35)) < (IntKind.u64.wrap (s45 * (andI .u64 z20 4294967295)))))) S (wG (c := decide (4294967296 ≤ s45)) 2 false 69 rfl rfl (by kernel_rfl) hc55) rfl (by kernel_rfl) (by kernel_rfl) (bGt _ _ _ _ .u64 (IntKind.u64.wrap (s45 * (andI .u64 z20 4294967295))) (IntKind.u64.wrap ((IntKind.u64.wrap (4294967296 * s46)) + z35))) rfl (by decide) (fun a S => ?_)
              refine sPickF (b := decide (4294967296 ≤ s45)) (.bool (decide ((IntKind.u64.wrap ((IntKind.u64.wrap (4294967296 * s46)) + z35)) < (IntKind.u64.wrap (s45 * (andI .u64 z20 4294967295)))))) S (wN rfl) rfl (by kernel_rfl) hc55 (by kernel_rfl) rfl (by decide) (fun a S => ?_)
              exact leafL (leafT (⟨decide ((IntKind.u64.wrap ((IntKind.u64.wrap (4294967296 * s46)) + z35)) < (IntKind.u64.wrap (s45 * (andI .u64 z20 4294967295)))), Option.some.inj h, S.fix [] [] (by decide) (by kernel_rfl) (by kernel_rfl) (by kernel_rfl)⟩))
          · obtain ⟨o52, rfl, S⟩ := hI
            have h := g54
            clear g54
            try dsimp only at h
            rcases iteSome h with ⟨hc56, h⟩ | ⟨hc56, h⟩
            · refine sCondT (b := o52) S (by kernel_rfl) hc56 ?_
              refine wp_skip (leafT (hK51 _ _ ?_))
              refine wp_block ?_
              refine sSeq (fun K57 hK57 => ?_)
              refine sRegion ?_
              refine sMove (.int .u64 s45) S (wN rfl) (.inl rfl) (by kernel_rfl) rfl (by decide) (fun a S => ?_)
              refine sBin (.int .u64 (IntKind.u64.wrap (s45 - 1))) S (wN rfl) rfl (by kernel_rfl) (by kernel_rfl) (bSubK _ _ _ _ .u64 s45 1) rfl (by decide) (fun a S => ?_)
              refine sMove (.int .u64 (IntKind.u64.wrap (s45 - 1))) S (wN rfl) (.inr rfl) (by kernel_rfl) rfl (by decide) (fun a S => ?_)
              refine leafL (leafT (hK57 _ _ ?_))
              refine sSeq (fun K58 hK58 => ?_)
              refine sRegion ?_
              refine sMove (.int .u64 s46) S (wN rfl) (.inl rfl) (by kernel_rfl) rfl (by decide) (fun a S => ?_)
              refine sMove (.int .u64 z23) S (wN rfl) (.inl rfl) (by kernel_rfl) rfl (by decide) (fun a S => ?_)
              refine sBin (.int .u64 (IntKind.u64.wrap (s46 + z23))) S (wN rfl) rfl (by kernel_rfl) (by kernel_rfl) (bAddK _ _ _ _ .u64 s46 z23) rfl (by decide) (fun a S => ?_)
              refine sMove (.int .u64 (IntKind.u64.wrap (s46 + z23))) S (wN rfl) (.inr rfl) (by kernel_rfl) rfl (by decide) (fun a S => ?_)
              refine leafL (leafT (hK58 _ _ ?_))
              refine sSeq (fun K59 hK59 => ?_)
              refine sRegion ?_
              refine sMove (.int .u64 (IntKind.u64.wrap (s46 + z23))) S (wN rfl) (.inl rfl) (by kernel_rfl) rfl (by decide) (fun a S => ?_)
              refine sBin (.bool (decide (4294967296 ≤ (IntKind.u64.wrap (s46 + z23))))) S (wN rfl) rfl (by kernel_rfl) (by kernel_rfl) (bGe _ _ _ _ .u64 (IntKind.u64.wrap (s46 + z23)) 4294967296) rfl (by decide) (fun a S => ?_)
              refine leafL (leafT (hK59 _ _ ?_))
              rcases iteSome h with ⟨hc60, h⟩ | ⟨hc60, h⟩
              · refine sCondT (b := decide (4294967296 ≤ (IntKind.u64.wrap (s46 + z23)))) S (by kernel_rfl) hc60 ?_
                obtain rfl := Option.some.inj h
                obtain rfl := hu47 _ rfl
                have h := g48
                clear g48
                try dsimp only at h
                exact wp_exit (xMiss rfl (xThen (xHit (leafT (⟨IntKind.u64.wrap (s45 - 1), Option.some.inj h, S.fix [] [] (by decide) (by kernel_rfl) (by kernel_rfl) (by kernel_rfl)⟩)))))
              · refine sCondF (b := decide (4294967296 ≤ (IntKind.u64.wrap (s46 + z23)))) S (by kernel_rfl) hc60 ?_
                exact wp_skip (leafB (leafT (⟨(IntKind.u64.wrap (s45 - 1), IntKind.u64.wrap (s46 + z23)), (Option.some.inj h).symm, (S.fix [] [] (by decide) (by kernel_rfl) (by kernel_rfl) (by kernel_rfl))⟩)))
            · refine sCondF (b := o52) S (by kernel_rfl) hc56 ?_
              obtain rfl := Option.some.inj h
              obtain rfl := hu47 _ rfl
              have h := g48
              clear g48
              try dsimp only at h
              exact wp_exit (xThen (xThen (xHit (leafT (⟨s45, Option.some.inj h, S.fix [] [] (by decide) (by kernel_rfl) (by kernel_rfl) (by kernel_rfl)⟩)))))
        · obtain ⟨o42, rfl, S⟩ := hI
          have h := g44
          clear g44
          try dsimp only at h
          refine sSeq (fun K61 hK61 => ?_)
          refine sRegion ?_
          refine sMove (.int .u64 (orI .u64 z27 z29)) S (wN rfl) (.inl rfl) (by kernel_rfl) rfl (by decide) (fun a S => ?_)
          refine sBin (.int .u64 (IntKind.u64.wrap ((orI .u64 z27 z29) * 4294967296))) S (wN rfl) rfl (by kernel_rfl) (by kernel_rfl) (bMulK _ _ _ _ .u64 (orI .u64 z27 z29) 4294967296) rfl (by decide) (fun a S => ?_)
          refine sMove (.int .u64 z35) S (wN rfl) (.inl rfl) (by kernel_rfl) rfl (by decide) (fun a S => ?_)
          refine sBin (.int .u64 (IntKind.u64.wrap ((IntKind.u64.wrap ((orI .u64 z27 z29) * 4294967296)) + z35))) S (wN rfl) rfl (by kernel_rfl) (by kernel_rfl) (bAddK _ _ _ _ .u64 (IntKind.u64.wrap ((orI .u64 z27 z29) * 4294967296)) z35) rfl (by decide) (fun a S => ?_)
          refine sMove (.int .u64 o42) S (wN rfl) (.inl rfl) (by kernel_rfl) rfl (by decide) (fun a S => ?_)
          refine sMove (.int .u64 z20) S (wN rfl) (.inl rfl) (by kernel_rfl) rfl (by decide) (fun a S => ?_)
          refine sBin (.int .u64 (IntKind.u64.wrap (o42 * z20))) S (wN rfl) rfl (by kernel_rfl) (by kernel_rfl) (bMulK _ _ _ _ .u64 o42 z20) rfl (by decide) (fun a S => ?_)
          refine sBin (.int .u64 (IntKind.u64.wrap ((IntKind.u64.wrap ((IntKind.u64.wrap ((orI .u64 z27 z29) * 4294967296)) + z35)) - (IntKind.u64.wrap (o42 * z20))))) S (wN rfl) rfl (by kernel_rfl) (by kernel_rfl) (bSubK _ _ _ _ .u64 (IntKind.u64.wrap ((IntKind.u64.wrap ((orI .u64 z27 z29) * 4294967296)) + z35)) (IntKind.u64.wrap (o42 * z20))) rfl (by decide) (fun a S => ?_)
          refine sMove (.int .u64 (IntKind.u64.wrap ((IntKind.u64.wrap ((IntKind.u64.wrap ((orI .u64 z27 z29) * 4294967296)) + z35)) - (IntKind.u64.wrap (o42 * z20))))) S (wN rfl) (.inr rfl) (by kernel_rfl) rfl (by decide) (fun a S => ?_)
          refine leafL (leafT (hK61 _ _ ?_))
          refine sSeq (fun K62 hK62 => ?_)
          refine sRegion ?_
          refine sMove (.int .u64 (IntKind.u64.wrap ((IntKind.u64.wrap ((IntKind.u64.wrap ((orI .u64 z27 z29) * 4294967296)) + z35)) - (IntKind.u64.wrap (o42 * z20))))) S (wN rfl) (.inl rfl) (by kernel_rfl) rfl (by decide) (fun a S => ?_)
          refine sMove (.int .u64 z23) S (wN rfl) (.inl rfl) (by kernel_rfl) rfl (by decide) (fun a S => ?_)
          obtain ⟨z63, hx64, h⟩ := bindSome h
          refine sBin (.int .u64 z63) S (wN rfl) rfl (by kernel_rfl) (by kernel_rfl) (bQuoK _ _ _ _ (k := .u64) (x := IntKind.u64.wrap ((IntKind.u64.wrap ((IntKind.u64.wrap ((orI .u64 z27 z29) * 4294967296)) + z35)) - (IntKind.u64.wrap (o42 * z20)))) (y := z23) hx64) rfl (by decide) (fun a S => ?_)
          refine sMove (.int .u64 z63) S (wN rfl) (.inr rfl) (by kernel_rfl) rfl (by decide) (fun a S => ?_)
          refine leafL (leafT (hK62 _ _ ?_))
          refine sSeq (fun K65 hK65 => ?_)
          refine sRegion ?_
          refine sMove (.int .u64 (IntKind.u64.wrap ((IntKind.u64.wrap ((IntKind.u64.wrap ((orI .u64 z27 z29) * 4294967296)) + z35)) - (IntKind.u64.wrap (o42 * z20))))) S (wN rfl) (.inl rfl) (by kernel_rfl) rfl (by decide) (fun a S => ?_)
          refine sMove (.int .u64 z63) S (wN rfl) (.inl rfl) (by kernel_rfl) rfl (by decide) (fun a S => ?_)
          refine sMove (.int .u64 z23) S (wN rfl) (.inl rfl) (by kernel_rfl) rfl (by decide) (fun a S => ?_)
          refine sBin (.int .u64 (IntKind.u64.wrap (z63 * z23))) S (wN rfl) rfl (by kernel_rfl) (by kernel_rfl) (bMulK _ _ _ _ .u64 z63 z23) rfl (by decide) (fun a S => ?_)
          refine sBin (.int .u64 (IntKind.u64.wrap ((IntKind.u64.wrap ((IntKind.u64.wrap ((IntKind.u64.wrap ((orI .u64 z27 z29) * 4294967296)) + z35)) - (IntKind.u64.wrap (o42 * z20)))) - (IntKind.u64.wrap (z63 * z23))))) S (wN rfl) rfl (by kernel_rfl) (by kernel_rfl) (bSubK _ _ _ _ .u64 (IntKind.u64.wrap ((IntKind.u64.wrap ((IntKind.u64.wrap ((orI .u64 z27 z29) * 4294967296)) + z35)) - (IntKind.u64.wrap (o42 * z20)))) (IntKind.u64.wrap (z63 * z23))) rfl (by decide) (fun a S => ?_)
          refine sMove (.int .u64 (IntKind.u64.wrap ((IntKind.u64.wrap ((IntKind.u64.wrap ((IntKind.u64.wrap ((orI .u64 z27 z29) * 4294967296)) + z35)) - (IntKind.u64.wrap (o42 * z20)))) - (IntKind.u64.wrap (z63 * z23))))) S (wN rfl) (.inr rfl) (by kernel_rfl) rfl (by decide) (fun a S => ?_)
          refine leafL (leafT (hK65 _ _ ?_))
          obtain ⟨t67, h, g68⟩ := bindSome h
          refine sCut (fun a w => ∃ o66, o66 = t67 ∧ St E [] w0 135 a w [(2, .int .u64 z20), (8, .int .u64 (IntKind.u64.wrap r17)), (14, .int .u64 (andI .u64 z32 4294967295)), (15, .int .u64 o42), (17, .int .u64 (IntKind.u64.wrap ((IntKind.u64.wrap ((IntKind.u64.wrap ((orI .u64 z27 z29) * 4294967296)) + z35)) - (IntKind.u64.wrap (o42 * z20))))), (18, .int .u64 o66)] [] []) ?_ (fun a w hI => ?_)
          · refine wp_block ?_
            obtain ⟨t73, hl, g72⟩ := bindSome h
            refine sLoop hl (fun s0 a w => match s0 with | (s69, s70) => St E [] w0 135 a w [(2, .int .u64 z20), (8, .int .u64 (IntKind.u64.wrap r17)), (9, .int .u64 z23), (10, .int .u64 (andI .u64 z20 4294967295)), (14, .int .u64 (andI .u64 z32 4294967295)), (15, .int .u64 o42), (16, .int .u64 s69), (17, .int .u64 (IntKind.u64.wrap ((IntKind.u64.wrap ((IntKind.u64.wrap ((orI .u64 z27 z29) * 4294967296)) + z35)) - (IntKind.u64.wrap (o42 * z20))))), (18, .int .u64 s70)] [] []) (S.fix [] [] (by decide) (by kernel_rfl) (by kernel_rfl) (by kernel_rfl)) ?_
            clear hl h
            intro s0 a w c0 hI h hu71
            obtain ⟨s69, s70⟩ := s0
            unfold math_bits_Div64_l2 at h
            dsimp only at h hI
            have S := hI
            refine sSeq (fun K75 hK75 => ?_)
            obtain ⟨t77, h, g78⟩ := bindSome h
            refine sCut (fun a w => ∃ o76, o76 = t77 ∧ St E [] w0 135 a w [(2, .int .u64 z20), (8, .int .u64 (IntKind.u64.wrap r17)), (9, .int .u64 z23), (10, .int .u64 (andI .u64 z20 4294967295)), (14, .int .u64 (andI .u64 z32 4294967295)), (15, .int .u64 o42), (16, .int .u64 s69), (17, .int .u64 (IntKind.u64.wrap ((IntKind.u64.wrap ((IntKind.u64.wrap ((orI .u64 z27 z29) * 4294967296)) + z35)) - (IntKind.u64.wrap (o42 * z20))))), (18, .int .u64 s70), (113, .bool o76)] [] []) ?_ (fun a w hI => ?_)
            · refine sRegion ?_
              refine sMove (.int .u64 s70) S (wN rfl) (.inl rfl) (by kernel_rfl) rfl (by decide) (fun a S => ?_)
              refine sBin (.bool (decide (4294967296 ≤ s70))) S (wN rfl) rfl (by kernel_rfl) (by kernel_rfl) (bGe _ _ _ _ .u64 s70 4294967296) rfl (by decide) (fun a S => ?_)
              refine sMove (.bool (decide (4294967296 ≤ s70))) S (wN rfl) (.inl rfl) (by kernel_rfl) rfl (by decide) (fun a S => ?_)
              rcases iteSome h with ⟨hc79, h⟩ | ⟨hc79, h⟩
              · refine sSkip (c := decide (4294967296 ≤ s70)) 2 false 104 105 S rfl rfl (by kernel_rfl) hc79 rfl (by decide) (fun a S => ?_)
                refine sSkip (c := decide (4294967296 ≤ s70)) 2 false 104 106 S rfl rfl (by kernel_rfl) hc79 rfl (by decide) (fun a S => ?_)
                refine sSkip (c := decide (4294967296 ≤ s70)) 2 false 104 107 S rfl rfl (by kernel_rfl) hc79 rfl (by decide) (fun a S => ?_)
                refine sSkip (c := decide (4294967296 ≤ s70)) 2 false 104 108 S rfl rfl (by kernel_rfl) hc79 rfl (by decide) (fun a S => ?_)
                refine sSkip (c := decide (4294967296 ≤ s70)) 2 false 104 109 S rfl rfl (by kernel_rfl) hc79 rfl (by decide) (fun a S => ?_)
                refine sSkip (c := decide (4294967296 ≤ s70)) 2 false 104 110 S rfl rfl (by kernel_rfl) hc79 rfl (by decide) (fun a S => ?_)
                refine sSkip (c := decide (4294967296 ≤ s70)) 2 false 104 111 S rfl rfl (by kernel_rfl) hc79 rfl (by decide) (fun a S => ?_)
                refine sSkip (c := decide (4294967296 ≤ s70)) 2 false 104 112 S rfl rfl (by kernel_rfl) hc79 rfl (by decide) (fun a S => ?_)
                refine sPickT (b := decide (4294967296 ≤ s70)) (.bool true) S (wN rfl) rfl (by kernel_rfl) hc79 (by kernel_rfl) rfl (by decide) (fun a S => ?_)
                exact leafL (leafT (⟨true, Option.some.inj h, S.fix [] [] (by decide) (by kernel_rfl) (by kernel_rfl) (by kernel_rfl)⟩))
              · refine sMove (.int .u64 s70) S (wG (c := decide (4294967296 ≤ s70)) 2 false 104 rfl rfl (by kernel_rfl) hc79) (.inl rfl) (by kernel_rfl) rfl (by decide) (fun a S => ?_)
                refine sMove (.int .u64 (andI .u64 z20 4294967295)) S (wG (c := decide (4294967296 ≤ s70)) 2 false 104 rfl rfl (by kernel_rfl) hc79) (.inl rfl) (by kernel_rfl) rfl (by decide) (fun a S => ?_)
                refine sBin (.int .u64 (IntKind.u64.wrap (s70 * (andI .u64 z20 4294967295)))) S (wG (c := decide (4294967296 ≤ s70)) 2 false 104 rfl rfl (by kernel_rfl) hc79) rfl (by kernel_rfl) (by kernel_rfl) (bMulK _ _ _ _ .u64 s70 (andI .u64 z20 4294967295)) rfl (by decide) (fun a S => ?_)
                refine sMove (.int .u64 s69) S (wG (c := decide (4294967296 ≤ s70)) 2 false 104 rfl rfl (by kernel_rfl) hc79) (.inl rfl) (by kernel_rfl) rfl (by decide) (fun a S => ?_)
                refine sBin (.int .u64 (IntKind.u64.wrap (4294967296 * s69))) S (wG (c := decide (4294967296 ≤ s70)) 2 false 104 rfl rfl (by kernel_rfl) hc79) rfl (by kernel_rfl) (by kernel_rfl) (bMulK _ _ _ _ .u64 4294967296 s69) rfl (by decide) (fun a S => ?_)
                refine sMove (.int .u64 (andI .u64 z32 4294967295)) S (wG (c := decide (4294967296 ≤ s70)) 2 false 104 rfl rfl (by kernel_rfl) hc79) (.inl rfl) (by kernel_rfl) rfl (by decide) (fun a S => ?_)
                refine sBin (.int .u64 (IntKind.u64.wrap ((IntKind.u64.wrap (4294967296 * s69)) + (andI .u64 z32 4294967295)))) S (wG (c := decide (4294967296 ≤ s70)) 2 false 104 rfl rfl (by kernel_rfl) hc79) rfl (by kernel_rfl) (by kernel_rfl) (bAddK _ _ _ _ .u64 (IntKind.u64.wrap (4294967296 * s69)) (andI .u64 z32 4294967295)) rfl (by decide) (fun a S => ?_)
                refine sBin (.bool (decide ((IntKind.u64.wrap ((IntKind.u64.wrap (4294967296 * s69)) + (andI .u64 z32 4294967295))) < (IntKind.u64.wrap (s70 * (andI .u64 z20 4294967295)))))) S (wG (c := decide (4294967296 ≤ s70)) 2 false 104 rfl rfl (by kernel_rfl) hc79) rfl (by kernel_rfl) (by kernel_rfl) (bGt _ _ _ _ .u64 (IntKind.u64.wrap (s70 * (andI .u64 z20 4294967295))) (IntKind.u64.wrap ((IntKind.u64.wrap (4294967296 * s69)) + (andI .u64 z32 4294967295)))) rfl (by decide) (fun a S => ?_)
                refine sPickF (b := decide (4294967296 ≤ s70)) (.bool (decide ((IntKind.u64.wrap ((IntKind.u64.wrap (4294967296 * s69)) + (andI .u64 z32 4294967295))) < (IntKind.u64.wrap (s70 * (andI .u64 z20 4294967295)))))) S (wN rfl) rfl (by kernel_rfl) hc79 (by kernel_rfl) rfl (by decide) (fun a S => ?_)
                exact leafL (leafT (⟨decide ((IntKind.u64.wrap ((IntKind.u64.wrap (4294967296 * s69)) + (andI .u64 z32 4294967295))) < (IntKind.u64.wrap (s70 * (andI .u64 z20 4294967295)))), Option.some.inj h, S.fix [] [] (by decide) (by kernel_rfl) (by kernel_rfl) (by kernel_rfl)⟩))
            · obtain ⟨o76, rfl, S⟩ := hI
              have h := g78
              clear g78
              try dsimp only at h
              rcases iteSome h with ⟨hc80, h⟩ | ⟨hc80, h⟩
              · refine sCondT (b := o76) S (by kernel_rfl) hc80 ?_
                refine wp_skip (leafT (hK75 _ _ ?_))
                refine wp_block ?_
                refine sSeq (fun K81 hK81 => ?_)
                refine sRegion ?_
                refine sMove (.int .u64 s70) S (wN rfl) (.inl rfl) (by kernel_rfl) rfl (by decide) (fun a S => ?_)
                refine sBin (.int .u64 (IntKind.u64.wrap (s70 - 1))) S (wN rfl) rfl (by kernel_rfl) (by kernel_rfl) (bSubK _ _ _ _ .u64 s70 1) rfl (by decide) (fun a S => ?_)
                refine sMove (.int .u64 (IntKind.u64.wrap (s70 - 1))) S (wN rfl) (.inr rfl) (by kernel_rfl) rfl (by decide) (fun a S => ?_)
                refine leafL (leafT (hK81 _ _ ?_))
                refine sSeq (fun K82 hK82 => ?_)
                refine sRegion ?_
                refine sMove (.int .u64 s69) S (wN rfl) (.inl rfl) (by kernel_rfl) rfl (by decide) (fun a S => ?_)
                refine sMove (.int .u64 z23) S (wN rfl) (.inl rfl) (by kernel_rfl) rfl (by decide) (fun a S => ?_)
                refine sBin (.int .u64 (IntKind.u64.wrap (s69 + z23))) S (wN rfl) rfl (by kernel_rfl) (by kernel_rfl) (bAddK _ _ _ _ .u64 s69 z23) rfl (by decide) (fun a S => ?_)
                refine sMove (.int .u64 (IntKind.u64.wrap (s69 + z23))) S (wN rfl) (.inr rfl) (by kernel_rfl) rfl (by decide) (fun a S => ?_)
                refine leafL (leafT (hK82 _ _ ?_))
                refine sSeq (fun K83 hK83 => ?_)
                refine sRegion ?_
                refine sMove (.int .u64 (IntKind.u64.wrap (s69 + z23))) S (wN rfl) (.inl rfl) (by kernel_rfl) rfl (by decide) (fun a S => ?_)
                refine sBin (.bool (decide (4294967296 ≤ (IntKind.u64.wrap (s69 + z23))))) S (wN rfl) rfl (by kernel_rfl) (by kernel_rfl) (bGe _ _ _ _ .u64 (IntKind.u64.wrap (s69 + z23)) 4294967296) rfl (by decide) (fun a S => ?_)
                refine leafL (leafT (hK83 _ _ ?_))
                rcases iteSome h with ⟨hc84, h⟩ | ⟨hc84, h⟩
                · refine sCondT (b := decide (4294967296 ≤ (IntKind.u64.wrap (s69 + z23)))) S (by kernel_rfl) hc84 ?_
                  obtain rfl := Option.some.inj h
                  obtain rfl := hu71 _ rfl
                  have h := g72
                  clear g72
                  try dsimp only at h
                  exact wp_exit (xMiss rfl (xThen (xHit (leafT (⟨IntKind.u64.wrap (s70 - 1), Option.some.inj h, S.fix [] [] (by decide) (by kernel_rfl) (by kernel_rfl) (by kernel_rfl)⟩)))))
                · refine sCondF (b := decide (4294967296 ≤ (IntKind.u64.wrap (s69 + z23)))) S (by kernel_rfl) hc84 ?_
                  exact wp_skip (leafB (leafT (⟨(IntKind.u64.wrap (s69 + z23), IntKind.u64.wrap (s70 - 1)), (Option.some.inj h).symm, (S.fix [] [] (by decide) (by kernel_rfl) (by kernel_rfl) (by kernel_rfl))⟩)))
              · refine sCondF (b := o76) S (by kernel_rfl) hc80 ?_
                obtain rfl := Option.some.inj h
                obtain rfl := hu71 _ rfl
                have h := g72
                clear g72
                try dsimp only at h
                exact wp_exit (xThen (xThen (xHit (leafT (⟨s70, Option.some.inj h, S.fix [] [] (by decide) (by kernel_rfl) (by kernel_rfl) (by kernel_rfl)⟩)))))
          · obtain ⟨o66, rfl, S⟩ := hI
            have h := g68
            clear g68
            try dsimp only at h
            refine sSeq (fun K85 hK85 => ?_)
            refine sRegion ?_
            refine sMove (.int .u64 o42) S (wN rfl) (.inl rfl) (by kernel_rfl) rfl (by decide) (fun a S => ?_)
            refine sBin (.int .u64 (IntKind.u64.wrap (o42 * 4294967296))) S (wN rfl) rfl (by kernel_rfl) (by kernel_rfl) (bMulK _ _ _ _ .u64 o42 4294967296) rfl (by decide) (fun a S => ?_)
            refine sMove (.int .u64 o66) S (wN rfl) (.inl rfl) (by kernel_rfl) rfl (by decide) (fun a S => ?_)
            refine sBin (.int .u64 (IntKind.u64.wrap ((IntKind.u64.wrap (o42 * 4294967296)) + o66))) S (wN rfl) rfl (by kernel_rfl) (by kernel_rfl) (bAddK _ _ _ _ .u64 (IntKind.u64.wrap (o42 * 4294967296)) o66) rfl (by decide) (fun a S => ?_)
            refine sMove (.int .u64 (IntKind.u64.wrap ((IntKind.u64.wrap ((IntKind.u64.wrap ((orI .u64 z27 z29) * 4294967296)) + z35)) - (IntKind.u64.wrap (o42 * z20))))) S (wN rfl) (.inl rfl) (by kernel_rfl) rfl (by decide) (fun a S => ?_)
            refine sBin (.int .u64 (IntKind.u64.wrap ((IntKind.u64.wrap ((IntKind.u64.wrap ((IntKind.u64.wrap ((orI .u64 z27 z29) * 4294967296)) + z35)) - (IntKind.u64.wrap (o42 * z20)))) * 4294967296))) S (wN rfl) rfl (by kernel_rfl) (by kernel_rfl) (bMulK _ _ _ _ .u64 (IntKind.u64.wrap ((IntKind.u64.wrap ((IntKind.u64.wrap ((orI .u64 z27 z29) * 4294967296)) + z35)) - (IntKind.u64.wrap (o42 * z20)))) 4294967296) rfl (by decide) (fun a S => ?_)
            refine sMove (.int .u64 (andI .u64 z32 4294967295)) S (wN rfl) (.inl rfl) (by kernel_rfl) rfl (by decide) (fun a S => ?_)
            refine sBin (.int .u64 (IntKind.u64.wrap ((IntKind.u64.wrap ((IntKind.u64.wrap ((IntKind.u64.wrap ((IntKind.u64.wrap ((orI .u64 z27 z29) * 4294967296)) + z35)) - (IntKind.u64.wrap (o42 * z20)))) * 4294967296)) + (andI .u64 z32 4294967295)))) S (wN rfl) rfl (by kernel_rfl) (by kernel_rfl) (bAddK _ _ _ _ .u64 (IntKind.u64.wrap ((IntKind.u64.wrap ((IntKind.u64.wrap ((IntKind.u64.wrap ((orI .u64 z27 z29) * 4294967296)) + z35)) - (IntKind.u64.wrap (o42 * z20)))) * 4294967296)) (andI .u64 z32 4294967295)) rfl (by decide) (fun a S => ?_)
            refine sMove (.int .u64 o66) S (wN rfl) (.inl rfl) (by kernel_rfl) rfl (by decide) (fun a S => ?_)
            refine sMove (.int .u64 z20) S (wN rfl) (.inl rfl) (by kernel_rfl) rfl (by decide) (fun a S => ?_)
            refine sBin (.int .u64 (IntKind.u64.wrap (o66 * z20))) S (wN rfl) rfl (by kernel_rfl) (by kernel_rfl) (bMulK _ _ _ _ .u64 o66 z20) rfl (by decide) (fun a S => ?_)
            refine sBin (.int .u64 (IntKind.u64.wrap ((IntKind.u64.wrap ((IntKind.u64.wrap ((IntKind.u64.wrap ((IntKind.u64.wrap ((IntKind.u64.wrap ((orI .u64 z27 z29) * 4294967296)) + z35)) - (IntKind.u64.wrap (o42 * z20)))) * 4294967296)) + (andI .u64 z32 4294967295))) - (IntKind.u64.wrap (o66 * z20))))) S (wN rfl) rfl (by kernel_rfl) (by kernel_rfl) (bSubK _ _ _ _ .u64 (IntKind.u64.wrap ((IntKind.u64.wrap ((IntKind.u64.wrap ((IntKind.u64.wrap ((IntKind.u64.wrap ((orI .u64 z27 z29) * 4294967296)) + z35)) - (IntKind.u64.wrap (o42 * z20)))) * 4294967296)) + (andI .u64 z32 4294967295))) (IntKind.u64.wrap (o66 * z20))) rfl (by decide) (fun a S => ?_)
            refine sMove (.int .u64 (IntKind.u64.wrap r17)) S (wN rfl) (.inl rfl) (by kernel_rfl) rfl (by decide) (fun a S => ?_)
            obtain ⟨z86, hx87, h⟩ := bindSome h
            refine sBin (.int .u64 z86) S (wN rfl) rfl (by kernel_rfl) (by kernel_rfl) (bShrK _ _ _ _ (k := .u64) (k' := .u64) (x := IntKind.u64.wrap ((IntKind.u64.wrap ((IntKind.u64.wrap ((IntKind.u64.wrap ((IntKind.u64.wrap ((IntKind.u64.wrap ((orI .u64 z27 z29) * 4294967296)) + z35)) - (IntKind.u64.wrap (o42 * z20)))) * 4294967296)) + (andI .u64 z32 4294967295))) - (IntKind.u64.wrap (o66 * z20)))) (y := IntKind.u64.wrap r17) hx87) rfl (by decide) (fun a S => ?_)
            refine sMove (.int .u64 (IntKind.u64.wrap ((IntKind.u64.wrap (o42 * 4294967296)) + o66))) S (wN rfl) (.inr rfl) (by kernel_rfl) rfl (by decide) (fun a S => ?_)
            refine sMove (.int .u64 z86) S (wN rfl) (.inr rfl) (by kernel_rfl) rfl (by decide) (fun a S => ?_)
            refine leafL (leafT (hK85 _ _ ?_))
            obtain rfl := Option.some.inj h
            exact wp_ret (sRet (.tuple #[.int .u64 (IntKind.u64.wrap ((IntKind.u64.wrap (o42 * 4294967296)) + o66)), .int .u64 z86]) S (rsl2 rfl (rvT (t := 6) (v := .int .u64 (IntKind.u64.wrap ((IntKind.u64.wrap (o42 * 4294967296)) + o66))) S (by kernel_rfl)) (rvT (t := 7) (v := .int .u64 z86) S (by kernel_rfl))) ⟨(), rfl, S.mem.sel [] [] (by decide) (by kernel_rfl) (by kernel_rfl)⟩)

end Go.Proofs.Ytjndecalogklhaa
namespace Go.Proofs.Ytjndecalogklhaa
open Go.RowKit
set_option linter.unusedVariables false

noncomputable def F_sett_Width (p0 : Int) (p1 : api_Ratio) : Option (Int × Int) :=
  Option.bind (F_sett_checked p1 true p0) fun r5 =>
  if r5 != 0 then
    some (0, r5)
  else
    Option.bind (F_math_bits_Mul64 (IntKind.u64.wrap (w64 (p0 * 1000))) (IntKind.u64.wrap p1.Den)) fun r11 =>
    if decide ((IntKind.u64.wrap p1.Num) ≤ r11.1) then
      some (0, 16)
    else
      Option.bind (F_math_bits_Div64 r11.1 r11.2 (IntKind.u64.wrap p1.Num)) fun r18 =>
      Option.bind (α := Int) (
        if decide (0 < r18.2) then
          some (IntKind.u64.wrap (r18.1 + 1))
        else
          some r18.1) fun o20 =>
      if decide (1000000000 < o20) then
        some (0, 16)
      else
        some (IntKind.i64.wrap o20, 0)
set_option maxHeartbeats 4000000 in
set_option maxRecDepth 100000 in
theorem c_sett_Width (E : Nat → Prop) (w0 : World) (p0 : Int) (p1 : api_Ratio) (v1 : Value) (r : (Int × Int)) (h : F_sett_Width p0 p1 = some r) (S : St0 E [] w0 w0 [] [fRep r_api_Ratio (v1) p1]) :
    Calls Try.prog 21 #[.int .i64 p0, v1] w0 (Ret (X := Unit) E [] w0 (fun _ => .tuple #[.int .i64 r.1, .int .i64 r.2]) (fun _ => []) (fun _ => [])) := by
  unfold F_sett_Width at h
  obtain rfl : v1 = .agg #[.int .i64 p1.Num, .int .i64 p1.Den] := S.know (i := 0) (e := fRep r_api_Ratio (v1) p1) (by kernel_rfl)
  refine sEnter (args := [.int .i64 p0, .agg #[.int .i64 p1.Num, .int .i64 p1.Den]]) 49 Try.func21 rfl rfl (by simp) S (fun a S => ?_)
  refine sSeq (fun K1 hK1 => ?_)
  refine sRegion ?_
  refine sBox (v := .agg #[.int .i64 p1.Num, .int .i64 p1.Den]) S (wN rfl) rfl (by kernel_rfl) [.int .i64 p1.Num, .int .i64 p1.Den] rfl rfl (by decide) (fun a b2 w S => ?_)
  refine sMove (.int .i64 0) S (wN rfl) (.inr rfl) (by kernel_rfl) rfl (by decide) (fun a S => ?_)
  refine sMove (.int .i64 0) S (wN rfl) (.inr rfl) (by kernel_rfl) rfl (by decide) (fun a S => ?_)
  refine leafL (leafT (hK1 _ _ ?_))
  refine sSeq (fun K3 hK3 => ?_)
  refine sSeq (fun K4 hK4 => ?_)
  refine sRegion ?_
  refine sLoadN (p := b2) (off := 0) (T := 34) (vs := [.int .i64 p1.Num, .int .i64 p1.Den]) 0 [.int .i64 p1.Num, .int .i64 p1.Den] S (wN rfl) rfl (by kernel_rfl) (by kernel_rfl) (by kernel_rfl) (by kernel_rfl) rfl rfl (by decide) (fun a S => ?_)
  refine sMove (.int .i64 p0) S (wN rfl) (.inl rfl) (by kernel_rfl) rfl (by decide) (fun a S => ?_)
  obtain ⟨r5, hx6, h⟩ := bindSome h
  have S1 := S.mem
  refine sCallQ (X := Unit) (f := 46) (vs := [.agg #[.int .i64 p1.Num, .int .i64 p1.Den], .bool true, .int .i64 p0]) (val := fun _ => .int .i64 r5) S (wN rfl) rfl callee46 (by kernel_rfl) (S1.quiet [0] (by kernel_rfl)) (fun E1 w1 S1 => c_sett_checked E1 w1 p1 (.agg #[.int .i64 p1.Num, .int .i64 p1.Den]) true p0 r5 hx6 S1) rfl (by decide) (fun _ a w S => ?_)
  refine sMove (.int .i64 r5) S (wN rfl) (.inr rfl) (by kernel_rfl) rfl (by decide) (fun a S => ?_)
  refine leafL (leafT (hK4 _ _ ?_))
  refine sSeq (fun K7 hK7 => ?_)
  refine sRegion ?_
  refine sMove (.int .i64 r5) S (wN rfl) (.inl rfl) (by kernel_rfl) rfl (by decide) (fun a S => ?_)
  refine sBin (.bool (r5 != 0)) S (wN rfl) rfl (by kernel_rfl) (by kernel_rfl) (bNe _ _ _ _ .i64 r5 0) rfl (by decide) (fun a S => ?_)
  refine leafL (leafT (hK7 _ _ ?_))
  rcases iteSome h with ⟨hc8, h⟩ | ⟨hc8, h⟩
  · refine sCondT (b := r5 != 0) S (by kernel_rfl) hc8 ?_
    refine sSeq (fun K9 hK9 => ?_)
    refine sRegion ?_
    refine sMove (.int .i64 r5) S (wN rfl) (.inl rfl) (by kernel_rfl) rfl (by decide) (fun a S => ?_)
    refine sMove (.int .i64 0) S (wN rfl) (.inr rfl) (by kernel_rfl) rfl (by decide) (fun a S => ?_)
    refine sMove (.int .i64 r5) S (wN rfl) (.inr rfl) (by kernel_rfl) rfl (by decide) (fun a S => ?_)
    refine leafL (leafT (hK9 _ _ ?_))
    obtain rfl := Option.some.inj h
    exact wp_ret (rThen (sRet (.tuple #[.int .i64 0, .int .i64 r5]) S (rsl2 rfl (rvT (t := 4) (v := .int .i64 0) S (by kernel_rfl)) (rvT (t := 5) (v := .int .i64 r5) S (by kernel_rfl))) ⟨(), rfl, S.mem.sel [] [] (by decide) (by kernel_rfl) (by kernel_rfl)⟩))
  · refine sCondF (b := r5 != 0) S (by kernel_rfl) hc8 ?_
    refine wp_skip (leafT (hK3 _ _ ?_))
    refine sSeq (fun K10 hK10 => ?_)
    refine sRegion ?_
    refine sMove (.int .i64 p0) S (wN rfl) (.inl rfl) (by kernel_rfl) rfl (by decide) (fun a S => ?_)
    refine sBin (.int .i64 (w64 (p0 * 1000))) S (wN rfl) rfl (by kernel_rfl) (by kernel_rfl) (bMul _ _ _ _ p0 1000) rfl (by decide) (fun a S => ?_)
    refine sConv (k := .i64) (k2 := .u64) (b := w64 (p0 * 1000)) S (wN rfl) rfl Try.underlying2 Try.underlying69 (by kernel_rfl) rfl (by decide) (fun a S => ?_)
    refine sField (b := b2) (off := 0) 1 1 S (wN rfl) rfl (by kernel_rfl) (by kernel_rfl) rfl rfl (by decide) (fun a S => ?_)
    refine sLoad1 (p := b2) (off := 1) (T := 34) (vs := [.int .i64 p1.Num, .int .i64 p1.Den]) 0 (.int .i64 p1.Den) S (wN rfl) rfl (by kernel_rfl) (by kernel_rfl) (by kernel_rfl) rfl rfl (by decide) (fun a S => ?_)
    refine sConv (k := .i64) (k2 := .u64) (b := p1.Den) S (wN rfl) rfl Try.underlying2 Try.underlying69 (by kernel_rfl) rfl (by decide) (fun a S => ?_)
    obtain ⟨r11, hx12, h⟩ := bindSome h
    have S1 := S.mem
    refine sCallQ (X := Unit) (f := 47) (vs := [.int .u64 (IntKind.u64.wrap (w64 (p0 * 1000))), .int .u64 (IntKind.u64.wrap p1.Den)]) (val := fun _ => .tuple #[.int .u64 r11.1, .int .u64 r11.2]) S (wN rfl) rfl callee47 (by kernel_rfl) (S1.quiet [] (by kernel_rfl)) (fun E1 w1 S1 => c_math_bits_Mul64 E1 w1 (IntKind.u64.wrap (w64 (p0 * 1000))) (IntKind.u64.wrap p1.Den) r11 hx12 S1) rfl (by decide) (fun _ a w S => ?_)
    refine sMove (.tuple #[.int .u64 r11.1, .int .u64 r11.2]) S (wN rfl) (.inl rfl) (by kernel_rfl) rfl (by decide) (fun a S => ?_)
    refine sExtract (vs := [.int .u64 r11.1, .int .u64 r11.2]) (.int .u64 r11.1) S (wN rfl) rfl (by kernel_rfl) rfl rfl (by decide) (fun a S => ?_)
    refine sExtract (vs := [.int .u64 r11.1, .int .u64 r11.2]) (.int .u64 r11.2) S (wN rfl) rfl (by kernel_rfl) rfl rfl (by decide) (fun a S => ?_)
    refine sMove (.int .u64 r11.1) S (wN rfl) (.inr rfl) (by kernel_rfl) rfl (by decide) (fun a S => ?_)
    refine sMove (.int .u64 r11.2) S (wN rfl) (.inr rfl) (by kernel_rfl) rfl (by decide) (fun a S => ?_)
    refine leafL (leafT (hK10 _ _ ?_))
    refine sSeq (fun K13 hK13 => ?_)
    refine sSeq (fun K14 hK14 => ?_)
    refine sRegion ?_
    refine sMove (.int .u64 r11.1) S (wN rfl) (.inl rfl) (by kernel_rfl) rfl (by decide) (fun a S => ?_)
    refine sField (b := b2) (off := 0) 0 0 S (wN rfl) rfl (by kernel_rfl) (by kernel_rfl) rfl rfl (by decide) (fun a S => ?_)
    refine sLoad1 (p := b2) (off := 0) (T := 34) (vs := [.int .i64 p1.Num, .int .i64 p1.Den]) 0 (.int .i64 p1.Num) S (wN rfl) rfl (by kernel_rfl) (by kernel_rfl) (by kernel_rfl) rfl rfl (by decide) (fun a S => ?_)
    refine sConv (k := .i64) (k2 := .u64) (b := p1.Num) S (wN rfl) rfl Try.underlying2 Try.underlying69 (by kernel_rfl) rfl (by decide) (fun a S => ?_)
    refine sBin (.bool (decide ((IntKind.u64.wrap p1.Num) ≤ r11.1))) S (wN rfl) rfl (by kernel_rfl) (by kernel_rfl) (bGe _ _ _ _ .u64 r11.1 (IntKind.u64.wrap p1.Num)) rfl (by decide) (fun a S => ?_)
    refine leafL (leafT (hK14 _ _ ?_))
    rcases iteSome h with ⟨hc15, h⟩ | ⟨hc15, h⟩
    · refine sCondT (b := decide ((IntKind.u64.wrap p1.Num) ≤ r11.1)) S (by kernel_rfl) hc15 ?_
      refine sSeq (fun K16 hK16 => ?_)
      refine sRegion ?_
      refine sMove (.int .i64 0) S (wN rfl) (.inr rfl) (by kernel_rfl) rfl (by decide) (fun a S => ?_)
      refine sMove (.int .i64 16) S (wN rfl) (.inr rfl) (by kernel_rfl) rfl (by decide) (fun a S => ?_)
      refine leafL (leafT (hK16 _ _ ?_))
      obtain rfl := Option.some.inj h
      exact wp_ret (rThen (sRet (.tuple #[.int .i64 0, .int .i64 16]) S (rsl2 rfl (rvT (t := 4) (v := .int .i64 0) S (by kernel_rfl)) (rvT (t := 5) (v := .int .i64 16) S (by kernel_rfl))) ⟨(), rfl, S.mem.sel [] [] (by decide) (by kernel_rfl) (by kernel_rfl)⟩))
    · refine sCondF (b := decide ((IntKind.u64.wrap p1.Num) ≤ r11.1)) S (by kernel_rfl) hc15 ?_
      refine wp_skip (leafT (hK13 _ _ ?_))
      refine sSeq (fun K17 hK17 => ?_)
      refine sRegion ?_
      refine sMove (.int .u64 r11.1) S (wN rfl) (.inl rfl) (by kernel_rfl) rfl (by decide) (fun a S => ?_)
      refine sMove (.int .u64 r11.2) S (wN rfl) (.inl rfl) (by kernel_rfl) rfl (by decide) (fun a S => ?_)
      refine sField (b := b2) (off := 0) 0 0 S (wN rfl) rfl (by kernel_rfl) (by kernel_rfl) rfl rfl (by decide) (fun a S => ?_)
      refine sLoad1 (p := b2) (off := 0) (T := 34) (vs := [.int .i64 p1.Num, .int .i64 p1.Den]) 0 (.int .i64 p1.Num) S (wN rfl) rfl (by kernel_rfl) (by kernel_rfl) (by kernel_rfl) rfl rfl (by decide) (fun a S => ?_)
      refine sConv (k := .i64) (k2 := .u64) (b := p1.Num) S (wN rfl) rfl Try.underlying2 Try.underlying69 (by kernel_rfl) rfl (by decide) (fun a S => ?_)
      obtain ⟨r18, hx19, h⟩ := bindSome h
      have S1 := S.mem
      refine sCallQ (X := Unit) (f := 48) (vs := [.int .u64 r11.1, .int .u64 r11.2, .int .u64 (IntKind.u64.wrap p1.Num)]) (val := fun _ => .tuple #[.int .u64 r18.1, .int .u64 r18.2]) S (wN rfl) rfl callee48 (by kernel_rfl) (S1.quiet [] (by kernel_rfl)) (fun E1 w1 S1 => c_math_bits_Div64 E1 w1 r11.1 r11.2 (IntKind.u64.wrap p1.Num) r18 hx19 S1) rfl (by decide) (fun _ a w S => ?_)
      refine sMove (.tuple #[.int .u64 r18.1, .int .u64 r18.2]) S (wN rfl) (.inl rfl) (by kernel_rfl) rfl (by decide) (fun a S => ?_)
      refine sExtract (vs := [.int .u64 r18.1, .int .u64 r18.2]) (.int .u64 r18.1) S (wN rfl) rfl (by kernel_rfl) rfl rfl (by decide) (fun a S => ?_)
      refine sExtract (vs := [.int .u64 r18.1, .int .u64 r18.2]) (.int .u64 r18.2) S (wN rfl) rfl (by kernel_rfl) rfl rfl (by decide) (fun a S => ?_)
      refine sMove (.int .u64 r18.1) S (wN rfl) (.inr rfl) (by kernel_rfl) rfl (by decide) (fun a S => ?_)
      refine sMove (.int .u64 r18.2) S (wN rfl) (.inr rfl) (by kernel_rfl) rfl (by decide) (fun a S => ?_)
      refine leafL (leafT (hK17 _ _ ?_))
      obtain ⟨t21, h, g22⟩ := bindSome h
      refine sCut (fun a w => ∃ o20, o20 = t21 ∧ St E [] w0 49 a w [(9, .int .u64 o20)] [] []) ?_ (fun a w hI => ?_)
      · refine sSeq (fun K23 hK23 => ?_)
        refine sRegion ?_
        refine sMove (.int .u64 r18.2) S (wN rfl) (.inl rfl) (by kernel_rfl) rfl (by decide) (fun a S => ?_)
        refine sBin (.bool (decide (0 < r18.2))) S (wN rfl) rfl (by kernel_rfl) (by kernel_rfl) (bGt _ _ _ _ .u64 r18.2 0) rfl (by decide) (fun a S => ?_)
        refine leafL (leafT (hK23 _ _ ?_))
        rcases iteSome h with ⟨hc24, h⟩ | ⟨hc24, h⟩
        · refine sCondT (b := decide (0 < r18.2)) S (by kernel_rfl) hc24 ?_
          refine sRegion ?_
          refine sMove (.int .u64 r18.1) S (wN rfl) (.inl rfl) (by kernel_rfl) rfl (by decide) (fun a S => ?_)
          refine sBin (.int .u64 (IntKind.u64.wrap (r18.1 + 1))) S (wN rfl) rfl (by kernel_rfl) (by kernel_rfl) (bAddK _ _ _ _ .u64 r18.1 1) rfl (by decide) (fun a S => ?_)
          refine sMove (.int .u64 (IntKind.u64.wrap (r18.1 + 1))) S (wN rfl) (.inr rfl) (by kernel_rfl) rfl (by decide) (fun a S => ?_)
          exact leafL (leafT (⟨IntKind.u64.wrap (r18.1 + 1), Option.some.inj h, S.fix [] [] (by decide) (by kernel_rfl) (by kernel_rfl) (by kernel_rfl)⟩))
        · refine sCondF (b := decide (0 < r18.2)) S (by kernel_rfl) hc24 ?_
          exact wp_skip (leafT (⟨r18.1, Option.some.inj h, S.fix [] [] (by decide) (by kernel_rfl) (by kernel_rfl) (by kernel_rfl)⟩))
      · obtain ⟨o20, rfl, S⟩ := hI
        have h := g22
        clear g22
        try dsimp only at h
        refine sSeq (fun K25 hK25 => ?_)
        refine sSeq (fun K26 hK26 => ?_)
        refine sRegion ?_
        refine sMove (.int .u64 o20) S (wN rfl) (.inl rfl) (by kernel_rfl) rfl (by decide) (fun a S => ?_)
        refine sBin (.bool (decide (1000000000 < o20))) S (wN rfl) rfl (by kernel_rfl) (by kernel_rfl) (bGt _ _ _ _ .u64 o20 1000000000) rfl (by decide) (fun a S => ?_)
        refine leafL (leafT (hK26 _ _ ?_))
        rcases iteSome h with ⟨hc27, h⟩ | ⟨hc27, h⟩
        · refine sCondT (b := decide (1000000000 < o20)) S (by kernel_rfl) hc27 ?_
          refine sSeq (fun K28 hK28 => ?_)
          refine sRegion ?_
          refine sMove (.int .i64 0) S (wN rfl) (.inr rfl) (by kernel_rfl) rfl (by decide) (fun a S => ?_)
          refine sMove (.int .i64 16) S (wN rfl) (.inr rfl) (by kernel_rfl) rfl (by decide) (fun a S => ?_)
          refine leafL (leafT (hK28 _ _ ?_))
          obtain rfl := Option.some.inj h
          exact wp_ret (rThen (sRet (.tuple #[.int .i64 0, .int .i64 16]) S (rsl2 rfl (rvT (t := 4) (v := .int .i64 0) S (by kernel_rfl)) (rvT (t := 5) (v := .int .i64 16) S (by kernel_rfl))) ⟨(), rfl, S.mem.sel [] [] (by decide) (by kernel_rfl) (by kernel_rfl)⟩))
        · refine sCondF (b := decide (1000000000 < o20)) S (by kernel_rfl) hc27 ?_
          refine wp_skip (leafT (hK25 _ _ ?_))
          refine sSeq (fun K29 hK29 => ?_)
          refine sRegion ?_
          refine sMove (.int .u64 o20) S (wN rfl) (.inl rfl) (by kernel_rfl) rfl (by decide) (fun a S => ?_)
          refine sConv (k := .u64) (k2 := .i64) (b := o20) S (wN rfl) rfl Try.underlying69 Try.underlying2 (by kernel_rfl) rfl (by decide) (fun a S => ?_)
          refine sMove (.int .i64 (IntKind.i64.wrap o20)) S (wN rfl) (.inr rfl) (by kernel_rfl) rfl (by decide) (fun a S => ?_)
          refine sMove (.int .i64 0) S (wN rfl) (.inr rfl) (by kernel_rfl) rfl (by decide) (fun a S => ?_)
          refine leafL (leafT (hK29 _ _ ?_))
          obtain rfl := Option.some.inj h
          exact wp_ret (sRet (.tuple #[.int .i64 (IntKind.i64.wrap o20), .int .i64 0]) S (rsl2 rfl (rvT (t := 4) (v := .int .i64 (IntKind.i64.wrap o20)) S (by kernel_rfl)) (rvT (t := 5) (v := .int .i64 0) S (by kernel_rfl))) ⟨(), rfl, S.mem.sel [] [] (by decide) (by kernel_rfl) (by kernel_rfl)⟩)

end Go.Proofs.Ytjndecalogklhaa
namespace Go.Proofs.Ytjndecalogklhaa
open Go.RowKit
set_option linter.unusedVariables false

noncomputable def F_sett_over_int64_ (p0 : Int) (p1 : Int) (p2 : Bool) : Option Int :=
  Option.bind (α := Int) (
    if p2 then
      some (w64 (p0 + (w64 (p1 - 1))))
    else
      some p0) fun o2 =>
  Option.bind (quoI o2 p1) fun z8 =>
  some z8
set_option maxHeartbeats 4000000 in
set_option maxRecDepth 100000 in
theorem c_sett_over_int64_ (E : Nat → Prop) (w0 : World) (p0 : Int) (p1 : Int) (p2 : Bool) (r : Int) (h : F_sett_over_int64_ p0 p1 p2 = some r) (S : St0 E [] w0 w0 [] []) :
    Calls Try.prog 49 #[.int .i64 p0, .int .i64 p1, .bool p2] w0 (Ret (X := Unit) E [] w0 (fun _ => .int .i64 r) (fun _ => []) (fun _ => [])) := by
  unfold F_sett_over_int64_ at h
  refine sEnter (args := [.int .i64 p0, .int .i64 p1, .bool p2]) 15 Try.func49 rfl rfl (by simp) S (fun a S => ?_)
  refine sSeq (fun K1 hK1 => ?_)
  refine sRegion ?_
  refine sMove (.int .i64 0) S (wN rfl) (.inr rfl) (by kernel_rfl) rfl (by decide) (fun a S => ?_)
  refine leafL (leafT (hK1 _ _ ?_))
  obtain ⟨t3, h, g4⟩ := bindSome h
  refine sCut (fun a w => ∃ o2, o2 = t3 ∧ St E [] w0 15 a w [(0, .int .i64 o2), (1, .int .i64 p1)] [] []) ?_ (fun a w hI => ?_)
  · refine sSeq (fun K5 hK5 => ?_)
    refine sRegion ?_
    refine sMove (.bool p2) S (wN rfl) (.inl rfl) (by kernel_rfl) rfl (by decide) (fun a S => ?_)
    refine leafL (leafT (hK5 _ _ ?_))
    rcases iteSome h with ⟨hc6, h⟩ | ⟨hc6, h⟩
    · refine sCondT (b := p2) S (by kernel_rfl) hc6 ?_
      refine sRegion ?_
      refine sMove (.int .i64 p0) S (wN rfl) (.inl rfl) (by kernel_rfl) rfl (by decide) (fun a S => ?_)
      refine sMove (.int .i64 p1) S (wN rfl) (.inl rfl) (by kernel_rfl) rfl (by decide) (fun a S => ?_)
      refine sBin (.int .i64 (w64 (p1 - 1))) S (wN rfl) rfl (by kernel_rfl) (by kernel_rfl) (bSub _ _ _ _ p1 1) rfl (by decide) (fun a S => ?_)
      refine sBin (.int .i64 (w64 (p0 + (w64 (p1 - 1))))) S (wN rfl) rfl (by kernel_rfl) (by kernel_rfl) (bAdd _ _ _ _ p0 (w64 (p1 - 1))) rfl (by decide) (fun a S => ?_)
      refine sMove (.int .i64 (w64 (p0 + (w64 (p1 - 1))))) S (wN rfl) (.inr rfl) (by kernel_rfl) rfl (by decide) (fun a S => ?_)
      exact leafL (leafT (⟨w64 (p0 + (w64 (p1 - 1))), Option.some.inj h, S.fix [] [] (by decide) (by kernel_rfl) (by kernel_rfl) (by kernel_rfl)⟩))
    · refine sCondF (b := p2) S (by kernel_rfl) hc6 ?_
      exact wp_skip (leafT (⟨p0, Option.some.inj h, S.fix [] [] (by decide) (by kernel_rfl) (by kernel_rfl) (by kernel_rfl)⟩))
  · obtain ⟨o2, rfl, S⟩ := hI
    have h := g4
    clear g4
    try dsimp only at h
    refine sSeq (fun K7 hK7 => ?_)
    refine sRegion ?_
    refine sMove (.int .i64 o2) S (wN rfl) (.inl rfl) (by kernel_rfl) rfl (by decide) (fun a S => ?_)
    refine sMove (.int .i64 p1) S (wN rfl) (.inl rfl) (by kernel_rfl) rfl (by decide) (fun a S => ?_)
    obtain ⟨z8, hx9, h⟩ := bindSome h
    refine sBin (.int .i64 z8) S (wN rfl) rfl (by kernel_rfl) (by kernel_rfl) (bQuo _ _ _ _ (x := o2) (y := p1) hx9) rfl (by decide) (fun a S => ?_)
    refine sMove (.int .i64 z8) S (wN rfl) (.inr rfl) (by kernel_rfl) rfl (by decide) (fun a S => ?_)
    refine leafL (leafT (hK7 _ _ ?_))
    obtain rfl := Option.some.inj h
    exact wp_ret (sRet (.int .i64 z8) S (rsl1 rfl (rvT (t := 6) (v := .int .i64 z8) S (by kernel_rfl))) ⟨(), rfl, S.mem.sel [] [] (by decide) (by kernel_rfl) (by kernel_rfl)⟩)

end Go.Proofs.Ytjndecalogklhaa
namespace Go.Proofs.Ytjndecalogklhaa
open Go.RowKit
set_option linter.unusedVariables false

noncomputable def F_sett_Ends (p0 : Int) (p1 : api_Ratio) : Option (Int × Int) :=
  Option.bind (F_sett_checked p1 true p0) fun r5 =>
  if r5 != 0 then
    some (0, r5)
  else
    Option.bind (F_sett_over_int64_ (w64 (p0 * p1.Num)) (w64 (1000 * p1.Den)) false) fun r11 =>
    some (r11, 0)
set_option maxHeartbeats 4000000 in
set_option maxRecDepth 100000 in
theorem c_sett_Ends (E : Nat → Prop) (w0 : World) (p0 : Int) (p1 : api_Ratio) (v1 : Value) (r : (Int × Int)) (h : F_sett_Ends p0 p1 = some r) (S : St0 E [] w0 w0 [] [fRep r_api_Ratio (v1) p1]) :
    Calls Try.prog 22 #[.int .i64 p0, v1] w0 (Ret (X := Unit) E [] w0 (fun _ => .tuple #[.int .i64 r.1, .int .i64 r.2]) (fun _ => []) (fun _ => [])) := by
  unfold F_sett_Ends at h
  obtain rfl : v1 = .agg #[.int .i64 p1.Num, .int .i64 p1.Den] := S.know (i := 0) (e := fRep r_api_Ratio (v1) p1) (by kernel_rfl)
  refine sEnter (args := [.int .i64 p0, .agg #[.int .i64 p1.Num, .int .i64 p1.Den]]) 21 Try.func22 rfl rfl (by simp) S (fun a S => ?_)
  refine sSeq (fun K1 hK1 => ?_)
  refine sRegion ?_
  refine sBox (v := .agg #[.int .i64 p1.Num, .int .i64 p1.Den]) S (wN rfl) rfl (by kernel_rfl) [.int .i64 p1.Num, .int .i64 p1.Den] rfl rfl (by decide) (fun a b2 w S => ?_)
  refine sMove (.int .i64 0) S (wN rfl) (.inr rfl) (by kernel_rfl) rfl (by decide) (fun a S => ?_)
  refine sMove (.int .i64 0) S (wN rfl) (.inr rfl) (by kernel_rfl) rfl (by decide) (fun a S => ?_)
  refine leafL (leafT (hK1 _ _ ?_))
  refine sSeq (fun K3 hK3 => ?_)
  refine sSeq (fun K4 hK4 => ?_)
  refine sRegion ?_
  refine sLoadN (p := b2) (off := 0) (T := 34) (vs := [.int .i64 p1.Num, .int .i64 p1.Den]) 0 [.int .i64 p1.Num, .int .i64 p1.Den] S (wN rfl) rfl (by kernel_rfl) (by kernel_rfl) (by kernel_rfl) (by kernel_rfl) rfl rfl (by decide) (fun a S => ?_)
  refine sMove (.int .i64 p0) S (wN rfl) (.inl rfl) (by kernel_rfl) rfl (by decide) (fun a S => ?_)
  obtain ⟨r5, hx6, h⟩ := bindSome h
  have S1 := S.mem
  refine sCallQ (X := Unit) (f := 46) (vs := [.agg #[.int .i64 p1.Num, .int .i64 p1.Den], .bool true, .int .i64 p0]) (val := fun _ => .int .i64 r5) S (wN rfl) rfl callee46 (by kernel_rfl) (S1.quiet [0] (by kernel_rfl)) (fun E1 w1 S1 => c_sett_checked E1 w1 p1 (.agg #[.int .i64 p1.Num, .int .i64 p1.Den]) true p0 r5 hx6 S1) rfl (by decide) (fun _ a w S => ?_)
  refine sMove (.int .i64 r5) S (wN rfl) (.inr rfl) (by kernel_rfl) rfl (by decide) (fun a S => ?_)
  refine leafL (leafT (hK4 _ _ ?_))
  refine sSeq (fun K7 hK7 => ?_)
  refine sRegion ?_
  refine sMove (.int .i64 r5) S (wN rfl) (.inl rfl) (by kernel_rfl) rfl (by decide) (fun a S => ?_)
  refine sBin (.bool (r5 != 0)) S (wN rfl) rfl (by kernel_rfl) (by kernel_rfl) (bNe _ _ _ _ .i64 r5 0) rfl (by decide) (fun a S => ?_)
  refine leafL (leafT (hK7 _ _ ?_))
  rcases iteSome h with ⟨hc8, h⟩ | ⟨hc8, h⟩
  · refine sCondT (b := r5 != 0) S (by kernel_rfl) hc8 ?_
    refine sSeq (fun K9 hK9 => ?_)
    refine sRegion ?_
    refine sMove (.int .i64 r5) S (wN rfl) (.inl rfl) (by kernel_rfl) rfl (by decide) (fun a S => ?_)
    refine sMove (.int .i64 0) S (wN rfl) (.inr rfl) (by kernel_rfl) rfl (by decide) (fun a S => ?_)
    refine sMove (.int .i64 r5) S (wN rfl) (.inr rfl) (by kernel_rfl) rfl (by decide) (fun a S => ?_)
    refine leafL (leafT (hK9 _ _ ?_))
    obtain rfl := Option.some.inj h
    exact wp_ret (rThen (sRet (.tuple #[.int .i64 0, .int .i64 r5]) S (rsl2 rfl (rvT (t := 4) (v := .int .i64 0) S (by kernel_rfl)) (rvT (t := 5) (v := .int .i64 r5) S (by kernel_rfl))) ⟨(), rfl, S.mem.sel [] [] (by decide) (by kernel_rfl) (by kernel_rfl)⟩))
  · refine sCondF (b := r5 != 0) S (by kernel_rfl) hc8 ?_
    refine wp_skip (leafT (hK3 _ _ ?_))
    refine sSeq (fun K10 hK10 => ?_)
    refine sRegion ?_
    refine sMove (.int .i64 p0) S (wN rfl) (.inl rfl) (by kernel_rfl) rfl (by decide) (fun a S => ?_)
    refine sField (b := b2) (off := 0) 0 0 S (wN rfl) rfl (by kernel_rfl) (by kernel_rfl) rfl rfl (by decide) (fun a S => ?_)
    refine sLoad1 (p := b2) (off := 0) (T := 34) (vs := [.int .i64 p1.Num, .int .i64 p1.Den]) 0 (.int .i64 p1.Num) S (wN rfl) rfl (by kernel_rfl) (by kernel_rfl) (by kernel_rfl) rfl rfl (by decide) (fun a S => ?_)
    refine sBin (.int .i64 (w64 (p0 * p1.Num))) S (wN rfl) rfl (by kernel_rfl) (by kernel_rfl) (bMul _ _ _ _ p0 p1.Num) rfl (by decide) (fun a S => ?_)
    refine sField (b := b2) (off := 0) 1 1 S (wN rfl) rfl (by kernel_rfl) (by kernel_rfl) rfl rfl (by decide) (fun a S => ?_)
    refine sLoad1 (p := b2) (off := 1) (T := 34) (vs := [.int .i64 p1.Num, .int .i64 p1.Den]) 0 (.int .i64 p1.Den) S (wN rfl) rfl (by kernel_rfl) (by kernel_rfl) (by kernel_rfl) rfl rfl (by decide) (fun a S => ?_)
    refine sBin (.int .i64 (w64 (1000 * p1.Den))) S (wN rfl) rfl (by kernel_rfl) (by kernel_rfl) (bMul _ _ _ _ 1000 p1.Den) rfl (by decide) (fun a S => ?_)
    obtain ⟨r11, hx12, h⟩ := bindSome h
    have S1 := S.mem
    refine sCallQ (X := Unit) (f := 49) (vs := [.int .i64 (w64 (p0 * p1.Num)), .int .i64 (w64 (1000 * p1.Den)), .bool false]) (val := fun _ => .int .i64 r11) S (wN rfl) rfl callee49 (by kernel_rfl) (S1.quiet [] (by kernel_rfl)) (fun E1 w1 S1 => c_sett_over_int64_ E1 w1 (w64 (p0 * p1.Num)) (w64 (1000 * p1.Den)) false r11 hx12 S1) rfl (by decide) (fun _ a w S => ?_)
    refine sMove (.int .i64 r11) S (wN rfl) (.inr rfl) (by kernel_rfl) rfl (by decide) (fun a S => ?_)
    refine sMove (.int .i64 0) S (wN rfl) (.inr rfl) (by kernel_rfl) rfl (by decide) (fun a S => ?_)
    refine leafL (leafT (hK10 _ _ ?_))
    obtain rfl := Option.some.inj h
    exact wp_ret (sRet (.tuple #[.int .i64 r11, .int .i64 0]) S (rsl2 rfl (rvT (t := 4) (v := .int .i64 r11) S (by kernel_rfl)) (rvT (t := 5) (v := .int .i64 0) S (by kernel_rfl))) ⟨(), rfl, S.mem.sel [] [] (by decide) (by kernel_rfl) (by kernel_rfl)⟩)

end Go.Proofs.Ytjndecalogklhaa
namespace Go.Proofs.Ytjndecalogklhaa
open Go.RowKit
set_option linter.unusedVariables false

noncomputable def F_raddleref01_Mod (p0 : Int) (p1 : Int) : Option Int :=
  Option.bind (remI p0 p1) fun z3 =>
  Option.bind (remI (w64 (z3 + p1)) p1) fun z5 =>
  some z5
set_option maxHeartbeats 4000000 in
set_option maxRecDepth 100000 in
theorem c_raddleref01_Mod (E : Nat → Prop) (w0 : World) (p0 : Int) (p1 : Int) (r : Int) (h : F_raddleref01_Mod p0 p1 = some r) (S : St0 E [] w0 w0 [] []) :
    Calls Try.prog 38 #[.int .i64 p0, .int .i64 p1] w0 (Ret (X := Unit) E [] w0 (fun _ => .int .i64 r) (fun _ => []) (fun _ => [])) := by
  unfold F_raddleref01_Mod at h
  refine sEnter (args := [.int .i64 p0, .int .i64 p1]) 12 Try.func38 rfl rfl (by simp) S (fun a S => ?_)
  refine sSeq (fun K1 hK1 => ?_)
  refine sRegion ?_
  refine sMove (.int .i64 0) S (wN rfl) (.inr rfl) (by kernel_rfl) rfl (by decide) (fun a S => ?_)
  refine leafL (leafT (hK1 _ _ ?_))
  refine sSeq (fun K2 hK2 => ?_)
  refine sRegion ?_
  refine sMove (.int .i64 p0) S (wN rfl) (.inl rfl) (by kernel_rfl) rfl (by decide) (fun a S => ?_)
  refine sMove (.int .i64 p1) S (wN rfl) (.inl rfl) (by kernel_rfl) rfl (by decide) (fun a S => ?_)
  obtain ⟨z3, hx4, h⟩ := bindSome h
  refine sBin (.int .i64 z3) S (wN rfl) rfl (by kernel_rfl) (by kernel_rfl) (bRem _ _ _ _ (x := p0) (y := p1) hx4) rfl (by decide) (fun a S => ?_)
  refine sMove (.int .i64 p1) S (wN rfl) (.inl rfl) (by kernel_rfl) rfl (by decide) (fun a S => ?_)
  refine sBin (.int .i64 (w64 (z3 + p1))) S (wN rfl) rfl (by kernel_rfl) (by kernel_rfl) (bAdd _ _ _ _ z3 p1) rfl (by decide) (fun a S => ?_)
  refine sMove (.int .i64 p1) S (wN rfl) (.inl rfl) (by kernel_rfl) rfl (by decide) (fun a S => ?_)
  obtain ⟨z5, hx6, h⟩ := bindSome h
  refine sBin (.int .i64 z5) S (wN rfl) rfl (by kernel_rfl) (by kernel_rfl) (bRem _ _ _ _ (x := w64 (z3 + p1)) (y := p1) hx6) rfl (by decide) (fun a S => ?_)
  refine sMove (.int .i64 z5) S (wN rfl) (.inr rfl) (by kernel_rfl) rfl (by decide) (fun a S => ?_)
  refine leafL (leafT (hK2 _ _ ?_))
  obtain rfl := Option.some.inj h
  exact wp_ret (sRet (.int .i64 z5) S (rsl1 rfl (rvT (t := 4) (v := .int .i64 z5) S (by kernel_rfl))) ⟨(), rfl, S.mem.sel [] [] (by decide) (by kernel_rfl) (by kernel_rfl)⟩)

end Go.Proofs.Ytjndecalogklhaa
namespace Go.Proofs.Ytjndecalogklhaa
open Go.RowKit
set_option linter.unusedVariables false

noncomputable def F_raddleref01_Zero_s0 (p0 : Int) (p1 : Int) : Option api_Grid :=
  Option.bind (makeO (w64 (p0 * p1)) false) fun m6 =>
  some (api_Grid.mk p0 p1 m6)
set_option maxHeartbeats 4000000 in
set_option maxRecDepth 100000 in
theorem c_raddleref01_Zero_s0 (E : Nat → Prop) (w0 : World) (p0 : Int) (p1 : Int) (r : api_Grid) (h : F_raddleref01_Zero_s0 p0 p1 = some r) (S : St0 E [] w0 w0 [] []) :
    Calls Try.prog 50 #[.int .i64 p0, .int .i64 p1] w0 (Ret (X := Option Addr × Nat) E [] w0 (fun x => .agg #[.int .i64 r.W, .int .i64 r.H, .slice x.1 r.Bits.length x.2]) (fun x => [eRow rB 4 (.slice x.1 r.Bits.length x.2) r.Bits]) (fun _ => [])) := by
  unfold F_raddleref01_Zero_s0 at h
  refine sEnter (args := [.int .i64 p0, .int .i64 p1]) 12 Try.func50 rfl rfl (by simp) S (fun a S => ?_)
  refine sSeq (fun K1 hK1 => ?_)
  refine sRegion ?_
  refine sAlloc (.agg #[.int .i64 0, .int .i64 0, .slice none 0 0]) S (wN rfl) rfl (by kernel_rfl) [.int .i64 0, .int .i64 0, .slice none 0 0] rfl rfl (by decide) (fun a b2 w S => ?_)
  refine leafL (leafT (hK1 _ _ ?_))
  refine sSeq (fun K3 hK3 => ?_)
  refine sRegion ?_
  refine sMove (.int .i64 p0) S (wN rfl) (.inl rfl) (by kernel_rfl) rfl (by decide) (fun a S => ?_)
  refine sMove (.int .i64 p1) S (wN rfl) (.inl rfl) (by kernel_rfl) rfl (by decide) (fun a S => ?_)
  refine sMove (.int .i64 p0) S (wN rfl) (.inl rfl) (by kernel_rfl) rfl (by decide) (fun a S => ?_)
  refine sMove (.int .i64 p1) S (wN rfl) (.inl rfl) (by kernel_rfl) rfl (by decide) (fun a S => ?_)
  refine sBin (.int .i64 (w64 (p0 * p1))) S (wN rfl) rfl (by kernel_rfl) (by kernel_rfl) (bMul _ _ _ _ p0 p1) rfl (by decide) (fun a S => ?_)
  obtain ⟨m6, hx7, h⟩ := bindSome h
  refine sMake (r := rB) (m := w64 (p0 * p1)) (xs := m6) (.bool false) false 1 S (wN rfl) rfl Try.underlying22 (by kernel_rfl) rfl (by decide) (fun _ _ => rfl) (by kernel_rfl) (by kernel_rfl) hx7 rfl (by decide) (fun a w ad4 cp5 S => ?_)
  refine sBuild [(0, .int .i64 p0), (1, .int .i64 p1), (2, .slice ad4 m6.length cp5)] [.int .i64 p0, .int .i64 p1, .slice ad4 m6.length cp5] S (wN rfl) rfl (by kernel_rfl) (by kernel_rfl) rfl (by decide) (fun a S => ?_)
  refine sStore (p := b2) (off := 0) (T := 24) (vs := [.int .i64 0, .int .i64 0, .slice none 0 0]) (v := .agg #[.int .i64 p0, .int .i64 p1, .slice ad4 m6.length cp5]) 1 [.int .i64 p0, .int .i64 p1, .slice ad4 m6.length cp5] S (wN rfl) rfl (by kernel_rfl) (by kernel_rfl) rfl (by kernel_rfl) (by kernel_rfl) rfl (by simp) rfl (fun a w S => ?_)
  refine leafL (leafT (hK3 _ _ ?_))
  obtain rfl := Option.some.inj h
  exact wp_ret (sRet (.agg #[.int .i64 p0, .int .i64 p1, .slice ad4 m6.length cp5]) S (rsl1 rfl (rvN (c := 4) (t := 24) (T := 24) (p := b2) 0 [.int .i64 p0, .int .i64 p1, .slice ad4 m6.length cp5] S (by kernel_rfl) (by kernel_rfl) (by kernel_rfl) (by kernel_rfl))) ⟨(ad4, cp5), rfl, S.mem.sel [1] [] (by decide) (by kernel_rfl) (by kernel_rfl)⟩)

end Go.Proofs.Ytjndecalogklhaa
namespace Go.Proofs.Ytjndecalogklhaa
open Go.RowKit
set_option linter.unusedVariables false

noncomputable def F_raddleref01_Set_s0 (p0 : Int) (p1 : Int) (p2 : (List Bool)) (p3 : Int) (p4 : Int) (p5 : Bool) : Option (List Bool) :=
  Option.bind (idxO p2 (w64 ((w64 (p4 * p0)) + p3))) fun x3 =>
  Option.bind (setO p2 (w64 ((w64 (p4 * p0)) + p3)) p5) fun l8 =>
  (keepO p2 l8).bind fun _ =>
  some l8
set_option maxHeartbeats 4000000 in
set_option maxRecDepth 100000 in
theorem c_raddleref01_Set_s0 (E : Nat → Prop) (w0 : World) (p0 : Int) (p1 : Int) (p2 : (List Bool)) (ad_2 : Option Addr) (cp_2 : Nat) (p3 : Int) (p4 : Int) (p5 : Bool) (r : (List Bool)) (h : F_raddleref01_Set_s0 p0 p1 p2 p3 p4 p5 = some r) (S : St0 E (keysL [eRow rB 4 (.slice ad_2 p2.length cp_2) p2]) w0 w0 [eRow rB 4 (.slice ad_2 p2.length cp_2) p2] []) :
    Calls Try.prog 51 #[.agg #[.int .i64 p0, .int .i64 p1, .slice ad_2 p2.length cp_2], .int .i64 p3, .int .i64 p4, .bool p5] w0 (Ret (X := Unit) E (keysL [eRow rB 4 (.slice ad_2 p2.length cp_2) p2]) w0 (fun _ => .tuple #[]) (fun _ => [eRow rB 4 (.slice ad_2 p2.length cp_2) r]) (fun _ => [])) := by
  unfold F_raddleref01_Set_s0 at h
  refine sEnter (args := [.agg #[.int .i64 p0, .int .i64 p1, .slice ad_2 p2.length cp_2], .int .i64 p3, .int .i64 p4, .bool p5]) 18 Try.func51 rfl rfl (by simp) S (fun a S => ?_)
  refine sSeq (fun K1 hK1 => ?_)
  refine sRegion ?_
  refine sBox (v := .agg #[.int .i64 p0, .int .i64 p1, .slice ad_2 p2.length cp_2]) S (wN rfl) rfl (by kernel_rfl) [.int .i64 p0, .int .i64 p1, .slice ad_2 p2.length cp_2] rfl rfl (by decide) (fun a b2 w S => ?_)
  refine leafL (leafT (hK1 _ _ ?_))
  refine sRegion ?_
  refine sField (b := b2) (off := 0) 2 2 S (wN rfl) rfl (by kernel_rfl) (by kernel_rfl) rfl rfl (by decide) (fun a S => ?_)
  refine sLoad1 (p := b2) (off := 2) (T := 24) (vs := [.int .i64 p0, .int .i64 p1, .slice ad_2 p2.length cp_2]) 0 (.slice ad_2 p2.length cp_2) S (wN rfl) rfl (by kernel_rfl) (by kernel_rfl) (by kernel_rfl) rfl rfl (by decide) (fun a S => ?_)
  refine sMove (.int .i64 p4) S (wN rfl) (.inl rfl) (by kernel_rfl) rfl (by decide) (fun a S => ?_)
  refine sField (b := b2) (off := 0) 0 0 S (wN rfl) rfl (by kernel_rfl) (by kernel_rfl) rfl rfl (by decide) (fun a S => ?_)
  refine sLoad1 (p := b2) (off := 0) (T := 24) (vs := [.int .i64 p0, .int .i64 p1, .slice ad_2 p2.length cp_2]) 0 (.int .i64 p0) S (wN rfl) rfl (by kernel_rfl) (by kernel_rfl) (by kernel_rfl) rfl rfl (by decide) (fun a S => ?_)
  refine sBin (.int .i64 (w64 (p4 * p0))) S (wN rfl) rfl (by kernel_rfl) (by kernel_rfl) (bMul _ _ _ _ p4 p0) rfl (by decide) (fun a S => ?_)
  refine sMove (.int .i64 p3) S (wN rfl) (.inl rfl) (by kernel_rfl) rfl (by decide) (fun a S => ?_)
  refine sBin (.int .i64 (w64 ((w64 (p4 * p0)) + p3))) S (wN rfl) rfl (by kernel_rfl) (by kernel_rfl) (bAdd _ _ _ _ (w64 (p4 * p0)) p3) rfl (by decide) (fun a S => ?_)
  refine sMove (.bool p5) S (wN rfl) (.inl rfl) (by kernel_rfl) rfl (by decide) (fun a S => ?_)
  obtain ⟨x3, hx4, h⟩ := bindSome h
  obtain ⟨q5, hq6, hp7⟩ := pIdxR (P := Try.prog) (r := rB) (T := 4) (v := .slice ad_2 p2.length cp_2) (xs := p2) (j := w64 ((w64 (p4 * p0)) + p3)) 22 4 1 S Try.underlying22 (by kernel_rfl) (by kernel_rfl) hx4
  refine sIdxV (v := .slice ad_2 p2.length cp_2) (k := .i64) (j := w64 ((w64 (p4 * p0)) + p3)) S (wN rfl) rfl (by kernel_rfl) (by kernel_rfl) hq6 rfl (by decide) (fun a S => ?_)
  obtain ⟨l8, hx9, h⟩ := bindSome h
  refine sStoreR (r := rB) (T := 4) (xs := p2) (ys := l8) (y := p5) (v := .slice ad_2 p2.length cp_2) (vq := q5) (u := .bool p5) (j := w64 ((w64 (p4 * p0)) + p3)) 1 S hp7 (wN rfl) rfl (by kernel_rfl) (by kernel_rfl) (by kernel_rfl) rfl hx9 (by kernel_rfl) rfl (fun a w S => ?_)
  rw [setO_v hx9 ad_2 cp_2] at S
  obtain ⟨_, hk10, h⟩ := bindSome h
  rw [keepO_v hk10 ad_2 cp_2] at S
  obtain rfl := Option.some.inj h
  exact leafL (sEnd (.tuple #[]) S (rsl0 rfl ) ⟨(), rfl, S.mem.sel [0] [] (by decide) (by kernel_rfl) (by kernel_rfl)⟩)

end Go.Proofs.Ytjndecalogklhaa
namespace Go.Proofs.Ytjndecalogklhaa
open Go.RowKit
set_option linter.unusedVariables false

def anc_raddlelaw24_cloth_0 : List (List Nat) := [[], [], [], [], [], [3, 4], [], [3, 4, 5, 6], [], [3, 4, 5, 6, 7, 8], [0, 1, 2, 3, 4, 5, 6, 7, 8, 9]]
noncomputable def raddlelaw24_cloth_l1 (p0 : Int) (s15 : Int) (r4 : api_Grid) (p2 : Int) : (Int × List Bool) → Option ((Int × List Bool) ⊕ List Bool) := fun s0 => match s0 with
  | (s34, s35) =>
    if decide (s34 < p0) then
      Option.bind (F_raddleref01_Mod (w64 (s34 - s15)) p0) fun r48 =>
      Option.bind (F_raddleref01_Set_s0 r4.W r4.H s35 s34 s15 (decide (r48 < p2))) fun r50 =>
      some (.inl (w64 (s34 + 1), r50))
    else
      some (.inr s35)
noncomputable def raddlelaw24_cloth_l2 (p1 : Int) (p0 : Int) (r4 : api_Grid) (p2 : Int) : (Int × List Bool) → Option ((Int × List Bool) ⊕ List Bool) := fun s0 => match s0 with
  | (s15, s16) =>
    if decide (s15 < p1) then
      Option.bind (α := List Bool) (
        Option.bind (whileO (raddlelaw24_cloth_l1 p0 s15 r4 p2) (0, s16)) fun e41 =>
          some e41) fun o28 =>
      some (.inl (w64 (s15 + 1), o28))
    else
      some (.inr s16)
noncomputable def F_raddlelaw24_cloth (p0 : Int) (p1 : Int) (p2 : Int) : Option api_Grid :=
  Option.bind (F_raddleref01_Zero_s0 p0 p1) fun r4 =>
  Option.bind (α := List Bool) (
    Option.bind (whileO (raddlelaw24_cloth_l2 p1 p0 r4 p2) (0, r4.Bits)) fun e22 =>
      some e22) fun o9 =>
  some (api_Grid.mk r4.W r4.H o9)
def c_raddlelaw24_cloth_val (r : api_Grid) (x : Value) : Value := x
def c_raddlelaw24_cloth_D (r : api_Grid) (x : Value) : List Fact := [fRep r_api_Grid x r]
set_option maxHeartbeats 4000000 in
set_option maxRecDepth 100000 in
theorem c_raddlelaw24_cloth (E : Nat → Prop) (w0 : World) (p0 : Int) (p1 : Int) (p2 : Int) (r : api_Grid) (h : F_raddlelaw24_cloth p0 p1 p2 = some r) (S : St0 E [] w0 w0 [] []) :
    Calls Try.prog 23 #[.int .i64 p0, .int .i64 p1, .int .i64 p2] w0 (Ret (X := Value) E [] w0 (c_raddlelaw24_cloth_val r) (fun _ => []) (c_raddlelaw24_cloth_D r)) := by
  unfold F_raddlelaw24_cloth at h
  refine sEnter (args := [.int .i64 p0, .int .i64 p1, .int .i64 p2]) 35 Try.func23 rfl rfl (by simp) S (fun a S => ?_)
  refine sSeq (fun K1 hK1 => ?_)
  refine sRegion ?_
  refine sAlloc (.agg #[.int .i64 0, .int .i64 0, .slice none 0 0]) S (wN rfl) rfl (by kernel_rfl) [.int .i64 0, .int .i64 0, .slice none 0 0] rfl rfl (by decide) (fun a b2 w S => ?_)
  refine leafL (leafT (hK1 _ _ ?_))
  refine sSeq (fun K3 hK3 => ?_)
  refine sRegion ?_
  refine sMove (.int .i64 p0) S (wN rfl) (.inl rfl) (by kernel_rfl) rfl (by decide) (fun a S => ?_)
  refine sMove (.int .i64 p1) S (wN rfl) (.inl rfl) (by kernel_rfl) rfl (by decide) (fun a S => ?_)
  obtain ⟨r4, hx5, h⟩ := bindSome h
  refine sCall (X := Option Addr × Nat) (f := 50) (vs := [.int .i64 p0, .int .i64 p1]) (val := fun x => .agg #[.int .i64 r4.W, .int .i64 r4.H, .slice x.1 r4.Bits.length x.2]) (B' := fun x => [eRow rB 4 (.slice x.1 r4.Bits.length x.2) r4.Bits]) (D' := fun _ => []) [] [eBox b2 24 [.int .i64 0, .int .i64 0, .slice none 0 0]] [] [0] [] S (wN rfl) rfl callee50 (by kernel_rfl) (by decide) (by kernel_rfl) (by kernel_rfl) (fun E1 w1 S1 => c_raddleref01_Zero_s0 E1 w1 p0 p1 r4 hx5 S1) rfl (by decide) (fun xx a w S => ?_)
  obtain ⟨ad6, cp7⟩ := xx
  dsimp only at S
  refine sAlloc (.agg #[.int .i64 0, .int .i64 0, .slice none 0 0]) S (wN rfl) rfl (by kernel_rfl) [.int .i64 0, .int .i64 0, .slice none 0 0] rfl rfl (by decide) (fun a b8 w S => ?_)
  refine sStore (p := b8) (off := 0) (T := 24) (vs := [.int .i64 0, .int .i64 0, .slice none 0 0]) (v := .agg #[.int .i64 r4.W, .int .i64 r4.H, .slice ad6 r4.Bits.length cp7]) 0 [.int .i64 r4.W, .int .i64 r4.H, .slice ad6 r4.Bits.length cp7] S (wN rfl) rfl (by kernel_rfl) (by kernel_rfl) rfl (by kernel_rfl) (by kernel_rfl) rfl (by simp) rfl (fun a w S => ?_)
  refine leafL (leafT (hK3 _ _ ?_))
  obtain ⟨t12, h, g13⟩ := bindSome h
  refine sCut (fun a w => ∃ o9, o9 = t12 ∧ ∃ ad10, ∃ cp11, St E [] w0 35 a w [(6, .pointer (some ⟨b2, 0, none⟩)), (7, .pointer (some ⟨b8, 0, none⟩))] [eBox b2 24 [.int .i64 0, .int .i64 0, .slice none 0 0], eBox b8 24 [.int .i64 r4.W, .int .i64 r4.H, .slice ad10 o9.length cp11], eRow rB 4 (.slice ad10 o9.length cp11) o9] []) ?_ (fun a w hI => ?_)
  · refine sSeq (fun K14 hK14 => ?_)
    refine sRegion ?_
    refine sMove (.int .i64 0) S (wN rfl) (.inr rfl) (by kernel_rfl) rfl (by decide) (fun a S => ?_)
    refine leafL (leafT (hK14 _ _ ?_))
    refine wp_block ?_
    obtain ⟨t21, hl, g20⟩ := bindSome h
    refine sLoop hl (fun s0 a w => match s0 with | (s15, s16) => ∃ ad17, ∃ cp18, St E [] w0 35 a w [(0, .int .i64 p0), (1, .int .i64 p1), (2, .int .i64 p2), (6, .pointer (some ⟨b2, 0, none⟩)), (7, .pointer (some ⟨b8, 0, none⟩)), (8, .int .i64 s15)] [eBox b2 24 [.int .i64 0, .int .i64 0, .slice none 0 0], eBox b8 24 [.int .i64 r4.W, .int .i64 r4.H, .slice ad17 s16.length cp18], eRow rB 4 (.slice ad17 s16.length cp18) s16] []) ⟨ad6, cp7, S.fix [2, 0, 1] [] (by decide) (by kernel_rfl) (by kernel_rfl) (by kernel_rfl)⟩ ?_
    clear hl h
    intro s0 a w c0 hI h hu19
    obtain ⟨s15, s16⟩ := s0
    unfold raddlelaw24_cloth_l2 at h
    dsimp only at h hI
    obtain ⟨ad17, cp18, S⟩ := hI
    refine sSeq (fun K25 hK25 => ?_)
    refine sSeq (fun K26 hK26 => ?_)
    refine sRegion ?_
    refine sMove (.int .i64 s15) S (wN rfl) (.inl rfl) (by kernel_rfl) rfl (by decide) (fun a S => ?_)
    refine sMove (.int .i64 p1) S (wN rfl) (.inl rfl) (by kernel_rfl) rfl (by decide) (fun a S => ?_)
    refine sBin (.bool (decide (s15 < p1))) S (wN rfl) rfl (by kernel_rfl) (by kernel_rfl) (bLt _ _ _ _ .i64 s15 p1) rfl (by decide) (fun a S => ?_)
    refine leafL (leafT (hK26 _ _ ?_))
    rcases iteSome h with ⟨hc27, h⟩ | ⟨hc27, h⟩
    · refine sCondT (b := decide (s15 < p1)) S (by kernel_rfl) hc27 ?_
      refine wp_skip (leafT (hK25 _ _ ?_))
      obtain ⟨t31, h, g32⟩ := bindSome h
      refine sCut (fun a w => ∃ o28, o28 = t31 ∧ ∃ ad29, ∃ cp30, St E [] w0 35 a w [(0, .int .i64 p0), (1, .int .i64 p1), (2, .int .i64 p2), (6, .pointer (some ⟨b2, 0, none⟩)), (7, .pointer (some ⟨b8, 0, none⟩)), (8, .int .i64 s15)] [eBox b2 24 [.int .i64 0, .int .i64 0, .slice none 0 0], eBox b8 24 [.int .i64 r4.W, .int .i64 r4.H, .slice ad29 o28.length cp30], eRow rB 4 (.slice ad29 o28.length cp30) o28] []) ?_ (fun a w hI => ?_)
      · refine wp_block ?_
        refine sSeq (fun K33 hK33 => ?_)
        refine sRegion ?_
        refine sMove (.int .i64 0) S (wN rfl) (.inr rfl) (by kernel_rfl) rfl (by decide) (fun a S => ?_)
        refine leafL (leafT (hK33 _ _ ?_))
        refine wp_block ?_
        obtain ⟨t40, hl, g39⟩ := bindSome h
        refine sLoop hl (fun s0 a w => match s0 with | (s34, s35) => ∃ ad36, ∃ cp37, St E [] w0 35 a w [(0, .int .i64 p0), (1, .int .i64 p1), (2, .int .i64 p2), (6, .pointer (some ⟨b2, 0, none⟩)), (7, .pointer (some ⟨b8, 0, none⟩)), (8, .int .i64 s15), (9, .int .i64 s34)] [eBox b2 24 [.int .i64 0, .int .i64 0, .slice none 0 0], eBox b8 24 [.int .i64 r4.W, .int .i64 r4.H, .slice ad36 s35.length cp37], eRow rB 4 (.slice ad36 s35.length cp37) s35] []) ⟨ad17, cp18, S.fix [0, 1, 2] [] (by decide) (by kernel_rfl) (by kernel_rfl) (by kernel_rfl)⟩ ?_
        clear hl h
        intro s0 a w c0 hI h hu38
        obtain ⟨s34, s35⟩ := s0
        unfold raddlelaw24_cloth_l1 at h
        dsimp only at h hI
        obtain ⟨ad36, cp37, S⟩ := hI
        refine sSeq (fun K44 hK44 => ?_)
        refine sSeq (fun K45 hK45 => ?_)
        refine sRegion ?_
        refine sMove (.int .i64 s34) S (wN rfl) (.inl rfl) (by kernel_rfl) rfl (by decide) (fun a S => ?_)
        refine sMove (.int .i64 p0) S (wN rfl) (.inl rfl) (by kernel_rfl) rfl (by decide) (fun a S => ?_)
        refine sBin (.bool (decide (s34 < p0))) S (wN rfl) rfl (by kernel_rfl) (by kernel_rfl) (bLt _ _ _ _ .i64 s34 p0) rfl (by decide) (fun a S => ?_)
        refine leafL (leafT (hK45 _ _ ?_))
        rcases iteSome h with ⟨hc46, h⟩ | ⟨hc46, h⟩
        · refine sCondT (b := decide (s34 < p0)) S (by kernel_rfl) hc46 ?_
          refine wp_skip (leafT (hK44 _ _ ?_))
          refine sSeq (fun K47 hK47 => ?_)
          refine wp_block ?_
          obtain ⟨r48, hx49, h⟩ := bindSome h
          obtain ⟨r50, hx51, h⟩ := bindSome h
          refine sDraw (nf := [10]) (W := [(0, 23, .agg #[.int .i64 r4.W, .int .i64 r4.H, .slice ad36 s35.length cp37]), (1, 24, .int .i64 s34), (2, 25, .int .i64 s15), (3, 26, .int .i64 s34), (4, 27, .int .i64 s15), (5, 28, .int .i64 (w64 (s34 - s15))), (6, 29, .int .i64 p0), (7, 30, .int .i64 r48), (8, 31, .int .i64 p2), (9, 32, .bool (decide (r48 < p2)))]) (by kernel_rfl) S ?_
          refine node_by (A := anc_raddlelaw24_cloth_0) (nf := [10]) (Y := []) (W := [(0, 23, .agg #[.int .i64 r4.W, .int .i64 r4.H, .slice ad36 s35.length cp37]), (1, 24, .int .i64 s34), (2, 25, .int .i64 s15), (3, 26, .int .i64 s34), (4, 27, .int .i64 s15), (5, 28, .int .i64 (w64 (s34 - s15))), (6, 29, .int .i64 p0), (7, 30, .int .i64 r48), (8, 31, .int .i64 p2), (9, 32, .bool (decide (r48 < p2)))]) 11 (by kernel_rfl) (by kernel_rfl) (by kernel_rfl) (by kernel_rfl) (by kernel_rfl) [0, 1, 2, 3, 4, 5, 6, 7, 8, 9] (by kernel_rfl) (by decide) (by decide) (aF 0 10 (by decide) ?_ (aF 1 9 (by decide) ?_ (aF 2 8 (by decide) ?_ (aF 3 7 (by decide) ?_ (aF 4 6 (by decide) ?_ (aF 5 5 (by decide) ?_ (aF 6 4 (by decide) ?_ (aF 7 3 (by decide) ?_ (aF 8 2 (by decide) ?_ (aF 9 1 (by decide) ?_ (aN 10 0 (by decide) ?_ (trivial)))))))))))) [] (fun q hq => by cases hq) (fun hY => absurd (hY 10 (by decide)) (by decide))
          · refine fI 23 (.agg #[.int .i64 r4.W, .int .i64 r4.H, .slice ad36 s35.length cp37]) [(7, .pointer (some ⟨b8, 0, none⟩))] 0 [none] rfl rfl (by kernel_rfl) rfl (by kernel_rfl) (by kernel_rfl) fun G a w S => ?_
            refine sLoadN (p := b8) (off := 0) (T := 24) (vs := [.int .i64 r4.W, .int .i64 r4.H, .slice ad36 s35.length cp37]) 1 [.int .i64 r4.W, .int .i64 r4.H, .slice ad36 s35.length cp37] S (wN rfl) rfl (by kernel_rfl) (by kernel_rfl) (by kernel_rfl) (by kernel_rfl) rfl rfl (by decide) (fun a S => ?_)
            exact leafL ⟨rfl, S⟩
          · refine fI 24 (.int .i64 s34) [(9, .int .i64 s34)] 1 [none] rfl rfl (by kernel_rfl) rfl (by kernel_rfl) (by kernel_rfl) fun G a w S => ?_
            refine sMove (.int .i64 s34) S (wN rfl) (.inl rfl) (by kernel_rfl) rfl (by decide) (fun a S => ?_)
            exact leafL ⟨rfl, S⟩
          · refine fI 25 (.int .i64 s15) [(8, .int .i64 s15)] 2 [none] rfl rfl (by kernel_rfl) rfl (by kernel_rfl) (by kernel_rfl) fun G a w S => ?_
            refine sMove (.int .i64 s15) S (wN rfl) (.inl rfl) (by kernel_rfl) rfl (by decide) (fun a S => ?_)
            exact leafL ⟨rfl, S⟩
          · refine fI 26 (.int .i64 s34) [(9, .int .i64 s34)] 3 [none] rfl rfl (by kernel_rfl) rfl (by kernel_rfl) (by kernel_rfl) fun G a w S => ?_
            refine sMove (.int .i64 s34) S (wN rfl) (.inl rfl) (by kernel_rfl) rfl (by decide) (fun a S => ?_)
            exact leafL ⟨rfl, S⟩
          · refine fI 27 (.int .i64 s15) [(8, .int .i64 s15)] 4 [none] rfl rfl (by kernel_rfl) rfl (by kernel_rfl) (by kernel_rfl) fun G a w S => ?_
            refine sMove (.int .i64 s15) S (wN rfl) (.inl rfl) (by kernel_rfl) rfl (by decide) (fun a S => ?_)
            exact leafL ⟨rfl, S⟩
          · refine fI 28 (.int .i64 (w64 (s34 - s15))) [(26, .int .i64 s34), (27, .int .i64 s15)] 5 [some 3, some 4] rfl rfl (by kernel_rfl) rfl (by kernel_rfl) (by kernel_rfl) fun G a w S => ?_
            refine sBin (.int .i64 (w64 (s34 - s15))) S (wN rfl) rfl (by kernel_rfl) (by kernel_rfl) (bSub _ _ _ _ s34 s15) rfl (by decide) (fun a S => ?_)
            exact leafL ⟨rfl, S⟩
          · refine fI 29 (.int .i64 p0) [(0, .int .i64 p0)] 6 [none] rfl rfl (by kernel_rfl) rfl (by kernel_rfl) (by kernel_rfl) fun G a w S => ?_
            refine sMove (.int .i64 p0) S (wN rfl) (.inl rfl) (by kernel_rfl) rfl (by decide) (fun a S => ?_)
            exact leafL ⟨rfl, S⟩
          · refine fI 30 (.int .i64 r48) [(28, .int .i64 (w64 (s34 - s15))), (29, .int .i64 p0)] 7 [some 5, some 6] rfl rfl (by kernel_rfl) rfl (by kernel_rfl) (by kernel_rfl) fun G a w S => ?_
            have S1 := S.mem
            refine sCallQ (X := Unit) (f := 38) (vs := [.int .i64 (w64 (s34 - s15)), .int .i64 p0]) (val := fun _ => .int .i64 r48) S (wN rfl) rfl callee38 (by kernel_rfl) (S1.quiet [] (by kernel_rfl)) (fun E1 w1 S1 => c_raddleref01_Mod E1 w1 (w64 (s34 - s15)) p0 r48 hx49 S1) rfl (by decide) (fun _ a w S => ?_)
            exact leafL ⟨rfl, S⟩
          · refine fI 31 (.int .i64 p2) [(2, .int .i64 p2)] 8 [none] rfl rfl (by kernel_rfl) rfl (by kernel_rfl) (by kernel_rfl) fun G a w S => ?_
            refine sMove (.int .i64 p2) S (wN rfl) (.inl rfl) (by kernel_rfl) rfl (by decide) (fun a S => ?_)
            exact leafL ⟨rfl, S⟩
          · refine fI 32 (.bool (decide (r48 < p2))) [(30, .int .i64 r48), (31, .int .i64 p2)] 9 [some 7, some 8] rfl rfl (by kernel_rfl) rfl (by kernel_rfl) (by kernel_rfl) fun G a w S => ?_
            refine sBin (.bool (decide (r48 < p2))) S (wN rfl) rfl (by kernel_rfl) (by kernel_rfl) (bLt _ _ _ _ .i64 r48 p2) rfl (by decide) (fun a S => ?_)
            exact leafL ⟨rfl, S⟩
          · refine ⟨_, [(23, .agg #[.int .i64 r4.W, .int .i64 r4.H, .slice ad36 s35.length cp37]), (24, .int .i64 s34), (25, .int .i64 s15), (32, .bool (decide (r48 < p2)))], rfl, (srcs_of [some 0, some 1, some 2, some 9] rfl (by kernel_rfl) (by kernel_rfl)), fun G a w S => ?_⟩
            refine sCall (X := Unit) (f := 51) (vs := [.agg #[.int .i64 r4.W, .int .i64 r4.H, .slice ad36 s35.length cp37], .int .i64 s34, .int .i64 s15, .bool (decide (r48 < p2))]) (val := fun _ => .tuple #[]) (B' := fun _ => [eRow rB 4 (.slice ad36 s35.length cp37) r50]) (D' := fun _ => []) [eRow rB 4 (.slice ad36 s35.length cp37) s35] [eBox b2 24 [.int .i64 0, .int .i64 0, .slice none 0 0], eBox b8 24 [.int .i64 r4.W, .int .i64 r4.H, .slice ad36 s35.length cp37]] [] [2, 0, 1] [] S (wN rfl) rfl callee51 (by kernel_rfl) (by decide) (by kernel_rfl) (by kernel_rfl) (fun E1 w1 S1 => c_raddleref01_Set_s0 E1 w1 r4.W r4.H s35 ad36 cp37 s34 s15 (decide (r48 < p2)) r50 hx51 S1) rfl (by decide) (fun _ a w S => ?_)
            refine leafL ⟨rfl, _, _, .inl ⟨33, (.tuple #[]), [], rfl, S, hz_of (by kernel_rfl), ?_⟩⟩
            refine node_by (A := anc_raddlelaw24_cloth_0) (nf := [10]) (Y := [10]) 11 (by kernel_rfl) (by kernel_rfl) (by kernel_rfl) (by kernel_rfl) (by kernel_rfl) [10, 0, 1, 2, 3, 4, 5, 6, 7, 8, 9] (by kernel_rfl) (by decide) (by decide) (aD 0 10 10 (by decide) (aD 1 9 10 (by decide) (aD 2 8 10 (by decide) (aD 3 7 10 (by decide) (aD 4 6 10 (by decide) (aD 5 5 10 (by decide) (aD 6 4 10 (by decide) (aD 7 3 10 (by decide) (aD 8 2 10 (by decide) (aD 9 1 10 (by decide) (aY 10 0 (by decide) (trivial)))))))))))) [(0, .int .i64 p0), (1, .int .i64 p1), (2, .int .i64 p2), (6, .pointer (some ⟨b2, 0, none⟩)), (7, .pointer (some ⟨b8, 0, none⟩)), (8, .int .i64 s15), (9, .int .i64 s34)] (fin_of [none, none, none, none, none, none, none] rfl (by kernel_rfl) (by kernel_rfl)) (fun _ a w S => ?_)
            · have hr52 := row_v (S.mem.hold (i := 0) (e := eRow rB 4 (.slice ad36 s35.length cp37) r50) rfl)
              rw [hr52] at S
              refine leafB (leafT (hK47 _ _ ?_))
              refine sRegion ?_
              refine sMove (.int .i64 s34) S (wN rfl) (.inl rfl) (by kernel_rfl) rfl (by decide) (fun a S => ?_)
              refine sBin (.int .i64 (w64 (s34 + 1))) S (wN rfl) rfl (by kernel_rfl) (by kernel_rfl) (bAdd _ _ _ _ s34 1) rfl (by decide) (fun a S => ?_)
              refine sMove (.int .i64 (w64 (s34 + 1))) S (wN rfl) (.inr rfl) (by kernel_rfl) rfl (by decide) (fun a S => ?_)
              exact leafL (leafT (⟨(w64 (s34 + 1), r50), (Option.some.inj h).symm, ⟨ad36, cp37, S.fix [1, 2, 0] [] (by decide) (by kernel_rfl) (by kernel_rfl) (by kernel_rfl)⟩⟩))
        · refine sCondF (b := decide (s34 < p0)) S (by kernel_rfl) hc46 ?_
          obtain rfl := Option.some.inj h
          obtain rfl := hu38 _ rfl
          have h := g39
          clear g39
          try dsimp only at h
          exact wp_exit (xThen (xThen (xHit (leafB (leafT (⟨s35, Option.some.inj h, ad36, cp37, S.fix [0, 1, 2] [] (by decide) (by kernel_rfl) (by kernel_rfl) (by kernel_rfl)⟩))))))
      · obtain ⟨o28, rfl, ad29, cp30, S⟩ := hI
        have h := g32
        clear g32
        try dsimp only at h
        refine sRegion ?_
        refine sMove (.int .i64 s15) S (wN rfl) (.inl rfl) (by kernel_rfl) rfl (by decide) (fun a S => ?_)
        refine sBin (.int .i64 (w64 (s15 + 1))) S (wN rfl) rfl (by kernel_rfl) (by kernel_rfl) (bAdd _ _ _ _ s15 1) rfl (by decide) (fun a S => ?_)
        refine sMove (.int .i64 (w64 (s15 + 1))) S (wN rfl) (.inr rfl) (by kernel_rfl) rfl (by decide) (fun a S => ?_)
        exact leafL (leafT (⟨(w64 (s15 + 1), o28), (Option.some.inj h).symm, ⟨ad29, cp30, S.fix [0, 1, 2] [] (by decide) (by kernel_rfl) (by kernel_rfl) (by kernel_rfl)⟩⟩))
    · refine sCondF (b := decide (s15 < p1)) S (by kernel_rfl) hc27 ?_
      obtain rfl := Option.some.inj h
      obtain rfl := hu19 _ rfl
      have h := g20
      clear g20
      try dsimp only at h
      exact wp_exit (xThen (xThen (xHit (leafT (⟨s16, Option.some.inj h, ad17, cp18, S.fix [0, 1, 2] [] (by decide) (by kernel_rfl) (by kernel_rfl) (by kernel_rfl)⟩)))))
  · obtain ⟨o9, rfl, ad10, cp11, S⟩ := hI
    have h := g13
    clear g13
    try dsimp only at h
    refine sSeq (fun K53 hK53 => ?_)
    refine sRegion ?_
    refine sLoadN (p := b8) (off := 0) (T := 24) (vs := [.int .i64 r4.W, .int .i64 r4.H, .slice ad10 o9.length cp11]) 1 [.int .i64 r4.W, .int .i64 r4.H, .slice ad10 o9.length cp11] S (wN rfl) rfl (by kernel_rfl) (by kernel_rfl) (by kernel_rfl) (by kernel_rfl) rfl rfl (by decide) (fun a S => ?_)
    refine sStore (p := b2) (off := 0) (T := 24) (vs := [.int .i64 0, .int .i64 0, .slice none 0 0]) (v := .agg #[.int .i64 r4.W, .int .i64 r4.H, .slice ad10 o9.length cp11]) 0 [.int .i64 r4.W, .int .i64 r4.H, .slice ad10 o9.length cp11] S (wN rfl) rfl (by kernel_rfl) (by kernel_rfl) rfl (by kernel_rfl) (by kernel_rfl) rfl (by simp) rfl (fun a w S => ?_)
    refine leafL (leafT (hK53 _ _ ?_))
    obtain rfl := Option.some.inj h
    have S := S.shutR (r := rB) (T := 4) (v := .slice ad10 o9.length cp11) (xs := o9) 2 (by kernel_rfl)
    have S := S.learn (fRep r_api_Grid (.agg #[.int .i64 r4.W, .int .i64 r4.H, .slice ad10 o9.length cp11]) (api_Grid.mk r4.W r4.H o9)) ⟨_, rfl, S.mem.know (i := 0) (e := fRep (rL rB) (.slice ad10 o9.length cp11) o9) (by kernel_rfl)⟩
    exact wp_ret (sRet (.agg #[.int .i64 r4.W, .int .i64 r4.H, .slice ad10 o9.length cp11]) S (rsl1 rfl (rvN (c := 6) (t := 24) (T := 24) (p := b2) 0 [.int .i64 r4.W, .int .i64 r4.H, .slice ad10 o9.length cp11] S (by kernel_rfl) (by kernel_rfl) (by kernel_rfl) (by kernel_rfl))) ⟨(.agg #[.int .i64 r4.W, .int .i64 r4.H, .slice ad10 o9.length cp11]), rfl, S.mem.sel [] [0] (by decide) (by kernel_rfl) (by kernel_rfl)⟩)

end Go.Proofs.Ytjndecalogklhaa
namespace Go.Proofs.Ytjndecalogklhaa
open Go.RowKit
set_option linter.unusedVariables false

noncomputable def F_raddlelaw24_part (p0 : Int) (p1 : Int) : Option api_Ratio :=
  some (api_Ratio.mk p0 p1)
def c_raddlelaw24_part_val (r : api_Ratio) (x : Value) : Value := x
def c_raddlelaw24_part_D (r : api_Ratio) (x : Value) : List Fact := [fRep r_api_Ratio x r]
set_option maxHeartbeats 4000000 in
set_option maxRecDepth 100000 in
theorem c_raddlelaw24_part (E : Nat → Prop) (w0 : World) (p0 : Int) (p1 : Int) (r : api_Ratio) (h : F_raddlelaw24_part p0 p1 = some r) (S : St0 E [] w0 w0 [] []) :
    Calls Try.prog 24 #[.int .i64 p0, .int .i64 p1] w0 (Ret (X := Value) E [] w0 (c_raddlelaw24_part_val r) (fun _ => []) (c_raddlelaw24_part_D r)) := by
  unfold F_raddlelaw24_part at h
  refine sEnter (args := [.int .i64 p0, .int .i64 p1]) 8 Try.func24 rfl rfl (by simp) S (fun a S => ?_)
  refine sSeq (fun K1 hK1 => ?_)
  refine sRegion ?_
  refine sAlloc (.agg #[.int .i64 0, .int .i64 0]) S (wN rfl) rfl (by kernel_rfl) [.int .i64 0, .int .i64 0] rfl rfl (by decide) (fun a b2 w S => ?_)
  refine leafL (leafT (hK1 _ _ ?_))
  refine sSeq (fun K3 hK3 => ?_)
  refine sRegion ?_
  refine sMove (.int .i64 p0) S (wN rfl) (.inl rfl) (by kernel_rfl) rfl (by decide) (fun a S => ?_)
  refine sMove (.int .i64 p1) S (wN rfl) (.inl rfl) (by kernel_rfl) rfl (by decide) (fun a S => ?_)
  refine sBuild [(0, .int .i64 p0), (1, .int .i64 p1)] [.int .i64 p0, .int .i64 p1] S (wN rfl) rfl (by kernel_rfl) (by kernel_rfl) rfl (by decide) (fun a S => ?_)
  refine sStore (p := b2) (off := 0) (T := 34) (vs := [.int .i64 0, .int .i64 0]) (v := .agg #[.int .i64 p0, .int .i64 p1]) 0 [.int .i64 p0, .int .i64 p1] S (wN rfl) rfl (by kernel_rfl) (by kernel_rfl) rfl (by kernel_rfl) (by kernel_rfl) rfl (by simp) rfl (fun a w S => ?_)
  refine leafL (leafT (hK3 _ _ ?_))
  obtain rfl := Option.some.inj h
  have S := S.learn (fRep r_api_Ratio (.agg #[.int .i64 p0, .int .i64 p1]) (api_Ratio.mk p0 p1)) rfl
  exact wp_ret (sRet (.agg #[.int .i64 p0, .int .i64 p1]) S (rsl1 rfl (rvN (c := 4) (t := 34) (T := 34) (p := b2) 0 [.int .i64 p0, .int .i64 p1] S (by kernel_rfl) (by kernel_rfl) (by kernel_rfl) (by kernel_rfl))) ⟨(.agg #[.int .i64 p0, .int .i64 p1]), rfl, S.mem.sel [] [0] (by decide) (by kernel_rfl) (by kernel_rfl)⟩)

end Go.Proofs.Ytjndecalogklhaa
namespace Go.Proofs.Ytjndecalogklhaa
open Go.RowKit
set_option linter.unusedVariables false

noncomputable def F_sett_upTo (p0 : api_Ratio) (p1 : Int) : Option Int :=
  Option.bind (F_sett_checked p0 false 0) fun r5 =>
  Option.bind (α := Bool) (
    if r5 != 0 then
      some true
    else
      some (decide ((w64 (10 * p0.Den)) < p0.Num))) fun o7 =>
  if o7 then
    some 8
  else
    Option.bind (F_sett_checked p0 false p1) fun r14 =>
    some r14
set_option maxHeartbeats 4000000 in
set_option maxRecDepth 100000 in
theorem c_sett_upTo (E : Nat → Prop) (w0 : World) (p0 : api_Ratio) (v0 : Value) (p1 : Int) (r : Int) (h : F_sett_upTo p0 p1 = some r) (S : St0 E [] w0 w0 [] [fRep r_api_Ratio (v0) p0]) :
    Calls Try.prog 52 #[v0, .int .i64 p1] w0 (Ret (X := Unit) E [] w0 (fun _ => .int .i64 r) (fun _ => []) (fun _ => [])) := by
  unfold F_sett_upTo at h
  obtain rfl : v0 = .agg #[.int .i64 p0.Num, .int .i64 p0.Den] := S.know (i := 0) (e := fRep r_api_Ratio (v0) p0) (by kernel_rfl)
  refine sEnter (args := [.agg #[.int .i64 p0.Num, .int .i64 p0.Den], .int .i64 p1]) 21 Try.func52 rfl rfl (by simp) S (fun a S => ?_)
  refine sSeq (fun K1 hK1 => ?_)
  refine sRegion ?_
  refine sBox (v := .agg #[.int .i64 p0.Num, .int .i64 p0.Den]) S (wN rfl) rfl (by kernel_rfl) [.int .i64 p0.Num, .int .i64 p0.Den] rfl rfl (by decide) (fun a b2 w S => ?_)
  refine sMove (.int .i64 0) S (wN rfl) (.inr rfl) (by kernel_rfl) rfl (by decide) (fun a S => ?_)
  refine leafL (leafT (hK1 _ _ ?_))
  refine sSeq (fun K3 hK3 => ?_)
  refine sSeq (fun K4 hK4 => ?_)
  refine sRegion ?_
  refine sLoadN (p := b2) (off := 0) (T := 34) (vs := [.int .i64 p0.Num, .int .i64 p0.Den]) 0 [.int .i64 p0.Num, .int .i64 p0.Den] S (wN rfl) rfl (by kernel_rfl) (by kernel_rfl) (by kernel_rfl) (by kernel_rfl) rfl rfl (by decide) (fun a S => ?_)
  obtain ⟨r5, hx6, h⟩ := bindSome h
  have S1 := S.mem
  refine sCallQ (X := Unit) (f := 46) (vs := [.agg #[.int .i64 p0.Num, .int .i64 p0.Den], .bool false, .int .i64 0]) (val := fun _ => .int .i64 r5) S (wN rfl) rfl callee46 (by kernel_rfl) (S1.quiet [0] (by kernel_rfl)) (fun E1 w1 S1 => c_sett_checked E1 w1 p0 (.agg #[.int .i64 p0.Num, .int .i64 p0.Den]) false 0 r5 hx6 S1) rfl (by decide) (fun _ a w S => ?_)
  refine sMove (.int .i64 r5) S (wN rfl) (.inr rfl) (by kernel_rfl) rfl (by decide) (fun a S => ?_)
  refine leafL (leafT (hK4 _ _ ?_))
  obtain ⟨t8, h, g9⟩ := bindSome h
  refine sCut (fun a w => ∃ o7, o7 = t8 ∧ St E [] w0 21 a w [(1, .int .i64 p1), (2, .pointer (some ⟨b2, 0, none⟩)), (17, .bool o7)] [eBox b2 34 [.int .i64 p0.Num, .int .i64 p0.Den]] []) ?_ (fun a w hI => ?_)
  · refine sRegion ?_
    refine sMove (.int .i64 r5) S (wN rfl) (.inl rfl) (by kernel_rfl) rfl (by decide) (fun a S => ?_)
    refine sBin (.bool (r5 != 0)) S (wN rfl) rfl (by kernel_rfl) (by kernel_rfl) (bNe _ _ _ _ .i64 r5 0) rfl (by decide) (fun a S => ?_)
    refine sMove (.bool (r5 != 0)) S (wN rfl) (.inl rfl) (by kernel_rfl) rfl (by decide) (fun a S => ?_)
    rcases iteSome h with ⟨hc10, h⟩ | ⟨hc10, h⟩
    · refine sSkip (c := r5 != 0) 2 false 10 11 S rfl rfl (by kernel_rfl) hc10 rfl (by decide) (fun a S => ?_)
      refine sSkip (c := r5 != 0) 2 false 10 12 S rfl rfl (by kernel_rfl) hc10 rfl (by decide) (fun a S => ?_)
      refine sSkip (c := r5 != 0) 2 false 10 13 S rfl rfl (by kernel_rfl) hc10 rfl (by decide) (fun a S => ?_)
      refine sSkip (c := r5 != 0) 2 false 10 14 S rfl rfl (by kernel_rfl) hc10 rfl (by decide) (fun a S => ?_)
      refine sSkip (c := r5 != 0) 2 false 10 15 S rfl rfl (by kernel_rfl) hc10 rfl (by decide) (fun a S => ?_)
      refine sSkip (c := r5 != 0) 2 false 10 16 S rfl rfl (by kernel_rfl) hc10 rfl (by decide) (fun a S => ?_)
      refine sPickT (b := r5 != 0) (.bool true) S (wN rfl) rfl (by kernel_rfl) hc10 (by kernel_rfl) rfl (by decide) (fun a S => ?_)
      exact leafL (leafT (⟨true, Option.some.inj h, S.fix [0] [] (by decide) (by kernel_rfl) (by kernel_rfl) (by kernel_rfl)⟩))
    · refine sField (b := b2) (off := 0) 0 0 S (wG (c := r5 != 0) 2 false 10 rfl rfl (by kernel_rfl) hc10) rfl (by kernel_rfl) (by kernel_rfl) rfl rfl (by decide) (fun a S => ?_)
      refine sLoad1 (p := b2) (off := 0) (T := 34) (vs := [.int .i64 p0.Num, .int .i64 p0.Den]) 0 (.int .i64 p0.Num) S (wG (c := r5 != 0) 2 false 10 rfl rfl (by kernel_rfl) hc10) rfl (by kernel_rfl) (by kernel_rfl) (by kernel_rfl) rfl rfl (by decide) (fun a S => ?_)
      refine sField (b := b2) (off := 0) 1 1 S (wG (c := r5 != 0) 2 false 10 rfl rfl (by kernel_rfl) hc10) rfl (by kernel_rfl) (by kernel_rfl) rfl rfl (by decide) (fun a S => ?_)
      refine sLoad1 (p := b2) (off := 1) (T := 34) (vs := [.int .i64 p0.Num, .int .i64 p0.Den]) 0 (.int .i64 p0.Den) S (wG (c := r5 != 0) 2 false 10 rfl rfl (by kernel_rfl) hc10) rfl (by kernel_rfl) (by kernel_rfl) (by kernel_rfl) rfl rfl (by decide) (fun a S => ?_)
      refine sBin (.int .i64 (w64 (10 * p0.Den))) S (wG (c := r5 != 0) 2 false 10 rfl rfl (by kernel_rfl) hc10) rfl (by kernel_rfl) (by kernel_rfl) (bMul _ _ _ _ 10 p0.Den) rfl (by decide) (fun a S => ?_)
      refine sBin (.bool (decide ((w64 (10 * p0.Den)) < p0.Num))) S (wG (c := r5 != 0) 2 false 10 rfl rfl (by kernel_rfl) hc10) rfl (by kernel_rfl) (by kernel_rfl) (bGt _ _ _ _ .i64 p0.Num (w64 (10 * p0.Den))) rfl (by decide) (fun a S => ?_)
      refine sPickF (b := r5 != 0) (.bool (decide ((w64 (10 * p0.Den)) < p0.Num))) S (wN rfl) rfl (by kernel_rfl) hc10 (by kernel_rfl) rfl (by decide) (fun a S => ?_)
      exact leafL (leafT (⟨decide ((w64 (10 * p0.Den)) < p0.Num), Option.some.inj h, S.fix [0] [] (by decide) (by kernel_rfl) (by kernel_rfl) (by kernel_rfl)⟩))
  · obtain ⟨o7, rfl, S⟩ := hI
    have h := g9
    clear g9
    try dsimp only at h
    rcases iteSome h with ⟨hc11, h⟩ | ⟨hc11, h⟩
    · refine sCondT (b := o7) S (by kernel_rfl) hc11 ?_
      refine sSeq (fun K12 hK12 => ?_)
      refine sRegion ?_
      refine sMove (.int .i64 8) S (wN rfl) (.inr rfl) (by kernel_rfl) rfl (by decide) (fun a S => ?_)
      refine leafL (leafT (hK12 _ _ ?_))
      obtain rfl := Option.some.inj h
      exact wp_ret (rThen (sRet (.int .i64 8) S (rsl1 rfl (rvT (t := 4) (v := .int .i64 8) S (by kernel_rfl))) ⟨(), rfl, S.mem.sel [] [] (by decide) (by kernel_rfl) (by kernel_rfl)⟩))
    · refine sCondF (b := o7) S (by kernel_rfl) hc11 ?_
      refine wp_skip (leafT (hK3 _ _ ?_))
      refine sSeq (fun K13 hK13 => ?_)
      refine sRegion ?_
      refine sLoadN (p := b2) (off := 0) (T := 34) (vs := [.int .i64 p0.Num, .int .i64 p0.Den]) 0 [.int .i64 p0.Num, .int .i64 p0.Den] S (wN rfl) rfl (by kernel_rfl) (by kernel_rfl) (by kernel_rfl) (by kernel_rfl) rfl rfl (by decide) (fun a S => ?_)
      refine sMove (.int .i64 p1) S (wN rfl) (.inl rfl) (by kernel_rfl) rfl (by decide) (fun a S => ?_)
      obtain ⟨r14, hx15, h⟩ := bindSome h
      have S1 := S.mem
      have S1 := S1.learn (fRep r_api_Ratio (.agg #[.int .i64 p0.Num, .int .i64 p0.Den]) p0) rfl
      refine sCallQ (X := Unit) (f := 46) (vs := [.agg #[.int .i64 p0.Num, .int .i64 p0.Den], .bool false, .int .i64 p1]) (val := fun _ => .int .i64 r14) S (wN rfl) rfl callee46 (by kernel_rfl) (S1.quiet [0] (by kernel_rfl)) (fun E1 w1 S1 => c_sett_checked E1 w1 p0 (.agg #[.int .i64 p0.Num, .int .i64 p0.Den]) false p1 r14 hx15 S1) rfl (by decide) (fun _ a w S => ?_)
      refine sMove (.int .i64 r14) S (wN rfl) (.inr rfl) (by kernel_rfl) rfl (by decide) (fun a S => ?_)
      refine leafL (leafT (hK13 _ _ ?_))
      obtain rfl := Option.some.inj h
      exact wp_ret (sRet (.int .i64 r14) S (rsl1 rfl (rvT (t := 4) (v := .int .i64 r14) S (by kernel_rfl))) ⟨(), rfl, S.mem.sel [] [] (by decide) (by kernel_rfl) (by kernel_rfl)⟩)

end Go.Proofs.Ytjndecalogklhaa
namespace Go.Proofs.Ytjndecalogklhaa
open Go.RowKit
set_option linter.unusedVariables false

noncomputable def F_sett_Need (p0 : Int) (p1 : api_Ratio) : Option (Int × Int) :=
  Option.bind (F_sett_upTo p1 p0) fun r5 =>
  if r5 != 0 then
    some (0, r5)
  else
    Option.bind (F_sett_over_int64_ (w64 (p0 * (w64 (p1.Den + p1.Num)))) p1.Den true) fun r11 =>
    some (r11, 0)
set_option maxHeartbeats 4000000 in
set_option maxRecDepth 100000 in
theorem c_sett_Need (E : Nat → Prop) (w0 : World) (p0 : Int) (p1 : api_Ratio) (v1 : Value) (r : (Int × Int)) (h : F_sett_Need p0 p1 = some r) (S : St0 E [] w0 w0 [] [fRep r_api_Ratio (v1) p1]) :
    Calls Try.prog 25 #[.int .i64 p0, v1] w0 (Ret (X := Unit) E [] w0 (fun _ => .tuple #[.int .i64 r.1, .int .i64 r.2]) (fun _ => []) (fun _ => [])) := by
  unfold F_sett_Need at h
  obtain rfl : v1 = .agg #[.int .i64 p1.Num, .int .i64 p1.Den] := S.know (i := 0) (e := fRep r_api_Ratio (v1) p1) (by kernel_rfl)
  refine sEnter (args := [.int .i64 p0, .agg #[.int .i64 p1.Num, .int .i64 p1.Den]]) 23 Try.func25 rfl rfl (by simp) S (fun a S => ?_)
  refine sSeq (fun K1 hK1 => ?_)
  refine sRegion ?_
  refine sBox (v := .agg #[.int .i64 p1.Num, .int .i64 p1.Den]) S (wN rfl) rfl (by kernel_rfl) [.int .i64 p1.Num, .int .i64 p1.Den] rfl rfl (by decide) (fun a b2 w S => ?_)
  refine sMove (.int .i64 0) S (wN rfl) (.inr rfl) (by kernel_rfl) rfl (by decide) (fun a S => ?_)
  refine sMove (.int .i64 0) S (wN rfl) (.inr rfl) (by kernel_rfl) rfl (by decide) (fun a S => ?_)
  refine leafL (leafT (hK1 _ _ ?_))
  refine sSeq (fun K3 hK3 => ?_)
  refine sSeq (fun K4 hK4 => ?_)
  refine sRegion ?_
  refine sLoadN (p := b2) (off := 0) (T := 34) (vs := [.int .i64 p1.Num, .int .i64 p1.Den]) 0 [.int .i64 p1.Num, .int .i64 p1.Den] S (wN rfl) rfl (by kernel_rfl) (by kernel_rfl) (by kernel_rfl) (by kernel_rfl) rfl rfl (by decide) (fun a S => ?_)
  refine sMove (.int .i64 p0) S (wN rfl) (.inl rfl) (by kernel_rfl) rfl (by decide) (fun a S => ?_)
  obtain ⟨r5, hx6, h⟩ := bindSome h
  have S1 := S.mem
  refine sCallQ (X := Unit) (f := 52) (vs := [.agg #[.int .i64 p1.Num, .int .i64 p1.Den], .int .i64 p0]) (val := fun _ => .int .i64 r5) S (wN rfl) rfl callee52 (by kernel_rfl) (S1.quiet [0] (by kernel_rfl)) (fun E1 w1 S1 => c_sett_upTo E1 w1 p1 (.agg #[.int .i64 p1.Num, .int .i64 p1.Den]) p0 r5 hx6 S1) rfl (by decide) (fun _ a w S => ?_)
  refine sMove (.int .i64 r5) S (wN rfl) (.inr rfl) (by kernel_rfl) rfl (by decide) (fun a S => ?_)
  refine leafL (leafT (hK4 _ _ ?_))
  refine sSeq (fun K7 hK7 => ?_)
  refine sRegion ?_
  refine sMove (.int .i64 r5) S (wN rfl) (.inl rfl) (by kernel_rfl) rfl (by decide) (fun a S => ?_)
  refine sBin (.bool (r5 != 0)) S (wN rfl) rfl (by kernel_rfl) (by kernel_rfl) (bNe _ _ _ _ .i64 r5 0) rfl (by decide) (fun a S => ?_)
  refine leafL (leafT (hK7 _ _ ?_))
  rcases iteSome h with ⟨hc8, h⟩ | ⟨hc8, h⟩
  · refine sCondT (b := r5 != 0) S (by kernel_rfl) hc8 ?_
    refine sSeq (fun K9 hK9 => ?_)
    refine sRegion ?_
    refine sMove (.int .i64 r5) S (wN rfl) (.inl rfl) (by kernel_rfl) rfl (by decide) (fun a S => ?_)
    refine sMove (.int .i64 0) S (wN rfl) (.inr rfl) (by kernel_rfl) rfl (by decide) (fun a S => ?_)
    refine sMove (.int .i64 r5) S (wN rfl) (.inr rfl) (by kernel_rfl) rfl (by decide) (fun a S => ?_)
    refine leafL (leafT (hK9 _ _ ?_))
    obtain rfl := Option.some.inj h
    exact wp_ret (rThen (sRet (.tuple #[.int .i64 0, .int .i64 r5]) S (rsl2 rfl (rvT (t := 4) (v := .int .i64 0) S (by kernel_rfl)) (rvT (t := 5) (v := .int .i64 r5) S (by kernel_rfl))) ⟨(), rfl, S.mem.sel [] [] (by decide) (by kernel_rfl) (by kernel_rfl)⟩))
  · refine sCondF (b := r5 != 0) S (by kernel_rfl) hc8 ?_
    refine wp_skip (leafT (hK3 _ _ ?_))
    refine sSeq (fun K10 hK10 => ?_)
    refine sRegion ?_
    refine sMove (.int .i64 p0) S (wN rfl) (.inl rfl) (by kernel_rfl) rfl (by decide) (fun a S => ?_)
    refine sField (b := b2) (off := 0) 1 1 S (wN rfl) rfl (by kernel_rfl) (by kernel_rfl) rfl rfl (by decide) (fun a S => ?_)
    refine sLoad1 (p := b2) (off := 1) (T := 34) (vs := [.int .i64 p1.Num, .int .i64 p1.Den]) 0 (.int .i64 p1.Den) S (wN rfl) rfl (by kernel_rfl) (by kernel_rfl) (by kernel_rfl) rfl rfl (by decide) (fun a S => ?_)
    refine sField (b := b2) (off := 0) 0 0 S (wN rfl) rfl (by kernel_rfl) (by kernel_rfl) rfl rfl (by decide) (fun a S => ?_)
    refine sLoad1 (p := b2) (off := 0) (T := 34) (vs := [.int .i64 p1.Num, .int .i64 p1.Den]) 0 (.int .i64 p1.Num) S (wN rfl) rfl (by kernel_rfl) (by kernel_rfl) (by kernel_rfl) rfl rfl (by decide) (fun a S => ?_)
    refine sBin (.int .i64 (w64 (p1.Den + p1.Num))) S (wN rfl) rfl (by kernel_rfl) (by kernel_rfl) (bAdd _ _ _ _ p1.Den p1.Num) rfl (by decide) (fun a S => ?_)
    refine sBin (.int .i64 (w64 (p0 * (w64 (p1.Den + p1.Num))))) S (wN rfl) rfl (by kernel_rfl) (by kernel_rfl) (bMul _ _ _ _ p0 (w64 (p1.Den + p1.Num))) rfl (by decide) (fun a S => ?_)
    refine sField (b := b2) (off := 0) 1 1 S (wN rfl) rfl (by kernel_rfl) (by kernel_rfl) rfl rfl (by decide) (fun a S => ?_)
    refine sLoad1 (p := b2) (off := 1) (T := 34) (vs := [.int .i64 p1.Num, .int .i64 p1.Den]) 0 (.int .i64 p1.Den) S (wN rfl) rfl (by kernel_rfl) (by kernel_rfl) (by kernel_rfl) rfl rfl (by decide) (fun a S => ?_)
    obtain ⟨r11, hx12, h⟩ := bindSome h
    have S1 := S.mem
    refine sCallQ (X := Unit) (f := 49) (vs := [.int .i64 (w64 (p0 * (w64 (p1.Den + p1.Num)))), .int .i64 p1.Den, .bool true]) (val := fun _ => .int .i64 r11) S (wN rfl) rfl callee49 (by kernel_rfl) (S1.quiet [] (by kernel_rfl)) (fun E1 w1 S1 => c_sett_over_int64_ E1 w1 (w64 (p0 * (w64 (p1.Den + p1.Num)))) p1.Den true r11 hx12 S1) rfl (by decide) (fun _ a w S => ?_)
    refine sMove (.int .i64 r11) S (wN rfl) (.inr rfl) (by kernel_rfl) rfl (by decide) (fun a S => ?_)
    refine sMove (.int .i64 0) S (wN rfl) (.inr rfl) (by kernel_rfl) rfl (by decide) (fun a S => ?_)
    refine leafL (leafT (hK10 _ _ ?_))
    obtain rfl := Option.some.inj h
    exact wp_ret (sRet (.tuple #[.int .i64 r11, .int .i64 0]) S (rsl2 rfl (rvT (t := 4) (v := .int .i64 r11) S (by kernel_rfl)) (rvT (t := 5) (v := .int .i64 0) S (by kernel_rfl))) ⟨(), rfl, S.mem.sel [] [] (by decide) (by kernel_rfl) (by kernel_rfl)⟩)

end Go.Proofs.Ytjndecalogklhaa
namespace Go.Proofs.Ytjndecalogklhaa
open Go.RowKit
set_option linter.unusedVariables false

def K_raddleref01_Zero_s0 (p0 : Int) (p1 : Int) : Option api_Grid :=
  Option.bind (makeO (w64 (p0 * p1)) false) fun m6 =>
  some (api_Grid.mk p0 p1 m6)
def K_raddleref01_Mod (p0 : Int) (p1 : Int) : Option Int :=
  Option.bind (remI p0 p1) fun z3 =>
  Option.bind (remI (w64 (z3 + p1)) p1) fun z5 =>
  some z5
def K_raddleref01_Set_s0 (p0 : Int) (p1 : Int) (p2 : (List Bool)) (p3 : Int) (p4 : Int) (p5 : Bool) : Option (List Bool) :=
  Option.bind (idxO p2 (w64 ((w64 (p4 * p0)) + p3))) fun x3 =>
  Option.bind (setO p2 (w64 ((w64 (p4 * p0)) + p3)) p5) fun l8 =>
  (keepO p2 l8).bind fun _ =>
  some l8
def K_raddlelaw24_cloth_l1 (p0 : Int) (s15 : Int) (r4 : api_Grid) (p2 : Int) : (Int × List Bool) → Option ((Int × List Bool) ⊕ List Bool) := fun s0 => match s0 with
  | (s34, s35) =>
    if decide (s34 < p0) then
      Option.bind (K_raddleref01_Mod (w64 (s34 - s15)) p0) fun r48 =>
      Option.bind (K_raddleref01_Set_s0 r4.W r4.H s35 s34 s15 (decide (r48 < p2))) fun r50 =>
      some (.inl (w64 (s34 + 1), r50))
    else
      some (.inr s35)
def K_raddlelaw24_cloth_l2 (p1 : Int) (p0 : Int) (r4 : api_Grid) (p2 : Int) : (Int × List Bool) → Option ((Int × List Bool) ⊕ List Bool) := fun s0 => match s0 with
  | (s15, s16) =>
    if decide (s15 < p1) then
      Option.bind (α := List Bool) (
        Option.bind (whileK (K_raddlelaw24_cloth_l1 p0 s15 r4 p2) (0, s16)) fun e41 =>
          some e41) fun o28 =>
      some (.inl (w64 (s15 + 1), o28))
    else
      some (.inr s16)
def K_raddlelaw24_cloth (p0 : Int) (p1 : Int) (p2 : Int) : Option api_Grid :=
  Option.bind (K_raddleref01_Zero_s0 p0 p1) fun r4 =>
  Option.bind (α := List Bool) (
    Option.bind (whileK (K_raddlelaw24_cloth_l2 p1 p0 r4 p2) (0, r4.Bits)) fun e22 =>
      some e22) fun o9 =>
  some (api_Grid.mk r4.W r4.H o9)
def K_grid_Check (p0 : api_Grid) : Option Int :=
  if decide (64 < (if p0.W < p0.H then p0.H else p0.W)) then
    some 4
  else
    Option.bind (α := Bool) (
      if decide ((if p0.H < p0.W then p0.H else p0.W) < 1) then
        some true
      else
        some ((p0.Bits.length : Int) != (w64 (p0.W * p0.H)))) fun o11 =>
    if o11 then
      some 8
    else
      some 0
def K_sett_Turns_1_s0 (p0 : Int) (p1 : api_Grid) (p2 : Int) : Option Bool :=
  Option.bind (idxO p1.Bits (w64 ((w64 (p2 * p1.W)) + p0))) fun x12 =>
  some x12
def K_sett_line_turns_s0_l1 (p0 : Int) (p1 : api_Grid) (p2 : Int) : (Int × Int) → Option ((Int × Int) ⊕ Int) := fun s0 => match s0 with
  | (s8, s9) =>
    if decide (s9 < p0) then
      Option.bind (α := Int) (
        Option.bind (K_sett_Turns_1_s0 s9 p1 p2) fun r22 =>
        Option.bind (remI (w64 (s9 + 1)) p0) fun z24 =>
        Option.bind (K_sett_Turns_1_s0 z24 p1 p2) fun r26 =>
        if r22 != r26 then
          some (w64 (s8 + 1))
        else
          some s8) fun o17 =>
      some (.inl (o17, w64 (s9 + 1)))
    else
      some (.inr s8)
def K_sett_line_turns_s0 (p0 : Int) (p1 : api_Grid) (p2 : Int) : Option Int :=
  Option.bind (α := Int) (
    Option.bind (whileK (K_sett_line_turns_s0_l1 p0 p1 p2) (0, 0)) fun e13 =>
      some e13) fun o4 =>
  some o4
def K_sett_Turns_l1 (p0 : api_Grid) : (List Int × Int) → Option ((List Int × Int) ⊕ List Int) := fun s0 => match s0 with
  | (s20, s23) =>
    if decide (s23 < p0.H) then
      Option.bind (K_sett_line_turns_s0 p0.W p0 s23) fun r36 =>
      Option.bind (appO s20 ([r36] : List Int)) fun l40 =>
      some (.inl (l40, w64 (s23 + 1)))
    else
      some (.inr s20)
def K_sett_Turns_2_s0 (p0 : Int) (p1 : api_Grid) (p2 : Int) : Option Bool :=
  Option.bind (idxO p1.Bits (w64 ((w64 (p0 * p1.W)) + p2))) fun x12 =>
  some x12
def K_sett_line_turns_s1_l1 (p0 : Int) (p1 : api_Grid) (p2 : Int) : (Int × Int) → Option ((Int × Int) ⊕ Int) := fun s0 => match s0 with
  | (s8, s9) =>
    if decide (s9 < p0) then
      Option.bind (α := Int) (
        Option.bind (K_sett_Turns_2_s0 s9 p1 p2) fun r22 =>
        Option.bind (remI (w64 (s9 + 1)) p0) fun z24 =>
        Option.bind (K_sett_Turns_2_s0 z24 p1 p2) fun r26 =>
        if r22 != r26 then
          some (w64 (s8 + 1))
        else
          some s8) fun o17 =>
      some (.inl (o17, w64 (s9 + 1)))
    else
      some (.inr s8)
def K_sett_line_turns_s1 (p0 : Int) (p1 : api_Grid) (p2 : Int) : Option Int :=
  Option.bind (α := Int) (
    Option.bind (whileK (K_sett_line_turns_s1_l1 p0 p1 p2) (0, 0)) fun e13 =>
      some e13) fun o4 =>
  some o4
def K_sett_Turns_l2 (p0 : api_Grid) : (List Int × Int) → Option ((List Int × Int) ⊕ List Int) := fun s0 => match s0 with
  | (s50, s53) =>
    if decide (s53 < p0.W) then
      Option.bind (K_sett_line_turns_s1 p0.H p0 s53) fun r66 =>
      Option.bind (appO s50 ([r66] : List Int)) fun l70 =>
      some (.inl (l70, w64 (s53 + 1)))
    else
      some (.inr s50)
def K_sett_Turns (p0 : api_Grid) : Option ((List Int) × (List Int) × Int) :=
  Option.bind (K_grid_Check p0) fun r9 =>
  if r9 != 0 then
    some (([] : (List Int)), ([] : (List Int)), r9)
  else
    Option.bind (α := List Int) (
      Option.bind (whileK (K_sett_Turns_l1 p0) (([] : List Int), 0)) fun e27 =>
        some e27) fun o14 =>
    Option.bind (α := List Int) (
      Option.bind (whileK (K_sett_Turns_l2 p0) (([] : List Int), 0)) fun e57 =>
        some e57) fun o44 =>
    some (o14, o44, 0)
def K_sett_sum_l1 (p1 : (List Int)) : (Int × Int) → Option ((Int × Int) ⊕ Int) := fun s0 => match s0 with
  | (s8, s9) =>
    if decide (s9 < (p1.length : Int)) then
      Option.bind (idxO p1 s9) fun x19 =>
      some (.inl (w64 (s8 + x19), w64 (s9 + 1)))
    else
      some (.inr s8)
def K_sett_sum (p0 : Int) (p1 : (List Int)) : Option Int :=
  Option.bind (α := Int) (
    Option.bind (whileK (K_sett_sum_l1 p1) (p0, 0)) fun e13 =>
      some e13) fun o4 =>
  some o4
def K_yarn_size (p0 : Int) : Option Int :=
  if decide (p0 < 0) then
    some (IntKind.u64.wrap (0 - (IntKind.u64.wrap p0)))
  else
    some (IntKind.u64.wrap p0)
def K_yarn_gcd_l1  : (Int × Int) → Option ((Int × Int) ⊕ Int) := fun s0 => match s0 with
  | (s5, s6) =>
    if s6 != 0 then
      Option.bind (remI s5 s6) fun z14 =>
      some (.inl (s6, z14))
    else
      some (.inr s5)
def K_yarn_gcd (p0 : Int) (p1 : Int) : Option Int :=
  Option.bind (α := Int) (
    Option.bind (whileK (K_yarn_gcd_l1) (p0, p1)) fun e10 =>
      some e10) fun o2 =>
  some o2
def K_yarn_Make (p0 : Int) (p1 : Int) : Option (api_Ratio × Int) :=
  if p1 == 0 then
    some ((api_Ratio.mk 0 0), 18)
  else
    Option.bind (K_yarn_size p0) fun r8 =>
    Option.bind (K_yarn_size p1) fun r10 =>
    Option.bind (K_yarn_gcd r8 r10) fun r13 =>
    Option.bind (quoK .u64 r8 r13) fun z16 =>
    Option.bind (quoK .u64 r10 r13) fun z18 =>
    Option.bind (α := Bool) (
      if decide (1000000000 < z16) then
        some true
      else
        some (decide (1000000000 < z18))) fun o21 =>
    if o21 then
      some ((api_Ratio.mk 0 0), 16)
    else
      Option.bind (α := Int) (
        if (decide (p0 < 0)) != (decide (p1 < 0)) then
          some (w64 (0 - (IntKind.i64.wrap z16)))
        else
          some (IntKind.i64.wrap z16)) fun o29 =>
      some ((api_Ratio.mk o29 (IntKind.i64.wrap z18)), 0)
def K_sett_Setts (p0 : api_Grid) (p1 : Int) : Option (api_Ratio × api_Ratio × Int) :=
  Option.bind (K_sett_Turns p0) fun r10 =>
  if r10.2.2 != 0 then
    some ((api_Ratio.mk 0 0), (api_Ratio.mk 0 0), r10.2.2)
  else
    Option.bind (α := Bool) (
      if decide (p1 < 1) then
        some true
      else
        some (decide (1000 < p1))) fun o23 =>
    if o23 then
      some ((api_Ratio.mk 0 0), (api_Ratio.mk 0 0), 2)
    else
      Option.bind (K_sett_sum (w64 (p0.W * p0.H)) r10.1) fun r31 =>
      Option.bind (K_yarn_Make (w64 (p1 * (w64 (p0.W * p0.H)))) r31) fun r33 =>
      Option.bind (K_sett_sum (w64 (p0.W * p0.H)) r10.2.1) fun r37 =>
      Option.bind (K_yarn_Make (w64 (p1 * (w64 (p0.W * p0.H)))) r37) fun r39 =>
      some (r33.1, r39.1, 0)
def K_raddlelaw24_part (p0 : Int) (p1 : Int) : Option api_Ratio :=
  some (api_Ratio.mk p0 p1)
def K_yarn_Check (p0 : api_Ratio) : Option Int :=
  Option.bind (α := Bool) (
    if decide (p0.Den < 1) then
      some true
    else
      if decide (1000000000 < p0.Den) then
        some true
      else
        Option.bind (K_yarn_size p0.Num) fun r9 =>
        if decide (1000000000 < r9) then
          some true
        else
          Option.bind (K_yarn_gcd r9 (IntKind.u64.wrap p0.Den)) fun r12 =>
          some (r12 != 1)) fun o4 =>
  if o4 then
    some 8
  else
    some 0
def K_sett_checked (p0 : api_Ratio) (p1 : Bool) (p2 : Int) : Option Int :=
  Option.bind (α := Bool) (
    Option.bind (K_yarn_Check p0) fun r7 =>
    if r7 != 0 then
      some true
    else
      if decide (p0.Num < 0) then
        some true
      else
        if p1 then
          some (p0.Num == 0)
        else
          some false) fun o4 =>
  if o4 then
    some 8
  else
    Option.bind (α := Bool) (
      if decide (p2 < 0) then
        some true
      else
        some (decide (1000000000 < p2))) fun o15 =>
    if o15 then
      some 2
    else
      some 0
def K_sett_over_int64_ (p0 : Int) (p1 : Int) (p2 : Bool) : Option Int :=
  Option.bind (α := Int) (
    if p2 then
      some (w64 (p0 + (w64 (p1 - 1))))
    else
      some p0) fun o2 =>
  Option.bind (quoI o2 p1) fun z8 =>
  some z8
def K_sett_Ends (p0 : Int) (p1 : api_Ratio) : Option (Int × Int) :=
  Option.bind (K_sett_checked p1 true p0) fun r5 =>
  if r5 != 0 then
    some (0, r5)
  else
    Option.bind (K_sett_over_int64_ (w64 (p0 * p1.Num)) (w64 (1000 * p1.Den)) false) fun r11 =>
    some (r11, 0)
def K_math_bits_Mul64 (p0 : Int) (p1 : Int) : Option (Int × Int) :=
  Option.bind (shrI .u64 p0 32) fun z4 =>
  Option.bind (shrI .u64 p1 32) fun z8 =>
  Option.bind (shrI .u64 (IntKind.u64.wrap ((andI .u64 p0 4294967295) * (andI .u64 p1 4294967295))) 32) fun z12 =>
  Option.bind (shrI .u64 (IntKind.u64.wrap ((IntKind.u64.wrap (z4 * (andI .u64 p1 4294967295))) + z12)) 32) fun z16 =>
  Option.bind (shrI .u64 (IntKind.u64.wrap ((andI .u64 (IntKind.u64.wrap ((IntKind.u64.wrap (z4 * (andI .u64 p1 4294967295))) + z12)) 4294967295) + (IntKind.u64.wrap ((andI .u64 p0 4294967295) * z8)))) 32) fun z20 =>
  some (IntKind.u64.wrap ((IntKind.u64.wrap ((IntKind.u64.wrap (z4 * z8)) + z16)) + z20), IntKind.u64.wrap (p0 * p1))
def K_math_bits_Len64 (p0 : Int) : Option Int :=
  Option.bind (α := (Int × Int)) (
    if decide (4294967296 ≤ p0) then
      Option.bind (shrI .u64 p0 32) fun z9 =>
      some (z9, 32)
    else
      some (p0, 0)) fun (o2, o3) =>
  Option.bind (α := (Int × Int)) (
    if decide (65536 ≤ o2) then
      Option.bind (shrI .u64 o2 16) fun z18 =>
      some (z18, w64 (o3 + 16))
    else
      some (o2, o3)) fun (o11, o12) =>
  Option.bind (α := (Int × Int)) (
    if decide (256 ≤ o11) then
      Option.bind (shrI .u64 o11 8) fun z27 =>
      some (z27, w64 (o12 + 8))
    else
      some (o11, o12)) fun (o20, o21) =>
  Option.bind (idxS (⟨#[0, 1, 2, 2, 3, 3, 3, 3, 4, 4, 4, 4, 4, 4, 4, 4, 5, 5, 5, 5, 5, 5, 5, 5, 5, 5, 5, 5, 5, 5, 5, 5, 6, 6, 6, 6, 6, 6, 6, 6, 6, 6, 6, 6, 6, 6, 6, 6, 6, 6, 6, 6, 6, 6, 6, 6, 6, 6, 6, 6, 6, 6, 6, 6, 7, 7, 7, 7, 7, 7, 7, 7, 7, 7, 7, 7, 7, 7, 7, 7, 7, 7, 7, 7, 7, 7, 7, 7, 7, 7, 7, 7, 7, 7, 7, 7, 7, 7, 7, 7, 7, 7, 7, 7, 7, 7, 7, 7, 7, 7, 7, 7, 7, 7, 7, 7, 7, 7, 7, 7, 7, 7, 7, 7, 7, 7, 7, 7, 8, 8, 8, 8, 8, 8, 8, 8, 8, 8, 8, 8, 8, 8, 8, 8, 8, 8, 8, 8, 8, 8, 8, 8, 8, 8, 8, 8, 8, 8, 8, 8, 8, 8, 8, 8, 8, 8, 8, 8, 8, 8, 8, 8, 8, 8, 8, 8, 8, 8, 8, 8, 8, 8, 8, 8, 8, 8, 8, 8, 8, 8, 8, 8, 8, 8, 8, 8, 8, 8, 8, 8, 8, 8, 8, 8, 8, 8, 8, 8, 8, 8, 8, 8, 8, 8, 8, 8, 8, 8, 8, 8, 8, 8, 8, 8, 8, 8, 8, 8, 8, 8, 8, 8, 8, 8, 8, 8, 8, 8, 8, 8, 8, 8, 8, 8, 8, 8, 8, 8, 8, 8, 8, 8, 8, 8, 8, 8]⟩ : ByteArray) (IntKind.u8.wrap o20)) fun x30 =>
  some (w64 (o21 + (IntKind.i64.wrap x30)))
def K_math_bits_LeadingZeros64 (p0 : Int) : Option Int :=
  Option.bind (K_math_bits_Len64 p0) fun r3 =>
  some (w64 (64 - r3))
def K_math_bits_Div64_l1 (z35 : Int) (z20 : Int) (z23 : Int) : (Int × Int) → Option ((Int × Int) ⊕ Int) := fun s0 => match s0 with
  | (s45, s46) =>
    Option.bind (α := Bool) (
      if decide (4294967296 ≤ s45) then
        some true
      else
        some (decide ((IntKind.u64.wrap ((IntKind.u64.wrap (4294967296 * s46)) + z35)) < (IntKind.u64.wrap (s45 * (andI .u64 z20 4294967295)))))) fun o52 =>
    if o52 then
      if decide (4294967296 ≤ (IntKind.u64.wrap (s46 + z23))) then
        some (.inr (IntKind.u64.wrap (s45 - 1)))
      else
        some (.inl (IntKind.u64.wrap (s45 - 1), IntKind.u64.wrap (s46 + z23)))
    else
      some (.inr s45)
def K_math_bits_Div64_l2 (z32 : Int) (z20 : Int) (z23 : Int) : (Int × Int) → Option ((Int × Int) ⊕ Int) := fun s0 => match s0 with
  | (s69, s70) =>
    Option.bind (α := Bool) (
      if decide (4294967296 ≤ s70) then
        some true
      else
        some (decide ((IntKind.u64.wrap ((IntKind.u64.wrap (4294967296 * s69)) + (andI .u64 z32 4294967295))) < (IntKind.u64.wrap (s70 * (andI .u64 z20 4294967295)))))) fun o76 =>
    if o76 then
      if decide (4294967296 ≤ (IntKind.u64.wrap (s69 + z23))) then
        some (.inr (IntKind.u64.wrap (s70 - 1)))
      else
        some (.inl (IntKind.u64.wrap (s69 + z23), IntKind.u64.wrap (s70 - 1)))
    else
      some (.inr s70)
def K_math_bits_Div64 (p0 : Int) (p1 : Int) (p2 : Int) : Option (Int × Int) :=
  if p2 == 0 then
    none
  else
    if decide (p2 ≤ p0) then
      none
    else
      if p0 == 0 then
        Option.bind (quoK .u64 p1 p2) fun z12 =>
        Option.bind (remI p1 p2) fun z14 =>
        some (z12, z14)
      else
        Option.bind (K_math_bits_LeadingZeros64 p2) fun r17 =>
        Option.bind (shlI .u64 p2 (IntKind.u64.wrap r17)) fun z20 =>
        Option.bind (shrI .u64 z20 32) fun z23 =>
        Option.bind (shlI .u64 p0 (IntKind.u64.wrap r17)) fun z27 =>
        Option.bind (shrI .u64 p1 (IntKind.u64.wrap (64 - (IntKind.u64.wrap r17)))) fun z29 =>
        Option.bind (shlI .u64 p1 (IntKind.u64.wrap r17)) fun z32 =>
        Option.bind (shrI .u64 z32 32) fun z35 =>
        Option.bind (quoK .u64 (orI .u64 z27 z29) z23) fun z39 =>
        Option.bind (α := Int) (
          Option.bind (whileK (K_math_bits_Div64_l1 z35 z20 z23) (z39, IntKind.u64.wrap ((orI .u64 z27 z29) - (IntKind.u64.wrap (z39 * z23))))) fun e50 =>
            some e50) fun o42 =>
        Option.bind (quoK .u64 (IntKind.u64.wrap ((IntKind.u64.wrap ((IntKind.u64.wrap ((orI .u64 z27 z29) * 4294967296)) + z35)) - (IntKind.u64.wrap (o42 * z20)))) z23) fun z63 =>
        Option.bind (α := Int) (
          Option.bind (whileK (K_math_bits_Div64_l2 z32 z20 z23) (IntKind.u64.wrap ((IntKind.u64.wrap ((IntKind.u64.wrap ((IntKind.u64.wrap ((orI .u64 z27 z29) * 4294967296)) + z35)) - (IntKind.u64.wrap (o42 * z20)))) - (IntKind.u64.wrap (z63 * z23))), z63)) fun e74 =>
            some e74) fun o66 =>
        Option.bind (shrI .u64 (IntKind.u64.wrap ((IntKind.u64.wrap ((IntKind.u64.wrap ((IntKind.u64.wrap ((IntKind.u64.wrap ((IntKind.u64.wrap ((orI .u64 z27 z29) * 4294967296)) + z35)) - (IntKind.u64.wrap (o42 * z20)))) * 4294967296)) + (andI .u64 z32 4294967295))) - (IntKind.u64.wrap (o66 * z20)))) (IntKind.u64.wrap r17)) fun z86 =>
        some (IntKind.u64.wrap ((IntKind.u64.wrap (o42 * 4294967296)) + o66), z86)
def K_sett_Width (p0 : Int) (p1 : api_Ratio) : Option (Int × Int) :=
  Option.bind (K_sett_checked p1 true p0) fun r5 =>
  if r5 != 0 then
    some (0, r5)
  else
    Option.bind (K_math_bits_Mul64 (IntKind.u64.wrap (w64 (p0 * 1000))) (IntKind.u64.wrap p1.Den)) fun r11 =>
    if decide ((IntKind.u64.wrap p1.Num) ≤ r11.1) then
      some (0, 16)
    else
      Option.bind (K_math_bits_Div64 r11.1 r11.2 (IntKind.u64.wrap p1.Num)) fun r18 =>
      Option.bind (α := Int) (
        if decide (0 < r18.2) then
          some (IntKind.u64.wrap (r18.1 + 1))
        else
          some r18.1) fun o20 =>
      if decide (1000000000 < o20) then
        some (0, 16)
      else
        some (IntKind.i64.wrap o20, 0)
def K_sett_upTo (p0 : api_Ratio) (p1 : Int) : Option Int :=
  Option.bind (K_sett_checked p0 false 0) fun r5 =>
  Option.bind (α := Bool) (
    if r5 != 0 then
      some true
    else
      some (decide ((w64 (10 * p0.Den)) < p0.Num))) fun o7 =>
  if o7 then
    some 8
  else
    Option.bind (K_sett_checked p0 false p1) fun r14 =>
    some r14
def K_sett_Need (p0 : Int) (p1 : api_Ratio) : Option (Int × Int) :=
  Option.bind (K_sett_upTo p1 p0) fun r5 =>
  if r5 != 0 then
    some (0, r5)
  else
    Option.bind (K_sett_over_int64_ (w64 (p0 * (w64 (p1.Den + p1.Num)))) p1.Den true) fun r11 =>
    some (r11, 0)
def K_raddleref24_Same_l1 (p0 : (List Int)) (p1 : (List Int)) : Int → Option (Int ⊕ (Bool ⊕ Unit)) := fun s0 => match s0 with
  | s13 =>
    if decide (s13 < (p0.length : Int)) then
      Option.bind (idxO p0 s13) fun x22 =>
      Option.bind (idxO p1 s13) fun x27 =>
      if x22 != x27 then
        some (.inr (.inl false))
      else
        some (.inl (w64 (s13 + 1)))
    else
      some (.inr (.inr ()))
def K_raddleref24_Same (p0 : (List Int)) (p1 : (List Int)) : Option Bool :=
  if (p0.length : Int) != (p1.length : Int) then
    some false
  else
    Option.bind (α := Unit ⊕ Bool) (
      Option.bind (whileK (K_raddleref24_Same_l1 p0 p1) 0) fun z0 => match z0 with
        | .inl z =>
          some (.inr z)
        | .inr _ =>
          some (.inl ())) fun z0 => match z0 with
      | .inl _ =>
        some true
      | .inr z =>
        some z
theorem m_F_raddleref01_Zero_s0 (p0 : Int) (p1 : Int) : Le (K_raddleref01_Zero_s0 p0 p1) (F_raddleref01_Zero_s0 p0 p1) := by
  unfold K_raddleref01_Zero_s0 F_raddleref01_Zero_s0
  with_reducible repeat' (first | exact Le.rfl _ | refine Le.loop _ ?_ | refine Le.bind ?_ ?_ | refine Le.ite ?_ ?_ | refine Le.sum ?_ ?_ | refine Le.prod ?_ | intro _ | dsimp only)
theorem m_F_raddleref01_Mod (p0 : Int) (p1 : Int) : Le (K_raddleref01_Mod p0 p1) (F_raddleref01_Mod p0 p1) := by
  unfold K_raddleref01_Mod F_raddleref01_Mod
  with_reducible repeat' (first | exact Le.rfl _ | refine Le.loop _ ?_ | refine Le.bind ?_ ?_ | refine Le.ite ?_ ?_ | refine Le.sum ?_ ?_ | refine Le.prod ?_ | intro _ | dsimp only)
theorem m_F_raddleref01_Set_s0 (p0 : Int) (p1 : Int) (p2 : (List Bool)) (p3 : Int) (p4 : Int) (p5 : Bool) : Le (K_raddleref01_Set_s0 p0 p1 p2 p3 p4 p5) (F_raddleref01_Set_s0 p0 p1 p2 p3 p4 p5) := by
  unfold K_raddleref01_Set_s0 F_raddleref01_Set_s0
  with_reducible repeat' (first | exact Le.rfl _ | refine Le.loop _ ?_ | refine Le.bind ?_ ?_ | refine Le.ite ?_ ?_ | refine Le.sum ?_ ?_ | refine Le.prod ?_ | intro _ | dsimp only)
theorem m_raddlelaw24_cloth_l1 (p0 : Int) (s15 : Int) (r4 : api_Grid) (p2 : Int) : ∀ s, Le (K_raddlelaw24_cloth_l1 p0 s15 r4 p2 s) (raddlelaw24_cloth_l1 p0 s15 r4 p2 s) := by
  unfold K_raddlelaw24_cloth_l1 raddlelaw24_cloth_l1
  with_reducible repeat' (first | exact m_F_raddleref01_Mod _ _ | exact m_F_raddleref01_Set_s0 _ _ _ _ _ _ | exact Le.rfl _ | refine Le.loop _ ?_ | refine Le.bind ?_ ?_ | refine Le.ite ?_ ?_ | refine Le.sum ?_ ?_ | refine Le.prod ?_ | intro _ | dsimp only)
theorem m_raddlelaw24_cloth_l2 (p1 : Int) (p0 : Int) (r4 : api_Grid) (p2 : Int) : ∀ s, Le (K_raddlelaw24_cloth_l2 p1 p0 r4 p2 s) (raddlelaw24_cloth_l2 p1 p0 r4 p2 s) := by
  unfold K_raddlelaw24_cloth_l2 raddlelaw24_cloth_l2
  with_reducible repeat' (first | exact m_raddlelaw24_cloth_l1 _ _ _ _ | exact Le.rfl _ | refine Le.loop _ ?_ | refine Le.bind ?_ ?_ | refine Le.ite ?_ ?_ | refine Le.sum ?_ ?_ | refine Le.prod ?_ | intro _ | dsimp only)
theorem m_F_raddlelaw24_cloth (p0 : Int) (p1 : Int) (p2 : Int) : Le (K_raddlelaw24_cloth p0 p1 p2) (F_raddlelaw24_cloth p0 p1 p2) := by
  unfold K_raddlelaw24_cloth F_raddlelaw24_cloth
  with_reducible repeat' (first | exact m_F_raddleref01_Zero_s0 _ _ | exact m_raddlelaw24_cloth_l2 _ _ _ _ | exact Le.rfl _ | refine Le.loop _ ?_ | refine Le.bind ?_ ?_ | refine Le.ite ?_ ?_ | refine Le.sum ?_ ?_ | refine Le.prod ?_ | intro _ | dsimp only)
theorem m_F_grid_Check (p0 : api_Grid) : Le (K_grid_Check p0) (F_grid_Check p0) := by
  unfold K_grid_Check F_grid_Check
  with_reducible repeat' (first | exact Le.rfl _ | refine Le.loop _ ?_ | refine Le.bind ?_ ?_ | refine Le.ite ?_ ?_ | refine Le.sum ?_ ?_ | refine Le.prod ?_ | intro _ | dsimp only)
theorem m_F_sett_Turns_1_s0 (p0 : Int) (p1 : api_Grid) (p2 : Int) : Le (K_sett_Turns_1_s0 p0 p1 p2) (F_sett_Turns_1_s0 p0 p1 p2) := by
  unfold K_sett_Turns_1_s0 F_sett_Turns_1_s0
  with_reducible repeat' (first | exact Le.rfl _ | refine Le.loop _ ?_ | refine Le.bind ?_ ?_ | refine Le.ite ?_ ?_ | refine Le.sum ?_ ?_ | refine Le.prod ?_ | intro _ | dsimp only)
theorem m_sett_line_turns_s0_l1 (p0 : Int) (p1 : api_Grid) (p2 : Int) : ∀ s, Le (K_sett_line_turns_s0_l1 p0 p1 p2 s) (sett_line_turns_s0_l1 p0 p1 p2 s) := by
  unfold K_sett_line_turns_s0_l1 sett_line_turns_s0_l1
  with_reducible repeat' (first | exact m_F_sett_Turns_1_s0 _ _ _ | exact Le.rfl _ | refine Le.loop _ ?_ | refine Le.bind ?_ ?_ | refine Le.ite ?_ ?_ | refine Le.sum ?_ ?_ | refine Le.prod ?_ | intro _ | dsimp only)
theorem m_F_sett_line_turns_s0 (p0 : Int) (p1 : api_Grid) (p2 : Int) : Le (K_sett_line_turns_s0 p0 p1 p2) (F_sett_line_turns_s0 p0 p1 p2) := by
  unfold K_sett_line_turns_s0 F_sett_line_turns_s0
  with_reducible repeat' (first | exact m_sett_line_turns_s0_l1 _ _ _ | exact Le.rfl _ | refine Le.loop _ ?_ | refine Le.bind ?_ ?_ | refine Le.ite ?_ ?_ | refine Le.sum ?_ ?_ | refine Le.prod ?_ | intro _ | dsimp only)
theorem m_sett_Turns_l1 (p0 : api_Grid) : ∀ s, Le (K_sett_Turns_l1 p0 s) (sett_Turns_l1 p0 s) := by
  unfold K_sett_Turns_l1 sett_Turns_l1
  with_reducible repeat' (first | exact m_F_sett_line_turns_s0 _ _ _ | exact Le.rfl _ | refine Le.loop _ ?_ | refine Le.bind ?_ ?_ | refine Le.ite ?_ ?_ | refine Le.sum ?_ ?_ | refine Le.prod ?_ | intro _ | dsimp only)
theorem m_F_sett_Turns_2_s0 (p0 : Int) (p1 : api_Grid) (p2 : Int) : Le (K_sett_Turns_2_s0 p0 p1 p2) (F_sett_Turns_2_s0 p0 p1 p2) := by
  unfold K_sett_Turns_2_s0 F_sett_Turns_2_s0
  with_reducible repeat' (first | exact Le.rfl _ | refine Le.loop _ ?_ | refine Le.bind ?_ ?_ | refine Le.ite ?_ ?_ | refine Le.sum ?_ ?_ | refine Le.prod ?_ | intro _ | dsimp only)
theorem m_sett_line_turns_s1_l1 (p0 : Int) (p1 : api_Grid) (p2 : Int) : ∀ s, Le (K_sett_line_turns_s1_l1 p0 p1 p2 s) (sett_line_turns_s1_l1 p0 p1 p2 s) := by
  unfold K_sett_line_turns_s1_l1 sett_line_turns_s1_l1
  with_reducible repeat' (first | exact m_F_sett_Turns_2_s0 _ _ _ | exact Le.rfl _ | refine Le.loop _ ?_ | refine Le.bind ?_ ?_ | refine Le.ite ?_ ?_ | refine Le.sum ?_ ?_ | refine Le.prod ?_ | intro _ | dsimp only)
theorem m_F_sett_line_turns_s1 (p0 : Int) (p1 : api_Grid) (p2 : Int) : Le (K_sett_line_turns_s1 p0 p1 p2) (F_sett_line_turns_s1 p0 p1 p2) := by
  unfold K_sett_line_turns_s1 F_sett_line_turns_s1
  with_reducible repeat' (first | exact m_sett_line_turns_s1_l1 _ _ _ | exact Le.rfl _ | refine Le.loop _ ?_ | refine Le.bind ?_ ?_ | refine Le.ite ?_ ?_ | refine Le.sum ?_ ?_ | refine Le.prod ?_ | intro _ | dsimp only)
theorem m_sett_Turns_l2 (p0 : api_Grid) : ∀ s, Le (K_sett_Turns_l2 p0 s) (sett_Turns_l2 p0 s) := by
  unfold K_sett_Turns_l2 sett_Turns_l2
  with_reducible repeat' (first | exact m_F_sett_line_turns_s1 _ _ _ | exact Le.rfl _ | refine Le.loop _ ?_ | refine Le.bind ?_ ?_ | refine Le.ite ?_ ?_ | refine Le.sum ?_ ?_ | refine Le.prod ?_ | intro _ | dsimp only)
theorem m_F_sett_Turns (p0 : api_Grid) : Le (K_sett_Turns p0) (F_sett_Turns p0) := by
  unfold K_sett_Turns F_sett_Turns
  with_reducible repeat' (first | exact m_F_grid_Check _ | exact m_sett_Turns_l1 _ | exact m_sett_Turns_l2 _ | exact Le.rfl _ | refine Le.loop _ ?_ | refine Le.bind ?_ ?_ | refine Le.ite ?_ ?_ | refine Le.sum ?_ ?_ | refine Le.prod ?_ | intro _ | dsimp only)
theorem m_sett_sum_l1 (p1 : (List Int)) : ∀ s, Le (K_sett_sum_l1 p1 s) (sett_sum_l1 p1 s) := by
  unfold K_sett_sum_l1 sett_sum_l1
  with_reducible repeat' (first | exact Le.rfl _ | refine Le.loop _ ?_ | refine Le.bind ?_ ?_ | refine Le.ite ?_ ?_ | refine Le.sum ?_ ?_ | refine Le.prod ?_ | intro _ | dsimp only)
theorem m_F_sett_sum (p0 : Int) (p1 : (List Int)) : Le (K_sett_sum p0 p1) (F_sett_sum p0 p1) := by
  unfold K_sett_sum F_sett_sum
  with_reducible repeat' (first | exact m_sett_sum_l1 _ | exact Le.rfl _ | refine Le.loop _ ?_ | refine Le.bind ?_ ?_ | refine Le.ite ?_ ?_ | refine Le.sum ?_ ?_ | refine Le.prod ?_ | intro _ | dsimp only)
theorem m_F_yarn_size (p0 : Int) : Le (K_yarn_size p0) (F_yarn_size p0) := by
  unfold K_yarn_size F_yarn_size
  with_reducible repeat' (first | exact Le.rfl _ | refine Le.loop _ ?_ | refine Le.bind ?_ ?_ | refine Le.ite ?_ ?_ | refine Le.sum ?_ ?_ | refine Le.prod ?_ | intro _ | dsimp only)
theorem m_yarn_gcd_l1  : ∀ s, Le (K_yarn_gcd_l1  s) (yarn_gcd_l1  s) := by
  unfold K_yarn_gcd_l1 yarn_gcd_l1
  with_reducible repeat' (first | exact Le.rfl _ | refine Le.loop _ ?_ | refine Le.bind ?_ ?_ | refine Le.ite ?_ ?_ | refine Le.sum ?_ ?_ | refine Le.prod ?_ | intro _ | dsimp only)
theorem m_F_yarn_gcd (p0 : Int) (p1 : Int) : Le (K_yarn_gcd p0 p1) (F_yarn_gcd p0 p1) := by
  unfold K_yarn_gcd F_yarn_gcd
  with_reducible repeat' (first | exact m_yarn_gcd_l1 | exact Le.rfl _ | refine Le.loop _ ?_ | refine Le.bind ?_ ?_ | refine Le.ite ?_ ?_ | refine Le.sum ?_ ?_ | refine Le.prod ?_ | intro _ | dsimp only)
theorem m_F_yarn_Make (p0 : Int) (p1 : Int) : Le (K_yarn_Make p0 p1) (F_yarn_Make p0 p1) := by
  unfold K_yarn_Make F_yarn_Make
  with_reducible repeat' (first | exact m_F_yarn_size _ | exact m_F_yarn_gcd _ _ | exact Le.rfl _ | refine Le.loop _ ?_ | refine Le.bind ?_ ?_ | refine Le.ite ?_ ?_ | refine Le.sum ?_ ?_ | refine Le.prod ?_ | intro _ | dsimp only)
theorem m_F_sett_Setts (p0 : api_Grid) (p1 : Int) : Le (K_sett_Setts p0 p1) (F_sett_Setts p0 p1) := by
  unfold K_sett_Setts F_sett_Setts
  with_reducible repeat' (first | exact m_F_sett_Turns _ | exact m_F_sett_sum _ _ | exact m_F_yarn_Make _ _ | exact Le.rfl _ | refine Le.loop _ ?_ | refine Le.bind ?_ ?_ | refine Le.ite ?_ ?_ | refine Le.sum ?_ ?_ | refine Le.prod ?_ | intro _ | dsimp only)
theorem m_F_raddlelaw24_part (p0 : Int) (p1 : Int) : Le (K_raddlelaw24_part p0 p1) (F_raddlelaw24_part p0 p1) := by
  unfold K_raddlelaw24_part F_raddlelaw24_part
  with_reducible repeat' (first | exact Le.rfl _ | refine Le.loop _ ?_ | refine Le.bind ?_ ?_ | refine Le.ite ?_ ?_ | refine Le.sum ?_ ?_ | refine Le.prod ?_ | intro _ | dsimp only)
theorem m_F_yarn_Check (p0 : api_Ratio) : Le (K_yarn_Check p0) (F_yarn_Check p0) := by
  unfold K_yarn_Check F_yarn_Check
  with_reducible repeat' (first | exact m_F_yarn_size _ | exact m_F_yarn_gcd _ _ | exact Le.rfl _ | refine Le.loop _ ?_ | refine Le.bind ?_ ?_ | refine Le.ite ?_ ?_ | refine Le.sum ?_ ?_ | refine Le.prod ?_ | intro _ | dsimp only)
theorem m_F_sett_checked (p0 : api_Ratio) (p1 : Bool) (p2 : Int) : Le (K_sett_checked p0 p1 p2) (F_sett_checked p0 p1 p2) := by
  unfold K_sett_checked F_sett_checked
  with_reducible repeat' (first | exact m_F_yarn_Check _ | exact Le.rfl _ | refine Le.loop _ ?_ | refine Le.bind ?_ ?_ | refine Le.ite ?_ ?_ | refine Le.sum ?_ ?_ | refine Le.prod ?_ | intro _ | dsimp only)
theorem m_F_sett_over_int64_ (p0 : Int) (p1 : Int) (p2 : Bool) : Le (K_sett_over_int64_ p0 p1 p2) (F_sett_over_int64_ p0 p1 p2) := by
  unfold K_sett_over_int64_ F_sett_over_int64_
  with_reducible repeat' (first | exact Le.rfl _ | refine Le.loop _ ?_ | refine Le.bind ?_ ?_ | refine Le.ite ?_ ?_ | refine Le.sum ?_ ?_ | refine Le.prod ?_ | intro _ | dsimp only)
theorem m_F_sett_Ends (p0 : Int) (p1 : api_Ratio) : Le (K_sett_Ends p0 p1) (F_sett_Ends p0 p1) := by
  unfold K_sett_Ends F_sett_Ends
  with_reducible repeat' (first | exact m_F_sett_checked _ _ _ | exact m_F_sett_over_int64_ _ _ _ | exact Le.rfl _ | refine Le.loop _ ?_ | refine Le.bind ?_ ?_ | refine Le.ite ?_ ?_ | refine Le.sum ?_ ?_ | refine Le.prod ?_ | intro _ | dsimp only)
theorem m_F_math_bits_Mul64 (p0 : Int) (p1 : Int) : Le (K_math_bits_Mul64 p0 p1) (F_math_bits_Mul64 p0 p1) := by
  unfold K_math_bits_Mul64 F_math_bits_Mul64
  with_reducible repeat' (first | exact Le.rfl _ | refine Le.loop _ ?_ | refine Le.bind ?_ ?_ | refine Le.ite ?_ ?_ | refine Le.sum ?_ ?_ | refine Le.prod ?_ | intro _ | dsimp only)
theorem m_F_math_bits_Len64 (p0 : Int) : Le (K_math_bits_Len64 p0) (F_math_bits_Len64 p0) := by
  unfold K_math_bits_Len64 F_math_bits_Len64
  with_reducible repeat' (first | exact Le.rfl _ | refine Le.loop _ ?_ | refine Le.bind ?_ ?_ | refine Le.ite ?_ ?_ | refine Le.sum ?_ ?_ | refine Le.prod ?_ | intro _ | dsimp only)
theorem m_F_math_bits_LeadingZeros64 (p0 : Int) : Le (K_math_bits_LeadingZeros64 p0) (F_math_bits_LeadingZeros64 p0) := by
  unfold K_math_bits_LeadingZeros64 F_math_bits_LeadingZeros64
  with_reducible repeat' (first | exact m_F_math_bits_Len64 _ | exact Le.rfl _ | refine Le.loop _ ?_ | refine Le.bind ?_ ?_ | refine Le.ite ?_ ?_ | refine Le.sum ?_ ?_ | refine Le.prod ?_ | intro _ | dsimp only)
theorem m_math_bits_Div64_l1 (z35 : Int) (z20 : Int) (z23 : Int) : ∀ s, Le (K_math_bits_Div64_l1 z35 z20 z23 s) (math_bits_Div64_l1 z35 z20 z23 s) := by
  unfold K_math_bits_Div64_l1 math_bits_Div64_l1
  with_reducible repeat' (first | exact Le.rfl _ | refine Le.loop _ ?_ | refine Le.bind ?_ ?_ | refine Le.ite ?_ ?_ | refine Le.sum ?_ ?_ | refine Le.prod ?_ | intro _ | dsimp only)
theorem m_math_bits_Div64_l2 (z32 : Int) (z20 : Int) (z23 : Int) : ∀ s, Le (K_math_bits_Div64_l2 z32 z20 z23 s) (math_bits_Div64_l2 z32 z20 z23 s) := by
  unfold K_math_bits_Div64_l2 math_bits_Div64_l2
  with_reducible repeat' (first | exact Le.rfl _ | refine Le.loop _ ?_ | refine Le.bind ?_ ?_ | refine Le.ite ?_ ?_ | refine Le.sum ?_ ?_ | refine Le.prod ?_ | intro _ | dsimp only)
theorem m_F_math_bits_Div64 (p0 : Int) (p1 : Int) (p2 : Int) : Le (K_math_bits_Div64 p0 p1 p2) (F_math_bits_Div64 p0 p1 p2) := by
  unfold K_math_bits_Div64 F_math_bits_Div64
  with_reducible repeat' (first | exact m_F_math_bits_LeadingZeros64 _ | exact m_math_bits_Div64_l1 _ _ _ | exact m_math_bits_Div64_l2 _ _ _ | exact Le.rfl _ | refine Le.loop _ ?_ | refine Le.bind ?_ ?_ | refine Le.ite ?_ ?_ | refine Le.sum ?_ ?_ | refine Le.prod ?_ | intro _ | dsimp only)
theorem m_F_sett_Width (p0 : Int) (p1 : api_Ratio) : Le (K_sett_Width p0 p1) (F_sett_Width p0 p1) := by
  unfold K_sett_Width F_sett_Width
  with_reducible repeat' (first | exact m_F_sett_checked _ _ _ | exact m_F_math_bits_Mul64 _ _ | exact m_F_math_bits_Div64 _ _ _ | exact Le.rfl _ | refine Le.loop _ ?_ | refine Le.bind ?_ ?_ | refine Le.ite ?_ ?_ | refine Le.sum ?_ ?_ | refine Le.prod ?_ | intro _ | dsimp only)
theorem m_F_sett_upTo (p0 : api_Ratio) (p1 : Int) : Le (K_sett_upTo p0 p1) (F_sett_upTo p0 p1) := by
  unfold K_sett_upTo F_sett_upTo
  with_reducible repeat' (first | exact m_F_sett_checked _ _ _ | exact Le.rfl _ | refine Le.loop _ ?_ | refine Le.bind ?_ ?_ | refine Le.ite ?_ ?_ | refine Le.sum ?_ ?_ | refine Le.prod ?_ | intro _ | dsimp only)
theorem m_F_sett_Need (p0 : Int) (p1 : api_Ratio) : Le (K_sett_Need p0 p1) (F_sett_Need p0 p1) := by
  unfold K_sett_Need F_sett_Need
  with_reducible repeat' (first | exact m_F_sett_upTo _ _ | exact m_F_sett_over_int64_ _ _ _ | exact Le.rfl _ | refine Le.loop _ ?_ | refine Le.bind ?_ ?_ | refine Le.ite ?_ ?_ | refine Le.sum ?_ ?_ | refine Le.prod ?_ | intro _ | dsimp only)
theorem m_raddleref24_Same_l1 (p0 : (List Int)) (p1 : (List Int)) : ∀ s, Le (K_raddleref24_Same_l1 p0 p1 s) (raddleref24_Same_l1 p0 p1 s) := by
  unfold K_raddleref24_Same_l1 raddleref24_Same_l1
  with_reducible repeat' (first | exact Le.rfl _ | refine Le.loop _ ?_ | refine Le.bind ?_ ?_ | refine Le.ite ?_ ?_ | refine Le.sum ?_ ?_ | refine Le.prod ?_ | intro _ | dsimp only)
theorem m_F_raddleref24_Same (p0 : (List Int)) (p1 : (List Int)) : Le (K_raddleref24_Same p0 p1) (F_raddleref24_Same p0 p1) := by
  unfold K_raddleref24_Same F_raddleref24_Same
  with_reducible repeat' (first | exact m_raddleref24_Same_l1 _ _ | exact Le.rfl _ | refine Le.loop _ ?_ | refine Le.bind ?_ ?_ | refine Le.ite ?_ ?_ | refine Le.sum ?_ ?_ | refine Le.prod ?_ | intro _ | dsimp only)
set_option maxRecDepth 1000000 in
theorem kc_raddlelaw24_alive_0 : F_raddlelaw24_cloth 2 2 1 = some (api_Grid.mk 2 2 [true, false, false, true]) := m_F_raddlelaw24_cloth _ _ _ _ (by kernel_rfl)
set_option maxRecDepth 1000000 in
theorem kc_raddlelaw24_alive_1 : F_sett_Turns ((api_Grid.mk 2 2 [true, false, false, true])) = some ([2, 2], ([2, 2], 0)) := m_F_sett_Turns _ _ (by kernel_rfl)
set_option maxRecDepth 1000000 in
theorem kc_raddlelaw24_alive_2 : F_sett_Setts ((api_Grid.mk 2 2 [true, false, false, true])) 200 = some ((api_Ratio.mk 100 1), ((api_Ratio.mk 100 1), 0)) := m_F_sett_Setts _ _ _ (by kernel_rfl)
set_option maxRecDepth 1000000 in
theorem kc_raddlelaw24_alive_3 : F_raddlelaw24_cloth 4 4 2 = some (api_Grid.mk 4 4 [true, true, false, false, false, true, true, false, false, false, true, true, true, false, false, true]) := m_F_raddlelaw24_cloth _ _ _ _ (by kernel_rfl)
set_option maxRecDepth 1000000 in
theorem kc_raddlelaw24_alive_4 : F_sett_Setts ((api_Grid.mk 4 4 [true, true, false, false, false, true, true, false, false, false, true, true, true, false, false, true])) 200 = some ((api_Ratio.mk 400 3), ((api_Ratio.mk 400 3), 0)) := m_F_sett_Setts _ _ _ (by kernel_rfl)
set_option maxRecDepth 1000000 in
theorem kc_raddlelaw24_alive_5 : F_raddlelaw24_cloth 3 2 3 = some (api_Grid.mk 3 2 [true, true, true, true, true, true]) := m_F_raddlelaw24_cloth _ _ _ _ (by kernel_rfl)
set_option maxRecDepth 1000000 in
theorem kc_raddlelaw24_alive_6 : F_sett_Setts ((api_Grid.mk 3 2 [true, true, true, true, true, true])) 200 = some ((api_Ratio.mk 200 1), ((api_Ratio.mk 200 1), 0)) := m_F_sett_Setts _ _ _ (by kernel_rfl)
set_option maxRecDepth 1000000 in
theorem kc_raddlelaw24_alive_7 : F_raddlelaw24_part 100 1 = some (api_Ratio.mk 100 1) := m_F_raddlelaw24_part _ _ _ (by kernel_rfl)
set_option maxRecDepth 1000000 in
theorem kc_raddlelaw24_alive_8 : F_sett_Ends 1005 ((api_Ratio.mk 100 1)) = some (100, 0) := m_F_sett_Ends _ _ _ (by kernel_rfl)
set_option maxRecDepth 1000000 in
theorem kc_raddlelaw24_alive_9 : F_sett_Width 100 ((api_Ratio.mk 100 1)) = some (1000, 0) := m_F_sett_Width _ _ _ (by kernel_rfl)
set_option maxRecDepth 1000000 in
theorem kc_raddlelaw24_alive_10 : F_raddlelaw24_part 1 10 = some (api_Ratio.mk 1 10) := m_F_raddlelaw24_part _ _ _ (by kernel_rfl)
set_option maxRecDepth 1000000 in
theorem kc_raddlelaw24_alive_11 : F_sett_Need 1000 ((api_Ratio.mk 1 10)) = some (1100, 0) := m_F_sett_Need _ _ _ (by kernel_rfl)
set_option maxRecDepth 1000000 in
theorem kc_raddlelaw24_alive_12 : F_raddleref24_Same (([2, 2], ([2, 2], 0))).1 ([2, 2] : List Int) = some true := m_F_raddleref24_Same _ _ _ (by kernel_rfl)
set_option maxRecDepth 1000000 in
theorem kc_raddlelaw24_alive_13 : F_raddleref24_Same (([2, 2], ([2, 2], 0))).2.1 ([2, 2] : List Int) = some true := m_F_raddleref24_Same _ _ _ (by kernel_rfl)
set_option maxRecDepth 1000000 in
theorem kc_raddlelaw24_alive_14 : F_raddlelaw24_part 400 3 = some (api_Ratio.mk 400 3) := m_F_raddlelaw24_part _ _ _ (by kernel_rfl)
set_option maxRecDepth 1000000 in
theorem kc_raddlelaw24_alive_15 : F_raddlelaw24_part 200 1 = some (api_Ratio.mk 200 1) := m_F_raddlelaw24_part _ _ _ (by kernel_rfl)
end Go.Proofs.Ytjndecalogklhaa
