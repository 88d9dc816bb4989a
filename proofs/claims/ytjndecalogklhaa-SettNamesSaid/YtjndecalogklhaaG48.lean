import Derived.Test.YtjndecalogklhaaGTy
import Derived.Test.YtjndecalogklhaaG61
namespace Go.Proofs.Ytjndecalogklhaa
open Go.RowKit
set_option linter.unusedVariables false

def anc_math_bits_Div64_0 : List (List Nat) := [[], [], [0, 1], [], [], [3, 4], [0, 1, 2], [0, 1, 2, 3, 4, 5, 6]]
noncomputable def math_bits_Div64_l1 (z35 : Int) (z20 : Int) (z23 : Int) : (Int × Int) → Option ((Int × Int) ⊕ Int) := fun s0 => match s0 with
  | (s45, s46) =>
    Option.bind (α := Bool) (
      if decide (4294967296 ≤ s45) then
        some true
      else
        some (decide ((IntKind.u64.wrap ((IntKind.u64.wrap (4294967296 * s46)) + z35)) < (IntKind.u64.wrap (s45 * (andI .u64 z20 4294967295)))))) fun o52 =>
    if o52 then
      if decide (4294967296 ≤ (IntKind.u64.wrap (s46 + z23))) then
        some (.inr (IntKind.u64.wrap (s45 - 1)))
      else
        some (.inl (IntKind.u64.wrap (s45 - 1), IntKind.u64.wrap (s46 + z23)))
    else
      some (.inr s45)
noncomputable def math_bits_Div64_l2 (z32 : Int) (z20 : Int) (z23 : Int) : (Int × Int) → Option ((Int × Int) ⊕ Int) := fun s0 => match s0 with
  | (s69, s70) =>
    Option.bind (α := Bool) (
      if decide (4294967296 ≤ s70) then
        some true
      else
        some (decide ((IntKind.u64.wrap ((IntKind.u64.wrap (4294967296 * s69)) + (andI .u64 z32 4294967295))) < (IntKind.u64.wrap (s70 * (andI .u64 z20 4294967295)))))) fun o76 =>
    if o76 then
      if decide (4294967296 ≤ (IntKind.u64.wrap (s69 + z23))) then
        some (.inr (IntKind.u64.wrap (s70 - 1)))
      else
        some (.inl (IntKind.u64.wrap (s69 + z23), IntKind.u64.wrap (s70 - 1)))
    else
      some (.inr s70)
noncomputable def F_math_bits_Div64 (p0 : Int) (p1 : Int) (p2 : Int) : Option (Int × Int) :=
  if p2 == 0 then
    none
  else
    if decide (p2 ≤ p0) then
      none
    else
      if p0 == 0 then
        Option.bind (quoK .u64 p1 p2) fun z12 =>
        Option.bind (remI p1 p2) fun z14 =>
        some (z12, z14)
      else
        Option.bind (F_math_bits_LeadingZeros64 p2) fun r17 =>
        Option.bind (shlI .u64 p2 (IntKind.u64.wrap r17)) fun z20 =>
        Option.bind (shrI .u64 z20 32) fun z23 =>
        Option.bind (shlI .u64 p0 (IntKind.u64.wrap r17)) fun z27 =>
        Option.bind (shrI .u64 p1 (IntKind.u64.wrap (64 - (IntKind.u64.wrap r17)))) fun z29 =>
        Option.bind (shlI .u64 p1 (IntKind.u64.wrap r17)) fun z32 =>
        Option.bind (shrI .u64 z32 32) fun z35 =>
        Option.bind (quoK .u64 (orI .u64 z27 z29) z23) fun z39 =>
        Option.bind (α := Int) (
          Option.bind (whileO (math_bits_Div64_l1 z35 z20 z23) (z39, IntKind.u64.wrap ((orI .u64 z27 z29) - (IntKind.u64.wrap (z39 * z23))))) fun e50 =>
            some e50) fun o42 =>
        Option.bind (quoK .u64 (IntKind.u64.wrap ((IntKind.u64.wrap ((IntKind.u64.wrap ((orI .u64 z27 z29) * 4294967296)) + z35)) - (IntKind.u64.wrap (o42 * z20)))) z23) fun z63 =>
        Option.bind (α := Int) (
          Option.bind (whileO (math_bits_Div64_l2 z32 z20 z23) (IntKind.u64.wrap ((IntKind.u64.wrap ((IntKind.u64.wrap ((IntKind.u64.wrap ((orI .u64 z27 z29) * 4294967296)) + z35)) - (IntKind.u64.wrap (o42 * z20)))) - (IntKind.u64.wrap (z63 * z23))), z63)) fun e74 =>
            some e74) fun o66 =>
        Option.bind (shrI .u64 (IntKind.u64.wrap ((IntKind.u64.wrap ((IntKind.u64.wrap ((IntKind.u64.wrap ((IntKind.u64.wrap ((IntKind.u64.wrap ((orI .u64 z27 z29) * 4294967296)) + z35)) - (IntKind.u64.wrap (o42 * z20)))) * 4294967296)) + (andI .u64 z32 4294967295))) - (IntKind.u64.wrap (o66 * z20)))) (IntKind.u64.wrap r17)) fun z86 =>
        some (IntKind.u64.wrap ((IntKind.u64.wrap (o42 * 4294967296)) + o66), z86)
set_option maxHeartbeats 4000000 in
set_option maxRecDepth 100000 in
theorem c_math_bits_Div64 (E : Nat → Prop) (w0 : World) (p0 : Int) (p1 : Int) (p2 : Int) (r : (Int × Int)) (h : F_math_bits_Div64 p0 p1 p2 = some r) (S : St0 E [] w0 w0 [] []) :
    Calls Try.prog 48 #[.int .u64 p0, .int .u64 p1, .int .u64 p2] w0 (Ret (X := Unit) E [] w0 (fun _ => .tuple #[.int .u64 r.1, .int .u64 r.2]) (fun _ => []) (fun _ => [])) := by
  unfold F_math_bits_Div64 at h
  refine sEnter (args := [.int .u64 p0, .int .u64 p1, .int .u64 p2]) 135 Try.func48 rfl rfl (by simp) S (fun a S => ?_)
  refine sSeq (fun K1 hK1 => ?_)
  refine sRegion ?_
  refine sMove (.int .u64 0) S (wN rfl) (.inr rfl) (by kernel_rfl) rfl (by decide) (fun a S => ?_)
  refine sMove (.int .u64 0) S (wN rfl) (.inr rfl) (by kernel_rfl) rfl (by decide) (fun a S => ?_)
  refine leafL (leafT (hK1 _ _ ?_))
  refine sSeq (fun K2 hK2 => ?_)
  refine sSeq (fun K3 hK3 => ?_)
  refine sRegion ?_
  refine sMove (.int .u64 p2) S (wN rfl) (.inl rfl) (by kernel_rfl) rfl (by decide) (fun a S => ?_)
  refine sBin (.bool (p2 == 0)) S (wN rfl) rfl (by kernel_rfl) (by kernel_rfl) (bEq _ _ _ _ .u64 p2 0) rfl (by decide) (fun a S => ?_)
  refine leafL (leafT (hK3 _ _ ?_))
  rcases iteSome h with ⟨hc4, h⟩ | ⟨hc4, h⟩
  · refine sCondT (b := p2 == 0) S (by kernel_rfl) hc4 ?_
    refine sRegion ?_
    cases h
  · refine sCondF (b := p2 == 0) S (by kernel_rfl) hc4 ?_
    refine wp_skip (leafT (hK2 _ _ ?_))
    refine sSeq (fun K5 hK5 => ?_)
    refine sSeq (fun K6 hK6 => ?_)
    refine sRegion ?_
    refine sMove (.int .u64 p2) S (wN rfl) (.inl rfl) (by kernel_rfl) rfl (by decide) (fun a S => ?_)
    refine sMove (.int .u64 p0) S (wN rfl) (.inl rfl) (by kernel_rfl) rfl (by decide) (fun a S => ?_)
    refine sBin (.bool (decide (p2 ≤ p0))) S (wN rfl) rfl (by kernel_rfl) (by kernel_rfl) (bLe _ _ _ _ .u64 p2 p0) rfl (by decide) (fun a S => ?_)
    refine leafL (leafT (hK6 _ _ ?_))
    rcases iteSome h with ⟨hc7, h⟩ | ⟨hc7, h⟩
    · refine sCondT (b := decide (p2 ≤ p0)) S (by kernel_rfl) hc7 ?_
      refine sRegion ?_
      cases h
    · refine sCondF (b := decide (p2 ≤ p0)) S (by kernel_rfl) hc7 ?_
      refine wp_skip (leafT (hK5 _ _ ?_))
      refine sSeq (fun K8 hK8 => ?_)
      refine sSeq (fun K9 hK9 => ?_)
      refine sRegion ?_
      refine sMove (.int .u64 p0) S (wN rfl) (.inl rfl) (by kernel_rfl) rfl (by decide) (fun a S => ?_)
      refine sBin (.bool (p0 == 0)) S (wN rfl) rfl (by kernel_rfl) (by kernel_rfl) (bEq _ _ _ _ .u64 p0 0) rfl (by decide) (fun a S => ?_)
      refine leafL (leafT (hK9 _ _ ?_))
      rcases iteSome h with ⟨hc10, h⟩ | ⟨hc10, h⟩
      · refine sCondT (b := p0 == 0) S (by kernel_rfl) hc10 ?_
        refine sSeq (fun K11 hK11 => ?_)
        obtain ⟨z12, hx13, h⟩ := bindSome h
        obtain ⟨z14, hx15, h⟩ := bindSome h
        refine sDraw (nf := []) (W := [(0, 28, .int .u64 p1), (1, 29, .int .u64 p2), (2, 30, .int .u64 z12), (3, 31, .int .u64 p1), (4, 32, .int .u64 p2), (5, 33, .int .u64 z14), (6, 6, .int .u64 z12), (7, 7, .int .u64 z14)]) (by kernel_rfl) S ?_
        refine node_by (A := anc_math_bits_Div64_0) (nf := []) (Y := []) (W := [(0, 28, .int .u64 p1), (1, 29, .int .u64 p2), (2, 30, .int .u64 z12), (3, 31, .int .u64 p1), (4, 32, .int .u64 p2), (5, 33, .int .u64 z14), (6, 6, .int .u64 z12), (7, 7, .int .u64 z14)]) 8 (by kernel_rfl) (by kernel_rfl) (by kernel_rfl) (by kernel_rfl) (by kernel_rfl) [0, 1, 2, 3, 4, 5, 6, 7] (by kernel_rfl) (by decide) (by decide) (aF 0 7 (by decide) ?_ (aF 1 6 (by decide) ?_ (aF 2 5 (by decide) ?_ (aF 3 4 (by decide) ?_ (aF 4 3 (by decide) ?_ (aF 5 2 (by decide) ?_ (aF 6 1 (by decide) ?_ (aF 7 0 (by decide) ?_ (trivial))))))))) [(6, .int .u64 z12), (7, .int .u64 z14)] (fin_of [some 6, some 7] rfl (by kernel_rfl) (by kernel_rfl)) (fun _ a w S => ?_)
        · refine fI 28 (.int .u64 p1) [(1, .int .u64 p1)] 0 [none] rfl rfl (by kernel_rfl) rfl (by kernel_rfl) (by kernel_rfl) fun G a w S => ?_
          refine sMove (.int .u64 p1) S (wN rfl) (.inl rfl) (by kernel_rfl) rfl (by decide) (fun a S => ?_)
          exact leafL ⟨rfl, S⟩
        · refine fI 29 (.int .u64 p2) [(2, .int .u64 p2)] 1 [none] rfl rfl (by kernel_rfl) rfl (by kernel_rfl) (by kernel_rfl) fun G a w S => ?_
          refine sMove (.int .u64 p2) S (wN rfl) (.inl rfl) (by kernel_rfl) rfl (by decide) (fun a S => ?_)
          exact leafL ⟨rfl, S⟩
        · refine fI 30 (.int .u64 z12) [(28, .int .u64 p1), (29, .int .u64 p2)] 2 [some 0, some 1] rfl rfl (by kernel_rfl) rfl (by kernel_rfl) (by kernel_rfl) fun G a w S => ?_
          refine sBin (.int .u64 z12) S (wN rfl) rfl (by kernel_rfl) (by kernel_rfl) (bQuoK _ _ _ _ (k := .u64) (x := p1) (y := p2) hx13) rfl (by decide) (fun a S => ?_)
          exact leafL ⟨rfl, S⟩
        · refine fI 31 (.int .u64 p1) [(1, .int .u64 p1)] 3 [none] rfl rfl (by kernel_rfl) rfl (by kernel_rfl) (by kernel_rfl) fun G a w S => ?_
          refine sMove (.int .u64 p1) S (wN rfl) (.inl rfl) (by kernel_rfl) rfl (by decide) (fun a S => ?_)
          exact leafL ⟨rfl, S⟩
        · refine fI 32 (.int .u64 p2) [(2, .int .u64 p2)] 4 [none] rfl rfl (by kernel_rfl) rfl (by kernel_rfl) (by kernel_rfl) fun G a w S => ?_
          refine sMove (.int .u64 p2) S (wN rfl) (.inl rfl) (by kernel_rfl) rfl (by decide) (fun a S => ?_)
          exact leafL ⟨rfl, S⟩
        · refine fI 33 (.int .u64 z14) [(31, .int .u64 p1), (32, .int .u64 p2)] 5 [some 3, some 4] rfl rfl (by kernel_rfl) rfl (by kernel_rfl) (by kernel_rfl) fun G a w S => ?_
          refine sBin (.int .u64 z14) S (wN rfl) rfl (by kernel_rfl) (by kernel_rfl) (bRemK _ _ _ _ (k := .u64) (x := p1) (y := p2) hx15) rfl (by decide) (fun a S => ?_)
          exact leafL ⟨rfl, S⟩
        · refine fI 6 (.int .u64 z12) [(30, .int .u64 z12)] 6 [some 2] rfl rfl (by kernel_rfl) rfl (by kernel_rfl) (by kernel_rfl) fun G a w S => ?_
          refine sMove (.int .u64 z12) S (wN rfl) (.inr rfl) (by kernel_rfl) rfl (by decide) (fun a S => ?_)
          exact leafL ⟨rfl, S⟩
        · refine fI 7 (.int .u64 z14) [(33, .int .u64 z14)] 7 [some 5] rfl rfl (by kernel_rfl) rfl (by kernel_rfl) (by kernel_rfl) fun G a w S => ?_
          refine sMove (.int .u64 z14) S (wN rfl) (.inr rfl) (by kernel_rfl) rfl (by decide) (fun a S => ?_)
          exact leafL ⟨rfl, S⟩
        · refine leafT (hK11 _ _ ?_)
          obtain rfl := Option.some.inj h
          exact wp_ret (rThen (sRet (.tuple #[.int .u64 z12, .int .u64 z14]) S (rsl2 rfl (rvT (t := 6) (v := .int .u64 z12) S (by kernel_rfl)) (rvT (t := 7) (v := .int .u64 z14) S (by kernel_rfl))) ⟨(), rfl, S.mem.sel [] [] (by decide) (by kernel_rfl) (by kernel_rfl)⟩))
      · refine sCondF (b := p0 == 0) S (by kernel_rfl) hc10 ?_
        refine wp_skip (leafT (hK8 _ _ ?_))
        refine sSeq (fun K16 hK16 => ?_)
        refine sRegion ?_
        refine sMove (.int .u64 p2) S (wN rfl) (.inl rfl) (by kernel_rfl) rfl (by decide) (fun a S => ?_)
        obtain ⟨r17, hx18, h⟩ := bindSome h
        have S1 := S.mem
        refine sCallQ (X := Unit) (f := 61) (vs := [.int .u64 p2]) (val := fun _ => .int .i64 r17) S (wN rfl) rfl callee61 (by kernel_rfl) (S1.quiet [] (by kernel_rfl)) (fun E1 w1 S1 => c_math_bits_LeadingZeros64 E1 w1 p2 r17 hx18 S1) rfl (by decide) (fun _ a w S => ?_)
        refine sConv (k := .i64) (k2 := .u64) (b := r17) S (wN rfl) rfl Try.underlying3 Try.underlying84 (by kernel_rfl) rfl (by decide) (fun a S => ?_)
        refine sMove (.int .u64 (IntKind.u64.wrap r17)) S (wN rfl) (.inr rfl) (by kernel_rfl) rfl (by decide) (fun a S => ?_)
        refine leafL (leafT (hK16 _ _ ?_))
        refine sSeq (fun K19 hK19 => ?_)
        refine sRegion ?_
        refine sMove (.int .u64 p2) S (wN rfl) (.inl rfl) (by kernel_rfl) rfl (by decide) (fun a S => ?_)
        refine sMove (.int .u64 (IntKind.u64.wrap r17)) S (wN rfl) (.inl rfl) (by kernel_rfl) rfl (by decide) (fun a S => ?_)
        obtain ⟨z20, hx21, h⟩ := bindSome h
        refine sBin (.int .u64 z20) S (wN rfl) rfl (by kernel_rfl) (by kernel_rfl) (bShlK _ _ _ _ (k := .u64) (k' := .u64) (x := p2) (y := IntKind.u64.wrap r17) hx21) rfl (by decide) (fun a S => ?_)
        refine sMove (.int .u64 z20) S (wN rfl) (.inr rfl) (by kernel_rfl) rfl (by decide) (fun a S => ?_)
        refine leafL (leafT (hK19 _ _ ?_))
        refine sSeq (fun K22 hK22 => ?_)
        refine sRegion ?_
        refine sMove (.int .u64 z20) S (wN rfl) (.inl rfl) (by kernel_rfl) rfl (by decide) (fun a S => ?_)
        obtain ⟨z23, hx24, h⟩ := bindSome h
        refine sBin (.int .u64 z23) S (wN rfl) rfl (by kernel_rfl) (by kernel_rfl) (bShrK _ _ _ _ (k := .u64) (k' := .u64) (x := z20) (y := 32) hx24) rfl (by decide) (fun a S => ?_)
        refine sMove (.int .u64 z23) S (wN rfl) (.inr rfl) (by kernel_rfl) rfl (by decide) (fun a S => ?_)
        refine leafL (leafT (hK22 _ _ ?_))
        refine sSeq (fun K25 hK25 => ?_)
        refine sRegion ?_
        refine sMove (.int .u64 z20) S (wN rfl) (.inl rfl) (by kernel_rfl) rfl (by decide) (fun a S => ?_)
        refine sBin (.int .u64 (andI .u64 z20 4294967295)) S (wN rfl) rfl (by kernel_rfl) (by kernel_rfl) (bAndK _ _ _ _ .u64 z20 4294967295) rfl (by decide) (fun a S => ?_)
        refine sMove (.int .u64 (andI .u64 z20 4294967295)) S (wN rfl) (.inr rfl) (by kernel_rfl) rfl (by decide) (fun a S => ?_)
        refine leafL (leafT (hK25 _ _ ?_))
        refine sSeq (fun K26 hK26 => ?_)
        refine sRegion ?_
        refine sMove (.int .u64 p0) S (wN rfl) (.inl rfl) (by kernel_rfl) rfl (by decide) (fun a S => ?_)
        refine sMove (.int .u64 (IntKind.u64.wrap r17)) S (wN rfl) (.inl rfl) (by kernel_rfl) rfl (by decide) (fun a S => ?_)
        obtain ⟨z27, hx28, h⟩ := bindSome h
        refine sBin (.int .u64 z27) S (wN rfl) rfl (by kernel_rfl) (by kernel_rfl) (bShlK _ _ _ _ (k := .u64) (k' := .u64) (x := p0) (y := IntKind.u64.wrap r17) hx28) rfl (by decide) (fun a S => ?_)
        refine sMove (.int .u64 p1) S (wN rfl) (.inl rfl) (by kernel_rfl) rfl (by decide) (fun a S => ?_)
        refine sMove (.int .u64 (IntKind.u64.wrap r17)) S (wN rfl) (.inl rfl) (by kernel_rfl) rfl (by decide) (fun a S => ?_)
        refine sBin (.int .u64 (IntKind.u64.wrap (64 - (IntKind.u64.wrap r17)))) S (wN rfl) rfl (by kernel_rfl) (by kernel_rfl) (bSubK _ _ _ _ .u64 64 (IntKind.u64.wrap r17)) rfl (by decide) (fun a S => ?_)
        obtain ⟨z29, hx30, h⟩ := bindSome h
        refine sBin (.int .u64 z29) S (wN rfl) rfl (by kernel_rfl) (by kernel_rfl) (bShrK _ _ _ _ (k := .u64) (k' := .u64) (x := p1) (y := IntKind.u64.wrap (64 - (IntKind.u64.wrap r17))) hx30) rfl (by decide) (fun a S => ?_)
        refine sBin (.int .u64 (orI .u64 z27 z29)) S (wN rfl) rfl (by kernel_rfl) (by kernel_rfl) (bOrK _ _ _ _ .u64 z27 z29) rfl (by decide) (fun a S => ?_)
        refine sMove (.int .u64 (orI .u64 z27 z29)) S (wN rfl) (.inr rfl) (by kernel_rfl) rfl (by decide) (fun a S => ?_)
        refine leafL (leafT (hK26 _ _ ?_))
        refine sSeq (fun K31 hK31 => ?_)
        refine sRegion ?_
        refine sMove (.int .u64 p1) S (wN rfl) (.inl rfl) (by kernel_rfl) rfl (by decide) (fun a S => ?_)
        refine sMove (.int .u64 (IntKind.u64.wrap r17)) S (wN rfl) (.inl rfl) (by kernel_rfl) rfl (by decide) (fun a S => ?_)
        obtain ⟨z32, hx33, h⟩ := bindSome h
        refine sBin (.int .u64 z32) S (wN rfl) rfl (by kernel_rfl) (by kernel_rfl) (bShlK _ _ _ _ (k := .u64) (k' := .u64) (x := p1) (y := IntKind.u64.wrap r17) hx33) rfl (by decide) (fun a S => ?_)
        refine sMove (.int .u64 z32) S (wN rfl) (.inr rfl) (by kernel_rfl) rfl (by decide) (fun a S => ?_)
        refine leafL (leafT (hK31 _ _ ?_))
        refine sSeq (fun K34 hK34 => ?_)
        refine sRegion ?_
        refine sMove (.int .u64 z32) S (wN rfl) (.inl rfl) (by kernel_rfl) rfl (by decide) (fun a S => ?_)
        obtain ⟨z35, hx36, h⟩ := bindSome h
        refine sBin (.int .u64 z35) S (wN rfl) rfl (by kernel_rfl) (by kernel_rfl) (bShrK _ _ _ _ (k := .u64) (k' := .u64) (x := z32) (y := 32) hx36) rfl (by decide) (fun a S => ?_)
        refine sMove (.int .u64 z35) S (wN rfl) (.inr rfl) (by kernel_rfl) rfl (by decide) (fun a S => ?_)
        refine leafL (leafT (hK34 _ _ ?_))
        refine sSeq (fun K37 hK37 => ?_)
        refine sRegion ?_
        refine sMove (.int .u64 z32) S (wN rfl) (.inl rfl) (by kernel_rfl) rfl (by decide) (fun a S => ?_)
        refine sBin (.int .u64 (andI .u64 z32 4294967295)) S (wN rfl) rfl (by kernel_rfl) (by kernel_rfl) (bAndK _ _ _ _ .u64 z32 4294967295) rfl (by decide) (fun a S => ?_)
        refine sMove (.int .u64 (andI .u64 z32 4294967295)) S (wN rfl) (.inr rfl) (by kernel_rfl) rfl (by decide) (fun a S => ?_)
        refine leafL (leafT (hK37 _ _ ?_))
        refine sSeq (fun K38 hK38 => ?_)
        refine sRegion ?_
        refine sMove (.int .u64 (orI .u64 z27 z29)) S (wN rfl) (.inl rfl) (by kernel_rfl) rfl (by decide) (fun a S => ?_)
        refine sMove (.int .u64 z23) S (wN rfl) (.inl rfl) (by kernel_rfl) rfl (by decide) (fun a S => ?_)
        obtain ⟨z39, hx40, h⟩ := bindSome h
        refine sBin (.int .u64 z39) S (wN rfl) rfl (by kernel_rfl) (by kernel_rfl) (bQuoK _ _ _ _ (k := .u64) (x := orI .u64 z27 z29) (y := z23) hx40) rfl (by decide) (fun a S => ?_)
        refine sMove (.int .u64 z39) S (wN rfl) (.inr rfl) (by kernel_rfl) rfl (by decide) (fun a S => ?_)
        refine leafL (leafT (hK38 _ _ ?_))
        refine sSeq (fun K41 hK41 => ?_)
        refine sRegion ?_
        refine sMove (.int .u64 (orI .u64 z27 z29)) S (wN rfl) (.inl rfl) (by kernel_rfl) rfl (by decide) (fun a S => ?_)
        refine sMove (.int .u64 z39) S (wN rfl) (.inl rfl) (by kernel_rfl) rfl (by decide) (fun a S => ?_)
        refine sMove (.int .u64 z23) S (wN rfl) (.inl rfl) (by kernel_rfl) rfl (by decide) (fun a S => ?_)
        refine sBin (.int .u64 (IntKind.u64.wrap (z39 * z23))) S (wN rfl) rfl (by kernel_rfl) (by kernel_rfl) (bMulK _ _ _ _ .u64 z39 z23) rfl (by decide) (fun a S => ?_)
        refine sBin (.int .u64 (IntKind.u64.wrap ((orI .u64 z27 z29) - (IntKind.u64.wrap (z39 * z23))))) S (wN rfl) rfl (by kernel_rfl) (by kernel_rfl) (bSubK _ _ _ _ .u64 (orI .u64 z27 z29) (IntKind.u64.wrap (z39 * z23))) rfl (by decide) (fun a S => ?_)
        refine sMove (.int .u64 (IntKind.u64.wrap ((orI .u64 z27 z29) - (IntKind.u64.wrap (z39 * z23))))) S (wN rfl) (.inr rfl) (by kernel_rfl) rfl (by decide) (fun a S => ?_)
        refine leafL (leafT (hK41 _ _ ?_))
        obtain ⟨t43, h, g44⟩ := bindSome h
        refine sCut (fun a w => ∃ o42, o42 = t43 ∧ St E [] w0 135 a w [(2, .int .u64 z20), (8, .int .u64 (IntKind.u64.wrap r17)), (9, .int .u64 z23), (10, .int .u64 (andI .u64 z20 4294967295)), (11, .int .u64 (orI .u64 z27 z29)), (13, .int .u64 z35), (14, .int .u64 (andI .u64 z32 4294967295)), (15, .int .u64 o42)] [] []) ?_ (fun a w hI => ?_)
        · refine wp_block ?_
          obtain ⟨t49, hl, g48⟩ := bindSome h
          refine sLoop hl (fun s0 a w => match s0 with | (s45, s46) => St E [] w0 135 a w [(2, .int .u64 z20), (8, .int .u64 (IntKind.u64.wrap r17)), (9, .int .u64 z23), (10, .int .u64 (andI .u64 z20 4294967295)), (11, .int .u64 (orI .u64 z27 z29)), (13, .int .u64 z35), (14, .int .u64 (andI .u64 z32 4294967295)), (15, .int .u64 s45), (16, .int .u64 s46)] [] []) (S.fix [] [] (by decide) (by kernel_rfl) (by kernel_rfl) (by kernel_rfl)) ?_
          clear hl h
          intro s0 a w c0 hI h hu47
          obtain ⟨s45, s46⟩ := s0
          unfold math_bits_Div64_l1 at h
          dsimp only at h hI
          have S := hI
          refine sSeq (fun K51 hK51 => ?_)
          obtain ⟨t53, h, g54⟩ := bindSome h
          refine sCut (fun a w => ∃ o52, o52 = t53 ∧ St E [] w0 135 a w [(2, .int .u64 z20), (8, .int .u64 (IntKind.u64.wrap r17)), (9, .int .u64 z23), (10, .int .u64 (andI .u64 z20 4294967295)), (11, .int .u64 (orI .u64 z27 z29)), (13, .int .u64 z35), (14, .int .u64 (andI .u64 z32 4294967295)), (15, .int .u64 s45), (16, .int .u64 s46), (78, .bool o52)] [] []) ?_ (fun a w hI => ?_)
          · refine sRegion ?_
            refine sMove (.int .u64 s45) S (wN rfl) (.inl rfl) (by kernel_rfl) rfl (by decide) (fun a S => ?_)
            refine sBin (.bool (decide (4294967296 ≤ s45))) S (wN rfl) rfl (by kernel_rfl) (by kernel_rfl) (bGe _ _ _ _ .u64 s45 4294967296) rfl (by decide) (fun a S => ?_)
            refine sMove (.bool (decide (4294967296 ≤ s45))) S (wN rfl) (.inl rfl) (by kernel_rfl) rfl (by decide) (fun a S => ?_)
            rcases iteSome h with ⟨hc55, h⟩ | ⟨hc55, h⟩
            · refine sSkip (c := decide (4294967296 ≤ s45)) 2 false 69 70 S rfl rfl (by kernel_rfl) hc55 rfl (by decide) (fun a S => ?_)
              refine sSkip (c := decide (4294967296 ≤ s45)) 2 false 69 71 S rfl rfl (by kernel_rfl) hc55 rfl (by decide) (fun a S => ?_)
              refine sSkip (c := decide (4294967296 ≤ s45)) 2 false 69 72 S rfl rfl (by kernel_rfl) hc55 rfl (by decide) (fun a S => ?_)
              refine sSkip (c := decide (4294967296 ≤ s45)) 2 false 69 73 S rfl rfl (by kernel_rfl) hc55 rfl (by decide) (fun a S => ?_)
              refine sSkip (c := decide (4294967296 ≤ s45)) 2 false 69 74 S rfl rfl (by kernel_rfl) hc55 rfl (by decide) (fun a S => ?_)
              refine sSkip (c := decide (4294967296 ≤ s45)) 2 false 69 75 S rfl rfl (by kernel_rfl) hc55 rfl (by decide) (fun a S => ?_)
              refine sSkip (c := decide (4294967296 ≤ s45)) 2 false 69 76 S rfl rfl (by kernel_rfl) hc55 rfl (by decide) (fun a S => ?_)
              refine sSkip (c := decide (4294967296 ≤ s45)) 2 false 69 77 S rfl rfl (by kernel_rfl) hc55 rfl (by decide) (fun a S => ?_)
              refine sPickT (b := decide (4294967296 ≤ s45)) (.bool true) S (wN rfl) rfl (by kernel_rfl) hc55 (by kernel_rfl) rfl (by decide) (fun a S => ?_)
              exact leafL (leafT (⟨true, Option.some.inj h, S.fix [] [] (by decide) (by kernel_rfl) (by kernel_rfl) (by kernel_rfl)⟩))
            · refine sMove (.int .u64 s45) S (wG (c := decide (4294967296 ≤ s45)) 2 false 69 rfl rfl (by kernel_rfl) hc55) (.inl rfl) (by kernel_rfl) rfl (by decide) (fun a S => ?_)
              refine sMove (.int .u64 (andI .u64 z20 4294967295)) S (wG (c := decide (4294967296 ≤ s45)) 2 false 69 rfl rfl (by kernel_rfl) hc55) (.inl rfl) (by kernel_rfl) rfl (by decide) (fun a S => ?_)
              refine sBin (.int .u64 (IntKind.u64.wrap (s45 * (andI .u64 z20 4294967295)))) S (wG (c := decide (4294967296 ≤ s45)) 2 false 69 rfl rfl (by kernel_rfl) hc55) rfl (by kernel_rfl) (by kernel_rfl) (bMulK _ _ _ _ .u64 s45 (andI .u64 z20 4294967295)) rfl (by decide) (fun a S => ?_)
              refine sMove (.int .u64 s46) S (wG (c := decide (4294967296 ≤ s45)) 2 false 69 rfl rfl (by kernel_rfl) hc55) (.inl rfl) (by kernel_rfl) rfl (by decide) (fun a S => ?_)
              refine sBin (.int .u64 (IntKind.u64.wrap (4294967296 * s46))) S (wG (c := decide (4294967296 ≤ s45)) 2 false 69 rfl rfl (by kernel_rfl) hc55) rfl (by kernel_rfl) (by kernel_rfl) (bMulK _ _ _ _ .u64 4294967296 s46) rfl (by decide) (fun a S => ?_)
              refine sMove (.int .u64 z35) S (wG (c := decide (4294967296 ≤ s45)) 2 false 69 rfl rfl (by kernel_rfl) hc55) (.inl rfl) (by kernel_rfl) rfl (by decide) (fun a S => ?_)
              refine sBin (.int .u64 (IntKind.u64.wrap ((IntKind.u64.wrap (4294967296 * s46)) + z35))) S (wG (c := decide (4294967296 ≤ s45)) 2 false 69 rfl rfl (by kernel_rfl) hc55) rfl (by kernel_rfl) (by kernel_rfl) (bAddK _ _ _ _ .u64 (IntKind.u64.wrap (4294967296 * s46)) z35) rfl (by decide) (fun a S => ?_)
              refine sBin (.bool (decide ((IntKind.u64.wrap ((IntKind.u64.wrap (4294967296 * s46)) + z35)) < (IntKind.u64.wrap (s45 * (andI .u64 z20 4294967295)))))) S (wG (c := decide (4294967296 ≤ s45)) 2 false 69 rfl rfl (by kernel_rfl) hc55) rfl (by kernel_rfl) (by kernel_rfl) (bGt _ _ _ _ .u64 (IntKind.u64.wrap (s45 * (andI .u64 z20 4294967295))) (IntKind.u64.wrap ((IntKind.u64.wrap (4294967296 * s46)) + z35))) rfl (by decide) (fun a S => ?_)
              refine sPickF (b := decide (4294967296 ≤ s45)) (.bool (decide ((IntKind.u64.wrap ((IntKind.u64.wrap (4294967296 * s46)) + z35)) < (IntKind.u64.wrap (s45 * (andI .u64 z20 4294967295)))))) S (wN rfl) rfl (by kernel_rfl) hc55 (by kernel_rfl) rfl (by decide) (fun a S => ?_)
              exact leafL (leafT (⟨decide ((IntKind.u64.wrap ((IntKind.u64.wrap (4294967296 * s46)) + z35)) < (IntKind.u64.wrap (s45 * (andI .u64 z20 4294967295)))), Option.some.inj h, S.fix [] [] (by decide) (by kernel_rfl) (by kernel_rfl) (by kernel_rfl)⟩))
          · obtain ⟨o52, rfl, S⟩ := hI
            have h := g54
            clear g54
            try dsimp only at h
            rcases iteSome h with ⟨hc56, h⟩ | ⟨hc56, h⟩
            · refine sCondT (b := o52) S (by kernel_rfl) hc56 ?_
              refine wp_skip (leafT (hK51 _ _ ?_))
              refine wp_block ?_
              refine sSeq (fun K57 hK57 => ?_)
              refine sRegion ?_
              refine sMove (.int .u64 s45) S (wN rfl) (.inl rfl) (by kernel_rfl) rfl (by decide) (fun a S => ?_)
              refine sBin (.int .u64 (IntKind.u64.wrap (s45 - 1))) S (wN rfl) rfl (by kernel_rfl) (by kernel_rfl) (bSubK _ _ _ _ .u64 s45 1) rfl (by decide) (fun a S => ?_)
              refine sMove (.int .u64 (IntKind.u64.wrap (s45 - 1))) S (wN rfl) (.inr rfl) (by kernel_rfl) rfl (by decide) (fun a S => ?_)
              refine leafL (leafT (hK57 _ _ ?_))
              refine sSeq (fun K58 hK58 => ?_)
              refine sRegion ?_
              refine sMove (.int .u64 s46) S (wN rfl) (.inl rfl) (by kernel_rfl) rfl (by decide) (fun a S => ?_)
              refine sMove (.int .u64 z23) S (wN rfl) (.inl rfl) (by kernel_rfl) rfl (by decide) (fun a S => ?_)
              refine sBin (.int .u64 (IntKind.u64.wrap (s46 + z23))) S (wN rfl) rfl (by kernel_rfl) (by kernel_rfl) (bAddK _ _ _ _ .u64 s46 z23) rfl (by decide) (fun a S => ?_)
              refine sMove (.int .u64 (IntKind.u64.wrap (s46 + z23))) S (wN rfl) (.inr rfl) (by kernel_rfl) rfl (by decide) (fun a S => ?_)
              refine leafL (leafT (hK58 _ _ ?_))
              refine sSeq (fun K59 hK59 => ?_)
              refine sRegion ?_
              refine sMove (.int .u64 (IntKind.u64.wrap (s46 + z23))) S (wN rfl) (.inl rfl) (by kernel_rfl) rfl (by decide) (fun a S => ?_)
              refine sBin (.bool (decide (4294967296 ≤ (IntKind.u64.wrap (s46 + z23))))) S (wN rfl) rfl (by kernel_rfl) (by kernel_rfl) (bGe _ _ _ _ .u64 (IntKind.u64.wrap (s46 + z23)) 4294967296) rfl (by decide) (fun a S => ?_)
              refine leafL (leafT (hK59 _ _ ?_))
              rcases iteSome h with ⟨hc60, h⟩ | ⟨hc60, h⟩
              · refine sCondT (b := decide (4294967296 ≤ (IntKind.u64.wrap (s46 + z23)))) S (by kernel_rfl) hc60 ?_
                obtain rfl := Option.some.inj h
                obtain rfl := hu47 _ rfl
                have h := g48
                clear g48
                try dsimp only at h
                exact wp_exit (xMiss rfl (xThen (xHit (leafT (⟨IntKind.u64.wrap (s45 - 1), Option.some.inj h, S.fix [] [] (by decide) (by kernel_rfl) (by kernel_rfl) (by kernel_rfl)⟩)))))
              · refine sCondF (b := decide (4294967296 ≤ (IntKind.u64.wrap (s46 + z23)))) S (by kernel_rfl) hc60 ?_
                exact wp_skip (leafB (leafT (⟨(IntKind.u64.wrap (s45 - 1), IntKind.u64.wrap (s46 + z23)), (Option.some.inj h).symm, (S.fix [] [] (by decide) (by kernel_rfl) (by kernel_rfl) (by kernel_rfl))⟩)))
            · refine sCondF (b := o52) S (by kernel_rfl) hc56 ?_
              obtain rfl := Option.some.inj h
              obtain rfl := hu47 _ rfl
              have h := g48
              clear g48
              try dsimp only at h
              exact wp_exit (xThen (xThen (xHit (leafT (⟨s45, Option.some.inj h, S.fix [] [] (by decide) (by kernel_rfl) (by kernel_rfl) (by kernel_rfl)⟩)))))
        · obtain ⟨o42, rfl, S⟩ := hI
          have h := g44
          clear g44
          try dsimp only at h
          refine sSeq (fun K61 hK61 => ?_)
          refine sRegion ?_
          refine sMove (.int .u64 (orI .u64 z27 z29)) S (wN rfl) (.inl rfl) (by kernel_rfl) rfl (by decide) (fun a S => ?_)
          refine sBin (.int .u64 (IntKind.u64.wrap ((orI .u64 z27 z29) * 4294967296))) S (wN rfl) rfl (by kernel_rfl) (by kernel_rfl) (bMulK _ _ _ _ .u64 (orI .u64 z27 z29) 4294967296) rfl (by decide) (fun a S => ?_)
          refine sMove (.int .u64 z35) S (wN rfl) (.inl rfl) (by kernel_rfl) rfl (by decide) (fun a S => ?_)
          refine sBin (.int .u64 (IntKind.u64.wrap ((IntKind.u64.wrap ((orI .u64 z27 z29) * 4294967296)) + z35))) S (wN rfl) rfl (by kernel_rfl) (by kernel_rfl) (bAddK _ _ _ _ .u64 (IntKind.u64.wrap ((orI .u64 z27 z29) * 4294967296)) z35) rfl (by decide) (fun a S => ?_)
          refine sMove (.int .u64 o42) S (wN rfl) (.inl rfl) (by kernel_rfl) rfl (by decide) (fun a S => ?_)
          refine sMove (.int .u64 z20) S (wN rfl) (.inl rfl) (by kernel_rfl) rfl (by decide) (fun a S => ?_)
          refine sBin (.int .u64 (IntKind.u64.wrap (o42 * z20))) S (wN rfl) rfl (by kernel_rfl) (by kernel_rfl) (bMulK _ _ _ _ .u64 o42 z20) rfl (by decide) (fun a S => ?_)
          refine sBin (.int .u64 (IntKind.u64.wrap ((IntKind.u64.wrap ((IntKind.u64.wrap ((orI .u64 z27 z29) * 4294967296)) + z35)) - (IntKind.u64.wrap (o42 * z20))))) S (wN rfl) rfl (by kernel_rfl) (by kernel_rfl) (bSubK _ _ _ _ .u64 (IntKind.u64.wrap ((IntKind.u64.wrap ((orI .u64 z27 z29) * 4294967296)) + z35)) (IntKind.u64.wrap (o42 * z20))) rfl (by decide) (fun a S => ?_)
          refine sMove (.int .u64 (IntKind.u64.wrap ((IntKind.u64.wrap ((IntKind.u64.wrap ((orI .u64 z27 z29) * 4294967296)) + z35)) - (IntKind.u64.wrap (o42 * z20))))) S (wN rfl) (.inr rfl) (by kernel_rfl) rfl (by decide) (fun a S => ?_)
          refine leafL (leafT (hK61 _ _ ?_))
          refine sSeq (fun K62 hK62 => ?_)
          refine sRegion ?_
          refine sMove (.int .u64 (IntKind.u64.wrap ((IntKind.u64.wrap ((IntKind.u64.wrap ((orI .u64 z27 z29) * 4294967296)) + z35)) - (IntKind.u64.wrap (o42 * z20))))) S (wN rfl) (.inl rfl) (by kernel_rfl) rfl (by decide) (fun a S => ?_)
          refine sMove (.int .u64 z23) S (wN rfl) (.inl rfl) (by kernel_rfl) rfl (by decide) (fun a S => ?_)
          obtain ⟨z63, hx64, h⟩ := bindSome h
          refine sBin (.int .u64 z63) S (wN rfl) rfl (by kernel_rfl) (by kernel_rfl) (bQuoK _ _ _ _ (k := .u64) (x := IntKind.u64.wrap ((IntKind.u64.wrap ((IntKind.u64.wrap ((orI .u64 z27 z29) * 4294967296)) + z35)) - (IntKind.u64.wrap (o42 * z20)))) (y := z23) hx64) rfl (by decide) (fun a S => ?_)
          refine sMove (.int .u64 z63) S (wN rfl) (.inr rfl) (by kernel_rfl) rfl (by decide) (fun a S => ?_)
          refine leafL (leafT (hK62 _ _ ?_))
          refine sSeq (fun K65 hK65 => ?_)
          refine sRegion ?_
          refine sMove (.int .u64 (IntKind.u64.wrap ((IntKind.u64.wrap ((IntKind.u64.wrap ((orI .u64 z27 z29) * 4294967296)) + z35)) - (IntKind.u64.wrap (o42 * z20))))) S (wN rfl) (.inl rfl) (by kernel_rfl) rfl (by decide) (fun a S => ?_)
          refine sMove (.int .u64 z63) S (wN rfl) (.inl rfl) (by kernel_rfl) rfl (by decide) (fun a S => ?_)
          refine sMove (.int .u64 z23) S (wN rfl) (.inl rfl) (by kernel_rfl) rfl (by decide) (fun a S => ?_)
          refine sBin (.int .u64 (IntKind.u64.wrap (z63 * z23))) S (wN rfl) rfl (by kernel_rfl) (by kernel_rfl) (bMulK _ _ _ _ .u64 z63 z23) rfl (by decide) (fun a S => ?_)
          refine sBin (.int .u64 (IntKind.u64.wrap ((IntKind.u64.wrap ((IntKind.u64.wrap ((IntKind.u64.wrap ((orI .u64 z27 z29) * 4294967296)) + z35)) - (IntKind.u64.wrap (o42 * z20)))) - (IntKind.u64.wrap (z63 * z23))))) S (wN rfl) rfl (by kernel_rfl) (by kernel_rfl) (bSubK _ _ _ _ .u64 (IntKind.u64.wrap ((IntKind.u64.wrap ((IntKind.u64.wrap ((orI .u64 z27 z29) * 4294967296)) + z35)) - (IntKind.u64.wrap (o42 * z20)))) (IntKind.u64.wrap (z63 * z23))) rfl (by decide) (fun a S => ?_)
          refine sMove (.int .u64 (IntKind.u64.wrap ((IntKind.u64.wrap ((IntKind.u64.wrap ((IntKind.u64.wrap ((orI .u64 z27 z29) * 4294967296)) + z35)) - (IntKind.u64.wrap (o42 * z20)))) - (IntKind.u64.wrap (z63 * z23))))) S (wN rfl) (.inr rfl) (by kernel_rfl) rfl (by decide) (fun a S => ?_)
          refine leafL (leafT (hK65 _ _ ?_))
          obtain ⟨t67, h, g68⟩ := bindSome h
          refine sCut (fun a w => ∃ o66, o66 = t67 ∧ St E [] w0 135 a w [(2, .int .u64 z20), (8, .int .u64 (IntKind.u64.wrap r17)), (14, .int .u64 (andI .u64 z32 4294967295)), (15, .int .u64 o42), (17, .int .u64 (IntKind.u64.wrap ((IntKind.u64.wrap ((IntKind.u64.wrap ((orI .u64 z27 z29) * 4294967296)) + z35)) - (IntKind.u64.wrap (o42 * z20))))), (18, .int .u64 o66)] [] []) ?_ (fun a w hI => ?_)
          · refine wp_block ?_
            obtain ⟨t73, hl, g72⟩ := bindSome h
            refine sLoop hl (fun s0 a w => match s0 with | (s69, s70) => St E [] w0 135 a w [(2, .int .u64 z20), (8, .int .u64 (IntKind.u64.wrap r17)), (9, .int .u64 z23), (10, .int .u64 (andI .u64 z20 4294967295)), (14, .int .u64 (andI .u64 z32 4294967295)), (15, .int .u64 o42), (16, .int .u64 s69), (17, .int .u64 (IntKind.u64.wrap ((IntKind.u64.wrap ((IntKind.u64.wrap ((orI .u64 z27 z29) * 4294967296)) + z35)) - (IntKind.u64.wrap (o42 * z20))))), (18, .int .u64 s70)] [] []) (S.fix [] [] (by decide) (by kernel_rfl) (by kernel_rfl) (by kernel_rfl)) ?_
            clear hl h
            intro s0 a w c0 hI h hu71
            obtain ⟨s69, s70⟩ := s0
            unfold math_bits_Div64_l2 at h
            dsimp only at h hI
            have S := hI
            refine sSeq (fun K75 hK75 => ?_)
            obtain ⟨t77, h, g78⟩ := bindSome h
            refine sCut (fun a w => ∃ o76, o76 = t77 ∧ St E [] w0 135 a w [(2, .int .u64 z20), (8, .int .u64 (IntKind.u64.wrap r17)), (9, .int .u64 z23), (10, .int .u64 (andI .u64 z20 4294967295)), (14, .int .u64 (andI .u64 z32 4294967295)), (15, .int .u64 o42), (16, .int .u64 s69), (17, .int .u64 (IntKind.u64.wrap ((IntKind.u64.wrap ((IntKind.u64.wrap ((orI .u64 z27 z29) * 4294967296)) + z35)) - (IntKind.u64.wrap (o42 * z20))))), (18, .int .u64 s70), (113, .bool o76)] [] []) ?_ (fun a w hI => ?_)
            · refine sRegion ?_
              refine sMove (.int .u64 s70) S (wN rfl) (.inl rfl) (by kernel_rfl) rfl (by decide) (fun a S => ?_)
              refine sBin (.bool (decide (4294967296 ≤ s70))) S (wN rfl) rfl (by kernel_rfl) (by kernel_rfl) (bGe _ _ _ _ .u64 s70 4294967296) rfl (by decide) (fun a S => ?_)
              refine sMove (.bool (decide (4294967296 ≤ s70))) S (wN rfl) (.inl rfl) (by kernel_rfl) rfl (by decide) (fun a S => ?_)
              rcases iteSome h with ⟨hc79, h⟩ | ⟨hc79, h⟩
              · refine sSkip (c := decide (4294967296 ≤ s70)) 2 false 104 105 S rfl rfl (by kernel_rfl) hc79 rfl (by decide) (fun a S => ?_)
                refine sSkip (c := decide (4294967296 ≤ s70)) 2 false 104 106 S rfl rfl (by kernel_rfl) hc79 rfl (by decide) (fun a S => ?_)
                refine sSkip (c := decide (4294967296 ≤ s70)) 2 false 104 107 S rfl rfl (by kernel_rfl) hc79 rfl (by decide) (fun a S => ?_)
                refine sSkip (c := decide (4294967296 ≤ s70)) 2 false 104 108 S rfl rfl (by kernel_rfl) hc79 rfl (by decide) (fun a S => ?_)
                refine sSkip (c := decide (4294967296 ≤ s70)) 2 false 104 109 S rfl rfl (by kernel_rfl) hc79 rfl (by decide) (fun a S => ?_)
                refine sSkip (c := decide (4294967296 ≤ s70)) 2 false 104 110 S rfl rfl (by kernel_rfl) hc79 rfl (by decide) (fun a S => ?_)
                refine sSkip (c := decide (4294967296 ≤ s70)) 2 false 104 111 S rfl rfl (by kernel_rfl) hc79 rfl (by decide) (fun a S => ?_)
                refine sSkip (c := decide (4294967296 ≤ s70)) 2 false 104 112 S rfl rfl (by kernel_rfl) hc79 rfl (by decide) (fun a S => ?_)
                refine sPickT (b := decide (4294967296 ≤ s70)) (.bool true) S (wN rfl) rfl (by kernel_rfl) hc79 (by kernel_rfl) rfl (by decide) (fun a S => ?_)
                exact leafL (leafT (⟨true, Option.some.inj h, S.fix [] [] (by decide) (by kernel_rfl) (by kernel_rfl) (by kernel_rfl)⟩))
              · refine sMove (.int .u64 s70) S (wG (c := decide (4294967296 ≤ s70)) 2 false 104 rfl rfl (by kernel_rfl) hc79) (.inl rfl) (by kernel_rfl) rfl (by decide) (fun a S => ?_)
                refine sMove (.int .u64 (andI .u64 z20 4294967295)) S (wG (c := decide (4294967296 ≤ s70)) 2 false 104 rfl rfl (by kernel_rfl) hc79) (.inl rfl) (by kernel_rfl) rfl (by decide) (fun a S => ?_)
                refine sBin (.int .u64 (IntKind.u64.wrap (s70 * (andI .u64 z20 4294967295)))) S (wG (c := decide (4294967296 ≤ s70)) 2 false 104 rfl rfl (by kernel_rfl) hc79) rfl (by kernel_rfl) (by kernel_rfl) (bMulK _ _ _ _ .u64 s70 (andI .u64 z20 4294967295)) rfl (by decide) (fun a S => ?_)
                refine sMove (.int .u64 s69) S (wG (c := decide (4294967296 ≤ s70)) 2 false 104 rfl rfl (by kernel_rfl) hc79) (.inl rfl) (by kernel_rfl) rfl (by decide) (fun a S => ?_)
                refine sBin (.int .u64 (IntKind.u64.wrap (4294967296 * s69))) S (wG (c := decide (4294967296 ≤ s70)) 2 false 104 rfl rfl (by kernel_rfl) hc79) rfl (by kernel_rfl) (by kernel_rfl) (bMulK _ _ _ _ .u64 4294967296 s69) rfl (by decide) (fun a S => ?_)
                refine sMove (.int .u64 (andI .u64 z32 4294967295)) S (wG (c := decide (4294967296 ≤ s70)) 2 false 104 rfl rfl (by kernel_rfl) hc79) (.inl rfl) (by kernel_rfl) rfl (by decide) (fun a S => ?_)
                refine sBin (.int .u64 (IntKind.u64.wrap ((IntKind.u64.wrap (4294967296 * s69)) + (andI .u64 z32 4294967295)))) S (wG (c := decide (4294967296 ≤ s70)) 2 false 104 rfl rfl (by kernel_rfl) hc79) rfl (by kernel_rfl) (by kernel_rfl) (bAddK _ _ _ _ .u64 (IntKind.u64.wrap (4294967296 * s69)) (andI .u64 z32 4294967295)) rfl (by decide) (fun a S => ?_)
                refine sBin (.bool (decide ((IntKind.u64.wrap ((IntKind.u64.wrap (4294967296 * s69)) + (andI .u64 z32 4294967295))) < (IntKind.u64.wrap (s70 * (andI .u64 z20 4294967295)))))) S (wG (c := decide (4294967296 ≤ s70)) 2 false 104 rfl rfl (by kernel_rfl) hc79) rfl (by kernel_rfl) (by kernel_rfl) (bGt _ _ _ _ .u64 (IntKind.u64.wrap (s70 * (andI .u64 z20 4294967295))) (IntKind.u64.wrap ((IntKind.u64.wrap (4294967296 * s69)) + (andI .u64 z32 4294967295)))) rfl (by decide) (fun a S => ?_)
                refine sPickF (b := decide (4294967296 ≤ s70)) (.bool (decide ((IntKind.u64.wrap ((IntKind.u64.wrap (4294967296 * s69)) + (andI .u64 z32 4294967295))) < (IntKind.u64.wrap (s70 * (andI .u64 z20 4294967295)))))) S (wN rfl) rfl (by kernel_rfl) hc79 (by kernel_rfl) rfl (by decide) (fun a S => ?_)
                exact leafL (leafT (⟨decide ((IntKind.u64.wrap ((IntKind.u64.wrap (4294967296 * s69)) + (andI .u64 z32 4294967295))) < (IntKind.u64.wrap (s70 * (andI .u64 z20 4294967295)))), Option.some.inj h, S.fix [] [] (by decide) (by kernel_rfl) (by kernel_rfl) (by kernel_rfl)⟩))
            · obtain ⟨o76, rfl, S⟩ := hI
              have h := g78
              clear g78
              try dsimp only at h
              rcases iteSome h with ⟨hc80, h⟩ | ⟨hc80, h⟩
              · refine sCondT (b := o76) S (by kernel_rfl) hc80 ?_
                refine wp_skip (leafT (hK75 _ _ ?_))
                refine wp_block ?_
                refine sSeq (fun K81 hK81 => ?_)
                refine sRegion ?_
                refine sMove (.int .u64 s70) S (wN rfl) (.inl rfl) (by kernel_rfl) rfl (by decide) (fun a S => ?_)
                refine sBin (.int .u64 (IntKind.u64.wrap (s70 - 1))) S (wN rfl) rfl (by kernel_rfl) (by kernel_rfl) (bSubK _ _ _ _ .u64 s70 1) rfl (by decide) (fun a S => ?_)
                refine sMove (.int .u64 (IntKind.u64.wrap (s70 - 1))) S (wN rfl) (.inr rfl) (by kernel_rfl) rfl (by decide) (fun a S => ?_)
                refine leafL (leafT (hK81 _ _ ?_))
                refine sSeq (fun K82 hK82 => ?_)
                refine sRegion ?_
                refine sMove (.int .u64 s69) S (wN rfl) (.inl rfl) (by kernel_rfl) rfl (by decide) (fun a S => ?_)
                refine sMove (.int .u64 z23) S (wN rfl) (.inl rfl) (by kernel_rfl) rfl (by decide) (fun a S => ?_)
                refine sBin (.int .u64 (IntKind.u64.wrap (s69 + z23))) S (wN rfl) rfl (by kernel_rfl) (by kernel_rfl) (bAddK _ _ _ _ .u64 s69 z23) rfl (by decide) (fun a S => ?_)
                refine sMove (.int .u64 (IntKind.u64.wrap (s69 + z23))) S (wN rfl) (.inr rfl) (by kernel_rfl) rfl (by decide) (fun a S => ?_)
                refine leafL (leafT (hK82 _ _ ?_))
                refine sSeq (fun K83 hK83 => ?_)
                refine sRegion ?_
                refine sMove (.int .u64 (IntKind.u64.wrap (s69 + z23))) S (wN rfl) (.inl rfl) (by kernel_rfl) rfl (by decide) (fun a S => ?_)
                refine sBin (.bool (decide (4294967296 ≤ (IntKind.u64.wrap (s69 + z23))))) S (wN rfl) rfl (by kernel_rfl) (by kernel_rfl) (bGe _ _ _ _ .u64 (IntKind.u64.wrap (s69 + z23)) 4294967296) rfl (by decide) (fun a S => ?_)
                refine leafL (leafT (hK83 _ _ ?_))
                rcases iteSome h with ⟨hc84, h⟩ | ⟨hc84, h⟩
                · refine sCondT (b := decide (4294967296 ≤ (IntKind.u64.wrap (s69 + z23)))) S (by kernel_rfl) hc84 ?_
                  obtain rfl := Option.some.inj h
                  obtain rfl := hu71 _ rfl
                  have h := g72
                  clear g72
                  try dsimp only at h
                  exact wp_exit (xMiss rfl (xThen (xHit (leafT (⟨IntKind.u64.wrap (s70 - 1), Option.some.inj h, S.fix [] [] (by decide) (by kernel_rfl) (by kernel_rfl) (by kernel_rfl)⟩)))))
                · refine sCondF (b := decide (4294967296 ≤ (IntKind.u64.wrap (s69 + z23)))) S (by kernel_rfl) hc84 ?_
                  exact wp_skip (leafB (leafT (⟨(IntKind.u64.wrap (s69 + z23), IntKind.u64.wrap (s70 - 1)), (Option.some.inj h).symm, (S.fix [] [] (by decide) (by kernel_rfl) (by kernel_rfl) (by kernel_rfl))⟩)))
              · refine sCondF (b := o76) S (by kernel_rfl) hc80 ?_
                obtain rfl := Option.some.inj h
                obtain rfl := hu71 _ rfl
                have h := g72
                clear g72
                try dsimp only at h
                exact wp_exit (xThen (xThen (xHit (leafT (⟨s70, Option.some.inj h, S.fix [] [] (by decide) (by kernel_rfl) (by kernel_rfl) (by kernel_rfl)⟩)))))
          · obtain ⟨o66, rfl, S⟩ := hI
            have h := g68
            clear g68
            try dsimp only at h
            refine sSeq (fun K85 hK85 => ?_)
            refine sRegion ?_
            refine sMove (.int .u64 o42) S (wN rfl) (.inl rfl) (by kernel_rfl) rfl (by decide) (fun a S => ?_)
            refine sBin (.int .u64 (IntKind.u64.wrap (o42 * 4294967296))) S (wN rfl) rfl (by kernel_rfl) (by kernel_rfl) (bMulK _ _ _ _ .u64 o42 4294967296) rfl (by decide) (fun a S => ?_)
            refine sMove (.int .u64 o66) S (wN rfl) (.inl rfl) (by kernel_rfl) rfl (by decide) (fun a S => ?_)
            refine sBin (.int .u64 (IntKind.u64.wrap ((IntKind.u64.wrap (o42 * 4294967296)) + o66))) S (wN rfl) rfl (by kernel_rfl) (by kernel_rfl) (bAddK _ _ _ _ .u64 (IntKind.u64.wrap (o42 * 4294967296)) o66) rfl (by decide) (fun a S => ?_)
            refine sMove (.int .u64 (IntKind.u64.wrap ((IntKind.u64.wrap ((IntKind.u64.wrap ((orI .u64 z27 z29) * 4294967296)) + z35)) - (IntKind.u64.wrap (o42 * z20))))) S (wN rfl) (.inl rfl) (by kernel_rfl) rfl (by decide) (fun a S => ?_)
            refine sBin (.int .u64 (IntKind.u64.wrap ((IntKind.u64.wrap ((IntKind.u64.wrap ((IntKind.u64.wrap ((orI .u64 z27 z29) * 4294967296)) + z35)) - (IntKind.u64.wrap (o42 * z20)))) * 4294967296))) S (wN rfl) rfl (by kernel_rfl) (by kernel_rfl) (bMulK _ _ _ _ .u64 (IntKind.u64.wrap ((IntKind.u64.wrap ((IntKind.u64.wrap ((orI .u64 z27 z29) * 4294967296)) + z35)) - (IntKind.u64.wrap (o42 * z20)))) 4294967296) rfl (by decide) (fun a S => ?_)
            refine sMove (.int .u64 (andI .u64 z32 4294967295)) S (wN rfl) (.inl rfl) (by kernel_rfl) rfl (by decide) (fun a S => ?_)
            refine sBin (.int .u64 (IntKind.u64.wrap ((IntKind.u64.wrap ((IntKind.u64.wrap ((IntKind.u64.wrap ((IntKind.u64.wrap ((orI .u64 z27 z29) * 4294967296)) + z35)) - (IntKind.u64.wrap (o42 * z20)))) * 4294967296)) + (andI .u64 z32 4294967295)))) S (wN rfl) rfl (by kernel_rfl) (by kernel_rfl) (bAddK _ _ _ _ .u64 (IntKind.u64.wrap ((IntKind.u64.wrap ((IntKind.u64.wrap ((IntKind.u64.wrap ((orI .u64 z27 z29) * 4294967296)) + z35)) - (IntKind.u64.wrap (o42 * z20)))) * 4294967296)) (andI .u64 z32 4294967295)) rfl (by decide) (fun a S => ?_)
            refine sMove (.int .u64 o66) S (wN rfl) (.inl rfl) (by kernel_rfl) rfl (by decide) (fun a S => ?_)
            refine sMove (.int .u64 z20) S (wN rfl) (.inl rfl) (by kernel_rfl) rfl (by decide) (fun a S => ?_)
            refine sBin (.int .u64 (IntKind.u64.wrap (o66 * z20))) S (wN rfl) rfl (by kernel_rfl) (by kernel_rfl) (bMulK _ _ _ _ .u64 o66 z20) rfl (by decide) (fun a S => ?_)
            refine sBin (.int .u64 (IntKind.u64.wrap ((IntKind.u64.wrap ((IntKind.u64.wrap ((IntKind.u64.wrap ((IntKind.u64.wrap ((IntKind.u64.wrap ((orI .u64 z27 z29) * 4294967296)) + z35)) - (IntKind.u64.wrap (o42 * z20)))) * 4294967296)) + (andI .u64 z32 4294967295))) - (IntKind.u64.wrap (o66 * z20))))) S (wN rfl) rfl (by kernel_rfl) (by kernel_rfl) (bSubK _ _ _ _ .u64 (IntKind.u64.wrap ((IntKind.u64.wrap ((IntKind.u64.wrap ((IntKind.u64.wrap ((IntKind.u64.wrap ((orI .u64 z27 z29) * 4294967296)) + z35)) - (IntKind.u64.wrap (o42 * z20)))) * 4294967296)) + (andI .u64 z32 4294967295))) (IntKind.u64.wrap (o66 * z20))) rfl (by decide) (fun a S => ?_)
            refine sMove (.int .u64 (IntKind.u64.wrap r17)) S (wN rfl) (.inl rfl) (by kernel_rfl) rfl (by decide) (fun a S => ?_)
            obtain ⟨z86, hx87, h⟩ := bindSome h
            refine sBin (.int .u64 z86) S (wN rfl) rfl (by kernel_rfl) (by kernel_rfl) (bShrK _ _ _ _ (k := .u64) (k' := .u64) (x := IntKind.u64.wrap ((IntKind.u64.wrap ((IntKind.u64.wrap ((IntKind.u64.wrap ((IntKind.u64.wrap ((IntKind.u64.wrap ((orI .u64 z27 z29) * 4294967296)) + z35)) - (IntKind.u64.wrap (o42 * z20)))) * 4294967296)) + (andI .u64 z32 4294967295))) - (IntKind.u64.wrap (o66 * z20)))) (y := IntKind.u64.wrap r17) hx87) rfl (by decide) (fun a S => ?_)
            refine sMove (.int .u64 (IntKind.u64.wrap ((IntKind.u64.wrap (o42 * 4294967296)) + o66))) S (wN rfl) (.inr rfl) (by kernel_rfl) rfl (by decide) (fun a S => ?_)
            refine sMove (.int .u64 z86) S (wN rfl) (.inr rfl) (by kernel_rfl) rfl (by decide) (fun a S => ?_)
            refine leafL (leafT (hK85 _ _ ?_))
            obtain rfl := Option.some.inj h
            exact wp_ret (sRet (.tuple #[.int .u64 (IntKind.u64.wrap ((IntKind.u64.wrap (o42 * 4294967296)) + o66)), .int .u64 z86]) S (rsl2 rfl (rvT (t := 6) (v := .int .u64 (IntKind.u64.wrap ((IntKind.u64.wrap (o42 * 4294967296)) + o66))) S (by kernel_rfl)) (rvT (t := 7) (v := .int .u64 z86) S (by kernel_rfl))) ⟨(), rfl, S.mem.sel [] [] (by decide) (by kernel_rfl) (by kernel_rfl)⟩)

end Go.Proofs.Ytjndecalogklhaa
