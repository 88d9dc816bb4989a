import Derived.Test.YtdbgkakmhlmpbaaGTy
import Derived.Test.YtdbgkakmhlmpbaaG58
import Derived.Test.YtdbgkakmhlmpbaaG60
import Derived.Test.YtdbgkakmhlmpbaaG79
import Derived.Test.YtdbgkakmhlmpbaaG81
namespace Go.Proofs.Ytdbgkakmhlmpbaa
open Go.RowKit
set_option linter.unusedVariables false

def anc_yarn_Convert_0 : List (List Nat) := [[], [], [0, 1], [], [], [3, 4], [0, 1, 2], [0, 1, 2, 3, 4, 5, 6]]
noncomputable def F_yarn_Convert (p0 : api_Count) (p1 : Int) : Option (api_Count × Int) :=
  Option.bind (F_yarn_counted p0) fun r6 =>
  if r6 != 0 then
    some ((api_Count.mk 0 (api_Ratio.mk 0 0)), r6)
  else
    Option.bind (F_yarn_factors p0.System) fun r12 =>
    Option.bind (F_yarn_factors p1) fun r15 =>
    if !r15.2.2.2 then
      some ((api_Count.mk 0 (api_Ratio.mk 0 0)), 2)
    else
      Option.bind (α := (Int × Int)) (
        Option.bind (α := Bool) (
          if !r12.2.2.1 then
            some (!r15.2.2.1)
          else
            some false) fun o26 =>
        if o26 then
          some (w64 (r12.2.1 * r15.1), w64 (r12.1 * r15.2.1))
        else
          some (w64 (r12.1 * r15.2.1), w64 (r12.2.1 * r15.1))) fun (o22, o23) =>
      Option.bind (α := (Int × Int)) (
        Option.bind (α := Bool) (
          if r12.2.2.1 then
            some (!r15.2.2.1)
          else
            some false) fun o35 =>
        if o35 then
          some (w64 (r15.1 * r12.2.1), w64 (r15.2.1 * r12.1))
        else
          some (o22, o23)) fun (o31, o32) =>
      Option.bind (F_yarn_gcd (IntKind.u64.wrap o31) (IntKind.u64.wrap o32)) fun r41 =>
      Option.bind (quoI o31 (IntKind.i64.wrap r41)) fun z44 =>
      Option.bind (quoI o32 (IntKind.i64.wrap r41)) fun z46 =>
      Option.bind (α := (Int × Int)) (
        if r12.2.2.1 != r15.2.2.1 then
          some (p0.N.Den, p0.N.Num)
        else
          some (p0.N.Num, p0.N.Den)) fun (o50, o51) =>
      Option.bind (F_yarn_Make (w64 (z44 * o50)) (w64 (z46 * o51))) fun r57 =>
      if r57.2 != 0 then
        some ((api_Count.mk 0 (api_Ratio.mk 0 0)), r57.2)
      else
        if r57.1.Num == 0 then
          some ((api_Count.mk 0 (api_Ratio.mk 0 0)), 16)
        else
          some ((api_Count.mk p1 r57.1), 0)
def c_yarn_Convert_val (r : (api_Count × Int)) (x : Value) : Value := .tuple #[x, .int .i64 r.2]
def c_yarn_Convert_D (r : (api_Count × Int)) (x : Value) : List Fact := [fRep r_api_Count x r.1]
set_option maxHeartbeats 4000000 in
set_option maxRecDepth 100000 in
theorem c_yarn_Convert (E : Nat → Prop) (w0 : World) (p0 : api_Count) (v0 : Value) (p1 : Int) (r : (api_Count × Int)) (h : F_yarn_Convert p0 p1 = some r) (S : St0 E [] w0 w0 [] [fRep r_api_Count (v0) p0]) :
    Calls Try.prog 59 #[v0, .int .u8 p1] w0 (Ret (X := Value) E [] w0 (c_yarn_Convert_val r) (fun _ => []) (c_yarn_Convert_D r)) := by
  unfold F_yarn_Convert at h
  obtain rfl : v0 = .agg #[.int .u8 p0.System, .int .i64 p0.N.Num, .int .i64 p0.N.Den] := S.know (i := 0) (e := fRep r_api_Count (v0) p0) (by kernel_rfl)
  refine sEnter (args := [.agg #[.int .u8 p0.System, .int .i64 p0.N.Num, .int .i64 p0.N.Den], .int .u8 p1]) 116 Try.func59 rfl rfl (by simp) S (fun a S => ?_)
  refine sSeq (fun K1 hK1 => ?_)
  refine sRegion ?_
  refine sBox (v := .agg #[.int .u8 p0.System, .int .i64 p0.N.Num, .int .i64 p0.N.Den]) S (wN rfl) rfl (by kernel_rfl) [.int .u8 p0.System, .int .i64 p0.N.Num, .int .i64 p0.N.Den] rfl rfl (by decide) (fun a b2 w S => ?_)
  refine sAlloc (.agg #[.int .u8 0, .int .i64 0, .int .i64 0]) S (wN rfl) rfl (by kernel_rfl) [.int .u8 0, .int .i64 0, .int .i64 0] rfl rfl (by decide) (fun a b3 w S => ?_)
  refine sMove (.int .i64 0) S (wN rfl) (.inr rfl) (by kernel_rfl) rfl (by decide) (fun a S => ?_)
  refine leafL (leafT (hK1 _ _ ?_))
  refine sSeq (fun K4 hK4 => ?_)
  refine sSeq (fun K5 hK5 => ?_)
  refine sRegion ?_
  refine sLoadN (p := b2) (off := 0) (T := 27) (vs := [.int .u8 p0.System, .int .i64 p0.N.Num, .int .i64 p0.N.Den]) 1 [.int .u8 p0.System, .int .i64 p0.N.Num, .int .i64 p0.N.Den] S (wN rfl) rfl (by kernel_rfl) (by kernel_rfl) (by kernel_rfl) (by kernel_rfl) rfl rfl (by decide) (fun a S => ?_)
  obtain ⟨r6, hx7, h⟩ := bindSome h
  have S1 := S.mem
  refine sCallQ (X := Unit) (f := 58) (vs := [.agg #[.int .u8 p0.System, .int .i64 p0.N.Num, .int .i64 p0.N.Den]]) (val := fun _ => .int .i64 r6) S (wN rfl) rfl callee58 (by kernel_rfl) (S1.quiet [0] (by kernel_rfl)) (fun E1 w1 S1 => c_yarn_counted E1 w1 p0 (.agg #[.int .u8 p0.System, .int .i64 p0.N.Num, .int .i64 p0.N.Den]) r6 hx7 S1) rfl (by decide) (fun _ a w S => ?_)
  refine sMove (.int .i64 r6) S (wN rfl) (.inr rfl) (by kernel_rfl) rfl (by decide) (fun a S => ?_)
  refine leafL (leafT (hK5 _ _ ?_))
  refine sSeq (fun K8 hK8 => ?_)
  refine sRegion ?_
  refine sMove (.int .i64 r6) S (wN rfl) (.inl rfl) (by kernel_rfl) rfl (by decide) (fun a S => ?_)
  refine sBin (.bool (r6 != 0)) S (wN rfl) rfl (by kernel_rfl) (by kernel_rfl) (bNe _ _ _ _ .i64 r6 0) rfl (by decide) (fun a S => ?_)
  refine leafL (leafT (hK8 _ _ ?_))
  rcases iteSome h with ⟨hc9, h⟩ | ⟨hc9, h⟩
  · refine sCondT (b := r6 != 0) S (by kernel_rfl) hc9 ?_
    refine sSeq (fun K10 hK10 => ?_)
    refine sRegion ?_
    refine sBuild [] [.int .u8 0, .int .i64 0, .int .i64 0] S (wN rfl) rfl (by kernel_rfl) (by kernel_rfl) rfl (by decide) (fun a S => ?_)
    refine sMove (.int .i64 r6) S (wN rfl) (.inl rfl) (by kernel_rfl) rfl (by decide) (fun a S => ?_)
    refine sStore (p := b3) (off := 0) (T := 27) (vs := [.int .u8 0, .int .i64 0, .int .i64 0]) (v := .agg #[.int .u8 0, .int .i64 0, .int .i64 0]) 0 [.int .u8 0, .int .i64 0, .int .i64 0] S (wN rfl) rfl (by kernel_rfl) (by kernel_rfl) rfl (by kernel_rfl) (by kernel_rfl) rfl (by simp) rfl (fun a w S => ?_)
    refine sMove (.int .i64 r6) S (wN rfl) (.inr rfl) (by kernel_rfl) rfl (by decide) (fun a S => ?_)
    refine leafL (leafT (hK10 _ _ ?_))
    obtain rfl := Option.some.inj h
    have S := S.learn (fRep r_api_Count (.agg #[.int .u8 0, .int .i64 0, .int .i64 0]) (api_Count.mk 0 (api_Ratio.mk 0 0))) rfl
    exact wp_ret (rThen (sRet (.tuple #[.agg #[.int .u8 0, .int .i64 0, .int .i64 0], .int .i64 r6]) S (rsl2 rfl (rvN (c := 4) (t := 27) (T := 27) (p := b3) 0 [.int .u8 0, .int .i64 0, .int .i64 0] S (by kernel_rfl) (by kernel_rfl) (by kernel_rfl) (by kernel_rfl)) (rvT (t := 5) (v := .int .i64 r6) S (by kernel_rfl))) ⟨(.agg #[.int .u8 0, .int .i64 0, .int .i64 0]), rfl, S.mem.sel [] [0] (by decide) (by kernel_rfl) (by kernel_rfl)⟩))
  · refine sCondF (b := r6 != 0) S (by kernel_rfl) hc9 ?_
    refine wp_skip (leafT (hK4 _ _ ?_))
    refine sSeq (fun K11 hK11 => ?_)
    refine sRegion ?_
    refine sField (b := b2) (off := 0) 0 0 S (wN rfl) rfl (by kernel_rfl) (by kernel_rfl) rfl rfl (by decide) (fun a S => ?_)
    refine sLoad1 (p := b2) (off := 0) (T := 27) (vs := [.int .u8 p0.System, .int .i64 p0.N.Num, .int .i64 p0.N.Den]) 1 (.int .u8 p0.System) S (wN rfl) rfl (by kernel_rfl) (by kernel_rfl) (by kernel_rfl) rfl rfl (by decide) (fun a S => ?_)
    obtain ⟨r12, hx13, h⟩ := bindSome h
    have S1 := S.mem
    refine sCallQ (X := Unit) (f := 79) (vs := [.int .u8 p0.System]) (val := fun _ => .tuple #[.int .i64 r12.1, .int .i64 r12.2.1, .bool r12.2.2.1, .bool r12.2.2.2]) S (wN rfl) rfl callee79 (by kernel_rfl) (S1.quiet [] (by kernel_rfl)) (fun E1 w1 S1 => c_yarn_factors E1 w1 p0.System r12 hx13 S1) rfl (by decide) (fun _ a w S => ?_)
    refine sMove (.tuple #[.int .i64 r12.1, .int .i64 r12.2.1, .bool r12.2.2.1, .bool r12.2.2.2]) S (wN rfl) (.inl rfl) (by kernel_rfl) rfl (by decide) (fun a S => ?_)
    refine sExtract (vs := [.int .i64 r12.1, .int .i64 r12.2.1, .bool r12.2.2.1, .bool r12.2.2.2]) (.int .i64 r12.1) S (wN rfl) rfl (by kernel_rfl) rfl rfl (by decide) (fun a S => ?_)
    refine sExtract (vs := [.int .i64 r12.1, .int .i64 r12.2.1, .bool r12.2.2.1, .bool r12.2.2.2]) (.int .i64 r12.2.1) S (wN rfl) rfl (by kernel_rfl) rfl rfl (by decide) (fun a S => ?_)
    refine sExtract (vs := [.int .i64 r12.1, .int .i64 r12.2.1, .bool r12.2.2.1, .bool r12.2.2.2]) (.bool r12.2.2.1) S (wN rfl) rfl (by kernel_rfl) rfl rfl (by decide) (fun a S => ?_)
    refine sExtract (vs := [.int .i64 r12.1, .int .i64 r12.2.1, .bool r12.2.2.1, .bool r12.2.2.2]) (.bool r12.2.2.2) S (wN rfl) rfl (by kernel_rfl) rfl rfl (by decide) (fun a S => ?_)
    refine sMove (.int .i64 r12.1) S (wN rfl) (.inr rfl) (by kernel_rfl) rfl (by decide) (fun a S => ?_)
    refine sMove (.int .i64 r12.2.1) S (wN rfl) (.inr rfl) (by kernel_rfl) rfl (by decide) (fun a S => ?_)
    refine sMove (.bool r12.2.2.1) S (wN rfl) (.inr rfl) (by kernel_rfl) rfl (by decide) (fun a S => ?_)
    refine sMove (.bool r12.2.2.2) S (wN rfl) (.inr rfl) (by kernel_rfl) rfl (by decide) (fun a S => ?_)
    refine leafL (leafT (hK11 _ _ ?_))
    refine sSeq (fun K14 hK14 => ?_)
    refine sRegion ?_
    refine sMove (.int .u8 p1) S (wN rfl) (.inl rfl) (by kernel_rfl) rfl (by decide) (fun a S => ?_)
    obtain ⟨r15, hx16, h⟩ := bindSome h
    have S1 := S.mem
    refine sCallQ (X := Unit) (f := 79) (vs := [.int .u8 p1]) (val := fun _ => .tuple #[.int .i64 r15.1, .int .i64 r15.2.1, .bool r15.2.2.1, .bool r15.2.2.2]) S (wN rfl) rfl callee79 (by kernel_rfl) (S1.quiet [] (by kernel_rfl)) (fun E1 w1 S1 => c_yarn_factors E1 w1 p1 r15 hx16 S1) rfl (by decide) (fun _ a w S => ?_)
    refine sMove (.tuple #[.int .i64 r15.1, .int .i64 r15.2.1, .bool r15.2.2.1, .bool r15.2.2.2]) S (wN rfl) (.inl rfl) (by kernel_rfl) rfl (by decide) (fun a S => ?_)
    refine sExtract (vs := [.int .i64 r15.1, .int .i64 r15.2.1, .bool r15.2.2.1, .bool r15.2.2.2]) (.int .i64 r15.1) S (wN rfl) rfl (by kernel_rfl) rfl rfl (by decide) (fun a S => ?_)
    refine sExtract (vs := [.int .i64 r15.1, .int .i64 r15.2.1, .bool r15.2.2.1, .bool r15.2.2.2]) (.int .i64 r15.2.1) S (wN rfl) rfl (by kernel_rfl) rfl rfl (by decide) (fun a S => ?_)
    refine sExtract (vs := [.int .i64 r15.1, .int .i64 r15.2.1, .bool r15.2.2.1, .bool r15.2.2.2]) (.bool r15.2.2.1) S (wN rfl) rfl (by kernel_rfl) rfl rfl (by decide) (fun a S => ?_)
    refine sExtract (vs := [.int .i64 r15.1, .int .i64 r15.2.1, .bool r15.2.2.1, .bool r15.2.2.2]) (.bool r15.2.2.2) S (wN rfl) rfl (by kernel_rfl) rfl rfl (by decide) (fun a S => ?_)
    refine sMove (.int .i64 r15.1) S (wN rfl) (.inr rfl) (by kernel_rfl) rfl (by decide) (fun a S => ?_)
    refine sMove (.int .i64 r15.2.1) S (wN rfl) (.inr rfl) (by kernel_rfl) rfl (by decide) (fun a S => ?_)
    refine sMove (.bool r15.2.2.1) S (wN rfl) (.inr rfl) (by kernel_rfl) rfl (by decide) (fun a S => ?_)
    refine sMove (.bool r15.2.2.2) S (wN rfl) (.inr rfl) (by kernel_rfl) rfl (by decide) (fun a S => ?_)
    refine leafL (leafT (hK14 _ _ ?_))
    refine sSeq (fun K17 hK17 => ?_)
    refine sSeq (fun K18 hK18 => ?_)
    refine sRegion ?_
    refine sMove (.bool r15.2.2.2) S (wN rfl) (.inl rfl) (by kernel_rfl) rfl (by decide) (fun a S => ?_)
    refine sNot (b := r15.2.2.2) S (wN rfl) rfl (by kernel_rfl) rfl (by decide) (fun a S => ?_)
    refine leafL (leafT (hK18 _ _ ?_))
    rcases iteSome h with ⟨hc19, h⟩ | ⟨hc19, h⟩
    · refine sCondT (b := !r15.2.2.2) S (by kernel_rfl) hc19 ?_
      refine sSeq (fun K20 hK20 => ?_)
      refine sRegion ?_
      refine sBuild [] [.int .u8 0, .int .i64 0, .int .i64 0] S (wN rfl) rfl (by kernel_rfl) (by kernel_rfl) rfl (by decide) (fun a S => ?_)
      refine sStore (p := b3) (off := 0) (T := 27) (vs := [.int .u8 0, .int .i64 0, .int .i64 0]) (v := .agg #[.int .u8 0, .int .i64 0, .int .i64 0]) 0 [.int .u8 0, .int .i64 0, .int .i64 0] S (wN rfl) rfl (by kernel_rfl) (by kernel_rfl) rfl (by kernel_rfl) (by kernel_rfl) rfl (by simp) rfl (fun a w S => ?_)
      refine sMove (.int .i64 2) S (wN rfl) (.inr rfl) (by kernel_rfl) rfl (by decide) (fun a S => ?_)
      refine leafL (leafT (hK20 _ _ ?_))
      obtain rfl := Option.some.inj h
      have S := S.learn (fRep r_api_Count (.agg #[.int .u8 0, .int .i64 0, .int .i64 0]) (api_Count.mk 0 (api_Ratio.mk 0 0))) rfl
      exact wp_ret (rThen (sRet (.tuple #[.agg #[.int .u8 0, .int .i64 0, .int .i64 0], .int .i64 2]) S (rsl2 rfl (rvN (c := 4) (t := 27) (T := 27) (p := b3) 0 [.int .u8 0, .int .i64 0, .int .i64 0] S (by kernel_rfl) (by kernel_rfl) (by kernel_rfl) (by kernel_rfl)) (rvT (t := 5) (v := .int .i64 2) S (by kernel_rfl))) ⟨(.agg #[.int .u8 0, .int .i64 0, .int .i64 0]), rfl, S.mem.sel [] [0] (by decide) (by kernel_rfl) (by kernel_rfl)⟩))
    · refine sCondF (b := !r15.2.2.2) S (by kernel_rfl) hc19 ?_
      refine wp_skip (leafT (hK17 _ _ ?_))
      refine sSeq (fun K21 hK21 => ?_)
      refine sRegion ?_
      refine sMove (.int .i64 r12.1) S (wN rfl) (.inl rfl) (by kernel_rfl) rfl (by decide) (fun a S => ?_)
      refine sMove (.int .i64 r15.2.1) S (wN rfl) (.inl rfl) (by kernel_rfl) rfl (by decide) (fun a S => ?_)
      refine sBin (.int .i64 (w64 (r12.1 * r15.2.1))) S (wN rfl) rfl (by kernel_rfl) (by kernel_rfl) (bMul _ _ _ _ r12.1 r15.2.1) rfl (by decide) (fun a S => ?_)
      refine sMove (.int .i64 r12.2.1) S (wN rfl) (.inl rfl) (by kernel_rfl) rfl (by decide) (fun a S => ?_)
      refine sMove (.int .i64 r15.1) S (wN rfl) (.inl rfl) (by kernel_rfl) rfl (by decide) (fun a S => ?_)
      refine sBin (.int .i64 (w64 (r12.2.1 * r15.1))) S (wN rfl) rfl (by kernel_rfl) (by kernel_rfl) (bMul _ _ _ _ r12.2.1 r15.1) rfl (by decide) (fun a S => ?_)
      refine sMove (.int .i64 (w64 (r12.1 * r15.2.1))) S (wN rfl) (.inr rfl) (by kernel_rfl) rfl (by decide) (fun a S => ?_)
      refine sMove (.int .i64 (w64 (r12.2.1 * r15.1))) S (wN rfl) (.inr rfl) (by kernel_rfl) rfl (by decide) (fun a S => ?_)
      refine leafL (leafT (hK21 _ _ ?_))
      obtain ⟨t24, h, g25⟩ := bindSome h
      refine sCut (fun a w => ∃ o22, ∃ o23, (o22, o23) = t24 ∧ St [] E [] w0 116 a w [(1, .int .u8 p1), (2, .pointer (some ⟨b2, 0, none⟩)), (4, .pointer (some ⟨b3, 0, none⟩)), (7, .int .i64 r12.1), (8, .int .i64 r12.2.1), (9, .bool r12.2.2.1), (11, .int .i64 r15.1), (12, .int .i64 r15.2.1), (13, .bool r15.2.2.1), (15, .int .i64 o22), (16, .int .i64 o23)] [eBox b2 27 [.int .u8 p0.System, .int .i64 p0.N.Num, .int .i64 p0.N.Den], eBox b3 27 [.int .u8 0, .int .i64 0, .int .i64 0]] []) ?_ (fun a w hI => ?_)
      · obtain ⟨t27, h, g28⟩ := bindSome h
        refine sCut (fun a w => ∃ o26, o26 = t27 ∧ St [] E [] w0 116 a w [(1, .int .u8 p1), (2, .pointer (some ⟨b2, 0, none⟩)), (4, .pointer (some ⟨b3, 0, none⟩)), (7, .int .i64 r12.1), (8, .int .i64 r12.2.1), (9, .bool r12.2.2.1), (11, .int .i64 r15.1), (12, .int .i64 r15.2.1), (13, .bool r15.2.2.1), (15, .int .i64 (w64 (r12.1 * r15.2.1))), (16, .int .i64 (w64 (r12.2.1 * r15.1))), (56, .bool o26)] [eBox b2 27 [.int .u8 p0.System, .int .i64 p0.N.Num, .int .i64 p0.N.Den], eBox b3 27 [.int .u8 0, .int .i64 0, .int .i64 0]] []) ?_ (fun a w hI => ?_)
        · refine sRegion ?_
          refine sMove (.bool r12.2.2.1) S (wN rfl) (.inl rfl) (by kernel_rfl) rfl (by decide) (fun a S => ?_)
          refine sNot (b := r12.2.2.1) S (wN rfl) rfl (by kernel_rfl) rfl (by decide) (fun a S => ?_)
          refine sMove (.bool (!r12.2.2.1)) S (wN rfl) (.inl rfl) (by kernel_rfl) rfl (by decide) (fun a S => ?_)
          rcases iteSome h with ⟨hc29, h⟩ | ⟨hc29, h⟩
          · refine sMove (.bool r15.2.2.1) S (wG (c := !r12.2.2.1) 2 true 53 rfl rfl (by kernel_rfl) hc29) (.inl rfl) (by kernel_rfl) rfl (by decide) (fun a S => ?_)
            refine sNot (b := r15.2.2.1) S (wG (c := !r12.2.2.1) 2 true 53 rfl rfl (by kernel_rfl) hc29) rfl (by kernel_rfl) rfl (by decide) (fun a S => ?_)
            refine sPickT (b := !r12.2.2.1) (.bool (!r15.2.2.1)) S (wN rfl) rfl (by kernel_rfl) hc29 (by kernel_rfl) rfl (by decide) (fun a S => ?_)
            exact leafL (leafT (⟨!r15.2.2.1, Option.some.inj h, S.fix [1, 0] [] (by decide) (by kernel_rfl) (by kernel_rfl) (by kernel_rfl)⟩))
          · refine sSkip (c := !r12.2.2.1) 2 true 53 54 S rfl rfl (by kernel_rfl) hc29 rfl (by decide) (fun a S => ?_)
            refine sSkip (c := !r12.2.2.1) 2 true 53 55 S rfl rfl (by kernel_rfl) hc29 rfl (by decide) (fun a S => ?_)
            refine sPickF (b := !r12.2.2.1) (.bool false) S (wN rfl) rfl (by kernel_rfl) hc29 (by kernel_rfl) rfl (by decide) (fun a S => ?_)
            exact leafL (leafT (⟨false, Option.some.inj h, S.fix [1, 0] [] (by decide) (by kernel_rfl) (by kernel_rfl) (by kernel_rfl)⟩))
        · obtain ⟨o26, rfl, S⟩ := hI
          have h := g28
          clear g28
          try dsimp only at h
          rcases iteSome h with ⟨hc30, h⟩ | ⟨hc30, h⟩
          · refine sCondT (b := o26) S (by kernel_rfl) hc30 ?_
            refine sRegion ?_
            refine sMove (.int .i64 (w64 (r12.2.1 * r15.1))) S (wN rfl) (.inl rfl) (by kernel_rfl) rfl (by decide) (fun a S => ?_)
            refine sMove (.int .i64 (w64 (r12.1 * r15.2.1))) S (wN rfl) (.inl rfl) (by kernel_rfl) rfl (by decide) (fun a S => ?_)
            refine sMove (.int .i64 (w64 (r12.2.1 * r15.1))) S (wN rfl) (.inr rfl) (by kernel_rfl) rfl (by decide) (fun a S => ?_)
            refine sMove (.int .i64 (w64 (r12.1 * r15.2.1))) S (wN rfl) (.inr rfl) (by kernel_rfl) rfl (by decide) (fun a S => ?_)
            exact leafL (leafT (⟨w64 (r12.2.1 * r15.1), w64 (r12.1 * r15.2.1), Option.some.inj h, S.fix [0, 1] [] (by decide) (by kernel_rfl) (by kernel_rfl) (by kernel_rfl)⟩))
          · refine sCondF (b := o26) S (by kernel_rfl) hc30 ?_
            exact wp_skip (leafT (⟨w64 (r12.1 * r15.2.1), w64 (r12.2.1 * r15.1), Option.some.inj h, S.fix [0, 1] [] (by decide) (by kernel_rfl) (by kernel_rfl) (by kernel_rfl)⟩))
      · obtain ⟨o22, o23, rfl, S⟩ := hI
        have h := g25
        clear g25
        try dsimp only at h
        obtain ⟨t33, h, g34⟩ := bindSome h
        refine sCut (fun a w => ∃ o31, ∃ o32, (o31, o32) = t33 ∧ St [] E [] w0 116 a w [(1, .int .u8 p1), (2, .pointer (some ⟨b2, 0, none⟩)), (4, .pointer (some ⟨b3, 0, none⟩)), (9, .bool r12.2.2.1), (13, .bool r15.2.2.1), (15, .int .i64 o31), (16, .int .i64 o32)] [eBox b2 27 [.int .u8 p0.System, .int .i64 p0.N.Num, .int .i64 p0.N.Den], eBox b3 27 [.int .u8 0, .int .i64 0, .int .i64 0]] []) ?_ (fun a w hI => ?_)
        · obtain ⟨t36, h, g37⟩ := bindSome h
          refine sCut (fun a w => ∃ o35, o35 = t36 ∧ St [] E [] w0 116 a w [(1, .int .u8 p1), (2, .pointer (some ⟨b2, 0, none⟩)), (4, .pointer (some ⟨b3, 0, none⟩)), (7, .int .i64 r12.1), (8, .int .i64 r12.2.1), (9, .bool r12.2.2.1), (11, .int .i64 r15.1), (12, .int .i64 r15.2.1), (13, .bool r15.2.2.1), (15, .int .i64 o22), (16, .int .i64 o23), (63, .bool o35)] [eBox b2 27 [.int .u8 p0.System, .int .i64 p0.N.Num, .int .i64 p0.N.Den], eBox b3 27 [.int .u8 0, .int .i64 0, .int .i64 0]] []) ?_ (fun a w hI => ?_)
          · refine sRegion ?_
            refine sMove (.bool r12.2.2.1) S (wN rfl) (.inl rfl) (by kernel_rfl) rfl (by decide) (fun a S => ?_)
            refine sMove (.bool r12.2.2.1) S (wN rfl) (.inl rfl) (by kernel_rfl) rfl (by decide) (fun a S => ?_)
            rcases iteSome h with ⟨hc38, h⟩ | ⟨hc38, h⟩
            · refine sMove (.bool r15.2.2.1) S (wG (c := r12.2.2.1) 1 true 60 rfl rfl (by kernel_rfl) hc38) (.inl rfl) (by kernel_rfl) rfl (by decide) (fun a S => ?_)
              refine sNot (b := r15.2.2.1) S (wG (c := r12.2.2.1) 1 true 60 rfl rfl (by kernel_rfl) hc38) rfl (by kernel_rfl) rfl (by decide) (fun a S => ?_)
              refine sPickT (b := r12.2.2.1) (.bool (!r15.2.2.1)) S (wN rfl) rfl (by kernel_rfl) hc38 (by kernel_rfl) rfl (by decide) (fun a S => ?_)
              exact leafL (leafT (⟨!r15.2.2.1, Option.some.inj h, S.fix [0, 1] [] (by decide) (by kernel_rfl) (by kernel_rfl) (by kernel_rfl)⟩))
            · refine sSkip (c := r12.2.2.1) 1 true 60 61 S rfl rfl (by kernel_rfl) hc38 rfl (by decide) (fun a S => ?_)
              refine sSkip (c := r12.2.2.1) 1 true 60 62 S rfl rfl (by kernel_rfl) hc38 rfl (by decide) (fun a S => ?_)
              refine sPickF (b := r12.2.2.1) (.bool false) S (wN rfl) rfl (by kernel_rfl) hc38 (by kernel_rfl) rfl (by decide) (fun a S => ?_)
              exact leafL (leafT (⟨false, Option.some.inj h, S.fix [0, 1] [] (by decide) (by kernel_rfl) (by kernel_rfl) (by kernel_rfl)⟩))
          · obtain ⟨o35, rfl, S⟩ := hI
            have h := g37
            clear g37
            try dsimp only at h
            rcases iteSome h with ⟨hc39, h⟩ | ⟨hc39, h⟩
            · refine sCondT (b := o35) S (by kernel_rfl) hc39 ?_
              refine sRegion ?_
              refine sMove (.int .i64 r15.1) S (wN rfl) (.inl rfl) (by kernel_rfl) rfl (by decide) (fun a S => ?_)
              refine sMove (.int .i64 r12.2.1) S (wN rfl) (.inl rfl) (by kernel_rfl) rfl (by decide) (fun a S => ?_)
              refine sBin (.int .i64 (w64 (r15.1 * r12.2.1))) S (wN rfl) rfl (by kernel_rfl) (by kernel_rfl) (bMul _ _ _ _ r15.1 r12.2.1) rfl (by decide) (fun a S => ?_)
              refine sMove (.int .i64 r15.2.1) S (wN rfl) (.inl rfl) (by kernel_rfl) rfl (by decide) (fun a S => ?_)
              refine sMove (.int .i64 r12.1) S (wN rfl) (.inl rfl) (by kernel_rfl) rfl (by decide) (fun a S => ?_)
              refine sBin (.int .i64 (w64 (r15.2.1 * r12.1))) S (wN rfl) rfl (by kernel_rfl) (by kernel_rfl) (bMul _ _ _ _ r15.2.1 r12.1) rfl (by decide) (fun a S => ?_)
              refine sMove (.int .i64 (w64 (r15.1 * r12.2.1))) S (wN rfl) (.inr rfl) (by kernel_rfl) rfl (by decide) (fun a S => ?_)
              refine sMove (.int .i64 (w64 (r15.2.1 * r12.1))) S (wN rfl) (.inr rfl) (by kernel_rfl) rfl (by decide) (fun a S => ?_)
              exact leafL (leafT (⟨w64 (r15.1 * r12.2.1), w64 (r15.2.1 * r12.1), Option.some.inj h, S.fix [0, 1] [] (by decide) (by kernel_rfl) (by kernel_rfl) (by kernel_rfl)⟩))
            · refine sCondF (b := o35) S (by kernel_rfl) hc39 ?_
              exact wp_skip (leafT (⟨o22, o23, Option.some.inj h, S.fix [0, 1] [] (by decide) (by kernel_rfl) (by kernel_rfl) (by kernel_rfl)⟩))
        · obtain ⟨o31, o32, rfl, S⟩ := hI
          have h := g34
          clear g34
          try dsimp only at h
          refine sSeq (fun K40 hK40 => ?_)
          refine sRegion ?_
          refine sMove (.int .i64 o31) S (wN rfl) (.inl rfl) (by kernel_rfl) rfl (by decide) (fun a S => ?_)
          refine sConv (k := .i64) (k2 := .u64) (b := o31) S (wN rfl) rfl Try.underlying2 Try.underlying144 (by kernel_rfl) rfl (by decide) (fun a S => ?_)
          refine sMove (.int .i64 o32) S (wN rfl) (.inl rfl) (by kernel_rfl) rfl (by decide) (fun a S => ?_)
          refine sConv (k := .i64) (k2 := .u64) (b := o32) S (wN rfl) rfl Try.underlying2 Try.underlying144 (by kernel_rfl) rfl (by decide) (fun a S => ?_)
          obtain ⟨r41, hx42, h⟩ := bindSome h
          have S1 := S.mem
          refine sCallQ (X := Unit) (f := 81) (vs := [.int .u64 (IntKind.u64.wrap o31), .int .u64 (IntKind.u64.wrap o32)]) (val := fun _ => .int .u64 r41) S (wN rfl) rfl callee81 (by kernel_rfl) (S1.quiet [] (by kernel_rfl)) (fun E1 w1 S1 => c_yarn_gcd E1 w1 (IntKind.u64.wrap o31) (IntKind.u64.wrap o32) r41 hx42 S1) rfl (by decide) (fun _ a w S => ?_)
          refine sConv (k := .u64) (k2 := .i64) (b := r41) S (wN rfl) rfl Try.underlying144 Try.underlying2 (by kernel_rfl) rfl (by decide) (fun a S => ?_)
          refine sMove (.int .i64 (IntKind.i64.wrap r41)) S (wN rfl) (.inr rfl) (by kernel_rfl) rfl (by decide) (fun a S => ?_)
          refine leafL (leafT (hK40 _ _ ?_))
          refine sSeq (fun K43 hK43 => ?_)
          obtain ⟨z44, hx45, h⟩ := bindSome h
          obtain ⟨z46, hx47, h⟩ := bindSome h
          refine sDraw (nf := []) (W := [(0, 76, .int .i64 o31), (1, 77, .int .i64 (IntKind.i64.wrap r41)), (2, 78, .int .i64 z44), (3, 79, .int .i64 o32), (4, 80, .int .i64 (IntKind.i64.wrap r41)), (5, 81, .int .i64 z46), (6, 15, .int .i64 z44), (7, 16, .int .i64 z46)]) (by kernel_rfl) S ?_
          refine node_by (A := anc_yarn_Convert_0) (nf := []) (Y := []) (W := [(0, 76, .int .i64 o31), (1, 77, .int .i64 (IntKind.i64.wrap r41)), (2, 78, .int .i64 z44), (3, 79, .int .i64 o32), (4, 80, .int .i64 (IntKind.i64.wrap r41)), (5, 81, .int .i64 z46), (6, 15, .int .i64 z44), (7, 16, .int .i64 z46)]) 8 (by kernel_rfl) (by kernel_rfl) (by kernel_rfl) (by kernel_rfl) (by kernel_rfl) [0, 1, 2, 3, 4, 5, 6, 7] (by kernel_rfl) (by decide) (by decide) (aF 0 7 (by decide) ?_ (aF 1 6 (by decide) ?_ (aF 2 5 (by decide) ?_ (aF 3 4 (by decide) ?_ (aF 4 3 (by decide) ?_ (aF 5 2 (by decide) ?_ (aF 6 1 (by decide) ?_ (aF 7 0 (by decide) ?_ (trivial))))))))) [(1, .int .u8 p1), (2, .pointer (some ⟨b2, 0, none⟩)), (4, .pointer (some ⟨b3, 0, none⟩)), (9, .bool r12.2.2.1), (13, .bool r15.2.2.1), (15, .int .i64 z44), (16, .int .i64 z46)] (fin_of [none, none, none, none, none, some 6, some 7] rfl (by kernel_rfl) (by kernel_rfl)) (fun _ a w S => ?_)
          · refine fI 76 (.int .i64 o31) [(15, .int .i64 o31)] 0 [none] rfl rfl (by kernel_rfl) rfl (by kernel_rfl) (by kernel_rfl) fun G a w S => ?_
            refine sMove (.int .i64 o31) S (wN rfl) (.inl rfl) (by kernel_rfl) rfl (by decide) (fun a S => ?_)
            exact leafL ⟨rfl, S⟩
          · refine fI 77 (.int .i64 (IntKind.i64.wrap r41)) [(17, .int .i64 (IntKind.i64.wrap r41))] 1 [none] rfl rfl (by kernel_rfl) rfl (by kernel_rfl) (by kernel_rfl) fun G a w S => ?_
            refine sMove (.int .i64 (IntKind.i64.wrap r41)) S (wN rfl) (.inl rfl) (by kernel_rfl) rfl (by decide) (fun a S => ?_)
            exact leafL ⟨rfl, S⟩
          · refine fI 78 (.int .i64 z44) [(76, .int .i64 o31), (77, .int .i64 (IntKind.i64.wrap r41))] 2 [some 0, some 1] rfl rfl (by kernel_rfl) rfl (by kernel_rfl) (by kernel_rfl) fun G a w S => ?_
            refine sBin (.int .i64 z44) S (wN rfl) rfl (by kernel_rfl) (by kernel_rfl) (bQuo _ _ _ _ (x := o31) (y := IntKind.i64.wrap r41) hx45) rfl (by decide) (fun a S => ?_)
            exact leafL ⟨rfl, S⟩
          · refine fI 79 (.int .i64 o32) [(16, .int .i64 o32)] 3 [none] rfl rfl (by kernel_rfl) rfl (by kernel_rfl) (by kernel_rfl) fun G a w S => ?_
            refine sMove (.int .i64 o32) S (wN rfl) (.inl rfl) (by kernel_rfl) rfl (by decide) (fun a S => ?_)
            exact leafL ⟨rfl, S⟩
          · refine fI 80 (.int .i64 (IntKind.i64.wrap r41)) [(17, .int .i64 (IntKind.i64.wrap r41))] 4 [none] rfl rfl (by kernel_rfl) rfl (by kernel_rfl) (by kernel_rfl) fun G a w S => ?_
            refine sMove (.int .i64 (IntKind.i64.wrap r41)) S (wN rfl) (.inl rfl) (by kernel_rfl) rfl (by decide) (fun a S => ?_)
            exact leafL ⟨rfl, S⟩
          · refine fI 81 (.int .i64 z46) [(79, .int .i64 o32), (80, .int .i64 (IntKind.i64.wrap r41))] 5 [some 3, some 4] rfl rfl (by kernel_rfl) rfl (by kernel_rfl) (by kernel_rfl) fun G a w S => ?_
            refine sBin (.int .i64 z46) S (wN rfl) rfl (by kernel_rfl) (by kernel_rfl) (bQuo _ _ _ _ (x := o32) (y := IntKind.i64.wrap r41) hx47) rfl (by decide) (fun a S => ?_)
            exact leafL ⟨rfl, S⟩
          · refine fI 15 (.int .i64 z44) [(78, .int .i64 z44)] 6 [some 2] rfl rfl (by kernel_rfl) rfl (by kernel_rfl) (by kernel_rfl) fun G a w S => ?_
            refine sMove (.int .i64 z44) S (wN rfl) (.inr rfl) (by kernel_rfl) rfl (by decide) (fun a S => ?_)
            exact leafL ⟨rfl, S⟩
          · refine fI 16 (.int .i64 z46) [(81, .int .i64 z46)] 7 [some 5] rfl rfl (by kernel_rfl) rfl (by kernel_rfl) (by kernel_rfl) fun G a w S => ?_
            refine sMove (.int .i64 z46) S (wN rfl) (.inr rfl) (by kernel_rfl) rfl (by decide) (fun a S => ?_)
            exact leafL ⟨rfl, S⟩
          · refine leafT (hK43 _ _ ?_)
            refine sSeq (fun K48 hK48 => ?_)
            refine sRegion ?_
            refine sField (b := b2) (off := 0) 1 1 S (wN rfl) rfl (by kernel_rfl) (by kernel_rfl) rfl rfl (by decide) (fun a S => ?_)
            refine sLoadN (p := b2) (off := 1) (T := 27) (vs := [.int .u8 p0.System, .int .i64 p0.N.Num, .int .i64 p0.N.Den]) 0 [.int .i64 p0.N.Num, .int .i64 p0.N.Den] S (wN rfl) rfl (by kernel_rfl) (by kernel_rfl) (by kernel_rfl) (by kernel_rfl) rfl rfl (by decide) (fun a S => ?_)
            refine sAlloc (.agg #[.int .i64 0, .int .i64 0]) S (wN rfl) rfl (by kernel_rfl) [.int .i64 0, .int .i64 0] rfl rfl (by decide) (fun a b49 w S => ?_)
            refine sStore (p := b49) (off := 0) (T := 25) (vs := [.int .i64 0, .int .i64 0]) (v := .agg #[.int .i64 p0.N.Num, .int .i64 p0.N.Den]) 0 [.int .i64 p0.N.Num, .int .i64 p0.N.Den] S (wN rfl) rfl (by kernel_rfl) (by kernel_rfl) rfl (by kernel_rfl) (by kernel_rfl) rfl (by simp) rfl (fun a w S => ?_)
            refine leafL (leafT (hK48 _ _ ?_))
            obtain ⟨t52, h, g53⟩ := bindSome h
            refine sCut (fun a w => ∃ o50, ∃ o51, (o50, o51) = t52 ∧ St [] E [] w0 116 a w [(1, .int .u8 p1), (4, .pointer (some ⟨b3, 0, none⟩)), (15, .int .i64 z44), (16, .int .i64 z46), (18, .pointer (some ⟨b49, 0, none⟩))] [eBox b3 27 [.int .u8 0, .int .i64 0, .int .i64 0], eBox b49 25 [.int .i64 o50, .int .i64 o51]] []) ?_ (fun a w hI => ?_)
            · refine sSeq (fun K54 hK54 => ?_)
              refine sRegion ?_
              refine sMove (.bool r12.2.2.1) S (wN rfl) (.inl rfl) (by kernel_rfl) rfl (by decide) (fun a S => ?_)
              refine sMove (.bool r15.2.2.1) S (wN rfl) (.inl rfl) (by kernel_rfl) rfl (by decide) (fun a S => ?_)
              refine sBin (.bool (r12.2.2.1 != r15.2.2.1)) S (wN rfl) rfl (by kernel_rfl) (by kernel_rfl) (bNeB _ _ _ _ Try.underlying4 r12.2.2.1 r15.2.2.1) rfl (by decide) (fun a S => ?_)
              refine leafL (leafT (hK54 _ _ ?_))
              rcases iteSome h with ⟨hc55, h⟩ | ⟨hc55, h⟩
              · refine sCondT (b := r12.2.2.1 != r15.2.2.1) S (by kernel_rfl) hc55 ?_
                refine sRegion ?_
                refine sField (b := b49) (off := 0) 1 1 S (wN rfl) rfl (by kernel_rfl) (by kernel_rfl) rfl rfl (by decide) (fun a S => ?_)
                refine sLoad1 (p := b49) (off := 1) (T := 25) (vs := [.int .i64 p0.N.Num, .int .i64 p0.N.Den]) 0 (.int .i64 p0.N.Den) S (wN rfl) rfl (by kernel_rfl) (by kernel_rfl) (by kernel_rfl) rfl rfl (by decide) (fun a S => ?_)
                refine sField (b := b49) (off := 0) 0 0 S (wN rfl) rfl (by kernel_rfl) (by kernel_rfl) rfl rfl (by decide) (fun a S => ?_)
                refine sLoad1 (p := b49) (off := 0) (T := 25) (vs := [.int .i64 p0.N.Num, .int .i64 p0.N.Den]) 0 (.int .i64 p0.N.Num) S (wN rfl) rfl (by kernel_rfl) (by kernel_rfl) (by kernel_rfl) rfl rfl (by decide) (fun a S => ?_)
                refine sField (b := b49) (off := 0) 0 0 S (wN rfl) rfl (by kernel_rfl) (by kernel_rfl) rfl rfl (by decide) (fun a S => ?_)
                refine sStore (p := b49) (off := 0) (T := 25) (vs := [.int .i64 p0.N.Num, .int .i64 p0.N.Den]) (v := .int .i64 p0.N.Den) 0 [.int .i64 p0.N.Den] S (wN rfl) rfl (by kernel_rfl) (by kernel_rfl) rfl (by kernel_rfl) (by kernel_rfl) rfl (by simp) rfl (fun a w S => ?_)
                refine sField (b := b49) (off := 0) 1 1 S (wN rfl) rfl (by kernel_rfl) (by kernel_rfl) rfl rfl (by decide) (fun a S => ?_)
                refine sStore (p := b49) (off := 1) (T := 25) (vs := [.int .i64 p0.N.Den, .int .i64 p0.N.Den]) (v := .int .i64 p0.N.Num) 0 [.int .i64 p0.N.Num] S (wN rfl) rfl (by kernel_rfl) (by kernel_rfl) rfl (by kernel_rfl) (by kernel_rfl) rfl (by simp) rfl (fun a w S => ?_)
                exact leafL (leafT (⟨p0.N.Den, p0.N.Num, Option.some.inj h, S.fix [2, 0] [] (by decide) (by kernel_rfl) (by kernel_rfl) (by kernel_rfl)⟩))
              · refine sCondF (b := r12.2.2.1 != r15.2.2.1) S (by kernel_rfl) hc55 ?_
                exact wp_skip (leafT (⟨p0.N.Num, p0.N.Den, Option.some.inj h, S.fix [2, 0] [] (by decide) (by kernel_rfl) (by kernel_rfl) (by kernel_rfl)⟩))
            · obtain ⟨o50, o51, rfl, S⟩ := hI
              have h := g53
              clear g53
              try dsimp only at h
              refine sSeq (fun K56 hK56 => ?_)
              refine sRegion ?_
              refine sMove (.int .i64 z44) S (wN rfl) (.inl rfl) (by kernel_rfl) rfl (by decide) (fun a S => ?_)
              refine sField (b := b49) (off := 0) 0 0 S (wN rfl) rfl (by kernel_rfl) (by kernel_rfl) rfl rfl (by decide) (fun a S => ?_)
              refine sLoad1 (p := b49) (off := 0) (T := 25) (vs := [.int .i64 o50, .int .i64 o51]) 1 (.int .i64 o50) S (wN rfl) rfl (by kernel_rfl) (by kernel_rfl) (by kernel_rfl) rfl rfl (by decide) (fun a S => ?_)
              refine sBin (.int .i64 (w64 (z44 * o50))) S (wN rfl) rfl (by kernel_rfl) (by kernel_rfl) (bMul _ _ _ _ z44 o50) rfl (by decide) (fun a S => ?_)
              refine sMove (.int .i64 z46) S (wN rfl) (.inl rfl) (by kernel_rfl) rfl (by decide) (fun a S => ?_)
              refine sField (b := b49) (off := 0) 1 1 S (wN rfl) rfl (by kernel_rfl) (by kernel_rfl) rfl rfl (by decide) (fun a S => ?_)
              refine sLoad1 (p := b49) (off := 1) (T := 25) (vs := [.int .i64 o50, .int .i64 o51]) 1 (.int .i64 o51) S (wN rfl) rfl (by kernel_rfl) (by kernel_rfl) (by kernel_rfl) rfl rfl (by decide) (fun a S => ?_)
              refine sBin (.int .i64 (w64 (z46 * o51))) S (wN rfl) rfl (by kernel_rfl) (by kernel_rfl) (bMul _ _ _ _ z46 o51) rfl (by decide) (fun a S => ?_)
              obtain ⟨r57, hx58, h⟩ := bindSome h
              refine sCall (X := Value) (f := 60) (vs := [.int .i64 (w64 (z44 * o50)), .int .i64 (w64 (z46 * o51))]) (val := c_yarn_Make_val r57) (B' := fun _ => []) (D' := c_yarn_Make_D r57) [] [eBox b3 27 [.int .u8 0, .int .i64 0, .int .i64 0], eBox b49 25 [.int .i64 o50, .int .i64 o51]] [] [0, 1] [] S (wN rfl) rfl callee60 (by kernel_rfl) (by decide) (by kernel_rfl) (by kernel_rfl) (fun E1 w1 S1 => c_yarn_Make E1 w1 (w64 (z44 * o50)) (w64 (z46 * o51)) r57 hx58 S1) rfl (by decide) (fun u59 a w S => ?_)
              obtain rfl : u59 = .agg #[.int .i64 r57.1.Num, .int .i64 r57.1.Den] := S.mem.know (i := 0) (e := fRep r_api_Ratio (u59) r57.1) (by kernel_rfl)
              refine sMove (.tuple #[.agg #[.int .i64 r57.1.Num, .int .i64 r57.1.Den], .int .i64 r57.2]) S (wN rfl) (.inl rfl) (by kernel_rfl) rfl (by decide) (fun a S => ?_)
              refine sExtract (vs := [.agg #[.int .i64 r57.1.Num, .int .i64 r57.1.Den], .int .i64 r57.2]) (.agg #[.int .i64 r57.1.Num, .int .i64 r57.1.Den]) S (wN rfl) rfl (by kernel_rfl) rfl rfl (by decide) (fun a S => ?_)
              refine sExtract (vs := [.agg #[.int .i64 r57.1.Num, .int .i64 r57.1.Den], .int .i64 r57.2]) (.int .i64 r57.2) S (wN rfl) rfl (by kernel_rfl) rfl rfl (by decide) (fun a S => ?_)
              refine sAlloc (.agg #[.int .i64 0, .int .i64 0]) S (wN rfl) rfl (by kernel_rfl) [.int .i64 0, .int .i64 0] rfl rfl (by decide) (fun a b60 w S => ?_)
              refine sStore (p := b60) (off := 0) (T := 25) (vs := [.int .i64 0, .int .i64 0]) (v := .agg #[.int .i64 r57.1.Num, .int .i64 r57.1.Den]) 0 [.int .i64 r57.1.Num, .int .i64 r57.1.Den] S (wN rfl) rfl (by kernel_rfl) (by kernel_rfl) rfl (by kernel_rfl) (by kernel_rfl) rfl (by simp) rfl (fun a w S => ?_)
              refine sMove (.int .i64 r57.2) S (wN rfl) (.inr rfl) (by kernel_rfl) rfl (by decide) (fun a S => ?_)
              refine leafL (leafT (hK56 _ _ ?_))
              refine sSeq (fun K61 hK61 => ?_)
              refine sSeq (fun K62 hK62 => ?_)
              refine sRegion ?_
              refine sMove (.int .i64 r57.2) S (wN rfl) (.inl rfl) (by kernel_rfl) rfl (by decide) (fun a S => ?_)
              refine sBin (.bool (r57.2 != 0)) S (wN rfl) rfl (by kernel_rfl) (by kernel_rfl) (bNe _ _ _ _ .i64 r57.2 0) rfl (by decide) (fun a S => ?_)
              refine leafL (leafT (hK62 _ _ ?_))
              rcases iteSome h with ⟨hc63, h⟩ | ⟨hc63, h⟩
              · refine sCondT (b := r57.2 != 0) S (by kernel_rfl) hc63 ?_
                refine sSeq (fun K64 hK64 => ?_)
                refine sRegion ?_
                refine sBuild [] [.int .u8 0, .int .i64 0, .int .i64 0] S (wN rfl) rfl (by kernel_rfl) (by kernel_rfl) rfl (by decide) (fun a S => ?_)
                refine sMove (.int .i64 r57.2) S (wN rfl) (.inl rfl) (by kernel_rfl) rfl (by decide) (fun a S => ?_)
                refine sStore (p := b3) (off := 0) (T := 27) (vs := [.int .u8 0, .int .i64 0, .int .i64 0]) (v := .agg #[.int .u8 0, .int .i64 0, .int .i64 0]) 1 [.int .u8 0, .int .i64 0, .int .i64 0] S (wN rfl) rfl (by kernel_rfl) (by kernel_rfl) rfl (by kernel_rfl) (by kernel_rfl) rfl (by simp) rfl (fun a w S => ?_)
                refine sMove (.int .i64 r57.2) S (wN rfl) (.inr rfl) (by kernel_rfl) rfl (by decide) (fun a S => ?_)
                refine leafL (leafT (hK64 _ _ ?_))
                obtain rfl := Option.some.inj h
                have S := S.learn (fRep r_api_Count (.agg #[.int .u8 0, .int .i64 0, .int .i64 0]) (api_Count.mk 0 (api_Ratio.mk 0 0))) rfl
                exact wp_ret (rThen (sRet (.tuple #[.agg #[.int .u8 0, .int .i64 0, .int .i64 0], .int .i64 r57.2]) S (rsl2 rfl (rvN (c := 4) (t := 27) (T := 27) (p := b3) 0 [.int .u8 0, .int .i64 0, .int .i64 0] S (by kernel_rfl) (by kernel_rfl) (by kernel_rfl) (by kernel_rfl)) (rvT (t := 5) (v := .int .i64 r57.2) S (by kernel_rfl))) ⟨(.agg #[.int .u8 0, .int .i64 0, .int .i64 0]), rfl, S.mem.sel [] [0] (by decide) (by kernel_rfl) (by kernel_rfl)⟩))
              · refine sCondF (b := r57.2 != 0) S (by kernel_rfl) hc63 ?_
                refine wp_skip (leafT (hK61 _ _ ?_))
                refine sSeq (fun K65 hK65 => ?_)
                refine sSeq (fun K66 hK66 => ?_)
                refine sRegion ?_
                refine sField (b := b60) (off := 0) 0 0 S (wN rfl) rfl (by kernel_rfl) (by kernel_rfl) rfl rfl (by decide) (fun a S => ?_)
                refine sLoad1 (p := b60) (off := 0) (T := 25) (vs := [.int .i64 r57.1.Num, .int .i64 r57.1.Den]) 0 (.int .i64 r57.1.Num) S (wN rfl) rfl (by kernel_rfl) (by kernel_rfl) (by kernel_rfl) rfl rfl (by decide) (fun a S => ?_)
                refine sBin (.bool (r57.1.Num == 0)) S (wN rfl) rfl (by kernel_rfl) (by kernel_rfl) (bEq _ _ _ _ .i64 r57.1.Num 0) rfl (by decide) (fun a S => ?_)
                refine leafL (leafT (hK66 _ _ ?_))
                rcases iteSome h with ⟨hc67, h⟩ | ⟨hc67, h⟩
                · refine sCondT (b := r57.1.Num == 0) S (by kernel_rfl) hc67 ?_
                  refine sSeq (fun K68 hK68 => ?_)
                  refine sRegion ?_
                  refine sBuild [] [.int .u8 0, .int .i64 0, .int .i64 0] S (wN rfl) rfl (by kernel_rfl) (by kernel_rfl) rfl (by decide) (fun a S => ?_)
                  refine sStore (p := b3) (off := 0) (T := 27) (vs := [.int .u8 0, .int .i64 0, .int .i64 0]) (v := .agg #[.int .u8 0, .int .i64 0, .int .i64 0]) 1 [.int .u8 0, .int .i64 0, .int .i64 0] S (wN rfl) rfl (by kernel_rfl) (by kernel_rfl) rfl (by kernel_rfl) (by kernel_rfl) rfl (by simp) rfl (fun a w S => ?_)
                  refine sMove (.int .i64 16) S (wN rfl) (.inr rfl) (by kernel_rfl) rfl (by decide) (fun a S => ?_)
                  refine leafL (leafT (hK68 _ _ ?_))
                  obtain rfl := Option.some.inj h
                  have S := S.learn (fRep r_api_Count (.agg #[.int .u8 0, .int .i64 0, .int .i64 0]) (api_Count.mk 0 (api_Ratio.mk 0 0))) rfl
                  exact wp_ret (rThen (sRet (.tuple #[.agg #[.int .u8 0, .int .i64 0, .int .i64 0], .int .i64 16]) S (rsl2 rfl (rvN (c := 4) (t := 27) (T := 27) (p := b3) 0 [.int .u8 0, .int .i64 0, .int .i64 0] S (by kernel_rfl) (by kernel_rfl) (by kernel_rfl) (by kernel_rfl)) (rvT (t := 5) (v := .int .i64 16) S (by kernel_rfl))) ⟨(.agg #[.int .u8 0, .int .i64 0, .int .i64 0]), rfl, S.mem.sel [] [0] (by decide) (by kernel_rfl) (by kernel_rfl)⟩))
                · refine sCondF (b := r57.1.Num == 0) S (by kernel_rfl) hc67 ?_
                  refine wp_skip (leafT (hK65 _ _ ?_))
                  refine sSeq (fun K69 hK69 => ?_)
                  refine sRegion ?_
                  refine sMove (.int .u8 p1) S (wN rfl) (.inl rfl) (by kernel_rfl) rfl (by decide) (fun a S => ?_)
                  refine sLoadN (p := b60) (off := 0) (T := 25) (vs := [.int .i64 r57.1.Num, .int .i64 r57.1.Den]) 0 [.int .i64 r57.1.Num, .int .i64 r57.1.Den] S (wN rfl) rfl (by kernel_rfl) (by kernel_rfl) (by kernel_rfl) (by kernel_rfl) rfl rfl (by decide) (fun a S => ?_)
                  refine sBuild [(0, .int .u8 p1), (1, .agg #[.int .i64 r57.1.Num, .int .i64 r57.1.Den])] [.int .u8 p1, .int .i64 r57.1.Num, .int .i64 r57.1.Den] S (wN rfl) rfl (by kernel_rfl) (by kernel_rfl) rfl (by decide) (fun a S => ?_)
                  refine sStore (p := b3) (off := 0) (T := 27) (vs := [.int .u8 0, .int .i64 0, .int .i64 0]) (v := .agg #[.int .u8 p1, .int .i64 r57.1.Num, .int .i64 r57.1.Den]) 1 [.int .u8 p1, .int .i64 r57.1.Num, .int .i64 r57.1.Den] S (wN rfl) rfl (by kernel_rfl) (by kernel_rfl) rfl (by kernel_rfl) (by kernel_rfl) rfl (by simp) rfl (fun a w S => ?_)
                  refine sMove (.int .i64 0) S (wN rfl) (.inr rfl) (by kernel_rfl) rfl (by decide) (fun a S => ?_)
                  refine leafL (leafT (hK69 _ _ ?_))
                  obtain rfl := Option.some.inj h
                  have S := S.learn (fRep r_api_Count (.agg #[.int .u8 p1, .int .i64 r57.1.Num, .int .i64 r57.1.Den]) (api_Count.mk p1 r57.1)) rfl
                  exact wp_ret (sRet (.tuple #[.agg #[.int .u8 p1, .int .i64 r57.1.Num, .int .i64 r57.1.Den], .int .i64 0]) S (rsl2 rfl (rvN (c := 4) (t := 27) (T := 27) (p := b3) 0 [.int .u8 p1, .int .i64 r57.1.Num, .int .i64 r57.1.Den] S (by kernel_rfl) (by kernel_rfl) (by kernel_rfl) (by kernel_rfl)) (rvT (t := 5) (v := .int .i64 0) S (by kernel_rfl))) ⟨(.agg #[.int .u8 p1, .int .i64 r57.1.Num, .int .i64 r57.1.Den]), rfl, S.mem.sel [] [0] (by decide) (by kernel_rfl) (by kernel_rfl)⟩)

end Go.Proofs.Ytdbgkakmhlmpbaa
