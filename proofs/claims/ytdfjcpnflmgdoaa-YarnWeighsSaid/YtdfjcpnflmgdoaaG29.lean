import Derived.Test.YtdfjcpnflmgdoaaGTy
import Derived.Test.YtdfjcpnflmgdoaaG23
import Derived.Test.YtdfjcpnflmgdoaaG38
import Derived.Test.YtdfjcpnflmgdoaaG46
import Derived.Test.YtdfjcpnflmgdoaaG48
namespace Go.Proofs.Ytdfjcpnflmgdoaa
open Go.RowKit
set_option linter.unusedVariables false

def anc_yarn_Reach_0 : List (List Nat) := [[], [], [0, 1], [], [3], [3, 4], [], [3, 4, 5, 6], [0, 1, 2], [0, 1, 2, 3, 4, 5, 6, 7, 8]]
noncomputable def F_yarn_Reach (p0 : api_Count) (p1 : Int) : Option (api_Ratio × Int) :=
  Option.bind (F_yarn_counted p0) fun r6 =>
  if r6 != 0 then
    some ((api_Ratio.mk 0 0), r6)
  else
    Option.bind (α := Bool) (
      if decide (p1 < 0) then
        some true
      else
        some (decide (1000000000 < p1))) fun o12 =>
    if o12 then
      some ((api_Ratio.mk 0 0), 2)
    else
      Option.bind (F_yarn_Convert p0 1) fun r19 =>
      if r19.2 != 0 then
        some ((api_Ratio.mk 0 0), r19.2)
      else
        Option.bind (F_yarn_gcd (IntKind.u64.wrap (w64 (p1 * 10000))) (IntKind.u64.wrap r19.1.N.Num)) fun r29 =>
        Option.bind (quoI (w64 (p1 * 10000)) (IntKind.i64.wrap r29)) fun z32 =>
        Option.bind (quoI r19.1.N.Num (IntKind.i64.wrap r29)) fun z34 =>
        Option.bind (quoI 1000000000 r19.1.N.Den) fun z38 =>
        if decide (z38 < z32) then
          some ((api_Ratio.mk 0 0), 16)
        else
          Option.bind (F_yarn_Make (w64 (z32 * r19.1.N.Den)) z34) fun r43 =>
          some (r43.1, r43.2)
def c_yarn_Reach_val (r : (api_Ratio × Int)) (x : Value) : Value := .tuple #[x, .int .i64 r.2]
def c_yarn_Reach_D (r : (api_Ratio × Int)) (x : Value) : List Fact := [fRep r_api_Ratio x r.1]
set_option maxHeartbeats 4000000 in
set_option maxRecDepth 100000 in
theorem c_yarn_Reach (E : Nat → Prop) (w0 : World) (p0 : api_Count) (v0 : Value) (p1 : Int) (r : (api_Ratio × Int)) (h : F_yarn_Reach p0 p1 = some r) (S : St0 E [] w0 w0 [] [fRep r_api_Count (v0) p0]) :
    Calls Try.prog 29 #[v0, .int .i64 p1] w0 (Ret (X := Value) E [] w0 (c_yarn_Reach_val r) (fun _ => []) (c_yarn_Reach_D r)) := by
  unfold F_yarn_Reach at h
  obtain rfl : v0 = .agg #[.int .u8 p0.System, .int .i64 p0.N.Num, .int .i64 p0.N.Den] := S.know (i := 0) (e := fRep r_api_Count (v0) p0) (by kernel_rfl)
  refine sEnter (args := [.agg #[.int .u8 p0.System, .int .i64 p0.N.Num, .int .i64 p0.N.Den], .int .i64 p1]) 68 Try.func29 rfl rfl (by simp) S (fun a S => ?_)
  refine sSeq (fun K1 hK1 => ?_)
  refine sRegion ?_
  refine sBox (v := .agg #[.int .u8 p0.System, .int .i64 p0.N.Num, .int .i64 p0.N.Den]) S (wN rfl) rfl (by kernel_rfl) [.int .u8 p0.System, .int .i64 p0.N.Num, .int .i64 p0.N.Den] rfl rfl (by decide) (fun a b2 w S => ?_)
  refine sAlloc (.agg #[.int .i64 0, .int .i64 0]) S (wN rfl) rfl (by kernel_rfl) [.int .i64 0, .int .i64 0] rfl rfl (by decide) (fun a b3 w S => ?_)
  refine sMove (.int .i64 0) S (wN rfl) (.inr rfl) (by kernel_rfl) rfl (by decide) (fun a S => ?_)
  refine leafL (leafT (hK1 _ _ ?_))
  refine sSeq (fun K4 hK4 => ?_)
  refine sSeq (fun K5 hK5 => ?_)
  refine sRegion ?_
  refine sLoadN (p := b2) (off := 0) (T := 41) (vs := [.int .u8 p0.System, .int .i64 p0.N.Num, .int .i64 p0.N.Den]) 1 [.int .u8 p0.System, .int .i64 p0.N.Num, .int .i64 p0.N.Den] S (wN rfl) rfl (by kernel_rfl) (by kernel_rfl) (by kernel_rfl) (by kernel_rfl) rfl rfl (by decide) (fun a S => ?_)
  obtain ⟨r6, hx7, h⟩ := bindSome h
  have S1 := S.mem
  refine sCallQ (X := Unit) (f := 46) (vs := [.agg #[.int .u8 p0.System, .int .i64 p0.N.Num, .int .i64 p0.N.Den]]) (val := fun _ => .int .i64 r6) S (wN rfl) rfl callee46 (by kernel_rfl) (S1.quiet [0] (by kernel_rfl)) (fun E1 w1 S1 => c_yarn_counted E1 w1 p0 (.agg #[.int .u8 p0.System, .int .i64 p0.N.Num, .int .i64 p0.N.Den]) r6 hx7 S1) rfl (by decide) (fun _ a w S => ?_)
  refine sMove (.int .i64 r6) S (wN rfl) (.inr rfl) (by kernel_rfl) rfl (by decide) (fun a S => ?_)
  refine leafL (leafT (hK5 _ _ ?_))
  refine sSeq (fun K8 hK8 => ?_)
  refine sRegion ?_
  refine sMove (.int .i64 r6) S (wN rfl) (.inl rfl) (by kernel_rfl) rfl (by decide) (fun a S => ?_)
  refine sBin (.bool (r6 != 0)) S (wN rfl) rfl (by kernel_rfl) (by kernel_rfl) (bNe _ _ _ _ .i64 r6 0) rfl (by decide) (fun a S => ?_)
  refine leafL (leafT (hK8 _ _ ?_))
  rcases iteSome h with ⟨hc9, h⟩ | ⟨hc9, h⟩
  · refine sCondT (b := r6 != 0) S (by kernel_rfl) hc9 ?_
    refine sSeq (fun K10 hK10 => ?_)
    refine sRegion ?_
    refine sBuild [] [.int .i64 0, .int .i64 0] S (wN rfl) rfl (by kernel_rfl) (by kernel_rfl) rfl (by decide) (fun a S => ?_)
    refine sMove (.int .i64 r6) S (wN rfl) (.inl rfl) (by kernel_rfl) rfl (by decide) (fun a S => ?_)
    refine sStore (p := b3) (off := 0) (T := 23) (vs := [.int .i64 0, .int .i64 0]) (v := .agg #[.int .i64 0, .int .i64 0]) 0 [.int .i64 0, .int .i64 0] S (wN rfl) rfl (by kernel_rfl) (by kernel_rfl) rfl (by kernel_rfl) (by kernel_rfl) rfl (by simp) rfl (fun a w S => ?_)
    refine sMove (.int .i64 r6) S (wN rfl) (.inr rfl) (by kernel_rfl) rfl (by decide) (fun a S => ?_)
    refine leafL (leafT (hK10 _ _ ?_))
    obtain rfl := Option.some.inj h
    have S := S.learn (fRep r_api_Ratio (.agg #[.int .i64 0, .int .i64 0]) (api_Ratio.mk 0 0)) rfl
    exact wp_ret (rThen (sRet (.tuple #[.agg #[.int .i64 0, .int .i64 0], .int .i64 r6]) S (rsl2 rfl (rvN (c := 4) (t := 23) (T := 23) (p := b3) 0 [.int .i64 0, .int .i64 0] S (by kernel_rfl) (by kernel_rfl) (by kernel_rfl) (by kernel_rfl)) (rvT (t := 5) (v := .int .i64 r6) S (by kernel_rfl))) ⟨(.agg #[.int .i64 0, .int .i64 0]), rfl, S.mem.sel [] [0] (by decide) (by kernel_rfl) (by kernel_rfl)⟩))
  · refine sCondF (b := r6 != 0) S (by kernel_rfl) hc9 ?_
    refine wp_skip (leafT (hK4 _ _ ?_))
    refine sSeq (fun K11 hK11 => ?_)
    obtain ⟨t13, h, g14⟩ := bindSome h
    refine sCut (fun a w => ∃ o12, o12 = t13 ∧ St E [] w0 68 a w [(1, .int .i64 p1), (2, .pointer (some ⟨b2, 0, none⟩)), (4, .pointer (some ⟨b3, 0, none⟩)), (23, .bool o12)] [eBox b2 41 [.int .u8 p0.System, .int .i64 p0.N.Num, .int .i64 p0.N.Den], eBox b3 23 [.int .i64 0, .int .i64 0]] []) ?_ (fun a w hI => ?_)
    · refine sRegion ?_
      refine sMove (.int .i64 p1) S (wN rfl) (.inl rfl) (by kernel_rfl) rfl (by decide) (fun a S => ?_)
      refine sBin (.bool (decide (p1 < 0))) S (wN rfl) rfl (by kernel_rfl) (by kernel_rfl) (bLt _ _ _ _ .i64 p1 0) rfl (by decide) (fun a S => ?_)
      refine sMove (.bool (decide (p1 < 0))) S (wN rfl) (.inl rfl) (by kernel_rfl) rfl (by decide) (fun a S => ?_)
      rcases iteSome h with ⟨hc15, h⟩ | ⟨hc15, h⟩
      · refine sSkip (c := decide (p1 < 0)) 2 false 20 21 S rfl rfl (by kernel_rfl) hc15 rfl (by decide) (fun a S => ?_)
        refine sSkip (c := decide (p1 < 0)) 2 false 20 22 S rfl rfl (by kernel_rfl) hc15 rfl (by decide) (fun a S => ?_)
        refine sPickT (b := decide (p1 < 0)) (.bool true) S (wN rfl) rfl (by kernel_rfl) hc15 (by kernel_rfl) rfl (by decide) (fun a S => ?_)
        exact leafL (leafT (⟨true, Option.some.inj h, S.fix [1, 0] [] (by decide) (by kernel_rfl) (by kernel_rfl) (by kernel_rfl)⟩))
      · refine sMove (.int .i64 p1) S (wG (c := decide (p1 < 0)) 2 false 20 rfl rfl (by kernel_rfl) hc15) (.inl rfl) (by kernel_rfl) rfl (by decide) (fun a S => ?_)
        refine sBin (.bool (decide (1000000000 < p1))) S (wG (c := decide (p1 < 0)) 2 false 20 rfl rfl (by kernel_rfl) hc15) rfl (by kernel_rfl) (by kernel_rfl) (bGt _ _ _ _ .i64 p1 1000000000) rfl (by decide) (fun a S => ?_)
        refine sPickF (b := decide (p1 < 0)) (.bool (decide (1000000000 < p1))) S (wN rfl) rfl (by kernel_rfl) hc15 (by kernel_rfl) rfl (by decide) (fun a S => ?_)
        exact leafL (leafT (⟨decide (1000000000 < p1), Option.some.inj h, S.fix [1, 0] [] (by decide) (by kernel_rfl) (by kernel_rfl) (by kernel_rfl)⟩))
    · obtain ⟨o12, rfl, S⟩ := hI
      have h := g14
      clear g14
      try dsimp only at h
      rcases iteSome h with ⟨hc16, h⟩ | ⟨hc16, h⟩
      · refine sCondT (b := o12) S (by kernel_rfl) hc16 ?_
        refine sSeq (fun K17 hK17 => ?_)
        refine sRegion ?_
        refine sBuild [] [.int .i64 0, .int .i64 0] S (wN rfl) rfl (by kernel_rfl) (by kernel_rfl) rfl (by decide) (fun a S => ?_)
        refine sStore (p := b3) (off := 0) (T := 23) (vs := [.int .i64 0, .int .i64 0]) (v := .agg #[.int .i64 0, .int .i64 0]) 1 [.int .i64 0, .int .i64 0] S (wN rfl) rfl (by kernel_rfl) (by kernel_rfl) rfl (by kernel_rfl) (by kernel_rfl) rfl (by simp) rfl (fun a w S => ?_)
        refine sMove (.int .i64 2) S (wN rfl) (.inr rfl) (by kernel_rfl) rfl (by decide) (fun a S => ?_)
        refine leafL (leafT (hK17 _ _ ?_))
        obtain rfl := Option.some.inj h
        have S := S.learn (fRep r_api_Ratio (.agg #[.int .i64 0, .int .i64 0]) (api_Ratio.mk 0 0)) rfl
        exact wp_ret (rThen (sRet (.tuple #[.agg #[.int .i64 0, .int .i64 0], .int .i64 2]) S (rsl2 rfl (rvN (c := 4) (t := 23) (T := 23) (p := b3) 0 [.int .i64 0, .int .i64 0] S (by kernel_rfl) (by kernel_rfl) (by kernel_rfl) (by kernel_rfl)) (rvT (t := 5) (v := .int .i64 2) S (by kernel_rfl))) ⟨(.agg #[.int .i64 0, .int .i64 0]), rfl, S.mem.sel [] [0] (by decide) (by kernel_rfl) (by kernel_rfl)⟩))
      · refine sCondF (b := o12) S (by kernel_rfl) hc16 ?_
        refine wp_skip (leafT (hK11 _ _ ?_))
        refine sSeq (fun K18 hK18 => ?_)
        refine sRegion ?_
        refine sLoadN (p := b2) (off := 0) (T := 41) (vs := [.int .u8 p0.System, .int .i64 p0.N.Num, .int .i64 p0.N.Den]) 0 [.int .u8 p0.System, .int .i64 p0.N.Num, .int .i64 p0.N.Den] S (wN rfl) rfl (by kernel_rfl) (by kernel_rfl) (by kernel_rfl) (by kernel_rfl) rfl rfl (by decide) (fun a S => ?_)
        obtain ⟨r19, hx20, h⟩ := bindSome h
        have S := S.learn (fRep r_api_Count (.agg #[.int .u8 p0.System, .int .i64 p0.N.Num, .int .i64 p0.N.Den]) p0) rfl
        refine sCall (X := Value) (f := 23) (vs := [.agg #[.int .u8 p0.System, .int .i64 p0.N.Num, .int .i64 p0.N.Den], .int .u8 1]) (val := c_yarn_Convert_val r19) (B' := fun _ => []) (D' := c_yarn_Convert_D r19) [] [eBox b2 41 [.int .u8 p0.System, .int .i64 p0.N.Num, .int .i64 p0.N.Den], eBox b3 23 [.int .i64 0, .int .i64 0]] [fRep r_api_Count (.agg #[.int .u8 p0.System, .int .i64 p0.N.Num, .int .i64 p0.N.Den]) p0] [0, 1] [0] S (wN rfl) rfl callee23 (by kernel_rfl) (by decide) (by kernel_rfl) (by kernel_rfl) (fun E1 w1 S1 => c_yarn_Convert E1 w1 p0 (.agg #[.int .u8 p0.System, .int .i64 p0.N.Num, .int .i64 p0.N.Den]) 1 r19 hx20 S1) rfl (by decide) (fun u21 a w S => ?_)
        obtain rfl : u21 = .agg #[.int .u8 r19.1.System, .int .i64 r19.1.N.Num, .int .i64 r19.1.N.Den] := S.mem.know (i := 0) (e := fRep r_api_Count (u21) r19.1) (by kernel_rfl)
        refine sMove (.tuple #[.agg #[.int .u8 r19.1.System, .int .i64 r19.1.N.Num, .int .i64 r19.1.N.Den], .int .i64 r19.2]) S (wN rfl) (.inl rfl) (by kernel_rfl) rfl (by decide) (fun a S => ?_)
        refine sExtract (vs := [.agg #[.int .u8 r19.1.System, .int .i64 r19.1.N.Num, .int .i64 r19.1.N.Den], .int .i64 r19.2]) (.agg #[.int .u8 r19.1.System, .int .i64 r19.1.N.Num, .int .i64 r19.1.N.Den]) S (wN rfl) rfl (by kernel_rfl) rfl rfl (by decide) (fun a S => ?_)
        refine sExtract (vs := [.agg #[.int .u8 r19.1.System, .int .i64 r19.1.N.Num, .int .i64 r19.1.N.Den], .int .i64 r19.2]) (.int .i64 r19.2) S (wN rfl) rfl (by kernel_rfl) rfl rfl (by decide) (fun a S => ?_)
        refine sAlloc (.agg #[.int .u8 0, .int .i64 0, .int .i64 0]) S (wN rfl) rfl (by kernel_rfl) [.int .u8 0, .int .i64 0, .int .i64 0] rfl rfl (by decide) (fun a b22 w S => ?_)
        refine sStore (p := b22) (off := 0) (T := 41) (vs := [.int .u8 0, .int .i64 0, .int .i64 0]) (v := .agg #[.int .u8 r19.1.System, .int .i64 r19.1.N.Num, .int .i64 r19.1.N.Den]) 0 [.int .u8 r19.1.System, .int .i64 r19.1.N.Num, .int .i64 r19.1.N.Den] S (wN rfl) rfl (by kernel_rfl) (by kernel_rfl) rfl (by kernel_rfl) (by kernel_rfl) rfl (by simp) rfl (fun a w S => ?_)
        refine sMove (.int .i64 r19.2) S (wN rfl) (.inr rfl) (by kernel_rfl) rfl (by decide) (fun a S => ?_)
        refine leafL (leafT (hK18 _ _ ?_))
        refine sSeq (fun K23 hK23 => ?_)
        refine sSeq (fun K24 hK24 => ?_)
        refine sRegion ?_
        refine sMove (.int .i64 r19.2) S (wN rfl) (.inl rfl) (by kernel_rfl) rfl (by decide) (fun a S => ?_)
        refine sBin (.bool (r19.2 != 0)) S (wN rfl) rfl (by kernel_rfl) (by kernel_rfl) (bNe _ _ _ _ .i64 r19.2 0) rfl (by decide) (fun a S => ?_)
        refine leafL (leafT (hK24 _ _ ?_))
        rcases iteSome h with ⟨hc25, h⟩ | ⟨hc25, h⟩
        · refine sCondT (b := r19.2 != 0) S (by kernel_rfl) hc25 ?_
          refine sSeq (fun K26 hK26 => ?_)
          refine sRegion ?_
          refine sBuild [] [.int .i64 0, .int .i64 0] S (wN rfl) rfl (by kernel_rfl) (by kernel_rfl) rfl (by decide) (fun a S => ?_)
          refine sMove (.int .i64 r19.2) S (wN rfl) (.inl rfl) (by kernel_rfl) rfl (by decide) (fun a S => ?_)
          refine sStore (p := b3) (off := 0) (T := 23) (vs := [.int .i64 0, .int .i64 0]) (v := .agg #[.int .i64 0, .int .i64 0]) 2 [.int .i64 0, .int .i64 0] S (wN rfl) rfl (by kernel_rfl) (by kernel_rfl) rfl (by kernel_rfl) (by kernel_rfl) rfl (by simp) rfl (fun a w S => ?_)
          refine sMove (.int .i64 r19.2) S (wN rfl) (.inr rfl) (by kernel_rfl) rfl (by decide) (fun a S => ?_)
          refine leafL (leafT (hK26 _ _ ?_))
          obtain rfl := Option.some.inj h
          have S := S.learn (fRep r_api_Ratio (.agg #[.int .i64 0, .int .i64 0]) (api_Ratio.mk 0 0)) rfl
          exact wp_ret (rThen (sRet (.tuple #[.agg #[.int .i64 0, .int .i64 0], .int .i64 r19.2]) S (rsl2 rfl (rvN (c := 4) (t := 23) (T := 23) (p := b3) 0 [.int .i64 0, .int .i64 0] S (by kernel_rfl) (by kernel_rfl) (by kernel_rfl) (by kernel_rfl)) (rvT (t := 5) (v := .int .i64 r19.2) S (by kernel_rfl))) ⟨(.agg #[.int .i64 0, .int .i64 0]), rfl, S.mem.sel [] [0] (by decide) (by kernel_rfl) (by kernel_rfl)⟩))
        · refine sCondF (b := r19.2 != 0) S (by kernel_rfl) hc25 ?_
          refine wp_skip (leafT (hK23 _ _ ?_))
          refine sSeq (fun K27 hK27 => ?_)
          refine sRegion ?_
          refine sMove (.int .i64 p1) S (wN rfl) (.inl rfl) (by kernel_rfl) rfl (by decide) (fun a S => ?_)
          refine sBin (.int .i64 (w64 (p1 * 10000))) S (wN rfl) rfl (by kernel_rfl) (by kernel_rfl) (bMul _ _ _ _ p1 10000) rfl (by decide) (fun a S => ?_)
          refine sMove (.int .i64 (w64 (p1 * 10000))) S (wN rfl) (.inr rfl) (by kernel_rfl) rfl (by decide) (fun a S => ?_)
          refine leafL (leafT (hK27 _ _ ?_))
          refine sSeq (fun K28 hK28 => ?_)
          refine sRegion ?_
          refine sMove (.int .i64 (w64 (p1 * 10000))) S (wN rfl) (.inl rfl) (by kernel_rfl) rfl (by decide) (fun a S => ?_)
          refine sConv (k := .i64) (k2 := .u64) (b := w64 (p1 * 10000)) S (wN rfl) rfl Try.underlying2 Try.underlying60 (by kernel_rfl) rfl (by decide) (fun a S => ?_)
          refine sField (b := b22) (off := 0) 1 1 S (wN rfl) rfl (by kernel_rfl) (by kernel_rfl) rfl rfl (by decide) (fun a S => ?_)
          refine sField (b := b22) (off := 1) 0 1 S (wN rfl) rfl (by kernel_rfl) (by kernel_rfl) rfl rfl (by decide) (fun a S => ?_)
          refine sLoad1 (p := b22) (off := 1) (T := 41) (vs := [.int .u8 r19.1.System, .int .i64 r19.1.N.Num, .int .i64 r19.1.N.Den]) 0 (.int .i64 r19.1.N.Num) S (wN rfl) rfl (by kernel_rfl) (by kernel_rfl) (by kernel_rfl) rfl rfl (by decide) (fun a S => ?_)
          refine sConv (k := .i64) (k2 := .u64) (b := r19.1.N.Num) S (wN rfl) rfl Try.underlying2 Try.underlying60 (by kernel_rfl) rfl (by decide) (fun a S => ?_)
          obtain ⟨r29, hx30, h⟩ := bindSome h
          have S1 := S.mem
          refine sCallQ (X := Unit) (f := 38) (vs := [.int .u64 (IntKind.u64.wrap (w64 (p1 * 10000))), .int .u64 (IntKind.u64.wrap r19.1.N.Num)]) (val := fun _ => .int .u64 r29) S (wN rfl) rfl callee38 (by kernel_rfl) (S1.quiet [] (by kernel_rfl)) (fun E1 w1 S1 => c_yarn_gcd E1 w1 (IntKind.u64.wrap (w64 (p1 * 10000))) (IntKind.u64.wrap r19.1.N.Num) r29 hx30 S1) rfl (by decide) (fun _ a w S => ?_)
          refine sConv (k := .u64) (k2 := .i64) (b := r29) S (wN rfl) rfl Try.underlying60 Try.underlying2 (by kernel_rfl) rfl (by decide) (fun a S => ?_)
          refine sMove (.int .i64 (IntKind.i64.wrap r29)) S (wN rfl) (.inr rfl) (by kernel_rfl) rfl (by decide) (fun a S => ?_)
          refine leafL (leafT (hK28 _ _ ?_))
          refine sSeq (fun K31 hK31 => ?_)
          obtain ⟨z32, hx33, h⟩ := bindSome h
          obtain ⟨z34, hx35, h⟩ := bindSome h
          refine sDraw (nf := []) (W := [(0, 44, .int .i64 (w64 (p1 * 10000))), (1, 45, .int .i64 (IntKind.i64.wrap r29)), (2, 46, .int .i64 z32), (3, 47, .pointer (some ⟨b22, 1, none⟩)), (4, 48, .pointer (some ⟨b22, 1, none⟩)), (5, 49, .int .i64 r19.1.N.Num), (6, 50, .int .i64 (IntKind.i64.wrap r29)), (7, 51, .int .i64 z34), (8, 9, .int .i64 z32), (9, 11, .int .i64 z34)]) (by kernel_rfl) S ?_
          refine node_by (A := anc_yarn_Reach_0) (nf := []) (Y := []) (W := [(0, 44, .int .i64 (w64 (p1 * 10000))), (1, 45, .int .i64 (IntKind.i64.wrap r29)), (2, 46, .int .i64 z32), (3, 47, .pointer (some ⟨b22, 1, none⟩)), (4, 48, .pointer (some ⟨b22, 1, none⟩)), (5, 49, .int .i64 r19.1.N.Num), (6, 50, .int .i64 (IntKind.i64.wrap r29)), (7, 51, .int .i64 z34), (8, 9, .int .i64 z32), (9, 11, .int .i64 z34)]) 10 (by kernel_rfl) (by kernel_rfl) (by kernel_rfl) (by kernel_rfl) (by kernel_rfl) [0, 1, 2, 3, 4, 5, 6, 7, 8, 9] (by kernel_rfl) (by decide) (by decide) (aF 0 9 (by decide) ?_ (aF 1 8 (by decide) ?_ (aF 2 7 (by decide) ?_ (aF 3 6 (by decide) ?_ (aF 4 5 (by decide) ?_ (aF 5 4 (by decide) ?_ (aF 6 3 (by decide) ?_ (aF 7 2 (by decide) ?_ (aF 8 1 (by decide) ?_ (aF 9 0 (by decide) ?_ (trivial))))))))))) [(4, .pointer (some ⟨b3, 0, none⟩)), (7, .pointer (some ⟨b22, 0, none⟩)), (9, .int .i64 z32), (11, .int .i64 z34)] (fin_of [none, none, some 8, some 9] rfl (by kernel_rfl) (by kernel_rfl)) (fun _ a w S => ?_)
          · refine fI 44 (.int .i64 (w64 (p1 * 10000))) [(9, .int .i64 (w64 (p1 * 10000)))] 0 [none] rfl rfl (by kernel_rfl) rfl (by kernel_rfl) (by kernel_rfl) fun G a w S => ?_
            refine sMove (.int .i64 (w64 (p1 * 10000))) S (wN rfl) (.inl rfl) (by kernel_rfl) rfl (by decide) (fun a S => ?_)
            exact leafL ⟨rfl, S⟩
          · refine fI 45 (.int .i64 (IntKind.i64.wrap r29)) [(10, .int .i64 (IntKind.i64.wrap r29))] 1 [none] rfl rfl (by kernel_rfl) rfl (by kernel_rfl) (by kernel_rfl) fun G a w S => ?_
            refine sMove (.int .i64 (IntKind.i64.wrap r29)) S (wN rfl) (.inl rfl) (by kernel_rfl) rfl (by decide) (fun a S => ?_)
            exact leafL ⟨rfl, S⟩
          · refine fI 46 (.int .i64 z32) [(44, .int .i64 (w64 (p1 * 10000))), (45, .int .i64 (IntKind.i64.wrap r29))] 2 [some 0, some 1] rfl rfl (by kernel_rfl) rfl (by kernel_rfl) (by kernel_rfl) fun G a w S => ?_
            refine sBin (.int .i64 z32) S (wN rfl) rfl (by kernel_rfl) (by kernel_rfl) (bQuo _ _ _ _ (x := w64 (p1 * 10000)) (y := IntKind.i64.wrap r29) hx33) rfl (by decide) (fun a S => ?_)
            exact leafL ⟨rfl, S⟩
          · refine fI 47 (.pointer (some ⟨b22, 1, none⟩)) [(7, .pointer (some ⟨b22, 0, none⟩))] 3 [none] rfl rfl (by kernel_rfl) rfl (by kernel_rfl) (by kernel_rfl) fun G a w S => ?_
            refine sField (b := b22) (off := 0) 1 1 S (wN rfl) rfl (by kernel_rfl) (by kernel_rfl) rfl rfl (by decide) (fun a S => ?_)
            exact leafL ⟨rfl, S⟩
          · refine fI 48 (.pointer (some ⟨b22, 1, none⟩)) [(47, .pointer (some ⟨b22, 1, none⟩))] 4 [some 3] rfl rfl (by kernel_rfl) rfl (by kernel_rfl) (by kernel_rfl) fun G a w S => ?_
            refine sField (b := b22) (off := 1) 0 1 S (wN rfl) rfl (by kernel_rfl) (by kernel_rfl) rfl rfl (by decide) (fun a S => ?_)
            exact leafL ⟨rfl, S⟩
          · refine fI 49 (.int .i64 r19.1.N.Num) [(48, .pointer (some ⟨b22, 1, none⟩))] 5 [some 4] rfl rfl (by kernel_rfl) rfl (by kernel_rfl) (by kernel_rfl) fun G a w S => ?_
            refine sLoad1 (p := b22) (off := 1) (T := 41) (vs := [.int .u8 r19.1.System, .int .i64 r19.1.N.Num, .int .i64 r19.1.N.Den]) 0 (.int .i64 r19.1.N.Num) S (wN rfl) rfl (by kernel_rfl) (by kernel_rfl) (by kernel_rfl) rfl rfl (by decide) (fun a S => ?_)
            exact leafL ⟨rfl, S⟩
          · refine fI 50 (.int .i64 (IntKind.i64.wrap r29)) [(10, .int .i64 (IntKind.i64.wrap r29))] 6 [none] rfl rfl (by kernel_rfl) rfl (by kernel_rfl) (by kernel_rfl) fun G a w S => ?_
            refine sMove (.int .i64 (IntKind.i64.wrap r29)) S (wN rfl) (.inl rfl) (by kernel_rfl) rfl (by decide) (fun a S => ?_)
            exact leafL ⟨rfl, S⟩
          · refine fI 51 (.int .i64 z34) [(49, .int .i64 r19.1.N.Num), (50, .int .i64 (IntKind.i64.wrap r29))] 7 [some 5, some 6] rfl rfl (by kernel_rfl) rfl (by kernel_rfl) (by kernel_rfl) fun G a w S => ?_
            refine sBin (.int .i64 z34) S (wN rfl) rfl (by kernel_rfl) (by kernel_rfl) (bQuo _ _ _ _ (x := r19.1.N.Num) (y := IntKind.i64.wrap r29) hx35) rfl (by decide) (fun a S => ?_)
            exact leafL ⟨rfl, S⟩
          · refine fI 9 (.int .i64 z32) [(46, .int .i64 z32)] 8 [some 2] rfl rfl (by kernel_rfl) rfl (by kernel_rfl) (by kernel_rfl) fun G a w S => ?_
            refine sMove (.int .i64 z32) S (wN rfl) (.inr rfl) (by kernel_rfl) rfl (by decide) (fun a S => ?_)
            exact leafL ⟨rfl, S⟩
          · refine fI 11 (.int .i64 z34) [(51, .int .i64 z34)] 9 [some 7] rfl rfl (by kernel_rfl) rfl (by kernel_rfl) (by kernel_rfl) fun G a w S => ?_
            refine sMove (.int .i64 z34) S (wN rfl) (.inr rfl) (by kernel_rfl) rfl (by decide) (fun a S => ?_)
            exact leafL ⟨rfl, S⟩
          · refine leafT (hK31 _ _ ?_)
            refine sSeq (fun K36 hK36 => ?_)
            refine sSeq (fun K37 hK37 => ?_)
            refine sRegion ?_
            refine sMove (.int .i64 z32) S (wN rfl) (.inl rfl) (by kernel_rfl) rfl (by decide) (fun a S => ?_)
            refine sField (b := b22) (off := 0) 1 1 S (wN rfl) rfl (by kernel_rfl) (by kernel_rfl) rfl rfl (by decide) (fun a S => ?_)
            refine sField (b := b22) (off := 1) 1 2 S (wN rfl) rfl (by kernel_rfl) (by kernel_rfl) rfl rfl (by decide) (fun a S => ?_)
            refine sLoad1 (p := b22) (off := 2) (T := 41) (vs := [.int .u8 r19.1.System, .int .i64 r19.1.N.Num, .int .i64 r19.1.N.Den]) 0 (.int .i64 r19.1.N.Den) S (wN rfl) rfl (by kernel_rfl) (by kernel_rfl) (by kernel_rfl) rfl rfl (by decide) (fun a S => ?_)
            obtain ⟨z38, hx39, h⟩ := bindSome h
            refine sBin (.int .i64 z38) S (wN rfl) rfl (by kernel_rfl) (by kernel_rfl) (bQuo _ _ _ _ (x := 1000000000) (y := r19.1.N.Den) hx39) rfl (by decide) (fun a S => ?_)
            refine sBin (.bool (decide (z38 < z32))) S (wN rfl) rfl (by kernel_rfl) (by kernel_rfl) (bGt _ _ _ _ .i64 z32 z38) rfl (by decide) (fun a S => ?_)
            refine leafL (leafT (hK37 _ _ ?_))
            rcases iteSome h with ⟨hc40, h⟩ | ⟨hc40, h⟩
            · refine sCondT (b := decide (z38 < z32)) S (by kernel_rfl) hc40 ?_
              refine sSeq (fun K41 hK41 => ?_)
              refine sRegion ?_
              refine sBuild [] [.int .i64 0, .int .i64 0] S (wN rfl) rfl (by kernel_rfl) (by kernel_rfl) rfl (by decide) (fun a S => ?_)
              refine sStore (p := b3) (off := 0) (T := 23) (vs := [.int .i64 0, .int .i64 0]) (v := .agg #[.int .i64 0, .int .i64 0]) 2 [.int .i64 0, .int .i64 0] S (wN rfl) rfl (by kernel_rfl) (by kernel_rfl) rfl (by kernel_rfl) (by kernel_rfl) rfl (by simp) rfl (fun a w S => ?_)
              refine sMove (.int .i64 16) S (wN rfl) (.inr rfl) (by kernel_rfl) rfl (by decide) (fun a S => ?_)
              refine leafL (leafT (hK41 _ _ ?_))
              obtain rfl := Option.some.inj h
              have S := S.learn (fRep r_api_Ratio (.agg #[.int .i64 0, .int .i64 0]) (api_Ratio.mk 0 0)) rfl
              exact wp_ret (rThen (sRet (.tuple #[.agg #[.int .i64 0, .int .i64 0], .int .i64 16]) S (rsl2 rfl (rvN (c := 4) (t := 23) (T := 23) (p := b3) 0 [.int .i64 0, .int .i64 0] S (by kernel_rfl) (by kernel_rfl) (by kernel_rfl) (by kernel_rfl)) (rvT (t := 5) (v := .int .i64 16) S (by kernel_rfl))) ⟨(.agg #[.int .i64 0, .int .i64 0]), rfl, S.mem.sel [] [0] (by decide) (by kernel_rfl) (by kernel_rfl)⟩))
            · refine sCondF (b := decide (z38 < z32)) S (by kernel_rfl) hc40 ?_
              refine wp_skip (leafT (hK36 _ _ ?_))
              refine sSeq (fun K42 hK42 => ?_)
              refine sRegion ?_
              refine sMove (.int .i64 z32) S (wN rfl) (.inl rfl) (by kernel_rfl) rfl (by decide) (fun a S => ?_)
              refine sField (b := b22) (off := 0) 1 1 S (wN rfl) rfl (by kernel_rfl) (by kernel_rfl) rfl rfl (by decide) (fun a S => ?_)
              refine sField (b := b22) (off := 1) 1 2 S (wN rfl) rfl (by kernel_rfl) (by kernel_rfl) rfl rfl (by decide) (fun a S => ?_)
              refine sLoad1 (p := b22) (off := 2) (T := 41) (vs := [.int .u8 r19.1.System, .int .i64 r19.1.N.Num, .int .i64 r19.1.N.Den]) 0 (.int .i64 r19.1.N.Den) S (wN rfl) rfl (by kernel_rfl) (by kernel_rfl) (by kernel_rfl) rfl rfl (by decide) (fun a S => ?_)
              refine sBin (.int .i64 (w64 (z32 * r19.1.N.Den))) S (wN rfl) rfl (by kernel_rfl) (by kernel_rfl) (bMul _ _ _ _ z32 r19.1.N.Den) rfl (by decide) (fun a S => ?_)
              refine sMove (.int .i64 z34) S (wN rfl) (.inl rfl) (by kernel_rfl) rfl (by decide) (fun a S => ?_)
              obtain ⟨r43, hx44, h⟩ := bindSome h
              refine sCall (X := Value) (f := 48) (vs := [.int .i64 (w64 (z32 * r19.1.N.Den)), .int .i64 z34]) (val := c_yarn_Make_val r43) (B' := fun _ => []) (D' := c_yarn_Make_D r43) [] [eBox b22 41 [.int .u8 r19.1.System, .int .i64 r19.1.N.Num, .int .i64 r19.1.N.Den], eBox b2 41 [.int .u8 p0.System, .int .i64 p0.N.Num, .int .i64 p0.N.Den], eBox b3 23 [.int .i64 0, .int .i64 0]] [] [0, 1, 2] [] S (wN rfl) rfl callee48 (by kernel_rfl) (by decide) (by kernel_rfl) (by kernel_rfl) (fun E1 w1 S1 => c_yarn_Make E1 w1 (w64 (z32 * r19.1.N.Den)) z34 r43 hx44 S1) rfl (by decide) (fun u45 a w S => ?_)
              obtain rfl : u45 = .agg #[.int .i64 r43.1.Num, .int .i64 r43.1.Den] := S.mem.know (i := 0) (e := fRep r_api_Ratio (u45) r43.1) (by kernel_rfl)
              refine sExtract (vs := [.agg #[.int .i64 r43.1.Num, .int .i64 r43.1.Den], .int .i64 r43.2]) (.agg #[.int .i64 r43.1.Num, .int .i64 r43.1.Den]) S (wN rfl) rfl (by kernel_rfl) rfl rfl (by decide) (fun a S => ?_)
              refine sExtract (vs := [.agg #[.int .i64 r43.1.Num, .int .i64 r43.1.Den], .int .i64 r43.2]) (.int .i64 r43.2) S (wN rfl) rfl (by kernel_rfl) rfl rfl (by decide) (fun a S => ?_)
              refine sStore (p := b3) (off := 0) (T := 23) (vs := [.int .i64 0, .int .i64 0]) (v := .agg #[.int .i64 r43.1.Num, .int .i64 r43.1.Den]) 2 [.int .i64 r43.1.Num, .int .i64 r43.1.Den] S (wN rfl) rfl (by kernel_rfl) (by kernel_rfl) rfl (by kernel_rfl) (by kernel_rfl) rfl (by simp) rfl (fun a w S => ?_)
              refine sMove (.int .i64 r43.2) S (wN rfl) (.inr rfl) (by kernel_rfl) rfl (by decide) (fun a S => ?_)
              refine leafL (leafT (hK42 _ _ ?_))
              obtain rfl := Option.some.inj h
              exact wp_ret (sRet (.tuple #[.agg #[.int .i64 r43.1.Num, .int .i64 r43.1.Den], .int .i64 r43.2]) S (rsl2 rfl (rvN (c := 4) (t := 23) (T := 23) (p := b3) 0 [.int .i64 r43.1.Num, .int .i64 r43.1.Den] S (by kernel_rfl) (by kernel_rfl) (by kernel_rfl) (by kernel_rfl)) (rvT (t := 5) (v := .int .i64 r43.2) S (by kernel_rfl))) ⟨(.agg #[.int .i64 r43.1.Num, .int .i64 r43.1.Den]), rfl, S.mem.sel [] [0] (by decide) (by kernel_rfl) (by kernel_rfl)⟩)

end Go.Proofs.Ytdfjcpnflmgdoaa
