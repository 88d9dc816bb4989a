import Derived.Test.YtdbgkakmhlmpbaaGTy
import Derived.Test.YtdbgkakmhlmpbaaG37
import Derived.Test.YtdbgkakmhlmpbaaG63
namespace Go.Proofs.Ytdbgkakmhlmpbaa
open Go.RowKit
set_option linter.unusedVariables false

noncomputable def F_yarn_Skeins (p0 : api_Count) (p1 : Int) (p2 : Int) : Option (Int × Int) :=
  Option.bind (F_yarn_Weigh p0 p1) fun r4 =>
  if r4.2 != 0 then
    some (0, r4.2)
  else
    Option.bind (α := Bool) (
      if decide (p2 < 1) then
        some true
      else
        some (decide (1000000000 < p2))) fun o13 =>
    if o13 then
      some (0, 2)
    else
      Option.bind (F_yarn_floor (w64 (0 - r4.1.Num)) (w64 (r4.1.Den * p2))) fun r20 =>
      some (w64 (0 - r20), 0)
set_option maxHeartbeats 4000000 in
set_option maxRecDepth 100000 in
theorem c_yarn_Skeins (E : Nat → Prop) (w0 : World) (p0 : api_Count) (v0 : Value) (p1 : Int) (p2 : Int) (r : (Int × Int)) (h : F_yarn_Skeins p0 p1 p2 = some r) (S : St0 E [] w0 w0 [] [fRep r_api_Count (v0) p0]) :
    Calls Try.prog 39 #[v0, .int .i64 p1, .int .i64 p2] w0 (Ret (X := Unit) E [] w0 (fun _ => .tuple #[.int .i64 r.1, .int .i64 r.2]) (fun _ => []) (fun _ => [])) := by
  unfold F_yarn_Skeins at h
  obtain rfl : v0 = .agg #[.int .u8 p0.System, .int .i64 p0.N.Num, .int .i64 p0.N.Den] := S.know (i := 0) (e := fRep r_api_Count (v0) p0) (by kernel_rfl)
  refine sEnter (args := [.agg #[.int .u8 p0.System, .int .i64 p0.N.Num, .int .i64 p0.N.Den], .int .i64 p1, .int .i64 p2]) 34 Try.func39 rfl rfl (by simp) S (fun a S => ?_)
  refine sSeq (fun K1 hK1 => ?_)
  refine sRegion ?_
  refine sBox (v := .agg #[.int .u8 p0.System, .int .i64 p0.N.Num, .int .i64 p0.N.Den]) S (wN rfl) rfl (by kernel_rfl) [.int .u8 p0.System, .int .i64 p0.N.Num, .int .i64 p0.N.Den] rfl rfl (by decide) (fun a b2 w S => ?_)
  refine sMove (.int .i64 0) S (wN rfl) (.inr rfl) (by kernel_rfl) rfl (by decide) (fun a S => ?_)
  refine sMove (.int .i64 0) S (wN rfl) (.inr rfl) (by kernel_rfl) rfl (by decide) (fun a S => ?_)
  refine leafL (leafT (hK1 _ _ ?_))
  refine sSeq (fun K3 hK3 => ?_)
  refine sRegion ?_
  refine sLoadN (p := b2) (off := 0) (T := 27) (vs := [.int .u8 p0.System, .int .i64 p0.N.Num, .int .i64 p0.N.Den]) 0 [.int .u8 p0.System, .int .i64 p0.N.Num, .int .i64 p0.N.Den] S (wN rfl) rfl (by kernel_rfl) (by kernel_rfl) (by kernel_rfl) (by kernel_rfl) rfl rfl (by decide) (fun a S => ?_)
  refine sMove (.int .i64 p1) S (wN rfl) (.inl rfl) (by kernel_rfl) rfl (by decide) (fun a S => ?_)
  obtain ⟨r4, hx5, h⟩ := bindSome h
  refine sCall (X := Value) (f := 37) (vs := [.agg #[.int .u8 p0.System, .int .i64 p0.N.Num, .int .i64 p0.N.Den], .int .i64 p1]) (val := c_yarn_Weigh_val r4) (B' := fun _ => []) (D' := c_yarn_Weigh_D r4) [] [eBox b2 27 [.int .u8 p0.System, .int .i64 p0.N.Num, .int .i64 p0.N.Den]] [fRep r_api_Count (.agg #[.int .u8 p0.System, .int .i64 p0.N.Num, .int .i64 p0.N.Den]) p0] [0] [0] S (wN rfl) rfl callee37 (by kernel_rfl) (by decide) (by kernel_rfl) (by kernel_rfl) (fun E1 w1 S1 => c_yarn_Weigh E1 w1 p0 (.agg #[.int .u8 p0.System, .int .i64 p0.N.Num, .int .i64 p0.N.Den]) p1 r4 hx5 S1) rfl (by decide) (fun u6 a w S => ?_)
  obtain rfl : u6 = .agg #[.int .i64 r4.1.Num, .int .i64 r4.1.Den] := S.mem.know (i := 0) (e := fRep r_api_Ratio (u6) r4.1) (by kernel_rfl)
  refine sMove (.tuple #[.agg #[.int .i64 r4.1.Num, .int .i64 r4.1.Den], .int .i64 r4.2]) S (wN rfl) (.inl rfl) (by kernel_rfl) rfl (by decide) (fun a S => ?_)
  refine sExtract (vs := [.agg #[.int .i64 r4.1.Num, .int .i64 r4.1.Den], .int .i64 r4.2]) (.agg #[.int .i64 r4.1.Num, .int .i64 r4.1.Den]) S (wN rfl) rfl (by kernel_rfl) rfl rfl (by decide) (fun a S => ?_)
  refine sExtract (vs := [.agg #[.int .i64 r4.1.Num, .int .i64 r4.1.Den], .int .i64 r4.2]) (.int .i64 r4.2) S (wN rfl) rfl (by kernel_rfl) rfl rfl (by decide) (fun a S => ?_)
  refine sAlloc (.agg #[.int .i64 0, .int .i64 0]) S (wN rfl) rfl (by kernel_rfl) [.int .i64 0, .int .i64 0] rfl rfl (by decide) (fun a b7 w S => ?_)
  refine sStore (p := b7) (off := 0) (T := 25) (vs := [.int .i64 0, .int .i64 0]) (v := .agg #[.int .i64 r4.1.Num, .int .i64 r4.1.Den]) 0 [.int .i64 r4.1.Num, .int .i64 r4.1.Den] S (wN rfl) rfl (by kernel_rfl) (by kernel_rfl) rfl (by kernel_rfl) (by kernel_rfl) rfl (by simp) rfl (fun a w S => ?_)
  refine sMove (.int .i64 r4.2) S (wN rfl) (.inr rfl) (by kernel_rfl) rfl (by decide) (fun a S => ?_)
  refine leafL (leafT (hK3 _ _ ?_))
  refine sSeq (fun K8 hK8 => ?_)
  refine sSeq (fun K9 hK9 => ?_)
  refine sRegion ?_
  refine sMove (.int .i64 r4.2) S (wN rfl) (.inl rfl) (by kernel_rfl) rfl (by decide) (fun a S => ?_)
  refine sBin (.bool (r4.2 != 0)) S (wN rfl) rfl (by kernel_rfl) (by kernel_rfl) (bNe _ _ _ _ .i64 r4.2 0) rfl (by decide) (fun a S => ?_)
  refine leafL (leafT (hK9 _ _ ?_))
  rcases iteSome h with ⟨hc10, h⟩ | ⟨hc10, h⟩
  · refine sCondT (b := r4.2 != 0) S (by kernel_rfl) hc10 ?_
    refine sSeq (fun K11 hK11 => ?_)
    refine sRegion ?_
    refine sMove (.int .i64 r4.2) S (wN rfl) (.inl rfl) (by kernel_rfl) rfl (by decide) (fun a S => ?_)
    refine sMove (.int .i64 0) S (wN rfl) (.inr rfl) (by kernel_rfl) rfl (by decide) (fun a S => ?_)
    refine sMove (.int .i64 r4.2) S (wN rfl) (.inr rfl) (by kernel_rfl) rfl (by decide) (fun a S => ?_)
    refine leafL (leafT (hK11 _ _ ?_))
    obtain rfl := Option.some.inj h
    exact wp_ret (rThen (sRet (.tuple #[.int .i64 0, .int .i64 r4.2]) S (rsl2 rfl (rvT (t := 6) (v := .int .i64 0) S (by kernel_rfl)) (rvT (t := 7) (v := .int .i64 r4.2) S (by kernel_rfl))) ⟨(), rfl, S.mem.sel [] [] (by decide) (by kernel_rfl) (by kernel_rfl)⟩))
  · refine sCondF (b := r4.2 != 0) S (by kernel_rfl) hc10 ?_
    refine wp_skip (leafT (hK8 _ _ ?_))
    refine sSeq (fun K12 hK12 => ?_)
    obtain ⟨t14, h, g15⟩ := bindSome h
    refine sCut (fun a w => ∃ o13, o13 = t14 ∧ St [] E [] w0 34 a w [(2, .int .i64 p2), (8, .pointer (some ⟨b7, 0, none⟩)), (24, .bool o13)] [eBox b7 25 [.int .i64 r4.1.Num, .int .i64 r4.1.Den]] []) ?_ (fun a w hI => ?_)
    · refine sRegion ?_
      refine sMove (.int .i64 p2) S (wN rfl) (.inl rfl) (by kernel_rfl) rfl (by decide) (fun a S => ?_)
      refine sBin (.bool (decide (p2 < 1))) S (wN rfl) rfl (by kernel_rfl) (by kernel_rfl) (bLt _ _ _ _ .i64 p2 1) rfl (by decide) (fun a S => ?_)
      refine sMove (.bool (decide (p2 < 1))) S (wN rfl) (.inl rfl) (by kernel_rfl) rfl (by decide) (fun a S => ?_)
      rcases iteSome h with ⟨hc16, h⟩ | ⟨hc16, h⟩
      · refine sSkip (c := decide (p2 < 1)) 2 false 21 22 S rfl rfl (by kernel_rfl) hc16 rfl (by decide) (fun a S => ?_)
        refine sSkip (c := decide (p2 < 1)) 2 false 21 23 S rfl rfl (by kernel_rfl) hc16 rfl (by decide) (fun a S => ?_)
        refine sPickT (b := decide (p2 < 1)) (.bool true) S (wN rfl) rfl (by kernel_rfl) hc16 (by kernel_rfl) rfl (by decide) (fun a S => ?_)
        exact leafL (leafT (⟨true, Option.some.inj h, S.fix [0] [] (by decide) (by kernel_rfl) (by kernel_rfl) (by kernel_rfl)⟩))
      · refine sMove (.int .i64 p2) S (wG (c := decide (p2 < 1)) 2 false 21 rfl rfl (by kernel_rfl) hc16) (.inl rfl) (by kernel_rfl) rfl (by decide) (fun a S => ?_)
        refine sBin (.bool (decide (1000000000 < p2))) S (wG (c := decide (p2 < 1)) 2 false 21 rfl rfl (by kernel_rfl) hc16) rfl (by kernel_rfl) (by kernel_rfl) (bGt _ _ _ _ .i64 p2 1000000000) rfl (by decide) (fun a S => ?_)
        refine sPickF (b := decide (p2 < 1)) (.bool (decide (1000000000 < p2))) S (wN rfl) rfl (by kernel_rfl) hc16 (by kernel_rfl) rfl (by decide) (fun a S => ?_)
        exact leafL (leafT (⟨decide (1000000000 < p2), Option.some.inj h, S.fix [0] [] (by decide) (by kernel_rfl) (by kernel_rfl) (by kernel_rfl)⟩))
    · obtain ⟨o13, rfl, S⟩ := hI
      have h := g15
      clear g15
      try dsimp only at h
      rcases iteSome h with ⟨hc17, h⟩ | ⟨hc17, h⟩
      · refine sCondT (b := o13) S (by kernel_rfl) hc17 ?_
        refine sSeq (fun K18 hK18 => ?_)
        refine sRegion ?_
        refine sMove (.int .i64 0) S (wN rfl) (.inr rfl) (by kernel_rfl) rfl (by decide) (fun a S => ?_)
        refine sMove (.int .i64 2) S (wN rfl) (.inr rfl) (by kernel_rfl) rfl (by decide) (fun a S => ?_)
        refine leafL (leafT (hK18 _ _ ?_))
        obtain rfl := Option.some.inj h
        exact wp_ret (rThen (sRet (.tuple #[.int .i64 0, .int .i64 2]) S (rsl2 rfl (rvT (t := 6) (v := .int .i64 0) S (by kernel_rfl)) (rvT (t := 7) (v := .int .i64 2) S (by kernel_rfl))) ⟨(), rfl, S.mem.sel [] [] (by decide) (by kernel_rfl) (by kernel_rfl)⟩))
      · refine sCondF (b := o13) S (by kernel_rfl) hc17 ?_
        refine wp_skip (leafT (hK12 _ _ ?_))
        refine sSeq (fun K19 hK19 => ?_)
        refine sRegion ?_
        refine sField (b := b7) (off := 0) 0 0 S (wN rfl) rfl (by kernel_rfl) (by kernel_rfl) rfl rfl (by decide) (fun a S => ?_)
        refine sLoad1 (p := b7) (off := 0) (T := 25) (vs := [.int .i64 r4.1.Num, .int .i64 r4.1.Den]) 0 (.int .i64 r4.1.Num) S (wN rfl) rfl (by kernel_rfl) (by kernel_rfl) (by kernel_rfl) rfl rfl (by decide) (fun a S => ?_)
        refine sNeg (b := r4.1.Num) S (wN rfl) rfl (by kernel_rfl) rfl (by decide) (fun a S => ?_)
        refine sField (b := b7) (off := 0) 1 1 S (wN rfl) rfl (by kernel_rfl) (by kernel_rfl) rfl rfl (by decide) (fun a S => ?_)
        refine sLoad1 (p := b7) (off := 1) (T := 25) (vs := [.int .i64 r4.1.Num, .int .i64 r4.1.Den]) 0 (.int .i64 r4.1.Den) S (wN rfl) rfl (by kernel_rfl) (by kernel_rfl) (by kernel_rfl) rfl rfl (by decide) (fun a S => ?_)
        refine sMove (.int .i64 p2) S (wN rfl) (.inl rfl) (by kernel_rfl) rfl (by decide) (fun a S => ?_)
        refine sBin (.int .i64 (w64 (r4.1.Den * p2))) S (wN rfl) rfl (by kernel_rfl) (by kernel_rfl) (bMul _ _ _ _ r4.1.Den p2) rfl (by decide) (fun a S => ?_)
        obtain ⟨r20, hx21, h⟩ := bindSome h
        have S1 := S.mem
        refine sCallQ (X := Unit) (f := 63) (vs := [.int .i64 (w64 (0 - r4.1.Num)), .int .i64 (w64 (r4.1.Den * p2))]) (val := fun _ => .int .i64 r20) S (wN rfl) rfl callee63 (by kernel_rfl) (S1.quiet [] (by kernel_rfl)) (fun E1 w1 S1 => c_yarn_floor E1 w1 (w64 (0 - r4.1.Num)) (w64 (r4.1.Den * p2)) r20 hx21 S1) rfl (by decide) (fun _ a w S => ?_)
        refine sNeg (b := r20) S (wN rfl) rfl (by kernel_rfl) rfl (by decide) (fun a S => ?_)
        refine sMove (.int .i64 (w64 (0 - r20))) S (wN rfl) (.inr rfl) (by kernel_rfl) rfl (by decide) (fun a S => ?_)
        refine sMove (.int .i64 0) S (wN rfl) (.inr rfl) (by kernel_rfl) rfl (by decide) (fun a S => ?_)
        refine leafL (leafT (hK19 _ _ ?_))
        obtain rfl := Option.some.inj h
        exact wp_ret (sRet (.tuple #[.int .i64 (w64 (0 - r20)), .int .i64 0]) S (rsl2 rfl (rvT (t := 6) (v := .int .i64 (w64 (0 - r20))) S (by kernel_rfl)) (rvT (t := 7) (v := .int .i64 0) S (by kernel_rfl))) ⟨(), rfl, S.mem.sel [] [] (by decide) (by kernel_rfl) (by kernel_rfl)⟩)

end Go.Proofs.Ytdbgkakmhlmpbaa
