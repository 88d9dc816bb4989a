import Derived.Test.YtdbgkakmhlmpbaaGTy
import Derived.Test.YtdbgkakmhlmpbaaG79
import Derived.Test.YtdbgkakmhlmpbaaG80
namespace Go.Proofs.Ytdbgkakmhlmpbaa
open Go.RowKit
set_option linter.unusedVariables false

noncomputable def F_yarn_counted (p0 : api_Count) : Option Int :=
  Option.bind (F_yarn_factors p0.System) fun r5 =>
  Option.bind (α := Bool) (
    if !r5.2.2.2 then
      some true
    else
      Option.bind (F_yarn_Check p0.N) fun r11 =>
      if r11 != 0 then
        some true
      else
        some (decide (p0.N.Num ≤ 0))) fun o7 =>
  if o7 then
    some 8
  else
    some 0
set_option maxHeartbeats 4000000 in
set_option maxRecDepth 100000 in
theorem c_yarn_counted (E : Nat → Prop) (w0 : World) (p0 : api_Count) (v0 : Value) (r : Int) (h : F_yarn_counted p0 = some r) (S : St0 E [] w0 w0 [] [fRep r_api_Count (v0) p0]) :
    Calls Try.prog 58 #[v0] w0 (Ret (X := Unit) E [] w0 (fun _ => .int .i64 r) (fun _ => []) (fun _ => [])) := by
  unfold F_yarn_counted at h
  obtain rfl : v0 = .agg #[.int .u8 p0.System, .int .i64 p0.N.Num, .int .i64 p0.N.Den] := S.know (i := 0) (e := fRep r_api_Count (v0) p0) (by kernel_rfl)
  refine sEnter (args := [.agg #[.int .u8 p0.System, .int .i64 p0.N.Num, .int .i64 p0.N.Den]]) 29 Try.func58 rfl rfl (by simp) S (fun a S => ?_)
  refine sSeq (fun K1 hK1 => ?_)
  refine sRegion ?_
  refine sBox (v := .agg #[.int .u8 p0.System, .int .i64 p0.N.Num, .int .i64 p0.N.Den]) S (wN rfl) rfl (by kernel_rfl) [.int .u8 p0.System, .int .i64 p0.N.Num, .int .i64 p0.N.Den] rfl rfl (by decide) (fun a b2 w S => ?_)
  refine sMove (.int .i64 0) S (wN rfl) (.inr rfl) (by kernel_rfl) rfl (by decide) (fun a S => ?_)
  refine leafL (leafT (hK1 _ _ ?_))
  refine sSeq (fun K3 hK3 => ?_)
  refine sSeq (fun K4 hK4 => ?_)
  refine sRegion ?_
  refine sField (b := b2) (off := 0) 0 0 S (wN rfl) rfl (by kernel_rfl) (by kernel_rfl) rfl rfl (by decide) (fun a S => ?_)
  refine sLoad1 (p := b2) (off := 0) (T := 27) (vs := [.int .u8 p0.System, .int .i64 p0.N.Num, .int .i64 p0.N.Den]) 0 (.int .u8 p0.System) S (wN rfl) rfl (by kernel_rfl) (by kernel_rfl) (by kernel_rfl) rfl rfl (by decide) (fun a S => ?_)
  obtain ⟨r5, hx6, h⟩ := bindSome h
  have S1 := S.mem
  refine sCallQ (X := Unit) (f := 79) (vs := [.int .u8 p0.System]) (val := fun _ => .tuple #[.int .i64 r5.1, .int .i64 r5.2.1, .bool r5.2.2.1, .bool r5.2.2.2]) S (wN rfl) rfl callee79 (by kernel_rfl) (S1.quiet [] (by kernel_rfl)) (fun E1 w1 S1 => c_yarn_factors E1 w1 p0.System r5 hx6 S1) rfl (by decide) (fun _ a w S => ?_)
  refine sMove (.tuple #[.int .i64 r5.1, .int .i64 r5.2.1, .bool r5.2.2.1, .bool r5.2.2.2]) S (wN rfl) (.inl rfl) (by kernel_rfl) rfl (by decide) (fun a S => ?_)
  refine sExtract (vs := [.int .i64 r5.1, .int .i64 r5.2.1, .bool r5.2.2.1, .bool r5.2.2.2]) (.int .i64 r5.1) S (wN rfl) rfl (by kernel_rfl) rfl rfl (by decide) (fun a S => ?_)
  refine sExtract (vs := [.int .i64 r5.1, .int .i64 r5.2.1, .bool r5.2.2.1, .bool r5.2.2.2]) (.int .i64 r5.2.1) S (wN rfl) rfl (by kernel_rfl) rfl rfl (by decide) (fun a S => ?_)
  refine sExtract (vs := [.int .i64 r5.1, .int .i64 r5.2.1, .bool r5.2.2.1, .bool r5.2.2.2]) (.bool r5.2.2.1) S (wN rfl) rfl (by kernel_rfl) rfl rfl (by decide) (fun a S => ?_)
  refine sExtract (vs := [.int .i64 r5.1, .int .i64 r5.2.1, .bool r5.2.2.1, .bool r5.2.2.2]) (.bool r5.2.2.2) S (wN rfl) rfl (by kernel_rfl) rfl rfl (by decide) (fun a S => ?_)
  refine sMove (.int .i64 r5.1) S (wN rfl) (.inr rfl) (by kernel_rfl) rfl (by decide) (fun a S => ?_)
  refine sMove (.int .i64 r5.2.1) S (wN rfl) (.inr rfl) (by kernel_rfl) rfl (by decide) (fun a S => ?_)
  refine sMove (.bool r5.2.2.1) S (wN rfl) (.inr rfl) (by kernel_rfl) rfl (by decide) (fun a S => ?_)
  refine sMove (.bool r5.2.2.2) S (wN rfl) (.inr rfl) (by kernel_rfl) rfl (by decide) (fun a S => ?_)
  refine leafL (leafT (hK4 _ _ ?_))
  obtain ⟨t8, h, g9⟩ := bindSome h
  refine sCut (fun a w => ∃ o7, o7 = t8 ∧ St [] E [] w0 29 a w [(28, .bool o7)] [] []) ?_ (fun a w hI => ?_)
  · refine sRegion ?_
    refine sMove (.bool r5.2.2.2) S (wN rfl) (.inl rfl) (by kernel_rfl) rfl (by decide) (fun a S => ?_)
    refine sNot (b := r5.2.2.2) S (wN rfl) rfl (by kernel_rfl) rfl (by decide) (fun a S => ?_)
    refine sMove (.bool (!r5.2.2.2)) S (wN rfl) (.inl rfl) (by kernel_rfl) rfl (by decide) (fun a S => ?_)
    rcases iteSome h with ⟨hc10, h⟩ | ⟨hc10, h⟩
    · refine sSkip (c := !r5.2.2.2) 2 false 17 18 S rfl rfl (by kernel_rfl) hc10 rfl (by decide) (fun a S => ?_)
      refine sSkip (c := !r5.2.2.2) 2 false 17 19 S rfl rfl (by kernel_rfl) hc10 rfl (by decide) (fun a S => ?_)
      refine sSkip (c := !r5.2.2.2) 2 false 17 20 S rfl rfl (by kernel_rfl) hc10 rfl (by decide) (fun a S => ?_)
      refine sSkip (c := !r5.2.2.2) 2 false 17 21 S rfl rfl (by kernel_rfl) hc10 rfl (by decide) (fun a S => ?_)
      refine sPickT (b := !r5.2.2.2) (.bool true) S (wN rfl) rfl (by kernel_rfl) hc10 (by kernel_rfl) rfl (by decide) (fun a S => ?_)
      refine sMove (.bool true) S (wN rfl) (.inl rfl) (by kernel_rfl) rfl (by decide) (fun a S => ?_)
      refine sSkip (c := true) 8 false 23 24 S rfl rfl (by kernel_rfl) rfl rfl (by decide) (fun a S => ?_)
      refine sSkip (c := true) 8 false 23 25 S rfl rfl (by kernel_rfl) rfl rfl (by decide) (fun a S => ?_)
      refine sSkip (c := true) 8 false 23 26 S rfl rfl (by kernel_rfl) rfl rfl (by decide) (fun a S => ?_)
      refine sSkip (c := true) 8 false 23 27 S rfl rfl (by kernel_rfl) rfl rfl (by decide) (fun a S => ?_)
      refine sPickT (b := true) (.bool true) S (wN rfl) rfl (by kernel_rfl) rfl (by kernel_rfl) rfl (by decide) (fun a S => ?_)
      exact leafL (leafT (⟨true, Option.some.inj h, S.fix [] [] (by decide) (by kernel_rfl) (by kernel_rfl) (by kernel_rfl)⟩))
    · refine sField (b := b2) (off := 0) 1 1 S (wG (c := !r5.2.2.2) 2 false 17 rfl rfl (by kernel_rfl) hc10) rfl (by kernel_rfl) (by kernel_rfl) rfl rfl (by decide) (fun a S => ?_)
      refine sLoadN (p := b2) (off := 1) (T := 27) (vs := [.int .u8 p0.System, .int .i64 p0.N.Num, .int .i64 p0.N.Den]) 0 [.int .i64 p0.N.Num, .int .i64 p0.N.Den] S (wG (c := !r5.2.2.2) 2 false 17 rfl rfl (by kernel_rfl) hc10) rfl (by kernel_rfl) (by kernel_rfl) (by kernel_rfl) (by kernel_rfl) rfl rfl (by decide) (fun a S => ?_)
      obtain ⟨r11, hx12, h⟩ := bindSome h
      have S1 := S.mem
      have S1 := S1.learn (fRep r_api_Ratio (.agg #[.int .i64 p0.N.Num, .int .i64 p0.N.Den]) p0.N) rfl
      refine sCallQ (X := Unit) (f := 80) (vs := [.agg #[.int .i64 p0.N.Num, .int .i64 p0.N.Den]]) (val := fun _ => .int .i64 r11) S (wG (c := !r5.2.2.2) 2 false 17 rfl rfl (by kernel_rfl) hc10) rfl callee80 (by kernel_rfl) (S1.quiet [0] (by kernel_rfl)) (fun E1 w1 S1 => c_yarn_Check E1 w1 p0.N (.agg #[.int .i64 p0.N.Num, .int .i64 p0.N.Den]) r11 hx12 S1) rfl (by decide) (fun _ a w S => ?_)
      refine sBin (.bool (r11 != 0)) S (wG (c := !r5.2.2.2) 2 false 17 rfl rfl (by kernel_rfl) hc10) rfl (by kernel_rfl) (by kernel_rfl) (bNe _ _ _ _ .i64 r11 0) rfl (by decide) (fun a S => ?_)
      refine sPickF (b := !r5.2.2.2) (.bool (r11 != 0)) S (wN rfl) rfl (by kernel_rfl) hc10 (by kernel_rfl) rfl (by decide) (fun a S => ?_)
      refine sMove (.bool (r11 != 0)) S (wN rfl) (.inl rfl) (by kernel_rfl) rfl (by decide) (fun a S => ?_)
      rcases iteSome h with ⟨hc13, h⟩ | ⟨hc13, h⟩
      · refine sSkip (c := r11 != 0) 8 false 23 24 S rfl rfl (by kernel_rfl) hc13 rfl (by decide) (fun a S => ?_)
        refine sSkip (c := r11 != 0) 8 false 23 25 S rfl rfl (by kernel_rfl) hc13 rfl (by decide) (fun a S => ?_)
        refine sSkip (c := r11 != 0) 8 false 23 26 S rfl rfl (by kernel_rfl) hc13 rfl (by decide) (fun a S => ?_)
        refine sSkip (c := r11 != 0) 8 false 23 27 S rfl rfl (by kernel_rfl) hc13 rfl (by decide) (fun a S => ?_)
        refine sPickT (b := r11 != 0) (.bool true) S (wN rfl) rfl (by kernel_rfl) hc13 (by kernel_rfl) rfl (by decide) (fun a S => ?_)
        exact leafL (leafT (⟨true, Option.some.inj h, S.fix [] [] (by decide) (by kernel_rfl) (by kernel_rfl) (by kernel_rfl)⟩))
      · refine sField (b := b2) (off := 0) 1 1 S (wG (c := r11 != 0) 8 false 23 rfl rfl (by kernel_rfl) hc13) rfl (by kernel_rfl) (by kernel_rfl) rfl rfl (by decide) (fun a S => ?_)
        refine sField (b := b2) (off := 1) 0 1 S (wG (c := r11 != 0) 8 false 23 rfl rfl (by kernel_rfl) hc13) rfl (by kernel_rfl) (by kernel_rfl) rfl rfl (by decide) (fun a S => ?_)
        refine sLoad1 (p := b2) (off := 1) (T := 27) (vs := [.int .u8 p0.System, .int .i64 p0.N.Num, .int .i64 p0.N.Den]) 0 (.int .i64 p0.N.Num) S (wG (c := r11 != 0) 8 false 23 rfl rfl (by kernel_rfl) hc13) rfl (by kernel_rfl) (by kernel_rfl) (by kernel_rfl) rfl rfl (by decide) (fun a S => ?_)
        refine sBin (.bool (decide (p0.N.Num ≤ 0))) S (wG (c := r11 != 0) 8 false 23 rfl rfl (by kernel_rfl) hc13) rfl (by kernel_rfl) (by kernel_rfl) (bLe _ _ _ _ .i64 p0.N.Num 0) rfl (by decide) (fun a S => ?_)
        refine sPickF (b := r11 != 0) (.bool (decide (p0.N.Num ≤ 0))) S (wN rfl) rfl (by kernel_rfl) hc13 (by kernel_rfl) rfl (by decide) (fun a S => ?_)
        exact leafL (leafT (⟨decide (p0.N.Num ≤ 0), Option.some.inj h, S.fix [] [] (by decide) (by kernel_rfl) (by kernel_rfl) (by kernel_rfl)⟩))
  · obtain ⟨o7, rfl, S⟩ := hI
    have h := g9
    clear g9
    try dsimp only at h
    rcases iteSome h with ⟨hc14, h⟩ | ⟨hc14, h⟩
    · refine sCondT (b := o7) S (by kernel_rfl) hc14 ?_
      refine sSeq (fun K15 hK15 => ?_)
      refine sRegion ?_
      refine sMove (.int .i64 8) S (wN rfl) (.inr rfl) (by kernel_rfl) rfl (by decide) (fun a S => ?_)
      refine leafL (leafT (hK15 _ _ ?_))
      obtain rfl := Option.some.inj h
      exact wp_ret (rThen (sRet (.int .i64 8) S (rsl1 rfl (rvT (t := 2) (v := .int .i64 8) S (by kernel_rfl))) ⟨(), rfl, S.mem.sel [] [] (by decide) (by kernel_rfl) (by kernel_rfl)⟩))
    · refine sCondF (b := o7) S (by kernel_rfl) hc14 ?_
      refine wp_skip (leafT (hK3 _ _ ?_))
      refine sSeq (fun K16 hK16 => ?_)
      refine sRegion ?_
      refine sMove (.int .i64 0) S (wN rfl) (.inr rfl) (by kernel_rfl) rfl (by decide) (fun a S => ?_)
      refine leafL (leafT (hK16 _ _ ?_))
      obtain rfl := Option.some.inj h
      exact wp_ret (sRet (.int .i64 0) S (rsl1 rfl (rvT (t := 2) (v := .int .i64 0) S (by kernel_rfl))) ⟨(), rfl, S.mem.sel [] [] (by decide) (by kernel_rfl) (by kernel_rfl)⟩)

end Go.Proofs.Ytdbgkakmhlmpbaa
