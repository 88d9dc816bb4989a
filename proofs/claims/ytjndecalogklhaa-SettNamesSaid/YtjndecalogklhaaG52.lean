import Derived.Test.YtjndecalogklhaaGTy
import Derived.Test.YtjndecalogklhaaG46
namespace Go.Proofs.Ytjndecalogklhaa
open Go.RowKit
set_option linter.unusedVariables false

noncomputable def F_sett_upTo (p0 : api_Ratio) (p1 : Int) : Option Int :=
  Option.bind (F_sett_checked p0 false 0) fun r5 =>
  Option.bind (α := Bool) (
    if r5 != 0 then
      some true
    else
      some (decide ((w64 (10 * p0.Den)) < p0.Num))) fun o7 =>
  if o7 then
    some 8
  else
    Option.bind (F_sett_checked p0 false p1) fun r14 =>
    some r14
set_option maxHeartbeats 4000000 in
set_option maxRecDepth 100000 in
theorem c_sett_upTo (E : Nat → Prop) (w0 : World) (p0 : api_Ratio) (v0 : Value) (p1 : Int) (r : Int) (h : F_sett_upTo p0 p1 = some r) (S : St0 E [] w0 w0 [] [fRep r_api_Ratio (v0) p0]) :
    Calls Try.prog 52 #[v0, .int .i64 p1] w0 (Ret (X := Unit) E [] w0 (fun _ => .int .i64 r) (fun _ => []) (fun _ => [])) := by
  unfold F_sett_upTo at h
  obtain rfl : v0 = .agg #[.int .i64 p0.Num, .int .i64 p0.Den] := S.know (i := 0) (e := fRep r_api_Ratio (v0) p0) (by kernel_rfl)
  refine sEnter (args := [.agg #[.int .i64 p0.Num, .int .i64 p0.Den], .int .i64 p1]) 21 Try.func52 rfl rfl (by simp) S (fun a S => ?_)
  refine sSeq (fun K1 hK1 => ?_)
  refine sRegion ?_
  refine sBox (v := .agg #[.int .i64 p0.Num, .int .i64 p0.Den]) S (wN rfl) rfl (by kernel_rfl) [.int .i64 p0.Num, .int .i64 p0.Den] rfl rfl (by decide) (fun a b2 w S => ?_)
  refine sMove (.int .i64 0) S (wN rfl) (.inr rfl) (by kernel_rfl) rfl (by decide) (fun a S => ?_)
  refine leafL (leafT (hK1 _ _ ?_))
  refine sSeq (fun K3 hK3 => ?_)
  refine sSeq (fun K4 hK4 => ?_)
  refine sRegion ?_
  refine sLoadN (p := b2) (off := 0) (T := 34) (vs := [.int .i64 p0.Num, .int .i64 p0.Den]) 0 [.int .i64 p0.Num, .int .i64 p0.Den] S (wN rfl) rfl (by kernel_rfl) (by kernel_rfl) (by kernel_rfl) (by kernel_rfl) rfl rfl (by decide) (fun a S => ?_)
  obtain ⟨r5, hx6, h⟩ := bindSome h
  have S1 := S.mem
  refine sCallQ (X := Unit) (f := 46) (vs := [.agg #[.int .i64 p0.Num, .int .i64 p0.Den], .bool false, .int .i64 0]) (val := fun _ => .int .i64 r5) S (wN rfl) rfl callee46 (by kernel_rfl) (S1.quiet [0] (by kernel_rfl)) (fun E1 w1 S1 => c_sett_checked E1 w1 p0 (.agg #[.int .i64 p0.Num, .int .i64 p0.Den]) false 0 r5 hx6 S1) rfl (by decide) (fun _ a w S => ?_)
  refine sMove (.int .i64 r5) S (wN rfl) (.inr rfl) (by kernel_rfl) rfl (by decide) (fun a S => ?_)
  refine leafL (leafT (hK4 _ _ ?_))
  obtain ⟨t8, h, g9⟩ := bindSome h
  refine sCut (fun a w => ∃ o7, o7 = t8 ∧ St E [] w0 21 a w [(1, .int .i64 p1), (2, .pointer (some ⟨b2, 0, none⟩)), (17, .bool o7)] [eBox b2 34 [.int .i64 p0.Num, .int .i64 p0.Den]] []) ?_ (fun a w hI => ?_)
  · refine sRegion ?_
    refine sMove (.int .i64 r5) S (wN rfl) (.inl rfl) (by kernel_rfl) rfl (by decide) (fun a S => ?_)
    refine sBin (.bool (r5 != 0)) S (wN rfl) rfl (by kernel_rfl) (by kernel_rfl) (bNe _ _ _ _ .i64 r5 0) rfl (by decide) (fun a S => ?_)
    refine sMove (.bool (r5 != 0)) S (wN rfl) (.inl rfl) (by kernel_rfl) rfl (by decide) (fun a S => ?_)
    rcases iteSome h with ⟨hc10, h⟩ | ⟨hc10, h⟩
    · refine sSkip (c := r5 != 0) 2 false 10 11 S rfl rfl (by kernel_rfl) hc10 rfl (by decide) (fun a S => ?_)
      refine sSkip (c := r5 != 0) 2 false 10 12 S rfl rfl (by kernel_rfl) hc10 rfl (by decide) (fun a S => ?_)
      refine sSkip (c := r5 != 0) 2 false 10 13 S rfl rfl (by kernel_rfl) hc10 rfl (by decide) (fun a S => ?_)
      refine sSkip (c := r5 != 0) 2 false 10 14 S rfl rfl (by kernel_rfl) hc10 rfl (by decide) (fun a S => ?_)
      refine sSkip (c := r5 != 0) 2 false 10 15 S rfl rfl (by kernel_rfl) hc10 rfl (by decide) (fun a S => ?_)
      refine sSkip (c := r5 != 0) 2 false 10 16 S rfl rfl (by kernel_rfl) hc10 rfl (by decide) (fun a S => ?_)
      refine sPickT (b := r5 != 0) (.bool true) S (wN rfl) rfl (by kernel_rfl) hc10 (by kernel_rfl) rfl (by decide) (fun a S => ?_)
      exact leafL (leafT (⟨true, Option.some.inj h, S.fix [0] [] (by decide) (by kernel_rfl) (by kernel_rfl) (by kernel_rfl)⟩))
    · refine sField (b := b2) (off := 0) 0 0 S (wG (c := r5 != 0) 2 false 10 rfl rfl (by kernel_rfl) hc10) rfl (by kernel_rfl) (by kernel_rfl) rfl rfl (by decide) (fun a S => ?_)
      refine sLoad1 (p := b2) (off := 0) (T := 34) (vs := [.int .i64 p0.Num, .int .i64 p0.Den]) 0 (.int .i64 p0.Num) S (wG (c := r5 != 0) 2 false 10 rfl rfl (by kernel_rfl) hc10) rfl (by kernel_rfl) (by kernel_rfl) (by kernel_rfl) rfl rfl (by decide) (fun a S => ?_)
      refine sField (b := b2) (off := 0) 1 1 S (wG (c := r5 != 0) 2 false 10 rfl rfl (by kernel_rfl) hc10) rfl (by kernel_rfl) (by kernel_rfl) rfl rfl (by decide) (fun a S => ?_)
      refine sLoad1 (p := b2) (off := 1) (T := 34) (vs := [.int .i64 p0.Num, .int .i64 p0.Den]) 0 (.int .i64 p0.Den) S (wG (c := r5 != 0) 2 false 10 rfl rfl (by kernel_rfl) hc10) rfl (by kernel_rfl) (by kernel_rfl) (by kernel_rfl) rfl rfl (by decide) (fun a S => ?_)
      refine sBin (.int .i64 (w64 (10 * p0.Den))) S (wG (c := r5 != 0) 2 false 10 rfl rfl (by kernel_rfl) hc10) rfl (by kernel_rfl) (by kernel_rfl) (bMul _ _ _ _ 10 p0.Den) rfl (by decide) (fun a S => ?_)
      refine sBin (.bool (decide ((w64 (10 * p0.Den)) < p0.Num))) S (wG (c := r5 != 0) 2 false 10 rfl rfl (by kernel_rfl) hc10) rfl (by kernel_rfl) (by kernel_rfl) (bGt _ _ _ _ .i64 p0.Num (w64 (10 * p0.Den))) rfl (by decide) (fun a S => ?_)
      refine sPickF (b := r5 != 0) (.bool (decide ((w64 (10 * p0.Den)) < p0.Num))) S (wN rfl) rfl (by kernel_rfl) hc10 (by kernel_rfl) rfl (by decide) (fun a S => ?_)
      exact leafL (leafT (⟨decide ((w64 (10 * p0.Den)) < p0.Num), Option.some.inj h, S.fix [0] [] (by decide) (by kernel_rfl) (by kernel_rfl) (by kernel_rfl)⟩))
  · obtain ⟨o7, rfl, S⟩ := hI
    have h := g9
    clear g9
    try dsimp only at h
    rcases iteSome h with ⟨hc11, h⟩ | ⟨hc11, h⟩
    · refine sCondT (b := o7) S (by kernel_rfl) hc11 ?_
      refine sSeq (fun K12 hK12 => ?_)
      refine sRegion ?_
      refine sMove (.int .i64 8) S (wN rfl) (.inr rfl) (by kernel_rfl) rfl (by decide) (fun a S => ?_)
      refine leafL (leafT (hK12 _ _ ?_))
      obtain rfl := Option.some.inj h
      exact wp_ret (rThen (sRet (.int .i64 8) S (rsl1 rfl (rvT (t := 4) (v := .int .i64 8) S (by kernel_rfl))) ⟨(), rfl, S.mem.sel [] [] (by decide) (by kernel_rfl) (by kernel_rfl)⟩))
    · refine sCondF (b := o7) S (by kernel_rfl) hc11 ?_
      refine wp_skip (leafT (hK3 _ _ ?_))
      refine sSeq (fun K13 hK13 => ?_)
      refine sRegion ?_
      refine sLoadN (p := b2) (off := 0) (T := 34) (vs := [.int .i64 p0.Num, .int .i64 p0.Den]) 0 [.int .i64 p0.Num, .int .i64 p0.Den] S (wN rfl) rfl (by kernel_rfl) (by kernel_rfl) (by kernel_rfl) (by kernel_rfl) rfl rfl (by decide) (fun a S => ?_)
      refine sMove (.int .i64 p1) S (wN rfl) (.inl rfl) (by kernel_rfl) rfl (by decide) (fun a S => ?_)
      obtain ⟨r14, hx15, h⟩ := bindSome h
      have S1 := S.mem
      have S1 := S1.learn (fRep r_api_Ratio (.agg #[.int .i64 p0.Num, .int .i64 p0.Den]) p0) rfl
      refine sCallQ (X := Unit) (f := 46) (vs := [.agg #[.int .i64 p0.Num, .int .i64 p0.Den], .bool false, .int .i64 p1]) (val := fun _ => .int .i64 r14) S (wN rfl) rfl callee46 (by kernel_rfl) (S1.quiet [0] (by kernel_rfl)) (fun E1 w1 S1 => c_sett_checked E1 w1 p0 (.agg #[.int .i64 p0.Num, .int .i64 p0.Den]) false p1 r14 hx15 S1) rfl (by decide) (fun _ a w S => ?_)
      refine sMove (.int .i64 r14) S (wN rfl) (.inr rfl) (by kernel_rfl) rfl (by decide) (fun a S => ?_)
      refine leafL (leafT (hK13 _ _ ?_))
      obtain rfl := Option.some.inj h
      exact wp_ret (sRet (.int .i64 r14) S (rsl1 rfl (rvT (t := 4) (v := .int .i64 r14) S (by kernel_rfl))) ⟨(), rfl, S.mem.sel [] [] (by decide) (by kernel_rfl) (by kernel_rfl)⟩)

end Go.Proofs.Ytjndecalogklhaa
