import Derived.Test.YtmedbnjhgkcndaaGTy
import Derived.Test.YtmedbnjhgkcndaaG84
namespace Go.Proofs.Ytmedbnjhgkcndaa
open Go.RowKit
set_option linter.unusedVariables false

noncomputable def F_slope_check (p0 : Int) (p1 : Int) (p2 : Int) : Option Int :=
  Option.bind (α := Bool) (
    Option.bind (F_slope_within p0 (-1000) 1000) fun r6 =>
    if !r6 then
      some true
    else
      Option.bind (F_slope_within p1 (-1000) 1000) fun r9 =>
      if !r9 then
        some true
      else
        Option.bind (F_slope_within p2 1 1000) fun r12 =>
        some (!r12)) fun o3 =>
  if o3 then
    some 2
  else
    some 0
set_option maxHeartbeats 4000000 in
set_option maxRecDepth 100000 in
theorem c_slope_check (E : Nat → Prop) (w0 : World) (p0 : Int) (p1 : Int) (p2 : Int) (r : Int) (h : F_slope_check p0 p1 p2 = some r) (S : St0 E [] w0 w0 [] []) :
    Calls Try.prog 66 #[.int .i64 p0, .int .i64 p1, .int .i64 p2] w0 (Ret (X := Unit) E [] w0 (fun _ => .int .i64 r) (fun _ => []) (fun _ => [])) := by
  unfold F_slope_check at h
  refine sEnter (args := [.int .i64 p0, .int .i64 p1, .int .i64 p2]) 20 Try.func66 rfl rfl (by simp) S (fun a S => ?_)
  refine sSeq (fun K1 hK1 => ?_)
  refine sRegion ?_
  refine sMove (.int .i64 0) S (wN rfl) (.inr rfl) (by kernel_rfl) rfl (by decide) (fun a S => ?_)
  refine leafL (leafT (hK1 _ _ ?_))
  refine sSeq (fun K2 hK2 => ?_)
  obtain ⟨t4, h, g5⟩ := bindSome h
  refine sCut (fun a w => ∃ o3, o3 = t4 ∧ St E [] w0 20 a w [(19, .bool o3)] [] []) ?_ (fun a w hI => ?_)
  · refine sRegion ?_
    refine sMove (.int .i64 p0) S (wN rfl) (.inl rfl) (by kernel_rfl) rfl (by decide) (fun a S => ?_)
    obtain ⟨r6, hx7, h⟩ := bindSome h
    have S1 := S.mem
    refine sCallQ (X := Unit) (f := 84) (vs := [.int .i64 p0, .int .i64 (-1000), .int .i64 1000]) (val := fun _ => .bool r6) S (wN rfl) rfl callee84 (by kernel_rfl) (S1.quiet [] (by kernel_rfl)) (fun E1 w1 S1 => c_slope_within E1 w1 p0 (-1000) 1000 r6 hx7 S1) rfl (by decide) (fun _ a w S => ?_)
    refine sNot (b := r6) S (wN rfl) rfl (by kernel_rfl) rfl (by decide) (fun a S => ?_)
    refine sMove (.bool (!r6)) S (wN rfl) (.inl rfl) (by kernel_rfl) rfl (by decide) (fun a S => ?_)
    rcases iteSome h with ⟨hc8, h⟩ | ⟨hc8, h⟩
    · refine sSkip (c := !r6) 3 false 10 11 S rfl rfl (by kernel_rfl) hc8 rfl (by decide) (fun a S => ?_)
      refine sSkip (c := !r6) 3 false 10 12 S rfl rfl (by kernel_rfl) hc8 rfl (by decide) (fun a S => ?_)
      refine sSkip (c := !r6) 3 false 10 13 S rfl rfl (by kernel_rfl) hc8 rfl (by decide) (fun a S => ?_)
      refine sPickT (b := !r6) (.bool true) S (wN rfl) rfl (by kernel_rfl) hc8 (by kernel_rfl) rfl (by decide) (fun a S => ?_)
      refine sMove (.bool true) S (wN rfl) (.inl rfl) (by kernel_rfl) rfl (by decide) (fun a S => ?_)
      refine sSkip (c := true) 8 false 15 16 S rfl rfl (by kernel_rfl) rfl rfl (by decide) (fun a S => ?_)
      refine sSkip (c := true) 8 false 15 17 S rfl rfl (by kernel_rfl) rfl rfl (by decide) (fun a S => ?_)
      refine sSkip (c := true) 8 false 15 18 S rfl rfl (by kernel_rfl) rfl rfl (by decide) (fun a S => ?_)
      refine sPickT (b := true) (.bool true) S (wN rfl) rfl (by kernel_rfl) rfl (by kernel_rfl) rfl (by decide) (fun a S => ?_)
      exact leafL (leafT (⟨true, Option.some.inj h, S.fix [] [] (by decide) (by kernel_rfl) (by kernel_rfl) (by kernel_rfl)⟩))
    · refine sMove (.int .i64 p1) S (wG (c := !r6) 3 false 10 rfl rfl (by kernel_rfl) hc8) (.inl rfl) (by kernel_rfl) rfl (by decide) (fun a S => ?_)
      obtain ⟨r9, hx10, h⟩ := bindSome h
      have S1 := S.mem
      refine sCallQ (X := Unit) (f := 84) (vs := [.int .i64 p1, .int .i64 (-1000), .int .i64 1000]) (val := fun _ => .bool r9) S (wG (c := !r6) 3 false 10 rfl rfl (by kernel_rfl) hc8) rfl callee84 (by kernel_rfl) (S1.quiet [] (by kernel_rfl)) (fun E1 w1 S1 => c_slope_within E1 w1 p1 (-1000) 1000 r9 hx10 S1) rfl (by decide) (fun _ a w S => ?_)
      refine sNot (b := r9) S (wG (c := !r6) 3 false 10 rfl rfl (by kernel_rfl) hc8) rfl (by kernel_rfl) rfl (by decide) (fun a S => ?_)
      refine sPickF (b := !r6) (.bool (!r9)) S (wN rfl) rfl (by kernel_rfl) hc8 (by kernel_rfl) rfl (by decide) (fun a S => ?_)
      refine sMove (.bool (!r9)) S (wN rfl) (.inl rfl) (by kernel_rfl) rfl (by decide) (fun a S => ?_)
      rcases iteSome h with ⟨hc11, h⟩ | ⟨hc11, h⟩
      · refine sSkip (c := !r9) 8 false 15 16 S rfl rfl (by kernel_rfl) hc11 rfl (by decide) (fun a S => ?_)
        refine sSkip (c := !r9) 8 false 15 17 S rfl rfl (by kernel_rfl) hc11 rfl (by decide) (fun a S => ?_)
        refine sSkip (c := !r9) 8 false 15 18 S rfl rfl (by kernel_rfl) hc11 rfl (by decide) (fun a S => ?_)
        refine sPickT (b := !r9) (.bool true) S (wN rfl) rfl (by kernel_rfl) hc11 (by kernel_rfl) rfl (by decide) (fun a S => ?_)
        exact leafL (leafT (⟨true, Option.some.inj h, S.fix [] [] (by decide) (by kernel_rfl) (by kernel_rfl) (by kernel_rfl)⟩))
      · refine sMove (.int .i64 p2) S (wG (c := !r9) 8 false 15 rfl rfl (by kernel_rfl) hc11) (.inl rfl) (by kernel_rfl) rfl (by decide) (fun a S => ?_)
        obtain ⟨r12, hx13, h⟩ := bindSome h
        have S1 := S.mem
        refine sCallQ (X := Unit) (f := 84) (vs := [.int .i64 p2, .int .i64 1, .int .i64 1000]) (val := fun _ => .bool r12) S (wG (c := !r9) 8 false 15 rfl rfl (by kernel_rfl) hc11) rfl callee84 (by kernel_rfl) (S1.quiet [] (by kernel_rfl)) (fun E1 w1 S1 => c_slope_within E1 w1 p2 1 1000 r12 hx13 S1) rfl (by decide) (fun _ a w S => ?_)
        refine sNot (b := r12) S (wG (c := !r9) 8 false 15 rfl rfl (by kernel_rfl) hc11) rfl (by kernel_rfl) rfl (by decide) (fun a S => ?_)
        refine sPickF (b := !r9) (.bool (!r12)) S (wN rfl) rfl (by kernel_rfl) hc11 (by kernel_rfl) rfl (by decide) (fun a S => ?_)
        exact leafL (leafT (⟨!r12, Option.some.inj h, S.fix [] [] (by decide) (by kernel_rfl) (by kernel_rfl) (by kernel_rfl)⟩))
  · obtain ⟨o3, rfl, S⟩ := hI
    have h := g5
    clear g5
    try dsimp only at h
    rcases iteSome h with ⟨hc14, h⟩ | ⟨hc14, h⟩
    · refine sCondT (b := o3) S (by kernel_rfl) hc14 ?_
      refine sSeq (fun K15 hK15 => ?_)
      refine sRegion ?_
      refine sMove (.int .i64 2) S (wN rfl) (.inr rfl) (by kernel_rfl) rfl (by decide) (fun a S => ?_)
      refine leafL (leafT (hK15 _ _ ?_))
      obtain rfl := Option.some.inj h
      exact wp_ret (rThen (sRet (.int .i64 2) S (rsl1 rfl (rvT (t := 6) (v := .int .i64 2) S (by kernel_rfl))) ⟨(), rfl, S.mem.sel [] [] (by decide) (by kernel_rfl) (by kernel_rfl)⟩))
    · refine sCondF (b := o3) S (by kernel_rfl) hc14 ?_
      refine wp_skip (leafT (hK2 _ _ ?_))
      refine sSeq (fun K16 hK16 => ?_)
      refine sRegion ?_
      refine sMove (.int .i64 0) S (wN rfl) (.inr rfl) (by kernel_rfl) rfl (by decide) (fun a S => ?_)
      refine leafL (leafT (hK16 _ _ ?_))
      obtain rfl := Option.some.inj h
      exact wp_ret (sRet (.int .i64 0) S (rsl1 rfl (rvT (t := 6) (v := .int .i64 0) S (by kernel_rfl))) ⟨(), rfl, S.mem.sel [] [] (by decide) (by kernel_rfl) (by kernel_rfl)⟩)

end Go.Proofs.Ytmedbnjhgkcndaa
