import Derived.Test.YtdbgkakmhlmpbaaGTy
import Derived.Test.YtdbgkakmhlmpbaaG45
namespace Go.Proofs.Ytdbgkakmhlmpbaa
open Go.RowKit
set_option linter.unusedVariables false

noncomputable def F_raddleref23_Check (p0 : api_Ratio) : Option Int :=
  Option.bind (α := Bool) (
    if decide (p0.Den < 1) then
      some true
    else
      if decide (1000000000 < p0.Den) then
        some true
      else
        if decide (p0.Num < (-1000000000)) then
          some true
        else
          if decide (1000000000 < p0.Num) then
            some true
          else
            Option.bind (F_raddleref23_common p0.Num p0.Den) fun r11 =>
            some (r11 != 1)) fun o4 =>
  if o4 then
    some 8
  else
    some 0
set_option maxHeartbeats 4000000 in
set_option maxRecDepth 100000 in
theorem c_raddleref23_Check (E : Nat → Prop) (w0 : World) (p0 : api_Ratio) (v0 : Value) (r : Int) (h : F_raddleref23_Check p0 = some r) (S : St0 E [] w0 w0 [] [fRep r_api_Ratio (v0) p0]) :
    Calls Try.prog 25 #[v0] w0 (Ret (X := Unit) E [] w0 (fun _ => .int .i64 r) (fun _ => []) (fun _ => [])) := by
  unfold F_raddleref23_Check at h
  obtain rfl : v0 = .agg #[.int .i64 p0.Num, .int .i64 p0.Den] := S.know (i := 0) (e := fRep r_api_Ratio (v0) p0) (by kernel_rfl)
  refine sEnter (args := [.agg #[.int .i64 p0.Num, .int .i64 p0.Den]]) 29 Try.func25 rfl rfl (by simp) S (fun a S => ?_)
  refine sSeq (fun K1 hK1 => ?_)
  refine sRegion ?_
  refine sBox (v := .agg #[.int .i64 p0.Num, .int .i64 p0.Den]) S (wN rfl) rfl (by kernel_rfl) [.int .i64 p0.Num, .int .i64 p0.Den] rfl rfl (by decide) (fun a b2 w S => ?_)
  refine sMove (.int .i64 0) S (wN rfl) (.inr rfl) (by kernel_rfl) rfl (by decide) (fun a S => ?_)
  refine leafL (leafT (hK1 _ _ ?_))
  refine sSeq (fun K3 hK3 => ?_)
  obtain ⟨t5, h, g6⟩ := bindSome h
  refine sCut (fun a w => ∃ o4, o4 = t5 ∧ St [] E [] w0 29 a w [(28, .bool o4)] [] []) ?_ (fun a w hI => ?_)
  · refine sRegion ?_
    refine sField (b := b2) (off := 0) 1 1 S (wN rfl) rfl (by kernel_rfl) (by kernel_rfl) rfl rfl (by decide) (fun a S => ?_)
    refine sLoad1 (p := b2) (off := 1) (T := 25) (vs := [.int .i64 p0.Num, .int .i64 p0.Den]) 0 (.int .i64 p0.Den) S (wN rfl) rfl (by kernel_rfl) (by kernel_rfl) (by kernel_rfl) rfl rfl (by decide) (fun a S => ?_)
    refine sBin (.bool (decide (p0.Den < 1))) S (wN rfl) rfl (by kernel_rfl) (by kernel_rfl) (bLt _ _ _ _ .i64 p0.Den 1) rfl (by decide) (fun a S => ?_)
    refine sMove (.bool (decide (p0.Den < 1))) S (wN rfl) (.inl rfl) (by kernel_rfl) rfl (by decide) (fun a S => ?_)
    rcases iteSome h with ⟨hc7, h⟩ | ⟨hc7, h⟩
    · refine sSkip (c := decide (p0.Den < 1)) 3 false 6 7 S rfl rfl (by kernel_rfl) hc7 rfl (by decide) (fun a S => ?_)
      refine sSkip (c := decide (p0.Den < 1)) 3 false 6 8 S rfl rfl (by kernel_rfl) hc7 rfl (by decide) (fun a S => ?_)
      refine sSkip (c := decide (p0.Den < 1)) 3 false 6 9 S rfl rfl (by kernel_rfl) hc7 rfl (by decide) (fun a S => ?_)
      refine sPickT (b := decide (p0.Den < 1)) (.bool true) S (wN rfl) rfl (by kernel_rfl) hc7 (by kernel_rfl) rfl (by decide) (fun a S => ?_)
      refine sMove (.bool true) S (wN rfl) (.inl rfl) (by kernel_rfl) rfl (by decide) (fun a S => ?_)
      refine sSkip (c := true) 8 false 11 12 S rfl rfl (by kernel_rfl) rfl rfl (by decide) (fun a S => ?_)
      refine sSkip (c := true) 8 false 11 13 S rfl rfl (by kernel_rfl) rfl rfl (by decide) (fun a S => ?_)
      refine sSkip (c := true) 8 false 11 14 S rfl rfl (by kernel_rfl) rfl rfl (by decide) (fun a S => ?_)
      refine sPickT (b := true) (.bool true) S (wN rfl) rfl (by kernel_rfl) rfl (by kernel_rfl) rfl (by decide) (fun a S => ?_)
      refine sMove (.bool true) S (wN rfl) (.inl rfl) (by kernel_rfl) rfl (by decide) (fun a S => ?_)
      refine sSkip (c := true) 13 false 16 17 S rfl rfl (by kernel_rfl) rfl rfl (by decide) (fun a S => ?_)
      refine sSkip (c := true) 13 false 16 18 S rfl rfl (by kernel_rfl) rfl rfl (by decide) (fun a S => ?_)
      refine sSkip (c := true) 13 false 16 19 S rfl rfl (by kernel_rfl) rfl rfl (by decide) (fun a S => ?_)
      refine sPickT (b := true) (.bool true) S (wN rfl) rfl (by kernel_rfl) rfl (by kernel_rfl) rfl (by decide) (fun a S => ?_)
      refine sMove (.bool true) S (wN rfl) (.inl rfl) (by kernel_rfl) rfl (by decide) (fun a S => ?_)
      refine sSkip (c := true) 18 false 21 22 S rfl rfl (by kernel_rfl) rfl rfl (by decide) (fun a S => ?_)
      refine sSkip (c := true) 18 false 21 23 S rfl rfl (by kernel_rfl) rfl rfl (by decide) (fun a S => ?_)
      refine sSkip (c := true) 18 false 21 24 S rfl rfl (by kernel_rfl) rfl rfl (by decide) (fun a S => ?_)
      refine sSkip (c := true) 18 false 21 25 S rfl rfl (by kernel_rfl) rfl rfl (by decide) (fun a S => ?_)
      refine sSkip (c := true) 18 false 21 26 S rfl rfl (by kernel_rfl) rfl rfl (by decide) (fun a S => ?_)
      refine sSkip (c := true) 18 false 21 27 S rfl rfl (by kernel_rfl) rfl rfl (by decide) (fun a S => ?_)
      refine sPickT (b := true) (.bool true) S (wN rfl) rfl (by kernel_rfl) rfl (by kernel_rfl) rfl (by decide) (fun a S => ?_)
      exact leafL (leafT (⟨true, Option.some.inj h, S.fix [] [] (by decide) (by kernel_rfl) (by kernel_rfl) (by kernel_rfl)⟩))
    · refine sField (b := b2) (off := 0) 1 1 S (wG (c := decide (p0.Den < 1)) 3 false 6 rfl rfl (by kernel_rfl) hc7) rfl (by kernel_rfl) (by kernel_rfl) rfl rfl (by decide) (fun a S => ?_)
      refine sLoad1 (p := b2) (off := 1) (T := 25) (vs := [.int .i64 p0.Num, .int .i64 p0.Den]) 0 (.int .i64 p0.Den) S (wG (c := decide (p0.Den < 1)) 3 false 6 rfl rfl (by kernel_rfl) hc7) rfl (by kernel_rfl) (by kernel_rfl) (by kernel_rfl) rfl rfl (by decide) (fun a S => ?_)
      refine sBin (.bool (decide (1000000000 < p0.Den))) S (wG (c := decide (p0.Den < 1)) 3 false 6 rfl rfl (by kernel_rfl) hc7) rfl (by kernel_rfl) (by kernel_rfl) (bGt _ _ _ _ .i64 p0.Den 1000000000) rfl (by decide) (fun a S => ?_)
      refine sPickF (b := decide (p0.Den < 1)) (.bool (decide (1000000000 < p0.Den))) S (wN rfl) rfl (by kernel_rfl) hc7 (by kernel_rfl) rfl (by decide) (fun a S => ?_)
      refine sMove (.bool (decide (1000000000 < p0.Den))) S (wN rfl) (.inl rfl) (by kernel_rfl) rfl (by decide) (fun a S => ?_)
      rcases iteSome h with ⟨hc8, h⟩ | ⟨hc8, h⟩
      · refine sSkip (c := decide (1000000000 < p0.Den)) 8 false 11 12 S rfl rfl (by kernel_rfl) hc8 rfl (by decide) (fun a S => ?_)
        refine sSkip (c := decide (1000000000 < p0.Den)) 8 false 11 13 S rfl rfl (by kernel_rfl) hc8 rfl (by decide) (fun a S => ?_)
        refine sSkip (c := decide (1000000000 < p0.Den)) 8 false 11 14 S rfl rfl (by kernel_rfl) hc8 rfl (by decide) (fun a S => ?_)
        refine sPickT (b := decide (1000000000 < p0.Den)) (.bool true) S (wN rfl) rfl (by kernel_rfl) hc8 (by kernel_rfl) rfl (by decide) (fun a S => ?_)
        refine sMove (.bool true) S (wN rfl) (.inl rfl) (by kernel_rfl) rfl (by decide) (fun a S => ?_)
        refine sSkip (c := true) 13 false 16 17 S rfl rfl (by kernel_rfl) rfl rfl (by decide) (fun a S => ?_)
        refine sSkip (c := true) 13 false 16 18 S rfl rfl (by kernel_rfl) rfl rfl (by decide) (fun a S => ?_)
        refine sSkip (c := true) 13 false 16 19 S rfl rfl (by kernel_rfl) rfl rfl (by decide) (fun a S => ?_)
        refine sPickT (b := true) (.bool true) S (wN rfl) rfl (by kernel_rfl) rfl (by kernel_rfl) rfl (by decide) (fun a S => ?_)
        refine sMove (.bool true) S (wN rfl) (.inl rfl) (by kernel_rfl) rfl (by decide) (fun a S => ?_)
        refine sSkip (c := true) 18 false 21 22 S rfl rfl (by kernel_rfl) rfl rfl (by decide) (fun a S => ?_)
        refine sSkip (c := true) 18 false 21 23 S rfl rfl (by kernel_rfl) rfl rfl (by decide) (fun a S => ?_)
        refine sSkip (c := true) 18 false 21 24 S rfl rfl (by kernel_rfl) rfl rfl (by decide) (fun a S => ?_)
        refine sSkip (c := true) 18 false 21 25 S rfl rfl (by kernel_rfl) rfl rfl (by decide) (fun a S => ?_)
        refine sSkip (c := true) 18 false 21 26 S rfl rfl (by kernel_rfl) rfl rfl (by decide) (fun a S => ?_)
        refine sSkip (c := true) 18 false 21 27 S rfl rfl (by kernel_rfl) rfl rfl (by decide) (fun a S => ?_)
        refine sPickT (b := true) (.bool true) S (wN rfl) rfl (by kernel_rfl) rfl (by kernel_rfl) rfl (by decide) (fun a S => ?_)
        exact leafL (leafT (⟨true, Option.some.inj h, S.fix [] [] (by decide) (by kernel_rfl) (by kernel_rfl) (by kernel_rfl)⟩))
      · refine sField (b := b2) (off := 0) 0 0 S (wG (c := decide (1000000000 < p0.Den)) 8 false 11 rfl rfl (by kernel_rfl) hc8) rfl (by kernel_rfl) (by kernel_rfl) rfl rfl (by decide) (fun a S => ?_)
        refine sLoad1 (p := b2) (off := 0) (T := 25) (vs := [.int .i64 p0.Num, .int .i64 p0.Den]) 0 (.int .i64 p0.Num) S (wG (c := decide (1000000000 < p0.Den)) 8 false 11 rfl rfl (by kernel_rfl) hc8) rfl (by kernel_rfl) (by kernel_rfl) (by kernel_rfl) rfl rfl (by decide) (fun a S => ?_)
        refine sBin (.bool (decide (p0.Num < (-1000000000)))) S (wG (c := decide (1000000000 < p0.Den)) 8 false 11 rfl rfl (by kernel_rfl) hc8) rfl (by kernel_rfl) (by kernel_rfl) (bLt _ _ _ _ .i64 p0.Num (-1000000000)) rfl (by decide) (fun a S => ?_)
        refine sPickF (b := decide (1000000000 < p0.Den)) (.bool (decide (p0.Num < (-1000000000)))) S (wN rfl) rfl (by kernel_rfl) hc8 (by kernel_rfl) rfl (by decide) (fun a S => ?_)
        refine sMove (.bool (decide (p0.Num < (-1000000000)))) S (wN rfl) (.inl rfl) (by kernel_rfl) rfl (by decide) (fun a S => ?_)
        rcases iteSome h with ⟨hc9, h⟩ | ⟨hc9, h⟩
        · refine sSkip (c := decide (p0.Num < (-1000000000))) 13 false 16 17 S rfl rfl (by kernel_rfl) hc9 rfl (by decide) (fun a S => ?_)
          refine sSkip (c := decide (p0.Num < (-1000000000))) 13 false 16 18 S rfl rfl (by kernel_rfl) hc9 rfl (by decide) (fun a S => ?_)
          refine sSkip (c := decide (p0.Num < (-1000000000))) 13 false 16 19 S rfl rfl (by kernel_rfl) hc9 rfl (by decide) (fun a S => ?_)
          refine sPickT (b := decide (p0.Num < (-1000000000))) (.bool true) S (wN rfl) rfl (by kernel_rfl) hc9 (by kernel_rfl) rfl (by decide) (fun a S => ?_)
          refine sMove (.bool true) S (wN rfl) (.inl rfl) (by kernel_rfl) rfl (by decide) (fun a S => ?_)
          refine sSkip (c := true) 18 false 21 22 S rfl rfl (by kernel_rfl) rfl rfl (by decide) (fun a S => ?_)
          refine sSkip (c := true) 18 false 21 23 S rfl rfl (by kernel_rfl) rfl rfl (by decide) (fun a S => ?_)
          refine sSkip (c := true) 18 false 21 24 S rfl rfl (by kernel_rfl) rfl rfl (by decide) (fun a S => ?_)
          refine sSkip (c := true) 18 false 21 25 S rfl rfl (by kernel_rfl) rfl rfl (by decide) (fun a S => ?_)
          refine sSkip (c := true) 18 false 21 26 S rfl rfl (by kernel_rfl) rfl rfl (by decide) (fun a S => ?_)
          refine sSkip (c := true) 18 false 21 27 S rfl rfl (by kernel_rfl) rfl rfl (by decide) (fun a S => ?_)
          refine sPickT (b := true) (.bool true) S (wN rfl) rfl (by kernel_rfl) rfl (by kernel_rfl) rfl (by decide) (fun a S => ?_)
          exact leafL (leafT (⟨true, Option.some.inj h, S.fix [] [] (by decide) (by kernel_rfl) (by kernel_rfl) (by kernel_rfl)⟩))
        · refine sField (b := b2) (off := 0) 0 0 S (wG (c := decide (p0.Num < (-1000000000))) 13 false 16 rfl rfl (by kernel_rfl) hc9) rfl (by kernel_rfl) (by kernel_rfl) rfl rfl (by decide) (fun a S => ?_)
          refine sLoad1 (p := b2) (off := 0) (T := 25) (vs := [.int .i64 p0.Num, .int .i64 p0.Den]) 0 (.int .i64 p0.Num) S (wG (c := decide (p0.Num < (-1000000000))) 13 false 16 rfl rfl (by kernel_rfl) hc9) rfl (by kernel_rfl) (by kernel_rfl) (by kernel_rfl) rfl rfl (by decide) (fun a S => ?_)
          refine sBin (.bool (decide (1000000000 < p0.Num))) S (wG (c := decide (p0.Num < (-1000000000))) 13 false 16 rfl rfl (by kernel_rfl) hc9) rfl (by kernel_rfl) (by kernel_rfl) (bGt _ _ _ _ .i64 p0.Num 1000000000) rfl (by decide) (fun a S => ?_)
          refine sPickF (b := decide (p0.Num < (-1000000000))) (.bool (decide (1000000000 < p0.Num))) S (wN rfl) rfl (by kernel_rfl) hc9 (by kernel_rfl) rfl (by decide) (fun a S => ?_)
          refine sMove (.bool (decide (1000000000 < p0.Num))) S (wN rfl) (.inl rfl) (by kernel_rfl) rfl (by decide) (fun a S => ?_)
          rcases iteSome h with ⟨hc10, h⟩ | ⟨hc10, h⟩
          · refine sSkip (c := decide (1000000000 < p0.Num)) 18 false 21 22 S rfl rfl (by kernel_rfl) hc10 rfl (by decide) (fun a S => ?_)
            refine sSkip (c := decide (1000000000 < p0.Num)) 18 false 21 23 S rfl rfl (by kernel_rfl) hc10 rfl (by decide) (fun a S => ?_)
            refine sSkip (c := decide (1000000000 < p0.Num)) 18 false 21 24 S rfl rfl (by kernel_rfl) hc10 rfl (by decide) (fun a S => ?_)
            refine sSkip (c := decide (1000000000 < p0.Num)) 18 false 21 25 S rfl rfl (by kernel_rfl) hc10 rfl (by decide) (fun a S => ?_)
            refine sSkip (c := decide (1000000000 < p0.Num)) 18 false 21 26 S rfl rfl (by kernel_rfl) hc10 rfl (by decide) (fun a S => ?_)
            refine sSkip (c := decide (1000000000 < p0.Num)) 18 false 21 27 S rfl rfl (by kernel_rfl) hc10 rfl (by decide) (fun a S => ?_)
            refine sPickT (b := decide (1000000000 < p0.Num)) (.bool true) S (wN rfl) rfl (by kernel_rfl) hc10 (by kernel_rfl) rfl (by decide) (fun a S => ?_)
            exact leafL (leafT (⟨true, Option.some.inj h, S.fix [] [] (by decide) (by kernel_rfl) (by kernel_rfl) (by kernel_rfl)⟩))
          · refine sField (b := b2) (off := 0) 0 0 S (wG (c := decide (1000000000 < p0.Num)) 18 false 21 rfl rfl (by kernel_rfl) hc10) rfl (by kernel_rfl) (by kernel_rfl) rfl rfl (by decide) (fun a S => ?_)
            refine sLoad1 (p := b2) (off := 0) (T := 25) (vs := [.int .i64 p0.Num, .int .i64 p0.Den]) 0 (.int .i64 p0.Num) S (wG (c := decide (1000000000 < p0.Num)) 18 false 21 rfl rfl (by kernel_rfl) hc10) rfl (by kernel_rfl) (by kernel_rfl) (by kernel_rfl) rfl rfl (by decide) (fun a S => ?_)
            refine sField (b := b2) (off := 0) 1 1 S (wG (c := decide (1000000000 < p0.Num)) 18 false 21 rfl rfl (by kernel_rfl) hc10) rfl (by kernel_rfl) (by kernel_rfl) rfl rfl (by decide) (fun a S => ?_)
            refine sLoad1 (p := b2) (off := 1) (T := 25) (vs := [.int .i64 p0.Num, .int .i64 p0.Den]) 0 (.int .i64 p0.Den) S (wG (c := decide (1000000000 < p0.Num)) 18 false 21 rfl rfl (by kernel_rfl) hc10) rfl (by kernel_rfl) (by kernel_rfl) (by kernel_rfl) rfl rfl (by decide) (fun a S => ?_)
            obtain ⟨r11, hx12, h⟩ := bindSome h
            have S1 := S.mem
            refine sCallQ (X := Unit) (f := 45) (vs := [.int .i64 p0.Num, .int .i64 p0.Den]) (val := fun _ => .int .i64 r11) S (wG (c := decide (1000000000 < p0.Num)) 18 false 21 rfl rfl (by kernel_rfl) hc10) rfl callee45 (by kernel_rfl) (S1.quiet [] (by kernel_rfl)) (fun E1 w1 S1 => c_raddleref23_common E1 w1 p0.Num p0.Den r11 hx12 S1) rfl (by decide) (fun _ a w S => ?_)
            refine sBin (.bool (r11 != 1)) S (wG (c := decide (1000000000 < p0.Num)) 18 false 21 rfl rfl (by kernel_rfl) hc10) rfl (by kernel_rfl) (by kernel_rfl) (bNe _ _ _ _ .i64 r11 1) rfl (by decide) (fun a S => ?_)
            refine sPickF (b := decide (1000000000 < p0.Num)) (.bool (r11 != 1)) S (wN rfl) rfl (by kernel_rfl) hc10 (by kernel_rfl) rfl (by decide) (fun a S => ?_)
            exact leafL (leafT (⟨r11 != 1, Option.some.inj h, S.fix [] [] (by decide) (by kernel_rfl) (by kernel_rfl) (by kernel_rfl)⟩))
  · obtain ⟨o4, rfl, S⟩ := hI
    have h := g6
    clear g6
    try dsimp only at h
    rcases iteSome h with ⟨hc13, h⟩ | ⟨hc13, h⟩
    · refine sCondT (b := o4) S (by kernel_rfl) hc13 ?_
      refine sSeq (fun K14 hK14 => ?_)
      refine sRegion ?_
      refine sMove (.int .i64 8) S (wN rfl) (.inr rfl) (by kernel_rfl) rfl (by decide) (fun a S => ?_)
      refine leafL (leafT (hK14 _ _ ?_))
      obtain rfl := Option.some.inj h
      exact wp_ret (rThen (sRet (.int .i64 8) S (rsl1 rfl (rvT (t := 2) (v := .int .i64 8) S (by kernel_rfl))) ⟨(), rfl, S.mem.sel [] [] (by decide) (by kernel_rfl) (by kernel_rfl)⟩))
    · refine sCondF (b := o4) S (by kernel_rfl) hc13 ?_
      refine wp_skip (leafT (hK3 _ _ ?_))
      refine sSeq (fun K15 hK15 => ?_)
      refine sRegion ?_
      refine sMove (.int .i64 0) S (wN rfl) (.inr rfl) (by kernel_rfl) rfl (by decide) (fun a S => ?_)
      refine leafL (leafT (hK15 _ _ ?_))
      obtain rfl := Option.some.inj h
      exact wp_ret (sRet (.int .i64 0) S (rsl1 rfl (rvT (t := 2) (v := .int .i64 0) S (by kernel_rfl))) ⟨(), rfl, S.mem.sel [] [] (by decide) (by kernel_rfl) (by kernel_rfl)⟩)

end Go.Proofs.Ytdbgkakmhlmpbaa
