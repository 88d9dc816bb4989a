import Derived.Test.YtjndecalogklhaaGTy
import Derived.Test.YtjndecalogklhaaG19
namespace Go.Proofs.Ytjndecalogklhaa
open Go.RowKit
set_option linter.unusedVariables false

noncomputable def F_sett_checked (p0 : api_Ratio) (p1 : Bool) (p2 : Int) : Option Int :=
  Option.bind (α := Bool) (
    Option.bind (F_yarn_Check p0) fun r7 =>
    if r7 != 0 then
      some true
    else
      if decide (p0.Num < 0) then
        some true
      else
        if p1 then
          some (p0.Num == 0)
        else
          some false) fun o4 =>
  if o4 then
    some 8
  else
    Option.bind (α := Bool) (
      if decide (p2 < 0) then
        some true
      else
        some (decide (1000000000 < p2))) fun o15 =>
    if o15 then
      some 2
    else
      some 0
set_option maxHeartbeats 4000000 in
set_option maxRecDepth 100000 in
theorem c_sett_checked (E : Nat → Prop) (w0 : World) (p0 : api_Ratio) (v0 : Value) (p1 : Bool) (p2 : Int) (r : Int) (h : F_sett_checked p0 p1 p2 = some r) (S : St0 E [] w0 w0 [] [fRep r_api_Ratio (v0) p0]) :
    Calls Try.prog 46 #[v0, .bool p1, .int .i64 p2] w0 (Ret (X := Unit) E [] w0 (fun _ => .int .i64 r) (fun _ => []) (fun _ => [])) := by
  unfold F_sett_checked at h
  obtain rfl : v0 = .agg #[.int .i64 p0.Num, .int .i64 p0.Den] := S.know (i := 0) (e := fRep r_api_Ratio (v0) p0) (by kernel_rfl)
  refine sEnter (args := [.agg #[.int .i64 p0.Num, .int .i64 p0.Den], .bool p1, .int .i64 p2]) 29 Try.func46 rfl rfl (by simp) S (fun a S => ?_)
  refine sSeq (fun K1 hK1 => ?_)
  refine sRegion ?_
  refine sBox (v := .agg #[.int .i64 p0.Num, .int .i64 p0.Den]) S (wN rfl) rfl (by kernel_rfl) [.int .i64 p0.Num, .int .i64 p0.Den] rfl rfl (by decide) (fun a b2 w S => ?_)
  refine sMove (.int .i64 0) S (wN rfl) (.inr rfl) (by kernel_rfl) rfl (by decide) (fun a S => ?_)
  refine leafL (leafT (hK1 _ _ ?_))
  refine sSeq (fun K3 hK3 => ?_)
  obtain ⟨t5, h, g6⟩ := bindSome h
  refine sCut (fun a w => ∃ o4, o4 = t5 ∧ St E [] w0 29 a w [(2, .int .i64 p2), (22, .bool o4)] [] []) ?_ (fun a w hI => ?_)
  · refine sRegion ?_
    refine sLoadN (p := b2) (off := 0) (T := 34) (vs := [.int .i64 p0.Num, .int .i64 p0.Den]) 0 [.int .i64 p0.Num, .int .i64 p0.Den] S (wN rfl) rfl (by kernel_rfl) (by kernel_rfl) (by kernel_rfl) (by kernel_rfl) rfl rfl (by decide) (fun a S => ?_)
    obtain ⟨r7, hx8, h⟩ := bindSome h
    have S1 := S.mem
    refine sCallQ (X := Unit) (f := 19) (vs := [.agg #[.int .i64 p0.Num, .int .i64 p0.Den]]) (val := fun _ => .int .i64 r7) S (wN rfl) rfl callee19 (by kernel_rfl) (S1.quiet [0] (by kernel_rfl)) (fun E1 w1 S1 => c_yarn_Check E1 w1 p0 (.agg #[.int .i64 p0.Num, .int .i64 p0.Den]) r7 hx8 S1) rfl (by decide) (fun _ a w S => ?_)
    refine sBin (.bool (r7 != 0)) S (wN rfl) rfl (by kernel_rfl) (by kernel_rfl) (bNe _ _ _ _ .i64 r7 0) rfl (by decide) (fun a S => ?_)
    refine sMove (.bool (r7 != 0)) S (wN rfl) (.inl rfl) (by kernel_rfl) rfl (by decide) (fun a S => ?_)
    rcases iteSome h with ⟨hc9, h⟩ | ⟨hc9, h⟩
    · refine sSkip (c := r7 != 0) 3 false 10 11 S rfl rfl (by kernel_rfl) hc9 rfl (by decide) (fun a S => ?_)
      refine sSkip (c := r7 != 0) 3 false 10 12 S rfl rfl (by kernel_rfl) hc9 rfl (by decide) (fun a S => ?_)
      refine sSkip (c := r7 != 0) 3 false 10 13 S rfl rfl (by kernel_rfl) hc9 rfl (by decide) (fun a S => ?_)
      refine sPickT (b := r7 != 0) (.bool true) S (wN rfl) rfl (by kernel_rfl) hc9 (by kernel_rfl) rfl (by decide) (fun a S => ?_)
      refine sMove (.bool true) S (wN rfl) (.inl rfl) (by kernel_rfl) rfl (by decide) (fun a S => ?_)
      refine sSkip (c := true) 8 false 15 16 S rfl rfl (by kernel_rfl) rfl rfl (by decide) (fun a S => ?_)
      refine sSkip (c := true) 8 false 15 17 S rfl rfl (by kernel_rfl) rfl rfl (by decide) (fun a S => ?_)
      refine sSkipU 10 true 17 18 S rfl rfl (by kernel_rfl) rfl (by decide) (fun a S => ?_)
      refine sSkipU 10 true 17 19 S rfl rfl (by kernel_rfl) rfl (by decide) (fun a S => ?_)
      refine sSkipU 10 true 17 20 S rfl rfl (by kernel_rfl) rfl (by decide) (fun a S => ?_)
      refine sSkip (c := true) 8 false 15 21 S rfl rfl (by kernel_rfl) rfl rfl (by decide) (fun a S => ?_)
      refine sPickT (b := true) (.bool true) S (wN rfl) rfl (by kernel_rfl) rfl (by kernel_rfl) rfl (by decide) (fun a S => ?_)
      exact leafL (leafT (⟨true, Option.some.inj h, S.fix [] [] (by decide) (by kernel_rfl) (by kernel_rfl) (by kernel_rfl)⟩))
    · refine sField (b := b2) (off := 0) 0 0 S (wG (c := r7 != 0) 3 false 10 rfl rfl (by kernel_rfl) hc9) rfl (by kernel_rfl) (by kernel_rfl) rfl rfl (by decide) (fun a S => ?_)
      refine sLoad1 (p := b2) (off := 0) (T := 34) (vs := [.int .i64 p0.Num, .int .i64 p0.Den]) 0 (.int .i64 p0.Num) S (wG (c := r7 != 0) 3 false 10 rfl rfl (by kernel_rfl) hc9) rfl (by kernel_rfl) (by kernel_rfl) (by kernel_rfl) rfl rfl (by decide) (fun a S => ?_)
      refine sBin (.bool (decide (p0.Num < 0))) S (wG (c := r7 != 0) 3 false 10 rfl rfl (by kernel_rfl) hc9) rfl (by kernel_rfl) (by kernel_rfl) (bLt _ _ _ _ .i64 p0.Num 0) rfl (by decide) (fun a S => ?_)
      refine sPickF (b := r7 != 0) (.bool (decide (p0.Num < 0))) S (wN rfl) rfl (by kernel_rfl) hc9 (by kernel_rfl) rfl (by decide) (fun a S => ?_)
      refine sMove (.bool (decide (p0.Num < 0))) S (wN rfl) (.inl rfl) (by kernel_rfl) rfl (by decide) (fun a S => ?_)
      rcases iteSome h with ⟨hc10, h⟩ | ⟨hc10, h⟩
      · refine sSkip (c := decide (p0.Num < 0)) 8 false 15 16 S rfl rfl (by kernel_rfl) hc10 rfl (by decide) (fun a S => ?_)
        refine sSkip (c := decide (p0.Num < 0)) 8 false 15 17 S rfl rfl (by kernel_rfl) hc10 rfl (by decide) (fun a S => ?_)
        refine sSkipU 10 true 17 18 S rfl rfl (by kernel_rfl) rfl (by decide) (fun a S => ?_)
        refine sSkipU 10 true 17 19 S rfl rfl (by kernel_rfl) rfl (by decide) (fun a S => ?_)
        refine sSkipU 10 true 17 20 S rfl rfl (by kernel_rfl) rfl (by decide) (fun a S => ?_)
        refine sSkip (c := decide (p0.Num < 0)) 8 false 15 21 S rfl rfl (by kernel_rfl) hc10 rfl (by decide) (fun a S => ?_)
        refine sPickT (b := decide (p0.Num < 0)) (.bool true) S (wN rfl) rfl (by kernel_rfl) hc10 (by kernel_rfl) rfl (by decide) (fun a S => ?_)
        exact leafL (leafT (⟨true, Option.some.inj h, S.fix [] [] (by decide) (by kernel_rfl) (by kernel_rfl) (by kernel_rfl)⟩))
      · refine sMove (.bool p1) S (wG (c := decide (p0.Num < 0)) 8 false 15 rfl rfl (by kernel_rfl) hc10) (.inl rfl) (by kernel_rfl) rfl (by decide) (fun a S => ?_)
        refine sMove (.bool p1) S (wG (c := decide (p0.Num < 0)) 8 false 15 rfl rfl (by kernel_rfl) hc10) (.inl rfl) (by kernel_rfl) rfl (by decide) (fun a S => ?_)
        rcases iteSome h with ⟨hc11, h⟩ | ⟨hc11, h⟩
        · refine sField (b := b2) (off := 0) 0 0 S (wG (c := p1) 10 true 17 rfl rfl (by kernel_rfl) hc11) rfl (by kernel_rfl) (by kernel_rfl) rfl rfl (by decide) (fun a S => ?_)
          refine sLoad1 (p := b2) (off := 0) (T := 34) (vs := [.int .i64 p0.Num, .int .i64 p0.Den]) 0 (.int .i64 p0.Num) S (wG (c := p1) 10 true 17 rfl rfl (by kernel_rfl) hc11) rfl (by kernel_rfl) (by kernel_rfl) (by kernel_rfl) rfl rfl (by decide) (fun a S => ?_)
          refine sBin (.bool (p0.Num == 0)) S (wG (c := p1) 10 true 17 rfl rfl (by kernel_rfl) hc11) rfl (by kernel_rfl) (by kernel_rfl) (bEq _ _ _ _ .i64 p0.Num 0) rfl (by decide) (fun a S => ?_)
          refine sPickT (b := p1) (.bool (p0.Num == 0)) S (wG (c := decide (p0.Num < 0)) 8 false 15 rfl rfl (by kernel_rfl) hc10) rfl (by kernel_rfl) hc11 (by kernel_rfl) rfl (by decide) (fun a S => ?_)
          refine sPickF (b := decide (p0.Num < 0)) (.bool (p0.Num == 0)) S (wN rfl) rfl (by kernel_rfl) hc10 (by kernel_rfl) rfl (by decide) (fun a S => ?_)
          exact leafL (leafT (⟨p0.Num == 0, Option.some.inj h, S.fix [] [] (by decide) (by kernel_rfl) (by kernel_rfl) (by kernel_rfl)⟩))
        · refine sSkip (c := p1) 10 true 17 18 S rfl rfl (by kernel_rfl) hc11 rfl (by decide) (fun a S => ?_)
          refine sSkip (c := p1) 10 true 17 19 S rfl rfl (by kernel_rfl) hc11 rfl (by decide) (fun a S => ?_)
          refine sSkip (c := p1) 10 true 17 20 S rfl rfl (by kernel_rfl) hc11 rfl (by decide) (fun a S => ?_)
          refine sPickF (b := p1) (.bool false) S (wG (c := decide (p0.Num < 0)) 8 false 15 rfl rfl (by kernel_rfl) hc10) rfl (by kernel_rfl) hc11 (by kernel_rfl) rfl (by decide) (fun a S => ?_)
          refine sPickF (b := decide (p0.Num < 0)) (.bool false) S (wN rfl) rfl (by kernel_rfl) hc10 (by kernel_rfl) rfl (by decide) (fun a S => ?_)
          exact leafL (leafT (⟨false, Option.some.inj h, S.fix [] [] (by decide) (by kernel_rfl) (by kernel_rfl) (by kernel_rfl)⟩))
  · obtain ⟨o4, rfl, S⟩ := hI
    have h := g6
    clear g6
    try dsimp only at h
    rcases iteSome h with ⟨hc12, h⟩ | ⟨hc12, h⟩
    · refine sCondT (b := o4) S (by kernel_rfl) hc12 ?_
      refine sSeq (fun K13 hK13 => ?_)
      refine sRegion ?_
      refine sMove (.int .i64 8) S (wN rfl) (.inr rfl) (by kernel_rfl) rfl (by decide) (fun a S => ?_)
      refine leafL (leafT (hK13 _ _ ?_))
      obtain rfl := Option.some.inj h
      exact wp_ret (rThen (sRet (.int .i64 8) S (rsl1 rfl (rvT (t := 6) (v := .int .i64 8) S (by kernel_rfl))) ⟨(), rfl, S.mem.sel [] [] (by decide) (by kernel_rfl) (by kernel_rfl)⟩))
    · refine sCondF (b := o4) S (by kernel_rfl) hc12 ?_
      refine wp_skip (leafT (hK3 _ _ ?_))
      refine sSeq (fun K14 hK14 => ?_)
      obtain ⟨t16, h, g17⟩ := bindSome h
      refine sCut (fun a w => ∃ o15, o15 = t16 ∧ St E [] w0 29 a w [(28, .bool o15)] [] []) ?_ (fun a w hI => ?_)
      · refine sRegion ?_
        refine sMove (.int .i64 p2) S (wN rfl) (.inl rfl) (by kernel_rfl) rfl (by decide) (fun a S => ?_)
        refine sBin (.bool (decide (p2 < 0))) S (wN rfl) rfl (by kernel_rfl) (by kernel_rfl) (bLt _ _ _ _ .i64 p2 0) rfl (by decide) (fun a S => ?_)
        refine sMove (.bool (decide (p2 < 0))) S (wN rfl) (.inl rfl) (by kernel_rfl) rfl (by decide) (fun a S => ?_)
        rcases iteSome h with ⟨hc18, h⟩ | ⟨hc18, h⟩
        · refine sSkip (c := decide (p2 < 0)) 2 false 25 26 S rfl rfl (by kernel_rfl) hc18 rfl (by decide) (fun a S => ?_)
          refine sSkip (c := decide (p2 < 0)) 2 false 25 27 S rfl rfl (by kernel_rfl) hc18 rfl (by decide) (fun a S => ?_)
          refine sPickT (b := decide (p2 < 0)) (.bool true) S (wN rfl) rfl (by kernel_rfl) hc18 (by kernel_rfl) rfl (by decide) (fun a S => ?_)
          exact leafL (leafT (⟨true, Option.some.inj h, S.fix [] [] (by decide) (by kernel_rfl) (by kernel_rfl) (by kernel_rfl)⟩))
        · refine sMove (.int .i64 p2) S (wG (c := decide (p2 < 0)) 2 false 25 rfl rfl (by kernel_rfl) hc18) (.inl rfl) (by kernel_rfl) rfl (by decide) (fun a S => ?_)
          refine sBin (.bool (decide (1000000000 < p2))) S (wG (c := decide (p2 < 0)) 2 false 25 rfl rfl (by kernel_rfl) hc18) rfl (by kernel_rfl) (by kernel_rfl) (bGt _ _ _ _ .i64 p2 1000000000) rfl (by decide) (fun a S => ?_)
          refine sPickF (b := decide (p2 < 0)) (.bool (decide (1000000000 < p2))) S (wN rfl) rfl (by kernel_rfl) hc18 (by kernel_rfl) rfl (by decide) (fun a S => ?_)
          exact leafL (leafT (⟨decide (1000000000 < p2), Option.some.inj h, S.fix [] [] (by decide) (by kernel_rfl) (by kernel_rfl) (by kernel_rfl)⟩))
      · obtain ⟨o15, rfl, S⟩ := hI
        have h := g17
        clear g17
        try dsimp only at h
        rcases iteSome h with ⟨hc19, h⟩ | ⟨hc19, h⟩
        · refine sCondT (b := o15) S (by kernel_rfl) hc19 ?_
          refine sSeq (fun K20 hK20 => ?_)
          refine sRegion ?_
          refine sMove (.int .i64 2) S (wN rfl) (.inr rfl) (by kernel_rfl) rfl (by decide) (fun a S => ?_)
          refine leafL (leafT (hK20 _ _ ?_))
          obtain rfl := Option.some.inj h
          exact wp_ret (rThen (sRet (.int .i64 2) S (rsl1 rfl (rvT (t := 6) (v := .int .i64 2) S (by kernel_rfl))) ⟨(), rfl, S.mem.sel [] [] (by decide) (by kernel_rfl) (by kernel_rfl)⟩))
        · refine sCondF (b := o15) S (by kernel_rfl) hc19 ?_
          refine wp_skip (leafT (hK14 _ _ ?_))
          refine sSeq (fun K21 hK21 => ?_)
          refine sRegion ?_
          refine sMove (.int .i64 0) S (wN rfl) (.inr rfl) (by kernel_rfl) rfl (by decide) (fun a S => ?_)
          refine leafL (leafT (hK21 _ _ ?_))
          obtain rfl := Option.some.inj h
          exact wp_ret (sRet (.int .i64 0) S (rsl1 rfl (rvT (t := 6) (v := .int .i64 0) S (by kernel_rfl))) ⟨(), rfl, S.mem.sel [] [] (by decide) (by kernel_rfl) (by kernel_rfl)⟩)

end Go.Proofs.Ytjndecalogklhaa
