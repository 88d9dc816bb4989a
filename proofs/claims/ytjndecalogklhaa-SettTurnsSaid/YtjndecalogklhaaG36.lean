import Derived.Test.YtjndecalogklhaaGTy
namespace Go.Proofs.Ytjndecalogklhaa
open Go.RowKit
set_option linter.unusedVariables false

noncomputable def F_raddleref01_Check (p0 : api_Grid) : Option Int :=
  Option.bind (α := Bool) (
    if decide (64 < p0.W) then
      some true
    else
      some (decide (64 < p0.H))) fun o8 =>
  if o8 then
    some 4
  else
    Option.bind (α := Bool) (
      if decide (p0.W < 1) then
        some true
      else
        if decide (p0.H < 1) then
          some true
        else
          some ((p0.Bits.length : Int) != (w64 (p0.W * p0.H)))) fun o15 =>
    if o15 then
      some 8
    else
      some 0
set_option maxHeartbeats 4000000 in
set_option maxRecDepth 100000 in
theorem c_raddleref01_Check (E : Nat → Prop) (w0 : World) (p0 : api_Grid) (v0 : Value) (r : Int) (h : F_raddleref01_Check p0 = some r) (S : St0 E [] w0 w0 [] [fRep r_api_Grid (v0) p0]) :
    Calls Try.prog 36 #[v0] w0 (Ret (X := Unit) E [] w0 (fun _ => .int .i64 r) (fun _ => []) (fun _ => [])) := by
  unfold F_raddleref01_Check at h
  obtain ⟨u1, rfl, hu2⟩ := S.know (i := 0) (e := fRep r_api_Grid (v0) p0) (by kernel_rfl)
  have S := S.learn (fRep (rL rB) u1 p0.Bits) hu2
  obtain ⟨ad3, cp4, _, rfl, _⟩ := hu2
  refine sEnter (args := [.agg #[.int .i64 p0.W, .int .i64 p0.H, .slice ad3 p0.Bits.length cp4]]) 30 Try.func36 rfl rfl (by simp) S (fun a S => ?_)
  refine sSeq (fun K5 hK5 => ?_)
  refine sRegion ?_
  refine sBox (v := .agg #[.int .i64 p0.W, .int .i64 p0.H, .slice ad3 p0.Bits.length cp4]) S (wN rfl) rfl (by kernel_rfl) [.int .i64 p0.W, .int .i64 p0.H, .slice ad3 p0.Bits.length cp4] rfl rfl (by decide) (fun a b6 w S => ?_)
  refine sMove (.int .i64 0) S (wN rfl) (.inr rfl) (by kernel_rfl) rfl (by decide) (fun a S => ?_)
  refine leafL (leafT (hK5 _ _ ?_))
  refine sSeq (fun K7 hK7 => ?_)
  obtain ⟨t9, h, g10⟩ := bindSome h
  refine sCut (fun a w => ∃ o8, o8 = t9 ∧ St E [] w0 30 a w [(1, .pointer (some ⟨b6, 0, none⟩)), (10, .bool o8)] [eBox b6 24 [.int .i64 p0.W, .int .i64 p0.H, .slice ad3 p0.Bits.length cp4]] [fRep (rL rB) (.slice ad3 p0.Bits.length cp4) p0.Bits]) ?_ (fun a w hI => ?_)
  · refine sRegion ?_
    refine sField (b := b6) (off := 0) 0 0 S (wN rfl) rfl (by kernel_rfl) (by kernel_rfl) rfl rfl (by decide) (fun a S => ?_)
    refine sLoad1 (p := b6) (off := 0) (T := 24) (vs := [.int .i64 p0.W, .int .i64 p0.H, .slice ad3 p0.Bits.length cp4]) 0 (.int .i64 p0.W) S (wN rfl) rfl (by kernel_rfl) (by kernel_rfl) (by kernel_rfl) rfl rfl (by decide) (fun a S => ?_)
    refine sBin (.bool (decide (64 < p0.W))) S (wN rfl) rfl (by kernel_rfl) (by kernel_rfl) (bGt _ _ _ _ .i64 p0.W 64) rfl (by decide) (fun a S => ?_)
    refine sMove (.bool (decide (64 < p0.W))) S (wN rfl) (.inl rfl) (by kernel_rfl) rfl (by decide) (fun a S => ?_)
    rcases iteSome h with ⟨hc11, h⟩ | ⟨hc11, h⟩
    · refine sSkip (c := decide (64 < p0.W)) 3 false 6 7 S rfl rfl (by kernel_rfl) hc11 rfl (by decide) (fun a S => ?_)
      refine sSkip (c := decide (64 < p0.W)) 3 false 6 8 S rfl rfl (by kernel_rfl) hc11 rfl (by decide) (fun a S => ?_)
      refine sSkip (c := decide (64 < p0.W)) 3 false 6 9 S rfl rfl (by kernel_rfl) hc11 rfl (by decide) (fun a S => ?_)
      refine sPickT (b := decide (64 < p0.W)) (.bool true) S (wN rfl) rfl (by kernel_rfl) hc11 (by kernel_rfl) rfl (by decide) (fun a S => ?_)
      exact leafL (leafT (⟨true, Option.some.inj h, S.fix [0] [0] (by decide) (by kernel_rfl) (by kernel_rfl) (by kernel_rfl)⟩))
    · refine sField (b := b6) (off := 0) 1 1 S (wG (c := decide (64 < p0.W)) 3 false 6 rfl rfl (by kernel_rfl) hc11) rfl (by kernel_rfl) (by kernel_rfl) rfl rfl (by decide) (fun a S => ?_)
      refine sLoad1 (p := b6) (off := 1) (T := 24) (vs := [.int .i64 p0.W, .int .i64 p0.H, .slice ad3 p0.Bits.length cp4]) 0 (.int .i64 p0.H) S (wG (c := decide (64 < p0.W)) 3 false 6 rfl rfl (by kernel_rfl) hc11) rfl (by kernel_rfl) (by kernel_rfl) (by kernel_rfl) rfl rfl (by decide) (fun a S => ?_)
      refine sBin (.bool (decide (64 < p0.H))) S (wG (c := decide (64 < p0.W)) 3 false 6 rfl rfl (by kernel_rfl) hc11) rfl (by kernel_rfl) (by kernel_rfl) (bGt _ _ _ _ .i64 p0.H 64) rfl (by decide) (fun a S => ?_)
      refine sPickF (b := decide (64 < p0.W)) (.bool (decide (64 < p0.H))) S (wN rfl) rfl (by kernel_rfl) hc11 (by kernel_rfl) rfl (by decide) (fun a S => ?_)
      exact leafL (leafT (⟨decide (64 < p0.H), Option.some.inj h, S.fix [0] [0] (by decide) (by kernel_rfl) (by kernel_rfl) (by kernel_rfl)⟩))
  · obtain ⟨o8, rfl, S⟩ := hI
    have h := g10
    clear g10
    try dsimp only at h
    rcases iteSome h with ⟨hc12, h⟩ | ⟨hc12, h⟩
    · refine sCondT (b := o8) S (by kernel_rfl) hc12 ?_
      refine sSeq (fun K13 hK13 => ?_)
      refine sRegion ?_
      refine sMove (.int .i64 4) S (wN rfl) (.inr rfl) (by kernel_rfl) rfl (by decide) (fun a S => ?_)
      refine leafL (leafT (hK13 _ _ ?_))
      obtain rfl := Option.some.inj h
      exact wp_ret (rThen (sRet (.int .i64 4) S (rsl1 rfl (rvT (t := 2) (v := .int .i64 4) S (by kernel_rfl))) ⟨(), rfl, S.mem.sel [] [] (by decide) (by kernel_rfl) (by kernel_rfl)⟩))
    · refine sCondF (b := o8) S (by kernel_rfl) hc12 ?_
      refine wp_skip (leafT (hK7 _ _ ?_))
      refine sSeq (fun K14 hK14 => ?_)
      obtain ⟨t16, h, g17⟩ := bindSome h
      refine sCut (fun a w => ∃ o15, o15 = t16 ∧ St E [] w0 30 a w [(29, .bool o15)] [] []) ?_ (fun a w hI => ?_)
      · refine sRegion ?_
        refine sField (b := b6) (off := 0) 0 0 S (wN rfl) rfl (by kernel_rfl) (by kernel_rfl) rfl rfl (by decide) (fun a S => ?_)
        refine sLoad1 (p := b6) (off := 0) (T := 24) (vs := [.int .i64 p0.W, .int .i64 p0.H, .slice ad3 p0.Bits.length cp4]) 0 (.int .i64 p0.W) S (wN rfl) rfl (by kernel_rfl) (by kernel_rfl) (by kernel_rfl) rfl rfl (by decide) (fun a S => ?_)
        refine sBin (.bool (decide (p0.W < 1))) S (wN rfl) rfl (by kernel_rfl) (by kernel_rfl) (bLt _ _ _ _ .i64 p0.W 1) rfl (by decide) (fun a S => ?_)
        refine sMove (.bool (decide (p0.W < 1))) S (wN rfl) (.inl rfl) (by kernel_rfl) rfl (by decide) (fun a S => ?_)
        rcases iteSome h with ⟨hc18, h⟩ | ⟨hc18, h⟩
        · refine sSkip (c := decide (p0.W < 1)) 3 false 14 15 S rfl rfl (by kernel_rfl) hc18 rfl (by decide) (fun a S => ?_)
          refine sSkip (c := decide (p0.W < 1)) 3 false 14 16 S rfl rfl (by kernel_rfl) hc18 rfl (by decide) (fun a S => ?_)
          refine sSkip (c := decide (p0.W < 1)) 3 false 14 17 S rfl rfl (by kernel_rfl) hc18 rfl (by decide) (fun a S => ?_)
          refine sPickT (b := decide (p0.W < 1)) (.bool true) S (wN rfl) rfl (by kernel_rfl) hc18 (by kernel_rfl) rfl (by decide) (fun a S => ?_)
          refine sMove (.bool true) S (wN rfl) (.inl rfl) (by kernel_rfl) rfl (by decide) (fun a S => ?_)
          refine sSkip (c := true) 8 false 19 20 S rfl rfl (by kernel_rfl) rfl rfl (by decide) (fun a S => ?_)
          refine sSkip (c := true) 8 false 19 21 S rfl rfl (by kernel_rfl) rfl rfl (by decide) (fun a S => ?_)
          refine sSkip (c := true) 8 false 19 22 S rfl rfl (by kernel_rfl) rfl rfl (by decide) (fun a S => ?_)
          refine sSkip (c := true) 8 false 19 23 S rfl rfl (by kernel_rfl) rfl rfl (by decide) (fun a S => ?_)
          refine sSkip (c := true) 8 false 19 24 S rfl rfl (by kernel_rfl) rfl rfl (by decide) (fun a S => ?_)
          refine sSkip (c := true) 8 false 19 25 S rfl rfl (by kernel_rfl) rfl rfl (by decide) (fun a S => ?_)
          refine sSkip (c := true) 8 false 19 26 S rfl rfl (by kernel_rfl) rfl rfl (by decide) (fun a S => ?_)
          refine sSkip (c := true) 8 false 19 27 S rfl rfl (by kernel_rfl) rfl rfl (by decide) (fun a S => ?_)
          refine sSkip (c := true) 8 false 19 28 S rfl rfl (by kernel_rfl) rfl rfl (by decide) (fun a S => ?_)
          refine sPickT (b := true) (.bool true) S (wN rfl) rfl (by kernel_rfl) rfl (by kernel_rfl) rfl (by decide) (fun a S => ?_)
          exact leafL (leafT (⟨true, Option.some.inj h, S.fix [] [] (by decide) (by kernel_rfl) (by kernel_rfl) (by kernel_rfl)⟩))
        · refine sField (b := b6) (off := 0) 1 1 S (wG (c := decide (p0.W < 1)) 3 false 14 rfl rfl (by kernel_rfl) hc18) rfl (by kernel_rfl) (by kernel_rfl) rfl rfl (by decide) (fun a S => ?_)
          refine sLoad1 (p := b6) (off := 1) (T := 24) (vs := [.int .i64 p0.W, .int .i64 p0.H, .slice ad3 p0.Bits.length cp4]) 0 (.int .i64 p0.H) S (wG (c := decide (p0.W < 1)) 3 false 14 rfl rfl (by kernel_rfl) hc18) rfl (by kernel_rfl) (by kernel_rfl) (by kernel_rfl) rfl rfl (by decide) (fun a S => ?_)
          refine sBin (.bool (decide (p0.H < 1))) S (wG (c := decide (p0.W < 1)) 3 false 14 rfl rfl (by kernel_rfl) hc18) rfl (by kernel_rfl) (by kernel_rfl) (bLt _ _ _ _ .i64 p0.H 1) rfl (by decide) (fun a S => ?_)
          refine sPickF (b := decide (p0.W < 1)) (.bool (decide (p0.H < 1))) S (wN rfl) rfl (by kernel_rfl) hc18 (by kernel_rfl) rfl (by decide) (fun a S => ?_)
          refine sMove (.bool (decide (p0.H < 1))) S (wN rfl) (.inl rfl) (by kernel_rfl) rfl (by decide) (fun a S => ?_)
          rcases iteSome h with ⟨hc19, h⟩ | ⟨hc19, h⟩
          · refine sSkip (c := decide (p0.H < 1)) 8 false 19 20 S rfl rfl (by kernel_rfl) hc19 rfl (by decide) (fun a S => ?_)
            refine sSkip (c := decide (p0.H < 1)) 8 false 19 21 S rfl rfl (by kernel_rfl) hc19 rfl (by decide) (fun a S => ?_)
            refine sSkip (c := decide (p0.H < 1)) 8 false 19 22 S rfl rfl (by kernel_rfl) hc19 rfl (by decide) (fun a S => ?_)
            refine sSkip (c := decide (p0.H < 1)) 8 false 19 23 S rfl rfl (by kernel_rfl) hc19 rfl (by decide) (fun a S => ?_)
            refine sSkip (c := decide (p0.H < 1)) 8 false 19 24 S rfl rfl (by kernel_rfl) hc19 rfl (by decide) (fun a S => ?_)
            refine sSkip (c := decide (p0.H < 1)) 8 false 19 25 S rfl rfl (by kernel_rfl) hc19 rfl (by decide) (fun a S => ?_)
            refine sSkip (c := decide (p0.H < 1)) 8 false 19 26 S rfl rfl (by kernel_rfl) hc19 rfl (by decide) (fun a S => ?_)
            refine sSkip (c := decide (p0.H < 1)) 8 false 19 27 S rfl rfl (by kernel_rfl) hc19 rfl (by decide) (fun a S => ?_)
            refine sSkip (c := decide (p0.H < 1)) 8 false 19 28 S rfl rfl (by kernel_rfl) hc19 rfl (by decide) (fun a S => ?_)
            refine sPickT (b := decide (p0.H < 1)) (.bool true) S (wN rfl) rfl (by kernel_rfl) hc19 (by kernel_rfl) rfl (by decide) (fun a S => ?_)
            exact leafL (leafT (⟨true, Option.some.inj h, S.fix [] [] (by decide) (by kernel_rfl) (by kernel_rfl) (by kernel_rfl)⟩))
          · refine sField (b := b6) (off := 0) 2 2 S (wG (c := decide (p0.H < 1)) 8 false 19 rfl rfl (by kernel_rfl) hc19) rfl (by kernel_rfl) (by kernel_rfl) rfl rfl (by decide) (fun a S => ?_)
            refine sLoad1 (p := b6) (off := 2) (T := 24) (vs := [.int .i64 p0.W, .int .i64 p0.H, .slice ad3 p0.Bits.length cp4]) 0 (.slice ad3 p0.Bits.length cp4) S (wG (c := decide (p0.H < 1)) 8 false 19 rfl rfl (by kernel_rfl) hc19) rfl (by kernel_rfl) (by kernel_rfl) (by kernel_rfl) rfl rfl (by decide) (fun a S => ?_)
            refine sLen (ad := ad3) (m := p0.Bits.length) (c := cp4) S (wG (c := decide (p0.H < 1)) 8 false 19 rfl rfl (by kernel_rfl) hc19) rfl Try.underlying22 (by kernel_rfl) rfl (by decide) (fun a S => ?_)
            refine sField (b := b6) (off := 0) 0 0 S (wG (c := decide (p0.H < 1)) 8 false 19 rfl rfl (by kernel_rfl) hc19) rfl (by kernel_rfl) (by kernel_rfl) rfl rfl (by decide) (fun a S => ?_)
            refine sLoad1 (p := b6) (off := 0) (T := 24) (vs := [.int .i64 p0.W, .int .i64 p0.H, .slice ad3 p0.Bits.length cp4]) 0 (.int .i64 p0.W) S (wG (c := decide (p0.H < 1)) 8 false 19 rfl rfl (by kernel_rfl) hc19) rfl (by kernel_rfl) (by kernel_rfl) (by kernel_rfl) rfl rfl (by decide) (fun a S => ?_)
            refine sField (b := b6) (off := 0) 1 1 S (wG (c := decide (p0.H < 1)) 8 false 19 rfl rfl (by kernel_rfl) hc19) rfl (by kernel_rfl) (by kernel_rfl) rfl rfl (by decide) (fun a S => ?_)
            refine sLoad1 (p := b6) (off := 1) (T := 24) (vs := [.int .i64 p0.W, .int .i64 p0.H, .slice ad3 p0.Bits.length cp4]) 0 (.int .i64 p0.H) S (wG (c := decide (p0.H < 1)) 8 false 19 rfl rfl (by kernel_rfl) hc19) rfl (by kernel_rfl) (by kernel_rfl) (by kernel_rfl) rfl rfl (by decide) (fun a S => ?_)
            refine sBin (.int .i64 (w64 (p0.W * p0.H))) S (wG (c := decide (p0.H < 1)) 8 false 19 rfl rfl (by kernel_rfl) hc19) rfl (by kernel_rfl) (by kernel_rfl) (bMul _ _ _ _ p0.W p0.H) rfl (by decide) (fun a S => ?_)
            refine sBin (.bool ((p0.Bits.length : Int) != (w64 (p0.W * p0.H)))) S (wG (c := decide (p0.H < 1)) 8 false 19 rfl rfl (by kernel_rfl) hc19) rfl (by kernel_rfl) (by kernel_rfl) (bNe _ _ _ _ .i64 (p0.Bits.length : Int) (w64 (p0.W * p0.H))) rfl (by decide) (fun a S => ?_)
            refine sPickF (b := decide (p0.H < 1)) (.bool ((p0.Bits.length : Int) != (w64 (p0.W * p0.H)))) S (wN rfl) rfl (by kernel_rfl) hc19 (by kernel_rfl) rfl (by decide) (fun a S => ?_)
            exact leafL (leafT (⟨(p0.Bits.length : Int) != (w64 (p0.W * p0.H)), Option.some.inj h, S.fix [] [] (by decide) (by kernel_rfl) (by kernel_rfl) (by kernel_rfl)⟩))
      · obtain ⟨o15, rfl, S⟩ := hI
        have h := g17
        clear g17
        try dsimp only at h
        rcases iteSome h with ⟨hc20, h⟩ | ⟨hc20, h⟩
        · refine sCondT (b := o15) S (by kernel_rfl) hc20 ?_
          refine sSeq (fun K21 hK21 => ?_)
          refine sRegion ?_
          refine sMove (.int .i64 8) S (wN rfl) (.inr rfl) (by kernel_rfl) rfl (by decide) (fun a S => ?_)
          refine leafL (leafT (hK21 _ _ ?_))
          obtain rfl := Option.some.inj h
          exact wp_ret (rThen (sRet (.int .i64 8) S (rsl1 rfl (rvT (t := 2) (v := .int .i64 8) S (by kernel_rfl))) ⟨(), rfl, S.mem.sel [] [] (by decide) (by kernel_rfl) (by kernel_rfl)⟩))
        · refine sCondF (b := o15) S (by kernel_rfl) hc20 ?_
          refine wp_skip (leafT (hK14 _ _ ?_))
          refine sSeq (fun K22 hK22 => ?_)
          refine sRegion ?_
          refine sMove (.int .i64 0) S (wN rfl) (.inr rfl) (by kernel_rfl) rfl (by decide) (fun a S => ?_)
          refine leafL (leafT (hK22 _ _ ?_))
          obtain rfl := Option.some.inj h
          exact wp_ret (sRet (.int .i64 0) S (rsl1 rfl (rvT (t := 2) (v := .int .i64 0) S (by kernel_rfl))) ⟨(), rfl, S.mem.sel [] [] (by decide) (by kernel_rfl) (by kernel_rfl)⟩)

end Go.Proofs.Ytjndecalogklhaa
