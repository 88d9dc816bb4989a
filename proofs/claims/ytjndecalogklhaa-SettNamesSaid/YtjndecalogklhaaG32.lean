import Derived.Test.YtjndecalogklhaaGTy
namespace Go.Proofs.Ytjndecalogklhaa
open Go.RowKit
set_option linter.unusedVariables false

noncomputable def F_grid_Check (p0 : api_Grid) : Option Int :=
  if decide (64 < (if p0.W < p0.H then p0.H else p0.W)) then
    some 4
  else
    Option.bind (α := Bool) (
      if decide ((if p0.H < p0.W then p0.H else p0.W) < 1) then
        some true
      else
        some ((p0.Bits.length : Int) != (w64 (p0.W * p0.H)))) fun o11 =>
    if o11 then
      some 8
    else
      some 0
set_option maxHeartbeats 4000000 in
set_option maxRecDepth 100000 in
theorem c_grid_Check (E : Nat → Prop) (w0 : World) (p0 : api_Grid) (v0 : Value) (r : Int) (h : F_grid_Check p0 = some r) (S : St0 E [] w0 w0 [] [fRep r_api_Grid (v0) p0]) :
    Calls Try.prog 32 #[v0] w0 (Ret (X := Unit) E [] w0 (fun _ => .int .i64 r) (fun _ => []) (fun _ => [])) := by
  unfold F_grid_Check at h
  obtain ⟨u1, rfl, hu2⟩ := S.know (i := 0) (e := fRep r_api_Grid (v0) p0) (by kernel_rfl)
  have S := S.learn (fRep (rL rB) u1 p0.Bits) hu2
  obtain ⟨ad3, cp4, _, rfl, _⟩ := hu2
  refine sEnter (args := [.agg #[.int .i64 p0.W, .int .i64 p0.H, .slice ad3 p0.Bits.length cp4]]) 28 Try.func32 rfl rfl (by simp) S (fun a S => ?_)
  refine sSeq (fun K5 hK5 => ?_)
  refine sRegion ?_
  refine sBox (v := .agg #[.int .i64 p0.W, .int .i64 p0.H, .slice ad3 p0.Bits.length cp4]) S (wN rfl) rfl (by kernel_rfl) [.int .i64 p0.W, .int .i64 p0.H, .slice ad3 p0.Bits.length cp4] rfl rfl (by decide) (fun a b6 w S => ?_)
  refine sMove (.int .i64 0) S (wN rfl) (.inr rfl) (by kernel_rfl) rfl (by decide) (fun a S => ?_)
  refine leafL (leafT (hK5 _ _ ?_))
  refine sSeq (fun K7 hK7 => ?_)
  refine wp_block ?_
  refine sSeq (fun K8 hK8 => ?_)
  refine sRegion ?_
  refine sField (b := b6) (off := 0) 0 0 S (wN rfl) rfl (by kernel_rfl) (by kernel_rfl) rfl rfl (by decide) (fun a S => ?_)
  refine sLoad1 (p := b6) (off := 0) (T := 24) (vs := [.int .i64 p0.W, .int .i64 p0.H, .slice ad3 p0.Bits.length cp4]) 0 (.int .i64 p0.W) S (wN rfl) rfl (by kernel_rfl) (by kernel_rfl) (by kernel_rfl) rfl rfl (by decide) (fun a S => ?_)
  refine sField (b := b6) (off := 0) 1 1 S (wN rfl) rfl (by kernel_rfl) (by kernel_rfl) rfl rfl (by decide) (fun a S => ?_)
  refine sLoad1 (p := b6) (off := 1) (T := 24) (vs := [.int .i64 p0.W, .int .i64 p0.H, .slice ad3 p0.Bits.length cp4]) 0 (.int .i64 p0.H) S (wN rfl) rfl (by kernel_rfl) (by kernel_rfl) (by kernel_rfl) rfl rfl (by decide) (fun a S => ?_)
  refine sMax2 (p := p0.W) (q := p0.H) S (wN rfl) rfl (by kernel_rfl) (by kernel_rfl) rfl (by decide) (fun a S => ?_)
  refine sBin (.bool (decide (64 < (if p0.W < p0.H then p0.H else p0.W)))) S (wN rfl) rfl (by kernel_rfl) (by kernel_rfl) (bGt _ _ _ _ .i64 (if p0.W < p0.H then p0.H else p0.W) 64) rfl (by decide) (fun a S => ?_)
  refine sMove (.bool (decide (64 < (if p0.W < p0.H then p0.H else p0.W)))) S (wN rfl) (.inr rfl) (by kernel_rfl) rfl (by decide) (fun a S => ?_)
  refine leafL (leafT (hK8 _ _ ?_))
  rcases iteSome h with ⟨hc9, h⟩ | ⟨hc9, h⟩
  · refine sCondT (b := decide (64 < (if p0.W < p0.H then p0.H else p0.W))) S (by kernel_rfl) hc9 ?_
    refine sSeq (fun K10 hK10 => ?_)
    refine sRegion ?_
    refine sMove (.int .i64 4) S (wN rfl) (.inr rfl) (by kernel_rfl) rfl (by decide) (fun a S => ?_)
    refine leafL (leafT (hK10 _ _ ?_))
    obtain rfl := Option.some.inj h
    exact wp_ret (rBlock (rThen (sRet (.int .i64 4) S (rsl1 rfl (rvT (t := 2) (v := .int .i64 4) S (by kernel_rfl))) ⟨(), rfl, S.mem.sel [] [] (by decide) (by kernel_rfl) (by kernel_rfl)⟩)))
  · refine sCondF (b := decide (64 < (if p0.W < p0.H then p0.H else p0.W))) S (by kernel_rfl) hc9 ?_
    obtain ⟨t12, h, g13⟩ := bindSome h
    refine sCut (fun a w => ∃ o11, o11 = t12 ∧ St E [] w0 28 a w [(10, .bool o11)] [] []) ?_ (fun a w hI => ?_)
    · refine sRegion ?_
      refine sField (b := b6) (off := 0) 0 0 S (wN rfl) rfl (by kernel_rfl) (by kernel_rfl) rfl rfl (by decide) (fun a S => ?_)
      refine sLoad1 (p := b6) (off := 0) (T := 24) (vs := [.int .i64 p0.W, .int .i64 p0.H, .slice ad3 p0.Bits.length cp4]) 0 (.int .i64 p0.W) S (wN rfl) rfl (by kernel_rfl) (by kernel_rfl) (by kernel_rfl) rfl rfl (by decide) (fun a S => ?_)
      refine sField (b := b6) (off := 0) 1 1 S (wN rfl) rfl (by kernel_rfl) (by kernel_rfl) rfl rfl (by decide) (fun a S => ?_)
      refine sLoad1 (p := b6) (off := 1) (T := 24) (vs := [.int .i64 p0.W, .int .i64 p0.H, .slice ad3 p0.Bits.length cp4]) 0 (.int .i64 p0.H) S (wN rfl) rfl (by kernel_rfl) (by kernel_rfl) (by kernel_rfl) rfl rfl (by decide) (fun a S => ?_)
      refine sMin2 (p := p0.W) (q := p0.H) S (wN rfl) rfl (by kernel_rfl) (by kernel_rfl) rfl (by decide) (fun a S => ?_)
      refine sBin (.bool (decide ((if p0.H < p0.W then p0.H else p0.W) < 1))) S (wN rfl) rfl (by kernel_rfl) (by kernel_rfl) (bLt _ _ _ _ .i64 (if p0.H < p0.W then p0.H else p0.W) 1) rfl (by decide) (fun a S => ?_)
      refine sMove (.bool (decide ((if p0.H < p0.W then p0.H else p0.W) < 1))) S (wN rfl) (.inl rfl) (by kernel_rfl) rfl (by decide) (fun a S => ?_)
      rcases iteSome h with ⟨hc14, h⟩ | ⟨hc14, h⟩
      · refine sSkip (c := decide ((if p0.H < p0.W then p0.H else p0.W) < 1)) 6 false 17 18 S rfl rfl (by kernel_rfl) hc14 rfl (by decide) (fun a S => ?_)
        refine sSkip (c := decide ((if p0.H < p0.W then p0.H else p0.W) < 1)) 6 false 17 19 S rfl rfl (by kernel_rfl) hc14 rfl (by decide) (fun a S => ?_)
        refine sSkip (c := decide ((if p0.H < p0.W then p0.H else p0.W) < 1)) 6 false 17 20 S rfl rfl (by kernel_rfl) hc14 rfl (by decide) (fun a S => ?_)
        refine sSkip (c := decide ((if p0.H < p0.W then p0.H else p0.W) < 1)) 6 false 17 21 S rfl rfl (by kernel_rfl) hc14 rfl (by decide) (fun a S => ?_)
        refine sSkip (c := decide ((if p0.H < p0.W then p0.H else p0.W) < 1)) 6 false 17 22 S rfl rfl (by kernel_rfl) hc14 rfl (by decide) (fun a S => ?_)
        refine sSkip (c := decide ((if p0.H < p0.W then p0.H else p0.W) < 1)) 6 false 17 23 S rfl rfl (by kernel_rfl) hc14 rfl (by decide) (fun a S => ?_)
        refine sSkip (c := decide ((if p0.H < p0.W then p0.H else p0.W) < 1)) 6 false 17 24 S rfl rfl (by kernel_rfl) hc14 rfl (by decide) (fun a S => ?_)
        refine sSkip (c := decide ((if p0.H < p0.W then p0.H else p0.W) < 1)) 6 false 17 25 S rfl rfl (by kernel_rfl) hc14 rfl (by decide) (fun a S => ?_)
        refine sSkip (c := decide ((if p0.H < p0.W then p0.H else p0.W) < 1)) 6 false 17 26 S rfl rfl (by kernel_rfl) hc14 rfl (by decide) (fun a S => ?_)
        refine sPickT (b := decide ((if p0.H < p0.W then p0.H else p0.W) < 1)) (.bool true) S (wN rfl) rfl (by kernel_rfl) hc14 (by kernel_rfl) rfl (by decide) (fun a S => ?_)
        refine sMove (.bool true) S (wN rfl) (.inr rfl) (by kernel_rfl) rfl (by decide) (fun a S => ?_)
        exact leafL (leafT (⟨true, Option.some.inj h, S.fix [] [] (by decide) (by kernel_rfl) (by kernel_rfl) (by kernel_rfl)⟩))
      · refine sField (b := b6) (off := 0) 2 2 S (wG (c := decide ((if p0.H < p0.W then p0.H else p0.W) < 1)) 6 false 17 rfl rfl (by kernel_rfl) hc14) rfl (by kernel_rfl) (by kernel_rfl) rfl rfl (by decide) (fun a S => ?_)
        refine sLoad1 (p := b6) (off := 2) (T := 24) (vs := [.int .i64 p0.W, .int .i64 p0.H, .slice ad3 p0.Bits.length cp4]) 0 (.slice ad3 p0.Bits.length cp4) S (wG (c := decide ((if p0.H < p0.W then p0.H else p0.W) < 1)) 6 false 17 rfl rfl (by kernel_rfl) hc14) rfl (by kernel_rfl) (by kernel_rfl) (by kernel_rfl) rfl rfl (by decide) (fun a S => ?_)
        refine sLen (ad := ad3) (m := p0.Bits.length) (c := cp4) S (wG (c := decide ((if p0.H < p0.W then p0.H else p0.W) < 1)) 6 false 17 rfl rfl (by kernel_rfl) hc14) rfl Try.underlying22 (by kernel_rfl) rfl (by decide) (fun a S => ?_)
        refine sField (b := b6) (off := 0) 0 0 S (wG (c := decide ((if p0.H < p0.W then p0.H else p0.W) < 1)) 6 false 17 rfl rfl (by kernel_rfl) hc14) rfl (by kernel_rfl) (by kernel_rfl) rfl rfl (by decide) (fun a S => ?_)
        refine sLoad1 (p := b6) (off := 0) (T := 24) (vs := [.int .i64 p0.W, .int .i64 p0.H, .slice ad3 p0.Bits.length cp4]) 0 (.int .i64 p0.W) S (wG (c := decide ((if p0.H < p0.W then p0.H else p0.W) < 1)) 6 false 17 rfl rfl (by kernel_rfl) hc14) rfl (by kernel_rfl) (by kernel_rfl) (by kernel_rfl) rfl rfl (by decide) (fun a S => ?_)
        refine sField (b := b6) (off := 0) 1 1 S (wG (c := decide ((if p0.H < p0.W then p0.H else p0.W) < 1)) 6 false 17 rfl rfl (by kernel_rfl) hc14) rfl (by kernel_rfl) (by kernel_rfl) rfl rfl (by decide) (fun a S => ?_)
        refine sLoad1 (p := b6) (off := 1) (T := 24) (vs := [.int .i64 p0.W, .int .i64 p0.H, .slice ad3 p0.Bits.length cp4]) 0 (.int .i64 p0.H) S (wG (c := decide ((if p0.H < p0.W then p0.H else p0.W) < 1)) 6 false 17 rfl rfl (by kernel_rfl) hc14) rfl (by kernel_rfl) (by kernel_rfl) (by kernel_rfl) rfl rfl (by decide) (fun a S => ?_)
        refine sBin (.int .i64 (w64 (p0.W * p0.H))) S (wG (c := decide ((if p0.H < p0.W then p0.H else p0.W) < 1)) 6 false 17 rfl rfl (by kernel_rfl) hc14) rfl (by kernel_rfl) (by kernel_rfl) (bMul _ _ _ _ p0.W p0.H) rfl (by decide) (fun a S => ?_)
        refine sBin (.bool ((p0.Bits.length : Int) != (w64 (p0.W * p0.H)))) S (wG (c := decide ((if p0.H < p0.W then p0.H else p0.W) < 1)) 6 false 17 rfl rfl (by kernel_rfl) hc14) rfl (by kernel_rfl) (by kernel_rfl) (bNe _ _ _ _ .i64 (p0.Bits.length : Int) (w64 (p0.W * p0.H))) rfl (by decide) (fun a S => ?_)
        refine sPickF (b := decide ((if p0.H < p0.W then p0.H else p0.W) < 1)) (.bool ((p0.Bits.length : Int) != (w64 (p0.W * p0.H)))) S (wN rfl) rfl (by kernel_rfl) hc14 (by kernel_rfl) rfl (by decide) (fun a S => ?_)
        refine sMove (.bool ((p0.Bits.length : Int) != (w64 (p0.W * p0.H)))) S (wN rfl) (.inr rfl) (by kernel_rfl) rfl (by decide) (fun a S => ?_)
        exact leafL (leafT (⟨(p0.Bits.length : Int) != (w64 (p0.W * p0.H)), Option.some.inj h, S.fix [] [] (by decide) (by kernel_rfl) (by kernel_rfl) (by kernel_rfl)⟩))
    · obtain ⟨o11, rfl, S⟩ := hI
      have h := g13
      clear g13
      try dsimp only at h
      rcases iteSome h with ⟨hc15, h⟩ | ⟨hc15, h⟩
      · refine sCondT (b := o11) S (by kernel_rfl) hc15 ?_
        refine sSeq (fun K16 hK16 => ?_)
        refine sRegion ?_
        refine sMove (.int .i64 8) S (wN rfl) (.inr rfl) (by kernel_rfl) rfl (by decide) (fun a S => ?_)
        refine leafL (leafT (hK16 _ _ ?_))
        obtain rfl := Option.some.inj h
        exact wp_ret (rBlock (rThen (sRet (.int .i64 8) S (rsl1 rfl (rvT (t := 2) (v := .int .i64 8) S (by kernel_rfl))) ⟨(), rfl, S.mem.sel [] [] (by decide) (by kernel_rfl) (by kernel_rfl)⟩)))
      · refine sCondF (b := o11) S (by kernel_rfl) hc15 ?_
        refine wp_skip (leafB (leafT (hK7 _ _ ?_)))
        refine sSeq (fun K17 hK17 => ?_)
        refine sRegion ?_
        refine sMove (.int .i64 0) S (wN rfl) (.inr rfl) (by kernel_rfl) rfl (by decide) (fun a S => ?_)
        refine leafL (leafT (hK17 _ _ ?_))
        obtain rfl := Option.some.inj h
        exact wp_ret (sRet (.int .i64 0) S (rsl1 rfl (rvT (t := 2) (v := .int .i64 0) S (by kernel_rfl))) ⟨(), rfl, S.mem.sel [] [] (by decide) (by kernel_rfl) (by kernel_rfl)⟩)

end Go.Proofs.Ytjndecalogklhaa
