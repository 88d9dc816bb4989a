import Derived.Test.YtdbgkakmhlmpbaaGTy
import Derived.Test.YtdbgkakmhlmpbaaG40
namespace Go.Proofs.Ytdbgkakmhlmpbaa
open Go.RowKit
set_option linter.unusedVariables false

noncomputable def F_raddleref45_Price (p0 : api_Bill) (p1 : api_Count) (p2 : Int) (p3 : Int) : Option (Int × Int × Int) :=
  Option.bind (α := Bool) (
    if decide (p0.Length < 0) then
      some true
    else
      some (decide (p0.Time < 0))) fun o5 =>
  if o5 then
    some (0, 0, 2)
  else
    Option.bind (F_raddleref23_Skeins p1 p0.Length p2) fun r12 =>
    if r12.2 != 0 then
      some (0, 0, r12.2)
    else
      Option.bind (α := Bool) (
        if decide (p3 < 0) then
          some true
        else
          some (decide (1000000 < p3))) fun o19 =>
      if o19 then
        some (0, 0, 2)
      else
        some (r12.1, w64 (r12.1 * p3), 0)
set_option maxHeartbeats 4000000 in
set_option maxRecDepth 100000 in
theorem c_raddleref45_Price (E : Nat → Prop) (w0 : World) (p0 : api_Bill) (v0 : Value) (p1 : api_Count) (v1 : Value) (p2 : Int) (p3 : Int) (r : (Int × Int × Int)) (h : F_raddleref45_Price p0 p1 p2 p3 = some r) (S : St0 E [] w0 w0 [] [fRep r_api_Bill (v0) p0, fRep r_api_Count (v1) p1]) :
    Calls Try.prog 13 #[v0, v1, .int .i64 p2, .int .i64 p3] w0 (Ret (X := Unit) E [] w0 (fun _ => .tuple #[.int .i64 r.1, .int .i64 r.2.1, .int .i64 r.2.2]) (fun _ => []) (fun _ => [])) := by
  unfold F_raddleref45_Price at h
  obtain rfl : v0 = .agg #[.int .i64 p0.Length, .int .i64 p0.Time] := S.know (i := 0) (e := fRep r_api_Bill (v0) p0) (by kernel_rfl)
  obtain rfl : v1 = .agg #[.int .u8 p1.System, .int .i64 p1.N.Num, .int .i64 p1.N.Den] := S.know (i := 1) (e := fRep r_api_Count (v1) p1) (by kernel_rfl)
  refine sEnter (args := [.agg #[.int .i64 p0.Length, .int .i64 p0.Time], .agg #[.int .u8 p1.System, .int .i64 p1.N.Num, .int .i64 p1.N.Den], .int .i64 p2, .int .i64 p3]) 42 Try.func13 rfl rfl (by simp) S (fun a S => ?_)
  refine sSeq (fun K1 hK1 => ?_)
  refine sRegion ?_
  refine sBox (v := .agg #[.int .i64 p0.Length, .int .i64 p0.Time]) S (wN rfl) rfl (by kernel_rfl) [.int .i64 p0.Length, .int .i64 p0.Time] rfl rfl (by decide) (fun a b2 w S => ?_)
  refine sBox (v := .agg #[.int .u8 p1.System, .int .i64 p1.N.Num, .int .i64 p1.N.Den]) S (wN rfl) rfl (by kernel_rfl) [.int .u8 p1.System, .int .i64 p1.N.Num, .int .i64 p1.N.Den] rfl rfl (by decide) (fun a b3 w S => ?_)
  refine sMove (.int .i64 0) S (wN rfl) (.inr rfl) (by kernel_rfl) rfl (by decide) (fun a S => ?_)
  refine sMove (.int .i64 0) S (wN rfl) (.inr rfl) (by kernel_rfl) rfl (by decide) (fun a S => ?_)
  refine sMove (.int .i64 0) S (wN rfl) (.inr rfl) (by kernel_rfl) rfl (by decide) (fun a S => ?_)
  refine leafL (leafT (hK1 _ _ ?_))
  refine sSeq (fun K4 hK4 => ?_)
  obtain ⟨t6, h, g7⟩ := bindSome h
  refine sCut (fun a w => ∃ o5, o5 = t6 ∧ St [] E [] w0 42 a w [(2, .int .i64 p2), (3, .int .i64 p3), (4, .pointer (some ⟨b2, 0, none⟩)), (5, .pointer (some ⟨b3, 0, none⟩)), (20, .bool o5)] [eBox b2 23 [.int .i64 p0.Length, .int .i64 p0.Time], eBox b3 27 [.int .u8 p1.System, .int .i64 p1.N.Num, .int .i64 p1.N.Den]] []) ?_ (fun a w hI => ?_)
  · refine sRegion ?_
    refine sField (b := b2) (off := 0) 0 0 S (wN rfl) rfl (by kernel_rfl) (by kernel_rfl) rfl rfl (by decide) (fun a S => ?_)
    refine sLoad1 (p := b2) (off := 0) (T := 23) (vs := [.int .i64 p0.Length, .int .i64 p0.Time]) 1 (.int .i64 p0.Length) S (wN rfl) rfl (by kernel_rfl) (by kernel_rfl) (by kernel_rfl) rfl rfl (by decide) (fun a S => ?_)
    refine sBin (.bool (decide (p0.Length < 0))) S (wN rfl) rfl (by kernel_rfl) (by kernel_rfl) (bLt _ _ _ _ .i64 p0.Length 0) rfl (by decide) (fun a S => ?_)
    refine sMove (.bool (decide (p0.Length < 0))) S (wN rfl) (.inl rfl) (by kernel_rfl) rfl (by decide) (fun a S => ?_)
    rcases iteSome h with ⟨hc8, h⟩ | ⟨hc8, h⟩
    · refine sSkip (c := decide (p0.Length < 0)) 3 false 16 17 S rfl rfl (by kernel_rfl) hc8 rfl (by decide) (fun a S => ?_)
      refine sSkip (c := decide (p0.Length < 0)) 3 false 16 18 S rfl rfl (by kernel_rfl) hc8 rfl (by decide) (fun a S => ?_)
      refine sSkip (c := decide (p0.Length < 0)) 3 false 16 19 S rfl rfl (by kernel_rfl) hc8 rfl (by decide) (fun a S => ?_)
      refine sPickT (b := decide (p0.Length < 0)) (.bool true) S (wN rfl) rfl (by kernel_rfl) hc8 (by kernel_rfl) rfl (by decide) (fun a S => ?_)
      exact leafL (leafT (⟨true, Option.some.inj h, S.fix [1, 0] [] (by decide) (by kernel_rfl) (by kernel_rfl) (by kernel_rfl)⟩))
    · refine sField (b := b2) (off := 0) 1 1 S (wG (c := decide (p0.Length < 0)) 3 false 16 rfl rfl (by kernel_rfl) hc8) rfl (by kernel_rfl) (by kernel_rfl) rfl rfl (by decide) (fun a S => ?_)
      refine sLoad1 (p := b2) (off := 1) (T := 23) (vs := [.int .i64 p0.Length, .int .i64 p0.Time]) 1 (.int .i64 p0.Time) S (wG (c := decide (p0.Length < 0)) 3 false 16 rfl rfl (by kernel_rfl) hc8) rfl (by kernel_rfl) (by kernel_rfl) (by kernel_rfl) rfl rfl (by decide) (fun a S => ?_)
      refine sBin (.bool (decide (p0.Time < 0))) S (wG (c := decide (p0.Length < 0)) 3 false 16 rfl rfl (by kernel_rfl) hc8) rfl (by kernel_rfl) (by kernel_rfl) (bLt _ _ _ _ .i64 p0.Time 0) rfl (by decide) (fun a S => ?_)
      refine sPickF (b := decide (p0.Length < 0)) (.bool (decide (p0.Time < 0))) S (wN rfl) rfl (by kernel_rfl) hc8 (by kernel_rfl) rfl (by decide) (fun a S => ?_)
      exact leafL (leafT (⟨decide (p0.Time < 0), Option.some.inj h, S.fix [1, 0] [] (by decide) (by kernel_rfl) (by kernel_rfl) (by kernel_rfl)⟩))
  · obtain ⟨o5, rfl, S⟩ := hI
    have h := g7
    clear g7
    try dsimp only at h
    rcases iteSome h with ⟨hc9, h⟩ | ⟨hc9, h⟩
    · refine sCondT (b := o5) S (by kernel_rfl) hc9 ?_
      refine sSeq (fun K10 hK10 => ?_)
      refine sRegion ?_
      refine sMove (.int .i64 0) S (wN rfl) (.inr rfl) (by kernel_rfl) rfl (by decide) (fun a S => ?_)
      refine sMove (.int .i64 0) S (wN rfl) (.inr rfl) (by kernel_rfl) rfl (by decide) (fun a S => ?_)
      refine sMove (.int .i64 2) S (wN rfl) (.inr rfl) (by kernel_rfl) rfl (by decide) (fun a S => ?_)
      refine leafL (leafT (hK10 _ _ ?_))
      obtain rfl := Option.some.inj h
      exact wp_ret (rThen (sRet (.tuple #[.int .i64 0, .int .i64 0, .int .i64 2]) S (rsl3 rfl (rvT (t := 8) (v := .int .i64 0) S (by kernel_rfl)) (rvT (t := 9) (v := .int .i64 0) S (by kernel_rfl)) (rvT (t := 10) (v := .int .i64 2) S (by kernel_rfl))) ⟨(), rfl, S.mem.sel [] [] (by decide) (by kernel_rfl) (by kernel_rfl)⟩))
    · refine sCondF (b := o5) S (by kernel_rfl) hc9 ?_
      refine wp_skip (leafT (hK4 _ _ ?_))
      refine sSeq (fun K11 hK11 => ?_)
      refine sRegion ?_
      refine sLoadN (p := b3) (off := 0) (T := 27) (vs := [.int .u8 p1.System, .int .i64 p1.N.Num, .int .i64 p1.N.Den]) 1 [.int .u8 p1.System, .int .i64 p1.N.Num, .int .i64 p1.N.Den] S (wN rfl) rfl (by kernel_rfl) (by kernel_rfl) (by kernel_rfl) (by kernel_rfl) rfl rfl (by decide) (fun a S => ?_)
      refine sField (b := b2) (off := 0) 0 0 S (wN rfl) rfl (by kernel_rfl) (by kernel_rfl) rfl rfl (by decide) (fun a S => ?_)
      refine sLoad1 (p := b2) (off := 0) (T := 23) (vs := [.int .i64 p0.Length, .int .i64 p0.Time]) 0 (.int .i64 p0.Length) S (wN rfl) rfl (by kernel_rfl) (by kernel_rfl) (by kernel_rfl) rfl rfl (by decide) (fun a S => ?_)
      refine sMove (.int .i64 p2) S (wN rfl) (.inl rfl) (by kernel_rfl) rfl (by decide) (fun a S => ?_)
      obtain ⟨r12, hx13, h⟩ := bindSome h
      have S1 := S.mem
      have S1 := S1.learn (fRep r_api_Count (.agg #[.int .u8 p1.System, .int .i64 p1.N.Num, .int .i64 p1.N.Den]) p1) rfl
      refine sCallQ (X := Unit) (f := 40) (vs := [.agg #[.int .u8 p1.System, .int .i64 p1.N.Num, .int .i64 p1.N.Den], .int .i64 p0.Length, .int .i64 p2]) (val := fun _ => .tuple #[.int .i64 r12.1, .int .i64 r12.2]) S (wN rfl) rfl callee40 (by kernel_rfl) (S1.quiet [0] (by kernel_rfl)) (fun E1 w1 S1 => c_raddleref23_Skeins E1 w1 p1 (.agg #[.int .u8 p1.System, .int .i64 p1.N.Num, .int .i64 p1.N.Den]) p0.Length p2 r12 hx13 S1) rfl (by decide) (fun _ a w S => ?_)
      refine sMove (.tuple #[.int .i64 r12.1, .int .i64 r12.2]) S (wN rfl) (.inl rfl) (by kernel_rfl) rfl (by decide) (fun a S => ?_)
      refine sExtract (vs := [.int .i64 r12.1, .int .i64 r12.2]) (.int .i64 r12.1) S (wN rfl) rfl (by kernel_rfl) rfl rfl (by decide) (fun a S => ?_)
      refine sExtract (vs := [.int .i64 r12.1, .int .i64 r12.2]) (.int .i64 r12.2) S (wN rfl) rfl (by kernel_rfl) rfl rfl (by decide) (fun a S => ?_)
      refine sMove (.int .i64 r12.1) S (wN rfl) (.inr rfl) (by kernel_rfl) rfl (by decide) (fun a S => ?_)
      refine sMove (.int .i64 r12.2) S (wN rfl) (.inr rfl) (by kernel_rfl) rfl (by decide) (fun a S => ?_)
      refine leafL (leafT (hK11 _ _ ?_))
      refine sSeq (fun K14 hK14 => ?_)
      refine sSeq (fun K15 hK15 => ?_)
      refine sRegion ?_
      refine sMove (.int .i64 r12.2) S (wN rfl) (.inl rfl) (by kernel_rfl) rfl (by decide) (fun a S => ?_)
      refine sBin (.bool (r12.2 != 0)) S (wN rfl) rfl (by kernel_rfl) (by kernel_rfl) (bNe _ _ _ _ .i64 r12.2 0) rfl (by decide) (fun a S => ?_)
      refine leafL (leafT (hK15 _ _ ?_))
      rcases iteSome h with ⟨hc16, h⟩ | ⟨hc16, h⟩
      · refine sCondT (b := r12.2 != 0) S (by kernel_rfl) hc16 ?_
        refine sSeq (fun K17 hK17 => ?_)
        refine sRegion ?_
        refine sMove (.int .i64 r12.2) S (wN rfl) (.inl rfl) (by kernel_rfl) rfl (by decide) (fun a S => ?_)
        refine sMove (.int .i64 0) S (wN rfl) (.inr rfl) (by kernel_rfl) rfl (by decide) (fun a S => ?_)
        refine sMove (.int .i64 0) S (wN rfl) (.inr rfl) (by kernel_rfl) rfl (by decide) (fun a S => ?_)
        refine sMove (.int .i64 r12.2) S (wN rfl) (.inr rfl) (by kernel_rfl) rfl (by decide) (fun a S => ?_)
        refine leafL (leafT (hK17 _ _ ?_))
        obtain rfl := Option.some.inj h
        exact wp_ret (rThen (sRet (.tuple #[.int .i64 0, .int .i64 0, .int .i64 r12.2]) S (rsl3 rfl (rvT (t := 8) (v := .int .i64 0) S (by kernel_rfl)) (rvT (t := 9) (v := .int .i64 0) S (by kernel_rfl)) (rvT (t := 10) (v := .int .i64 r12.2) S (by kernel_rfl))) ⟨(), rfl, S.mem.sel [] [] (by decide) (by kernel_rfl) (by kernel_rfl)⟩))
      · refine sCondF (b := r12.2 != 0) S (by kernel_rfl) hc16 ?_
        refine wp_skip (leafT (hK14 _ _ ?_))
        refine sSeq (fun K18 hK18 => ?_)
        obtain ⟨t20, h, g21⟩ := bindSome h
        refine sCut (fun a w => ∃ o19, o19 = t20 ∧ St [] E [] w0 42 a w [(3, .int .i64 p3), (11, .int .i64 r12.1), (37, .bool o19)] [] []) ?_ (fun a w hI => ?_)
        · refine sRegion ?_
          refine sMove (.int .i64 p3) S (wN rfl) (.inl rfl) (by kernel_rfl) rfl (by decide) (fun a S => ?_)
          refine sBin (.bool (decide (p3 < 0))) S (wN rfl) rfl (by kernel_rfl) (by kernel_rfl) (bLt _ _ _ _ .i64 p3 0) rfl (by decide) (fun a S => ?_)
          refine sMove (.bool (decide (p3 < 0))) S (wN rfl) (.inl rfl) (by kernel_rfl) rfl (by decide) (fun a S => ?_)
          rcases iteSome h with ⟨hc22, h⟩ | ⟨hc22, h⟩
          · refine sSkip (c := decide (p3 < 0)) 2 false 34 35 S rfl rfl (by kernel_rfl) hc22 rfl (by decide) (fun a S => ?_)
            refine sSkip (c := decide (p3 < 0)) 2 false 34 36 S rfl rfl (by kernel_rfl) hc22 rfl (by decide) (fun a S => ?_)
            refine sPickT (b := decide (p3 < 0)) (.bool true) S (wN rfl) rfl (by kernel_rfl) hc22 (by kernel_rfl) rfl (by decide) (fun a S => ?_)
            exact leafL (leafT (⟨true, Option.some.inj h, S.fix [] [] (by decide) (by kernel_rfl) (by kernel_rfl) (by kernel_rfl)⟩))
          · refine sMove (.int .i64 p3) S (wG (c := decide (p3 < 0)) 2 false 34 rfl rfl (by kernel_rfl) hc22) (.inl rfl) (by kernel_rfl) rfl (by decide) (fun a S => ?_)
            refine sBin (.bool (decide (1000000 < p3))) S (wG (c := decide (p3 < 0)) 2 false 34 rfl rfl (by kernel_rfl) hc22) rfl (by kernel_rfl) (by kernel_rfl) (bGt _ _ _ _ .i64 p3 1000000) rfl (by decide) (fun a S => ?_)
            refine sPickF (b := decide (p3 < 0)) (.bool (decide (1000000 < p3))) S (wN rfl) rfl (by kernel_rfl) hc22 (by kernel_rfl) rfl (by decide) (fun a S => ?_)
            exact leafL (leafT (⟨decide (1000000 < p3), Option.some.inj h, S.fix [] [] (by decide) (by kernel_rfl) (by kernel_rfl) (by kernel_rfl)⟩))
        · obtain ⟨o19, rfl, S⟩ := hI
          have h := g21
          clear g21
          try dsimp only at h
          rcases iteSome h with ⟨hc23, h⟩ | ⟨hc23, h⟩
          · refine sCondT (b := o19) S (by kernel_rfl) hc23 ?_
            refine sSeq (fun K24 hK24 => ?_)
            refine sRegion ?_
            refine sMove (.int .i64 0) S (wN rfl) (.inr rfl) (by kernel_rfl) rfl (by decide) (fun a S => ?_)
            refine sMove (.int .i64 0) S (wN rfl) (.inr rfl) (by kernel_rfl) rfl (by decide) (fun a S => ?_)
            refine sMove (.int .i64 2) S (wN rfl) (.inr rfl) (by kernel_rfl) rfl (by decide) (fun a S => ?_)
            refine leafL (leafT (hK24 _ _ ?_))
            obtain rfl := Option.some.inj h
            exact wp_ret (rThen (sRet (.tuple #[.int .i64 0, .int .i64 0, .int .i64 2]) S (rsl3 rfl (rvT (t := 8) (v := .int .i64 0) S (by kernel_rfl)) (rvT (t := 9) (v := .int .i64 0) S (by kernel_rfl)) (rvT (t := 10) (v := .int .i64 2) S (by kernel_rfl))) ⟨(), rfl, S.mem.sel [] [] (by decide) (by kernel_rfl) (by kernel_rfl)⟩))
          · refine sCondF (b := o19) S (by kernel_rfl) hc23 ?_
            refine wp_skip (leafT (hK18 _ _ ?_))
            refine sSeq (fun K25 hK25 => ?_)
            refine sRegion ?_
            refine sMove (.int .i64 r12.1) S (wN rfl) (.inl rfl) (by kernel_rfl) rfl (by decide) (fun a S => ?_)
            refine sMove (.int .i64 r12.1) S (wN rfl) (.inl rfl) (by kernel_rfl) rfl (by decide) (fun a S => ?_)
            refine sMove (.int .i64 p3) S (wN rfl) (.inl rfl) (by kernel_rfl) rfl (by decide) (fun a S => ?_)
            refine sBin (.int .i64 (w64 (r12.1 * p3))) S (wN rfl) rfl (by kernel_rfl) (by kernel_rfl) (bMul _ _ _ _ r12.1 p3) rfl (by decide) (fun a S => ?_)
            refine sMove (.int .i64 r12.1) S (wN rfl) (.inr rfl) (by kernel_rfl) rfl (by decide) (fun a S => ?_)
            refine sMove (.int .i64 (w64 (r12.1 * p3))) S (wN rfl) (.inr rfl) (by kernel_rfl) rfl (by decide) (fun a S => ?_)
            refine sMove (.int .i64 0) S (wN rfl) (.inr rfl) (by kernel_rfl) rfl (by decide) (fun a S => ?_)
            refine leafL (leafT (hK25 _ _ ?_))
            obtain rfl := Option.some.inj h
            exact wp_ret (sRet (.tuple #[.int .i64 r12.1, .int .i64 (w64 (r12.1 * p3)), .int .i64 0]) S (rsl3 rfl (rvT (t := 8) (v := .int .i64 r12.1) S (by kernel_rfl)) (rvT (t := 9) (v := .int .i64 (w64 (r12.1 * p3))) S (by kernel_rfl)) (rvT (t := 10) (v := .int .i64 0) S (by kernel_rfl))) ⟨(), rfl, S.mem.sel [] [] (by decide) (by kernel_rfl) (by kernel_rfl)⟩)

end Go.Proofs.Ytdbgkakmhlmpbaa
