import Derived.Test.YtdbgkakmhlmpbaaGTy
namespace Go.Proofs.Ytdbgkakmhlmpbaa
open Go.RowKit
set_option linter.unusedVariables false

noncomputable def F_yarn_factors (p0 : Int) : Option (Int × Int × Bool × Bool) :=
  if p0 == 1 then
    some (1, 1, true, true)
  else
    if p0 == 2 then
      some (1, 9, true, true)
    else
      if p0 == 3 then
        some (1000, 1, false, true)
      else
        if p0 == 4 then
          some (226796185, 384048, false, true)
        else
          some (0, 0, false, false)
set_option maxHeartbeats 4000000 in
set_option maxRecDepth 100000 in
theorem c_yarn_factors (E : Nat → Prop) (w0 : World) (p0 : Int) (r : (Int × Int × Bool × Bool)) (h : F_yarn_factors p0 = some r) (S : St0 E [] w0 w0 [] []) :
    Calls Try.prog 79 #[.int .u8 p0] w0 (Ret (X := Unit) E [] w0 (fun _ => .tuple #[.int .i64 r.1, .int .i64 r.2.1, .bool r.2.2.1, .bool r.2.2.2]) (fun _ => []) (fun _ => [])) := by
  unfold F_yarn_factors at h
  refine sEnter (args := [.int .u8 p0]) 15 Try.func79 rfl rfl (by simp) S (fun a S => ?_)
  refine sSeq (fun K1 hK1 => ?_)
  refine sRegion ?_
  refine sMove (.int .i64 0) S (wN rfl) (.inr rfl) (by kernel_rfl) rfl (by decide) (fun a S => ?_)
  refine sMove (.int .i64 0) S (wN rfl) (.inr rfl) (by kernel_rfl) rfl (by decide) (fun a S => ?_)
  refine sMove (.bool false) S (wN rfl) (.inr rfl) (by kernel_rfl) rfl (by decide) (fun a S => ?_)
  refine sMove (.bool false) S (wN rfl) (.inr rfl) (by kernel_rfl) rfl (by decide) (fun a S => ?_)
  refine leafL (leafT (hK1 _ _ ?_))
  refine sSeq (fun K2 hK2 => ?_)
  refine sSeq (fun K3 hK3 => ?_)
  refine sRegion ?_
  refine sMove (.int .u8 p0) S (wN rfl) (.inl rfl) (by kernel_rfl) rfl (by decide) (fun a S => ?_)
  refine leafL (leafT (hK3 _ _ ?_))
  refine wp_block ?_
  refine sSeq (fun K4 hK4 => ?_)
  refine sRegion ?_
  refine sBin (.bool (p0 == 1)) S (wN rfl) rfl (by kernel_rfl) (by kernel_rfl) (bEq _ _ _ _ .u8 p0 1) rfl (by decide) (fun a S => ?_)
  refine sMove (.bool (p0 == 1)) S (wN rfl) (.inr rfl) (by kernel_rfl) rfl (by decide) (fun a S => ?_)
  refine leafL (leafT (hK4 _ _ ?_))
  rcases iteSome h with ⟨hc5, h⟩ | ⟨hc5, h⟩
  · refine sCondT (b := p0 == 1) S (by kernel_rfl) hc5 ?_
    refine sSeq (fun K6 hK6 => ?_)
    refine sRegion ?_
    refine sMove (.int .i64 1) S (wN rfl) (.inr rfl) (by kernel_rfl) rfl (by decide) (fun a S => ?_)
    refine sMove (.int .i64 1) S (wN rfl) (.inr rfl) (by kernel_rfl) rfl (by decide) (fun a S => ?_)
    refine sMove (.bool true) S (wN rfl) (.inr rfl) (by kernel_rfl) rfl (by decide) (fun a S => ?_)
    refine sMove (.bool true) S (wN rfl) (.inr rfl) (by kernel_rfl) rfl (by decide) (fun a S => ?_)
    refine leafL (leafT (hK6 _ _ ?_))
    obtain rfl := Option.some.inj h
    exact wp_ret (rBlock (rThen (sRet (.tuple #[.int .i64 1, .int .i64 1, .bool true, .bool true]) S (rsl4 rfl (rvT (t := 2) (v := .int .i64 1) S (by kernel_rfl)) (rvT (t := 3) (v := .int .i64 1) S (by kernel_rfl)) (rvT (t := 4) (v := .bool true) S (by kernel_rfl)) (rvT (t := 5) (v := .bool true) S (by kernel_rfl))) ⟨(), rfl, S.mem.sel [] [] (by decide) (by kernel_rfl) (by kernel_rfl)⟩)))
  · refine sCondF (b := p0 == 1) S (by kernel_rfl) hc5 ?_
    refine sSeq (fun K7 hK7 => ?_)
    refine sRegion ?_
    refine sBin (.bool (p0 == 2)) S (wN rfl) rfl (by kernel_rfl) (by kernel_rfl) (bEq _ _ _ _ .u8 p0 2) rfl (by decide) (fun a S => ?_)
    refine sMove (.bool (p0 == 2)) S (wN rfl) (.inr rfl) (by kernel_rfl) rfl (by decide) (fun a S => ?_)
    refine leafL (leafT (hK7 _ _ ?_))
    rcases iteSome h with ⟨hc8, h⟩ | ⟨hc8, h⟩
    · refine sCondT (b := p0 == 2) S (by kernel_rfl) hc8 ?_
      refine sSeq (fun K9 hK9 => ?_)
      refine sRegion ?_
      refine sMove (.int .i64 1) S (wN rfl) (.inr rfl) (by kernel_rfl) rfl (by decide) (fun a S => ?_)
      refine sMove (.int .i64 9) S (wN rfl) (.inr rfl) (by kernel_rfl) rfl (by decide) (fun a S => ?_)
      refine sMove (.bool true) S (wN rfl) (.inr rfl) (by kernel_rfl) rfl (by decide) (fun a S => ?_)
      refine sMove (.bool true) S (wN rfl) (.inr rfl) (by kernel_rfl) rfl (by decide) (fun a S => ?_)
      refine leafL (leafT (hK9 _ _ ?_))
      obtain rfl := Option.some.inj h
      exact wp_ret (rBlock (rThen (sRet (.tuple #[.int .i64 1, .int .i64 9, .bool true, .bool true]) S (rsl4 rfl (rvT (t := 2) (v := .int .i64 1) S (by kernel_rfl)) (rvT (t := 3) (v := .int .i64 9) S (by kernel_rfl)) (rvT (t := 4) (v := .bool true) S (by kernel_rfl)) (rvT (t := 5) (v := .bool true) S (by kernel_rfl))) ⟨(), rfl, S.mem.sel [] [] (by decide) (by kernel_rfl) (by kernel_rfl)⟩)))
    · refine sCondF (b := p0 == 2) S (by kernel_rfl) hc8 ?_
      refine sSeq (fun K10 hK10 => ?_)
      refine sRegion ?_
      refine sBin (.bool (p0 == 3)) S (wN rfl) rfl (by kernel_rfl) (by kernel_rfl) (bEq _ _ _ _ .u8 p0 3) rfl (by decide) (fun a S => ?_)
      refine sMove (.bool (p0 == 3)) S (wN rfl) (.inr rfl) (by kernel_rfl) rfl (by decide) (fun a S => ?_)
      refine leafL (leafT (hK10 _ _ ?_))
      rcases iteSome h with ⟨hc11, h⟩ | ⟨hc11, h⟩
      · refine sCondT (b := p0 == 3) S (by kernel_rfl) hc11 ?_
        refine sSeq (fun K12 hK12 => ?_)
        refine sRegion ?_
        refine sMove (.int .i64 1000) S (wN rfl) (.inr rfl) (by kernel_rfl) rfl (by decide) (fun a S => ?_)
        refine sMove (.int .i64 1) S (wN rfl) (.inr rfl) (by kernel_rfl) rfl (by decide) (fun a S => ?_)
        refine sMove (.bool false) S (wN rfl) (.inr rfl) (by kernel_rfl) rfl (by decide) (fun a S => ?_)
        refine sMove (.bool true) S (wN rfl) (.inr rfl) (by kernel_rfl) rfl (by decide) (fun a S => ?_)
        refine leafL (leafT (hK12 _ _ ?_))
        obtain rfl := Option.some.inj h
        exact wp_ret (rBlock (rThen (sRet (.tuple #[.int .i64 1000, .int .i64 1, .bool false, .bool true]) S (rsl4 rfl (rvT (t := 2) (v := .int .i64 1000) S (by kernel_rfl)) (rvT (t := 3) (v := .int .i64 1) S (by kernel_rfl)) (rvT (t := 4) (v := .bool false) S (by kernel_rfl)) (rvT (t := 5) (v := .bool true) S (by kernel_rfl))) ⟨(), rfl, S.mem.sel [] [] (by decide) (by kernel_rfl) (by kernel_rfl)⟩)))
      · refine sCondF (b := p0 == 3) S (by kernel_rfl) hc11 ?_
        refine sSeq (fun K13 hK13 => ?_)
        refine sRegion ?_
        refine sBin (.bool (p0 == 4)) S (wN rfl) rfl (by kernel_rfl) (by kernel_rfl) (bEq _ _ _ _ .u8 p0 4) rfl (by decide) (fun a S => ?_)
        refine sMove (.bool (p0 == 4)) S (wN rfl) (.inr rfl) (by kernel_rfl) rfl (by decide) (fun a S => ?_)
        refine leafL (leafT (hK13 _ _ ?_))
        rcases iteSome h with ⟨hc14, h⟩ | ⟨hc14, h⟩
        · refine sCondT (b := p0 == 4) S (by kernel_rfl) hc14 ?_
          refine sSeq (fun K15 hK15 => ?_)
          refine sRegion ?_
          refine sMove (.int .i64 226796185) S (wN rfl) (.inr rfl) (by kernel_rfl) rfl (by decide) (fun a S => ?_)
          refine sMove (.int .i64 384048) S (wN rfl) (.inr rfl) (by kernel_rfl) rfl (by decide) (fun a S => ?_)
          refine sMove (.bool false) S (wN rfl) (.inr rfl) (by kernel_rfl) rfl (by decide) (fun a S => ?_)
          refine sMove (.bool true) S (wN rfl) (.inr rfl) (by kernel_rfl) rfl (by decide) (fun a S => ?_)
          refine leafL (leafT (hK15 _ _ ?_))
          obtain rfl := Option.some.inj h
          exact wp_ret (rBlock (rThen (sRet (.tuple #[.int .i64 226796185, .int .i64 384048, .bool false, .bool true]) S (rsl4 rfl (rvT (t := 2) (v := .int .i64 226796185) S (by kernel_rfl)) (rvT (t := 3) (v := .int .i64 384048) S (by kernel_rfl)) (rvT (t := 4) (v := .bool false) S (by kernel_rfl)) (rvT (t := 5) (v := .bool true) S (by kernel_rfl))) ⟨(), rfl, S.mem.sel [] [] (by decide) (by kernel_rfl) (by kernel_rfl)⟩)))
        · refine sCondF (b := p0 == 4) S (by kernel_rfl) hc14 ?_
          refine wp_skip (leafB (leafT (hK2 _ _ ?_)))
          refine sSeq (fun K16 hK16 => ?_)
          refine sRegion ?_
          refine sMove (.int .i64 0) S (wN rfl) (.inr rfl) (by kernel_rfl) rfl (by decide) (fun a S => ?_)
          refine sMove (.int .i64 0) S (wN rfl) (.inr rfl) (by kernel_rfl) rfl (by decide) (fun a S => ?_)
          refine sMove (.bool false) S (wN rfl) (.inr rfl) (by kernel_rfl) rfl (by decide) (fun a S => ?_)
          refine sMove (.bool false) S (wN rfl) (.inr rfl) (by kernel_rfl) rfl (by decide) (fun a S => ?_)
          refine leafL (leafT (hK16 _ _ ?_))
          obtain rfl := Option.some.inj h
          exact wp_ret (sRet (.tuple #[.int .i64 0, .int .i64 0, .bool false, .bool false]) S (rsl4 rfl (rvT (t := 2) (v := .int .i64 0) S (by kernel_rfl)) (rvT (t := 3) (v := .int .i64 0) S (by kernel_rfl)) (rvT (t := 4) (v := .bool false) S (by kernel_rfl)) (rvT (t := 5) (v := .bool false) S (by kernel_rfl))) ⟨(), rfl, S.mem.sel [] [] (by decide) (by kernel_rfl) (by kernel_rfl)⟩)

end Go.Proofs.Ytdbgkakmhlmpbaa
