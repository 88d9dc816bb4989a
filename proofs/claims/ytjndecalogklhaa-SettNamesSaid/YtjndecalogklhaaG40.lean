import Derived.Test.YtjndecalogklhaaGTy
namespace Go.Proofs.Ytjndecalogklhaa
open Go.RowKit
set_option linter.unusedVariables false

noncomputable def sett_sum_l1 (p1 : (List Int)) : (Int × Int) → Option ((Int × Int) ⊕ Int) := fun s0 => match s0 with
  | (s8, s9) =>
    if decide (s9 < (p1.length : Int)) then
      Option.bind (idxO p1 s9) fun x19 =>
      some (.inl (w64 (s8 + x19), w64 (s9 + 1)))
    else
      some (.inr s8)
noncomputable def F_sett_sum (p0 : Int) (p1 : (List Int)) : Option Int :=
  Option.bind (α := Int) (
    Option.bind (whileO (sett_sum_l1 p1) (p0, 0)) fun e13 =>
      some e13) fun o4 =>
  some o4
set_option maxHeartbeats 4000000 in
set_option maxRecDepth 100000 in
theorem c_sett_sum (E : Nat → Prop) (w0 : World) (p0 : Int) (p1 : (List Int)) (v1 : Value) (r : Int) (h : F_sett_sum p0 p1 = some r) (S : St0 E [] w0 w0 [] [fRep (rL (rI .i64)) (v1) p1]) :
    Calls Try.prog 40 #[.int .i64 p0, v1] w0 (Ret (X := Unit) E [] w0 (fun _ => .int .i64 r) (fun _ => []) (fun _ => [])) := by
  unfold F_sett_sum at h
  obtain ⟨ad1, cp2, _, rfl, _⟩ := S.know (i := 0) (e := fRep (rL (rI .i64)) (v1) p1) (by kernel_rfl)
  refine sEnter (args := [.int .i64 p0, .slice ad1 p1.length cp2]) 18 Try.func40 rfl rfl (by simp) S (fun a S => ?_)
  refine sSeq (fun K3 hK3 => ?_)
  refine sRegion ?_
  refine sMove (.int .i64 0) S (wN rfl) (.inr rfl) (by kernel_rfl) rfl (by decide) (fun a S => ?_)
  refine leafL (leafT (hK3 _ _ ?_))
  obtain ⟨t5, h, g6⟩ := bindSome h
  refine sCut (fun a w => ∃ o4, o4 = t5 ∧ St E [] w0 18 a w [(0, .int .i64 o4)] [] []) ?_ (fun a w hI => ?_)
  · refine sSeq (fun K7 hK7 => ?_)
    refine sRegion ?_
    refine sMove (.slice ad1 p1.length cp2) S (wN rfl) (.inl rfl) (by kernel_rfl) rfl (by decide) (fun a S => ?_)
    refine sLen (ad := ad1) (m := p1.length) (c := cp2) S (wN rfl) rfl Try.underlying27 (by kernel_rfl) rfl (by decide) (fun a S => ?_)
    refine sMove (.int .i64 0) S (wN rfl) (.inl rfl) (by kernel_rfl) rfl (by decide) (fun a S => ?_)
    refine leafL (leafT (hK7 _ _ ?_))
    refine wp_block ?_
    obtain ⟨t12, hl, g11⟩ := bindSome h
    refine sLoop hl (fun s0 a w => match s0 with | (s8, s9) => St E [] w0 18 a w [(0, .int .i64 s8), (7, .slice ad1 p1.length cp2), (8, .int .i64 (p1.length : Int)), (9, .int .i64 s9)] [] [fRep (rL (rI .i64)) (.slice ad1 p1.length cp2) p1]) (S.fix [] [0] (by decide) (by kernel_rfl) (by kernel_rfl) (by kernel_rfl)) ?_
    clear hl h
    intro s0 a w c0 hI h hu10
    obtain ⟨s8, s9⟩ := s0
    unfold sett_sum_l1 at h
    dsimp only at h hI
    have S := hI
    refine sSeq (fun K14 hK14 => ?_)
    refine sRegion ?_
    refine sBin (.bool (decide (s9 < (p1.length : Int)))) S (wN rfl) rfl (by kernel_rfl) (by kernel_rfl) (bLt _ _ _ _ .i64 s9 (p1.length : Int)) rfl (by decide) (fun a S => ?_)
    refine leafL (leafT (hK14 _ _ ?_))
    refine sSeq (fun K15 hK15 => ?_)
    rcases iteSome h with ⟨hc16, h⟩ | ⟨hc16, h⟩
    · refine sCondT (b := decide (s9 < (p1.length : Int))) S (by kernel_rfl) hc16 ?_
      refine wp_skip (leafT (hK15 _ _ ?_))
      refine sSeq (fun K17 hK17 => ?_)
      refine wp_block ?_
      refine sSeq (fun K18 hK18 => ?_)
      refine sRegion ?_
      obtain ⟨x19, hx20, h⟩ := bindSome h
      obtain ⟨q21, hq22, S⟩ := pIdx (P := Try.prog) (r := (rI .i64)) (v := .slice ad1 p1.length cp2) (xs := p1) (j := s9) 27 3 0 S Try.underlying27 (by kernel_rfl) (by kernel_rfl) hx20
      refine sIdxV (v := .slice ad1 p1.length cp2) (k := .i64) (j := s9) S (wN rfl) rfl (by kernel_rfl) (by kernel_rfl) hq22 rfl (by decide) (fun a S => ?_)
      obtain ⟨u23, S⟩ := pLoad (r := (rI .i64)) (q := q21) (x := x19) 0 S (by kernel_rfl)
      obtain rfl : u23 = .int .i64 x19 := S.mem.know (i := 1) (e := fRep (rI .i64) (u23) x19) (by kernel_rfl)
      refine sLoadV1 (vq := q21) 0 (.int .i64 x19) S (wN rfl) rfl (by kernel_rfl) (by kernel_rfl) (by kernel_rfl) rfl (by decide) (fun a S => ?_)
      refine sMove (.int .i64 x19) S (wN rfl) (.inr rfl) (by kernel_rfl) rfl (by decide) (fun a S => ?_)
      refine leafL (leafT (hK18 _ _ ?_))
      refine sRegion ?_
      refine sMove (.int .i64 s8) S (wN rfl) (.inl rfl) (by kernel_rfl) rfl (by decide) (fun a S => ?_)
      refine sMove (.int .i64 x19) S (wN rfl) (.inl rfl) (by kernel_rfl) rfl (by decide) (fun a S => ?_)
      refine sBin (.int .i64 (w64 (s8 + x19))) S (wN rfl) rfl (by kernel_rfl) (by kernel_rfl) (bAdd _ _ _ _ s8 x19) rfl (by decide) (fun a S => ?_)
      refine sMove (.int .i64 (w64 (s8 + x19))) S (wN rfl) (.inr rfl) (by kernel_rfl) rfl (by decide) (fun a S => ?_)
      refine leafL (leafB (leafT (hK17 _ _ ?_)))
      refine sRegion ?_
      refine sBin (.int .i64 (w64 (s9 + 1))) S (wN rfl) rfl (by kernel_rfl) (by kernel_rfl) (bAdd _ _ _ _ s9 1) rfl (by decide) (fun a S => ?_)
      refine sMove (.int .i64 (w64 (s9 + 1))) S (wN rfl) (.inl rfl) (by kernel_rfl) rfl (by decide) (fun a S => ?_)
      exact leafL (leafT (⟨(w64 (s8 + x19), w64 (s9 + 1)), (Option.some.inj h).symm, (S.fix [] [3] (by decide) (by kernel_rfl) (by kernel_rfl) (by kernel_rfl))⟩))
    · refine sCondF (b := decide (s9 < (p1.length : Int))) S (by kernel_rfl) hc16 ?_
      obtain rfl := Option.some.inj h
      obtain rfl := hu10 _ rfl
      have h := g11
      clear g11
      try dsimp only at h
      exact wp_exit (xThen (xThen (xHit (leafT (⟨s8, Option.some.inj h, S.fix [] [] (by decide) (by kernel_rfl) (by kernel_rfl) (by kernel_rfl)⟩)))))
  · obtain ⟨o4, rfl, S⟩ := hI
    have h := g6
    clear g6
    try dsimp only at h
    refine sSeq (fun K24 hK24 => ?_)
    refine sRegion ?_
    refine sMove (.int .i64 o4) S (wN rfl) (.inl rfl) (by kernel_rfl) rfl (by decide) (fun a S => ?_)
    refine sMove (.int .i64 o4) S (wN rfl) (.inr rfl) (by kernel_rfl) rfl (by decide) (fun a S => ?_)
    refine leafL (leafT (hK24 _ _ ?_))
    obtain rfl := Option.some.inj h
    exact wp_ret (sRet (.int .i64 o4) S (rsl1 rfl (rvT (t := 4) (v := .int .i64 o4) S (by kernel_rfl))) ⟨(), rfl, S.mem.sel [] [] (by decide) (by kernel_rfl) (by kernel_rfl)⟩)

end Go.Proofs.Ytjndecalogklhaa
