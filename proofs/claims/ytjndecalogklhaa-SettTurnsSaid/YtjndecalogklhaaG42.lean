import Derived.Test.YtjndecalogklhaaGTy
namespace Go.Proofs.Ytjndecalogklhaa
open Go.RowKit
set_option linter.unusedVariables false

noncomputable def raddleref24_total_l1 (p0 : (List Int)) : (Int × Int) → Option ((Int × Int) ⊕ Int) := fun s0 => match s0 with
  | (s9, s10) =>
    if decide (s10 < (p0.length : Int)) then
      Option.bind (idxO p0 s10) fun x19 =>
      some (.inl (w64 (s9 + x19), w64 (s10 + 1)))
    else
      some (.inr s9)
noncomputable def F_raddleref24_total (p0 : (List Int)) : Option Int :=
  Option.bind (α := Int) (
    Option.bind (whileO (raddleref24_total_l1 p0) (0, 0)) fun e14 =>
      some e14) fun o5 =>
  some o5
set_option maxHeartbeats 4000000 in
set_option maxRecDepth 100000 in
theorem c_raddleref24_total (E : Nat → Prop) (w0 : World) (p0 : (List Int)) (v0 : Value) (r : Int) (h : F_raddleref24_total p0 = some r) (S : St0 E [] w0 w0 [] [fRep (rL (rI .i64)) (v0) p0]) :
    Calls Try.prog 42 #[v0] w0 (Ret (X := Unit) E [] w0 (fun _ => .int .i64 r) (fun _ => []) (fun _ => [])) := by
  unfold F_raddleref24_total at h
  obtain ⟨ad1, cp2, _, rfl, _⟩ := S.know (i := 0) (e := fRep (rL (rI .i64)) (v0) p0) (by kernel_rfl)
  refine sEnter (args := [.slice ad1 p0.length cp2]) 18 Try.func42 rfl rfl (by simp) S (fun a S => ?_)
  refine sSeq (fun K3 hK3 => ?_)
  refine sRegion ?_
  refine sMove (.int .i64 0) S (wN rfl) (.inr rfl) (by kernel_rfl) rfl (by decide) (fun a S => ?_)
  refine leafL (leafT (hK3 _ _ ?_))
  refine sSeq (fun K4 hK4 => ?_)
  refine sRegion ?_
  refine sMove (.int .i64 0) S (wN rfl) (.inr rfl) (by kernel_rfl) rfl (by decide) (fun a S => ?_)
  refine leafL (leafT (hK4 _ _ ?_))
  obtain ⟨t6, h, g7⟩ := bindSome h
  refine sCut (fun a w => ∃ o5, o5 = t6 ∧ St E [] w0 18 a w [(3, .int .i64 o5)] [] []) ?_ (fun a w hI => ?_)
  · refine sSeq (fun K8 hK8 => ?_)
    refine sRegion ?_
    refine sMove (.int .i64 0) S (wN rfl) (.inr rfl) (by kernel_rfl) rfl (by decide) (fun a S => ?_)
    refine leafL (leafT (hK8 _ _ ?_))
    refine wp_block ?_
    obtain ⟨t13, hl, g12⟩ := bindSome h
    refine sLoop hl (fun s0 a w => match s0 with | (s9, s10) => St E [] w0 18 a w [(0, .slice ad1 p0.length cp2), (3, .int .i64 s9), (4, .int .i64 s10)] [] [fRep (rL (rI .i64)) (.slice ad1 p0.length cp2) p0]) (S.fix [] [0] (by decide) (by kernel_rfl) (by kernel_rfl) (by kernel_rfl)) ?_
    clear hl h
    intro s0 a w c0 hI h hu11
    obtain ⟨s9, s10⟩ := s0
    unfold raddleref24_total_l1 at h
    dsimp only at h hI
    have S := hI
    refine sSeq (fun K15 hK15 => ?_)
    refine sSeq (fun K16 hK16 => ?_)
    refine sRegion ?_
    refine sMove (.int .i64 s10) S (wN rfl) (.inl rfl) (by kernel_rfl) rfl (by decide) (fun a S => ?_)
    refine sMove (.slice ad1 p0.length cp2) S (wN rfl) (.inl rfl) (by kernel_rfl) rfl (by decide) (fun a S => ?_)
    refine sLen (ad := ad1) (m := p0.length) (c := cp2) S (wN rfl) rfl Try.underlying27 (by kernel_rfl) rfl (by decide) (fun a S => ?_)
    refine sBin (.bool (decide (s10 < (p0.length : Int)))) S (wN rfl) rfl (by kernel_rfl) (by kernel_rfl) (bLt _ _ _ _ .i64 s10 (p0.length : Int)) rfl (by decide) (fun a S => ?_)
    refine leafL (leafT (hK16 _ _ ?_))
    rcases iteSome h with ⟨hc17, h⟩ | ⟨hc17, h⟩
    · refine sCondT (b := decide (s10 < (p0.length : Int))) S (by kernel_rfl) hc17 ?_
      refine wp_skip (leafT (hK15 _ _ ?_))
      refine sSeq (fun K18 hK18 => ?_)
      refine wp_block ?_
      refine sRegion ?_
      refine sMove (.int .i64 s9) S (wN rfl) (.inl rfl) (by kernel_rfl) rfl (by decide) (fun a S => ?_)
      refine sMove (.slice ad1 p0.length cp2) S (wN rfl) (.inl rfl) (by kernel_rfl) rfl (by decide) (fun a S => ?_)
      refine sMove (.int .i64 s10) S (wN rfl) (.inl rfl) (by kernel_rfl) rfl (by decide) (fun a S => ?_)
      obtain ⟨x19, hx20, h⟩ := bindSome h
      obtain ⟨q21, hq22, S⟩ := pIdx (P := Try.prog) (r := (rI .i64)) (v := .slice ad1 p0.length cp2) (xs := p0) (j := s10) 27 3 0 S Try.underlying27 (by kernel_rfl) (by kernel_rfl) hx20
      refine sIdxV (v := .slice ad1 p0.length cp2) (k := .i64) (j := s10) S (wN rfl) rfl (by kernel_rfl) (by kernel_rfl) hq22 rfl (by decide) (fun a S => ?_)
      obtain ⟨u23, S⟩ := pLoad (r := (rI .i64)) (q := q21) (x := x19) 0 S (by kernel_rfl)
      obtain rfl : u23 = .int .i64 x19 := S.mem.know (i := 1) (e := fRep (rI .i64) (u23) x19) (by kernel_rfl)
      refine sLoadV1 (vq := q21) 0 (.int .i64 x19) S (wN rfl) rfl (by kernel_rfl) (by kernel_rfl) (by kernel_rfl) rfl (by decide) (fun a S => ?_)
      refine sBin (.int .i64 (w64 (s9 + x19))) S (wN rfl) rfl (by kernel_rfl) (by kernel_rfl) (bAdd _ _ _ _ s9 x19) rfl (by decide) (fun a S => ?_)
      refine sMove (.int .i64 (w64 (s9 + x19))) S (wN rfl) (.inr rfl) (by kernel_rfl) rfl (by decide) (fun a S => ?_)
      refine leafL (leafB (leafT (hK18 _ _ ?_)))
      refine sRegion ?_
      refine sMove (.int .i64 s10) S (wN rfl) (.inl rfl) (by kernel_rfl) rfl (by decide) (fun a S => ?_)
      refine sBin (.int .i64 (w64 (s10 + 1))) S (wN rfl) rfl (by kernel_rfl) (by kernel_rfl) (bAdd _ _ _ _ s10 1) rfl (by decide) (fun a S => ?_)
      refine sMove (.int .i64 (w64 (s10 + 1))) S (wN rfl) (.inr rfl) (by kernel_rfl) rfl (by decide) (fun a S => ?_)
      exact leafL (leafT (⟨(w64 (s9 + x19), w64 (s10 + 1)), (Option.some.inj h).symm, (S.fix [] [3] (by decide) (by kernel_rfl) (by kernel_rfl) (by kernel_rfl))⟩))
    · refine sCondF (b := decide (s10 < (p0.length : Int))) S (by kernel_rfl) hc17 ?_
      obtain rfl := Option.some.inj h
      obtain rfl := hu11 _ rfl
      have h := g12
      clear g12
      try dsimp only at h
      exact wp_exit (xThen (xThen (xHit (leafT (⟨s9, Option.some.inj h, S.fix [] [] (by decide) (by kernel_rfl) (by kernel_rfl) (by kernel_rfl)⟩)))))
  · obtain ⟨o5, rfl, S⟩ := hI
    have h := g7
    clear g7
    try dsimp only at h
    refine sSeq (fun K24 hK24 => ?_)
    refine sRegion ?_
    refine sMove (.int .i64 o5) S (wN rfl) (.inl rfl) (by kernel_rfl) rfl (by decide) (fun a S => ?_)
    refine sMove (.int .i64 o5) S (wN rfl) (.inr rfl) (by kernel_rfl) rfl (by decide) (fun a S => ?_)
    refine leafL (leafT (hK24 _ _ ?_))
    obtain rfl := Option.some.inj h
    exact wp_ret (sRet (.int .i64 o5) S (rsl1 rfl (rvT (t := 2) (v := .int .i64 o5) S (by kernel_rfl))) ⟨(), rfl, S.mem.sel [] [] (by decide) (by kernel_rfl) (by kernel_rfl)⟩)

end Go.Proofs.Ytjndecalogklhaa
