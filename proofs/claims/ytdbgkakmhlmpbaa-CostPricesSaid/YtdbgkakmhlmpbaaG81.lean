import Derived.Test.YtdbgkakmhlmpbaaGTy
namespace Go.Proofs.Ytdbgkakmhlmpbaa
open Go.RowKit
set_option linter.unusedVariables false

noncomputable def yarn_gcd_l1  : (Int × Int) → Option ((Int × Int) ⊕ Int) := fun s0 => match s0 with
  | (s5, s6) =>
    if s6 != 0 then
      Option.bind (remI s5 s6) fun z14 =>
      some (.inl (s6, z14))
    else
      some (.inr s5)
noncomputable def F_yarn_gcd (p0 : Int) (p1 : Int) : Option Int :=
  Option.bind (α := Int) (
    Option.bind (whileO (yarn_gcd_l1) (p0, p1)) fun e10 =>
      some e10) fun o2 =>
  some o2
set_option maxHeartbeats 4000000 in
set_option maxRecDepth 100000 in
theorem c_yarn_gcd (E : Nat → Prop) (w0 : World) (p0 : Int) (p1 : Int) (r : Int) (h : F_yarn_gcd p0 p1 = some r) (S : St0 E [] w0 w0 [] []) :
    Calls Try.prog 81 #[.int .u64 p0, .int .u64 p1] w0 (Ret (X := Unit) E [] w0 (fun _ => .int .u64 r) (fun _ => []) (fun _ => [])) := by
  unfold F_yarn_gcd at h
  refine sEnter (args := [.int .u64 p0, .int .u64 p1]) 12 Try.func81 rfl rfl (by simp) S (fun a S => ?_)
  refine sSeq (fun K1 hK1 => ?_)
  refine sRegion ?_
  refine sMove (.int .u64 0) S (wN rfl) (.inr rfl) (by kernel_rfl) rfl (by decide) (fun a S => ?_)
  refine leafL (leafT (hK1 _ _ ?_))
  obtain ⟨t3, h, g4⟩ := bindSome h
  refine sCut (fun a w => ∃ o2, o2 = t3 ∧ St [] E [] w0 12 a w [(0, .int .u64 o2)] [] []) ?_ (fun a w hI => ?_)
  · refine wp_block ?_
    obtain ⟨t9, hl, g8⟩ := bindSome h
    refine sLoop hl (fun s0 a w => match s0 with | (s5, s6) => St [] E [] w0 12 a w [(0, .int .u64 s5), (1, .int .u64 s6)] [] []) (S.fix [] [] (by decide) (by kernel_rfl) (by kernel_rfl) (by kernel_rfl)) ?_
    clear hl h
    intro s0 a w c0 hI h hu7
    obtain ⟨s5, s6⟩ := s0
    unfold yarn_gcd_l1 at h
    dsimp only at h hI
    have S := hI
    refine sSeq (fun K11 hK11 => ?_)
    refine sSeq (fun K12 hK12 => ?_)
    refine sRegion ?_
    refine sMove (.int .u64 s6) S (wN rfl) (.inl rfl) (by kernel_rfl) rfl (by decide) (fun a S => ?_)
    refine sBin (.bool (s6 != 0)) S (wN rfl) rfl (by kernel_rfl) (by kernel_rfl) (bNe _ _ _ _ .u64 s6 0) rfl (by decide) (fun a S => ?_)
    refine leafL (leafT (hK12 _ _ ?_))
    rcases iteSome h with ⟨hc13, h⟩ | ⟨hc13, h⟩
    · refine sCondT (b := s6 != 0) S (by kernel_rfl) hc13 ?_
      refine wp_skip (leafT (hK11 _ _ ?_))
      refine wp_block ?_
      obtain ⟨z14, hx15, h⟩ := bindSome h
      refine sDraw (nf := []) (W := [(0, 7, .int .u64 s6), (1, 8, .int .u64 s5), (2, 9, .int .u64 s6), (3, 10, .int .u64 z14), (4, 0, .int .u64 s6), (5, 1, .int .u64 z14)]) (by kernel_rfl) S ?_
      refine node_by (A := [[], [], [], [1, 2], [0, 1], [0, 1, 2, 3, 4]]) (nf := []) (Y := []) (W := [(0, 7, .int .u64 s6), (1, 8, .int .u64 s5), (2, 9, .int .u64 s6), (3, 10, .int .u64 z14), (4, 0, .int .u64 s6), (5, 1, .int .u64 z14)]) 6 (by kernel_rfl) (by kernel_rfl) (by kernel_rfl) (by kernel_rfl) (by kernel_rfl) [0, 1, 2, 3, 4, 5] (by kernel_rfl) (by decide) (by decide) (aF 0 5 (by decide) ?_ (aF 1 4 (by decide) ?_ (aF 2 3 (by decide) ?_ (aF 3 2 (by decide) ?_ (aF 4 1 (by decide) ?_ (aF 5 0 (by decide) ?_ (trivial))))))) [(0, .int .u64 s6), (1, .int .u64 z14)] (fin_of [some 4, some 5] rfl (by kernel_rfl) (by kernel_rfl)) (fun _ a w S => ?_)
      · refine fI 7 (.int .u64 s6) [(1, .int .u64 s6)] 0 [none] rfl rfl (by kernel_rfl) rfl (by kernel_rfl) (by kernel_rfl) fun G a w S => ?_
        refine sMove (.int .u64 s6) S (wN rfl) (.inl rfl) (by kernel_rfl) rfl (by decide) (fun a S => ?_)
        exact leafL ⟨rfl, S⟩
      · refine fI 8 (.int .u64 s5) [(0, .int .u64 s5)] 1 [none] rfl rfl (by kernel_rfl) rfl (by kernel_rfl) (by kernel_rfl) fun G a w S => ?_
        refine sMove (.int .u64 s5) S (wN rfl) (.inl rfl) (by kernel_rfl) rfl (by decide) (fun a S => ?_)
        exact leafL ⟨rfl, S⟩
      · refine fI 9 (.int .u64 s6) [(1, .int .u64 s6)] 2 [none] rfl rfl (by kernel_rfl) rfl (by kernel_rfl) (by kernel_rfl) fun G a w S => ?_
        refine sMove (.int .u64 s6) S (wN rfl) (.inl rfl) (by kernel_rfl) rfl (by decide) (fun a S => ?_)
        exact leafL ⟨rfl, S⟩
      · refine fI 10 (.int .u64 z14) [(8, .int .u64 s5), (9, .int .u64 s6)] 3 [some 1, some 2] rfl rfl (by kernel_rfl) rfl (by kernel_rfl) (by kernel_rfl) fun G a w S => ?_
        refine sBin (.int .u64 z14) S (wN rfl) rfl (by kernel_rfl) (by kernel_rfl) (bRemK _ _ _ _ (k := .u64) (x := s5) (y := s6) hx15) rfl (by decide) (fun a S => ?_)
        exact leafL ⟨rfl, S⟩
      · refine fI 0 (.int .u64 s6) [(7, .int .u64 s6)] 4 [some 0] rfl rfl (by kernel_rfl) rfl (by kernel_rfl) (by kernel_rfl) fun G a w S => ?_
        refine sMove (.int .u64 s6) S (wN rfl) (.inr rfl) (by kernel_rfl) rfl (by decide) (fun a S => ?_)
        exact leafL ⟨rfl, S⟩
      · refine fI 1 (.int .u64 z14) [(10, .int .u64 z14)] 5 [some 3] rfl rfl (by kernel_rfl) rfl (by kernel_rfl) (by kernel_rfl) fun G a w S => ?_
        refine sMove (.int .u64 z14) S (wN rfl) (.inr rfl) (by kernel_rfl) rfl (by decide) (fun a S => ?_)
        exact leafL ⟨rfl, S⟩
      · exact leafB (leafT (⟨(s6, z14), (Option.some.inj h).symm, (S.fix [] [] (by decide) (by kernel_rfl) (by kernel_rfl) (by kernel_rfl))⟩))
    · refine sCondF (b := s6 != 0) S (by kernel_rfl) hc13 ?_
      obtain rfl := Option.some.inj h
      obtain rfl := hu7 _ rfl
      have h := g8
      clear g8
      try dsimp only at h
      exact wp_exit (xThen (xThen (xHit (leafT (⟨s5, Option.some.inj h, S.fix [] [] (by decide) (by kernel_rfl) (by kernel_rfl) (by kernel_rfl)⟩)))))
  · obtain ⟨o2, rfl, S⟩ := hI
    have h := g4
    clear g4
    try dsimp only at h
    refine sSeq (fun K16 hK16 => ?_)
    refine sRegion ?_
    refine sMove (.int .u64 o2) S (wN rfl) (.inl rfl) (by kernel_rfl) rfl (by decide) (fun a S => ?_)
    refine sMove (.int .u64 o2) S (wN rfl) (.inr rfl) (by kernel_rfl) rfl (by decide) (fun a S => ?_)
    refine leafL (leafT (hK16 _ _ ?_))
    obtain rfl := Option.some.inj h
    exact wp_ret (sRet (.int .u64 o2) S (rsl1 rfl (rvT (t := 4) (v := .int .u64 o2) S (by kernel_rfl))) ⟨(), rfl, S.mem.sel [] [] (by decide) (by kernel_rfl) (by kernel_rfl)⟩)

end Go.Proofs.Ytdbgkakmhlmpbaa
