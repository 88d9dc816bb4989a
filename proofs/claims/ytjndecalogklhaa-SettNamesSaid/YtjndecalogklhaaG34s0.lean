import Derived.Test.YtjndecalogklhaaGTy
import Derived.Test.YtjndecalogklhaaG33s0
namespace Go.Proofs.Ytjndecalogklhaa
open Go.RowKit
set_option linter.unusedVariables false

def anc_sett_line_turns_s0_0 : List (List Nat) := [[], [0], [], [0, 1, 2], [], [4], [], [6], [], [8], [6, 7, 8, 9], [0, 1, 2, 3, 4, 5, 6, 7, 8, 9, 10], [0, 1, 2, 3, 4, 5, 6, 7, 8, 9, 10, 11]]
noncomputable def sett_line_turns_s0_l1 (p0 : Int) (p1 : api_Grid) (p2 : Int) : (Int × Int) → Option ((Int × Int) ⊕ Int) := fun s0 => match s0 with
  | (s8, s9) =>
    if decide (s9 < p0) then
      Option.bind (α := Int) (
        Option.bind (F_sett_Turns_1_s0 s9 p1 p2) fun r22 =>
        Option.bind (remI (w64 (s9 + 1)) p0) fun z24 =>
        Option.bind (F_sett_Turns_1_s0 z24 p1 p2) fun r26 =>
        if r22 != r26 then
          some (w64 (s8 + 1))
        else
          some s8) fun o17 =>
      some (.inl (o17, w64 (s9 + 1)))
    else
      some (.inr s8)
noncomputable def F_sett_line_turns_s0 (p0 : Int) (p1 : api_Grid) (p2 : Int) : Option Int :=
  Option.bind (α := Int) (
    Option.bind (whileO (sett_line_turns_s0_l1 p0 p1 p2) (0, 0)) fun e13 =>
      some e13) fun o4 =>
  some o4
set_option maxHeartbeats 4000000 in
set_option maxRecDepth 100000 in
theorem c_sett_line_turns_s0 (E : Nat → Prop) (w0 : World) (p0 : Int) (p1 : api_Grid) (v1 : Value) (p2 : Int) (v2 : Value) (r : Int) (h : F_sett_line_turns_s0 p0 p1 p2 = some r) (S : St0 E [] w0 w0 [] [fPtr r_api_Grid (v1) p1, fPtr (rI .i64) (v2) p2]) :
    Calls Try.prog 34 #[.agg #[.int .i64 p0, .func (.func 33) #[] #[v1, v2]]] w0 (Ret (X := Unit) E [] w0 (fun _ => .int .i64 r) (fun _ => []) (fun _ => [])) := by
  unfold F_sett_line_turns_s0 at h
  refine sEnter (args := [.agg #[.int .i64 p0, .func (.func 33) #[] #[v1, v2]]]) 27 Try.func34 rfl rfl (by simp) S (fun a S => ?_)
  refine sSeq (fun K1 hK1 => ?_)
  refine sRegion ?_
  refine sBox (v := .agg #[.int .i64 p0, .func (.func 33) #[] #[v1, v2]]) S (wN rfl) rfl (by kernel_rfl) [.int .i64 p0, .func (.func 33) #[] #[v1, v2]] rfl rfl (by decide) (fun a b2 w S => ?_)
  refine sMove (.int .i64 0) S (wN rfl) (.inr rfl) (by kernel_rfl) rfl (by decide) (fun a S => ?_)
  refine leafL (leafT (hK1 _ _ ?_))
  refine sSeq (fun K3 hK3 => ?_)
  refine sRegion ?_
  refine sMove (.int .i64 0) S (wN rfl) (.inr rfl) (by kernel_rfl) rfl (by decide) (fun a S => ?_)
  refine leafL (leafT (hK3 _ _ ?_))
  obtain ⟨t5, h, g6⟩ := bindSome h
  refine sCut (fun a w => ∃ o4, o4 = t5 ∧ St E [] w0 27 a w [(3, .int .i64 o4)] [] []) ?_ (fun a w hI => ?_)
  · refine sSeq (fun K7 hK7 => ?_)
    refine sRegion ?_
    refine sField (b := b2) (off := 0) 0 0 S (wN rfl) rfl (by kernel_rfl) (by kernel_rfl) rfl rfl (by decide) (fun a S => ?_)
    refine sLoad1 (p := b2) (off := 0) (T := 58) (vs := [.int .i64 p0, .func (.func 33) #[] #[v1, v2]]) 0 (.int .i64 p0) S (wN rfl) rfl (by kernel_rfl) (by kernel_rfl) (by kernel_rfl) rfl rfl (by decide) (fun a S => ?_)
    refine sMove (.int .i64 0) S (wN rfl) (.inl rfl) (by kernel_rfl) rfl (by decide) (fun a S => ?_)
    refine leafL (leafT (hK7 _ _ ?_))
    refine wp_block ?_
    obtain ⟨t12, hl, g11⟩ := bindSome h
    refine sLoop hl (fun s0 a w => match s0 with | (s8, s9) => St E [] w0 27 a w [(1, .pointer (some ⟨b2, 0, none⟩)), (3, .int .i64 s8), (6, .int .i64 p0), (7, .int .i64 s9)] [eBox b2 58 [.int .i64 p0, .func (.func 33) #[] #[v1, v2]]] [fPtr r_api_Grid (v1) p1, fPtr (rI .i64) (v2) p2]) (S.fix [0] [0, 1] (by decide) (by kernel_rfl) (by kernel_rfl) (by kernel_rfl)) ?_
    clear hl h
    intro s0 a w c0 hI h hu10
    obtain ⟨s8, s9⟩ := s0
    unfold sett_line_turns_s0_l1 at h
    dsimp only at h hI
    have S := hI
    refine sSeq (fun K14 hK14 => ?_)
    refine sRegion ?_
    refine sBin (.bool (decide (s9 < p0))) S (wN rfl) rfl (by kernel_rfl) (by kernel_rfl) (bLt _ _ _ _ .i64 s9 p0) rfl (by decide) (fun a S => ?_)
    refine leafL (leafT (hK14 _ _ ?_))
    refine sSeq (fun K15 hK15 => ?_)
    rcases iteSome h with ⟨hc16, h⟩ | ⟨hc16, h⟩
    · refine sCondT (b := decide (s9 < p0)) S (by kernel_rfl) hc16 ?_
      refine wp_skip (leafT (hK15 _ _ ?_))
      obtain ⟨t18, h, g19⟩ := bindSome h
      refine sCut (fun a w => ∃ o17, o17 = t18 ∧ St E [] w0 27 a w [(1, .pointer (some ⟨b2, 0, none⟩)), (3, .int .i64 o17), (6, .int .i64 p0), (7, .int .i64 s9)] [eBox b2 58 [.int .i64 p0, .func (.func 33) #[] #[v1, v2]]] [fPtr r_api_Grid (v1) p1, fPtr (rI .i64) (v2) p2]) ?_ (fun a w hI => ?_)
      · refine wp_block ?_
        refine sSeq (fun K20 hK20 => ?_)
        refine sRegion ?_
        refine sMove (.int .i64 s9) S (wN rfl) (.inl rfl) (by kernel_rfl) rfl (by decide) (fun a S => ?_)
        refine sMove (.int .i64 s9) S (wN rfl) (.inr rfl) (by kernel_rfl) rfl (by decide) (fun a S => ?_)
        refine leafL (leafT (hK20 _ _ ?_))
        refine sSeq (fun K21 hK21 => ?_)
        obtain ⟨r22, hx23, h⟩ := bindSome h
        obtain ⟨z24, hx25, h⟩ := bindSome h
        obtain ⟨r26, hx27, h⟩ := bindSome h
        refine sDraw (nf := []) (W := [(0, 10, .pointer (some ⟨b2, 1, none⟩)), (1, 11, .func (.func 33) #[] #[v1, v2]), (2, 12, .int .i64 s9), (3, 13, .bool r22), (4, 14, .pointer (some ⟨b2, 1, none⟩)), (5, 15, .func (.func 33) #[] #[v1, v2]), (6, 16, .int .i64 s9), (7, 17, .int .i64 (w64 (s9 + 1))), (8, 18, .pointer (some ⟨b2, 0, none⟩)), (9, 19, .int .i64 p0), (10, 20, .int .i64 z24), (11, 21, .bool r26), (12, 22, .bool (r22 != r26))]) (by kernel_rfl) S ?_
        refine node_by (A := anc_sett_line_turns_s0_0) (nf := []) (Y := []) (W := [(0, 10, .pointer (some ⟨b2, 1, none⟩)), (1, 11, .func (.func 33) #[] #[v1, v2]), (2, 12, .int .i64 s9), (3, 13, .bool r22), (4, 14, .pointer (some ⟨b2, 1, none⟩)), (5, 15, .func (.func 33) #[] #[v1, v2]), (6, 16, .int .i64 s9), (7, 17, .int .i64 (w64 (s9 + 1))), (8, 18, .pointer (some ⟨b2, 0, none⟩)), (9, 19, .int .i64 p0), (10, 20, .int .i64 z24), (11, 21, .bool r26), (12, 22, .bool (r22 != r26))]) 13 (by kernel_rfl) (by kernel_rfl) (by kernel_rfl) (by kernel_rfl) (by kernel_rfl) [0, 1, 2, 3, 4, 5, 6, 7, 8, 9, 10, 11, 12] (by kernel_rfl) (by decide) (by decide) (aF 0 12 (by decide) ?_ (aF 1 11 (by decide) ?_ (aF 2 10 (by decide) ?_ (aF 3 9 (by decide) ?_ (aF 4 8 (by decide) ?_ (aF 5 7 (by decide) ?_ (aF 6 6 (by decide) ?_ (aF 7 5 (by decide) ?_ (aF 8 4 (by decide) ?_ (aF 9 3 (by decide) ?_ (aF 10 2 (by decide) ?_ (aF 11 1 (by decide) ?_ (aF 12 0 (by decide) ?_ (trivial)))))))))))))) [(1, .pointer (some ⟨b2, 0, none⟩)), (3, .int .i64 s8), (6, .int .i64 p0), (7, .int .i64 s9), (22, .bool (r22 != r26))] (fin_of [none, none, none, none, some 12] rfl (by kernel_rfl) (by kernel_rfl)) (fun _ a w S => ?_)
        · refine fI 10 (.pointer (some ⟨b2, 1, none⟩)) [(1, .pointer (some ⟨b2, 0, none⟩))] 0 [none] rfl rfl (by kernel_rfl) rfl (by kernel_rfl) (by kernel_rfl) fun G a w S => ?_
          refine sField (b := b2) (off := 0) 1 1 S (wN rfl) rfl (by kernel_rfl) (by kernel_rfl) rfl rfl (by decide) (fun a S => ?_)
          exact leafL ⟨rfl, S⟩
        · refine fI 11 (.func (.func 33) #[] #[v1, v2]) [(10, .pointer (some ⟨b2, 1, none⟩))] 1 [some 0] rfl rfl (by kernel_rfl) rfl (by kernel_rfl) (by kernel_rfl) fun G a w S => ?_
          refine sLoad1 (p := b2) (off := 1) (T := 58) (vs := [.int .i64 p0, .func (.func 33) #[] #[v1, v2]]) 0 (.func (.func 33) #[] #[v1, v2]) S (wN rfl) rfl (by kernel_rfl) (by kernel_rfl) (by kernel_rfl) rfl rfl (by decide) (fun a S => ?_)
          exact leafL ⟨rfl, S⟩
        · refine fI 12 (.int .i64 s9) [(4, .int .i64 s9)] 2 [none] rfl rfl (by kernel_rfl) rfl (by kernel_rfl) (by kernel_rfl) fun G a w S => ?_
          refine sMove (.int .i64 s9) S (wN rfl) (.inl rfl) (by kernel_rfl) rfl (by decide) (fun a S => ?_)
          exact leafL ⟨rfl, S⟩
        · refine fI 13 (.bool r22) [(11, .func (.func 33) #[] #[v1, v2]), (12, .int .i64 s9)] 3 [some 1, some 2] rfl rfl (by kernel_rfl) rfl (by kernel_rfl) (by kernel_rfl) fun G a w S => ?_
          have S1 := S.mem
          refine sCallVQ (X := Unit) (g := 33) (vs := [.int .i64 s9]) (caps := [v1, v2]) (val := fun _ => .bool r22) S (wN rfl) rfl (by kernel_rfl) callee33 (by kernel_rfl) (S1.quiet [0, 1] (by kernel_rfl)) (fun E1 w1 S1 => c_sett_Turns_1_s0 E1 w1 s9 p1 v1 p2 v2 r22 hx23 S1) rfl (by decide) (fun _ a w S => ?_)
          exact leafL ⟨rfl, S⟩
        · refine fI 14 (.pointer (some ⟨b2, 1, none⟩)) [(1, .pointer (some ⟨b2, 0, none⟩))] 4 [none] rfl rfl (by kernel_rfl) rfl (by kernel_rfl) (by kernel_rfl) fun G a w S => ?_
          refine sField (b := b2) (off := 0) 1 1 S (wN rfl) rfl (by kernel_rfl) (by kernel_rfl) rfl rfl (by decide) (fun a S => ?_)
          exact leafL ⟨rfl, S⟩
        · refine fI 15 (.func (.func 33) #[] #[v1, v2]) [(14, .pointer (some ⟨b2, 1, none⟩))] 5 [some 4] rfl rfl (by kernel_rfl) rfl (by kernel_rfl) (by kernel_rfl) fun G a w S => ?_
          refine sLoad1 (p := b2) (off := 1) (T := 58) (vs := [.int .i64 p0, .func (.func 33) #[] #[v1, v2]]) 0 (.func (.func 33) #[] #[v1, v2]) S (wN rfl) rfl (by kernel_rfl) (by kernel_rfl) (by kernel_rfl) rfl rfl (by decide) (fun a S => ?_)
          exact leafL ⟨rfl, S⟩
        · refine fI 16 (.int .i64 s9) [(4, .int .i64 s9)] 6 [none] rfl rfl (by kernel_rfl) rfl (by kernel_rfl) (by kernel_rfl) fun G a w S => ?_
          refine sMove (.int .i64 s9) S (wN rfl) (.inl rfl) (by kernel_rfl) rfl (by decide) (fun a S => ?_)
          exact leafL ⟨rfl, S⟩
        · refine fI 17 (.int .i64 (w64 (s9 + 1))) [(16, .int .i64 s9)] 7 [some 6] rfl rfl (by kernel_rfl) rfl (by kernel_rfl) (by kernel_rfl) fun G a w S => ?_
          refine sBin (.int .i64 (w64 (s9 + 1))) S (wN rfl) rfl (by kernel_rfl) (by kernel_rfl) (bAdd _ _ _ _ s9 1) rfl (by decide) (fun a S => ?_)
          exact leafL ⟨rfl, S⟩
        · refine fI 18 (.pointer (some ⟨b2, 0, none⟩)) [(1, .pointer (some ⟨b2, 0, none⟩))] 8 [none] rfl rfl (by kernel_rfl) rfl (by kernel_rfl) (by kernel_rfl) fun G a w S => ?_
          refine sField (b := b2) (off := 0) 0 0 S (wN rfl) rfl (by kernel_rfl) (by kernel_rfl) rfl rfl (by decide) (fun a S => ?_)
          exact leafL ⟨rfl, S⟩
        · refine fI 19 (.int .i64 p0) [(18, .pointer (some ⟨b2, 0, none⟩))] 9 [some 8] rfl rfl (by kernel_rfl) rfl (by kernel_rfl) (by kernel_rfl) fun G a w S => ?_
          refine sLoad1 (p := b2) (off := 0) (T := 58) (vs := [.int .i64 p0, .func (.func 33) #[] #[v1, v2]]) 0 (.int .i64 p0) S (wN rfl) rfl (by kernel_rfl) (by kernel_rfl) (by kernel_rfl) rfl rfl (by decide) (fun a S => ?_)
          exact leafL ⟨rfl, S⟩
        · refine fI 20 (.int .i64 z24) [(17, .int .i64 (w64 (s9 + 1))), (19, .int .i64 p0)] 10 [some 7, some 9] rfl rfl (by kernel_rfl) rfl (by kernel_rfl) (by kernel_rfl) fun G a w S => ?_
          refine sBin (.int .i64 z24) S (wN rfl) rfl (by kernel_rfl) (by kernel_rfl) (bRem _ _ _ _ (x := w64 (s9 + 1)) (y := p0) hx25) rfl (by decide) (fun a S => ?_)
          exact leafL ⟨rfl, S⟩
        · refine fI 21 (.bool r26) [(15, .func (.func 33) #[] #[v1, v2]), (20, .int .i64 z24)] 11 [some 5, some 10] rfl rfl (by kernel_rfl) rfl (by kernel_rfl) (by kernel_rfl) fun G a w S => ?_
          have S1 := S.mem
          refine sCallVQ (X := Unit) (g := 33) (vs := [.int .i64 z24]) (caps := [v1, v2]) (val := fun _ => .bool r26) S (wN rfl) rfl (by kernel_rfl) callee33 (by kernel_rfl) (S1.quiet [0, 1] (by kernel_rfl)) (fun E1 w1 S1 => c_sett_Turns_1_s0 E1 w1 z24 p1 v1 p2 v2 r26 hx27 S1) rfl (by decide) (fun _ a w S => ?_)
          exact leafL ⟨rfl, S⟩
        · refine fI 22 (.bool (r22 != r26)) [(13, .bool r22), (21, .bool r26)] 12 [some 3, some 11] rfl rfl (by kernel_rfl) rfl (by kernel_rfl) (by kernel_rfl) fun G a w S => ?_
          refine sBin (.bool (r22 != r26)) S (wN rfl) rfl (by kernel_rfl) (by kernel_rfl) (bNeB _ _ _ _ Try.underlying4 r22 r26) rfl (by decide) (fun a S => ?_)
          exact leafL ⟨rfl, S⟩
        · refine leafT (hK21 _ _ ?_)
          rcases iteSome h with ⟨hc28, h⟩ | ⟨hc28, h⟩
          · refine sCondT (b := r22 != r26) S (by kernel_rfl) hc28 ?_
            refine sRegion ?_
            refine sMove (.int .i64 s8) S (wN rfl) (.inl rfl) (by kernel_rfl) rfl (by decide) (fun a S => ?_)
            refine sBin (.int .i64 (w64 (s8 + 1))) S (wN rfl) rfl (by kernel_rfl) (by kernel_rfl) (bAdd _ _ _ _ s8 1) rfl (by decide) (fun a S => ?_)
            refine sMove (.int .i64 (w64 (s8 + 1))) S (wN rfl) (.inr rfl) (by kernel_rfl) rfl (by decide) (fun a S => ?_)
            exact leafL (leafB (leafT (⟨w64 (s8 + 1), Option.some.inj h, S.fix [0] [0, 1] (by decide) (by kernel_rfl) (by kernel_rfl) (by kernel_rfl)⟩)))
          · refine sCondF (b := r22 != r26) S (by kernel_rfl) hc28 ?_
            exact wp_skip (leafB (leafT (⟨s8, Option.some.inj h, S.fix [0] [0, 1] (by decide) (by kernel_rfl) (by kernel_rfl) (by kernel_rfl)⟩)))
      · obtain ⟨o17, rfl, S⟩ := hI
        have h := g19
        clear g19
        try dsimp only at h
        refine sRegion ?_
        refine sBin (.int .i64 (w64 (s9 + 1))) S (wN rfl) rfl (by kernel_rfl) (by kernel_rfl) (bAdd _ _ _ _ s9 1) rfl (by decide) (fun a S => ?_)
        refine sMove (.int .i64 (w64 (s9 + 1))) S (wN rfl) (.inl rfl) (by kernel_rfl) rfl (by decide) (fun a S => ?_)
        exact leafL (leafT (⟨(o17, w64 (s9 + 1)), (Option.some.inj h).symm, (S.fix [0] [0, 1] (by decide) (by kernel_rfl) (by kernel_rfl) (by kernel_rfl))⟩))
    · refine sCondF (b := decide (s9 < p0)) S (by kernel_rfl) hc16 ?_
      obtain rfl := Option.some.inj h
      obtain rfl := hu10 _ rfl
      have h := g11
      clear g11
      try dsimp only at h
      exact wp_exit (xThen (xThen (xHit (leafT (⟨s8, Option.some.inj h, S.fix [] [] (by decide) (by kernel_rfl) (by kernel_rfl) (by kernel_rfl)⟩)))))
  · obtain ⟨o4, rfl, S⟩ := hI
    have h := g6
    clear g6
    try dsimp only at h
    refine sSeq (fun K29 hK29 => ?_)
    refine sRegion ?_
    refine sMove (.int .i64 o4) S (wN rfl) (.inl rfl) (by kernel_rfl) rfl (by decide) (fun a S => ?_)
    refine sMove (.int .i64 o4) S (wN rfl) (.inr rfl) (by kernel_rfl) rfl (by decide) (fun a S => ?_)
    refine leafL (leafT (hK29 _ _ ?_))
    obtain rfl := Option.some.inj h
    exact wp_ret (sRet (.int .i64 o4) S (rsl1 rfl (rvT (t := 2) (v := .int .i64 o4) S (by kernel_rfl))) ⟨(), rfl, S.mem.sel [] [] (by decide) (by kernel_rfl) (by kernel_rfl)⟩)

end Go.Proofs.Ytjndecalogklhaa
