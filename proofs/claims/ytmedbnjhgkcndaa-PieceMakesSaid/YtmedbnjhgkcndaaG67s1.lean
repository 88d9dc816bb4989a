import Derived.Test.YtmedbnjhgkcndaaGTy
import Derived.Test.YtmedbnjhgkcndaaG68s0
namespace Go.Proofs.Ytmedbnjhgkcndaa
open Go.RowKit
set_option linter.unusedVariables false

noncomputable def slope_list_int__s1_l1 (p0 : Int) (p1 : Int) (p2 : Int) (p3 : Int) : (List Int × Int) → Option ((List Int × Int) ⊕ List Int) := fun s0 => match s0 with
  | (s13, s16) =>
    if decide (s16 < p0) then
      Option.bind (F_slope_Line_1_s0 s16 p1 p2 p3) fun r28 =>
      Option.bind (idxO s13 s16) fun x30 =>
      Option.bind (setO s13 s16 r28) fun l35 =>
      some (.inl (l35, w64 (s16 + 1)))
    else
      some (.inr s13)
noncomputable def F_slope_list_int__s1 (p0 : Int) (p1 : Int) (p2 : Int) (p3 : Int) : Option (List Int) :=
  Option.bind (makeO p0 (0 : Int)) fun m5 =>
  Option.bind (α := List Int) (
    Option.bind (whileO (slope_list_int__s1_l1 p0 p1 p2 p3) (m5, 0)) fun e20 =>
      some e20) fun o7 =>
  some o7
set_option maxHeartbeats 4000000 in
set_option maxRecDepth 100000 in
theorem c_slope_list_int__s1 (E : Nat → Prop) (w0 : World) (p0 : Int) (p1 : Int) (v1 : Value) (p2 : Int) (v2 : Value) (p3 : Int) (v3 : Value) (r : (List Int)) (h : F_slope_list_int__s1 p0 p1 p2 p3 = some r) (S : St0 E [] w0 w0 [] [fPtr (rI .i64) (v1) p1, fPtr (rI .i64) (v2) p2, fPtr (rI .i64) (v3) p3]) :
    Calls Try.prog 67 #[.int .i64 p0, .func (.func 68) #[] #[v1, v2, v3]] w0 (Ret (X := Option Addr × Nat) E [] w0 (fun x => .slice x.1 r.length x.2) (fun x => [eRow (rI .i64) 3 (.slice x.1 r.length x.2) r]) (fun _ => [])) := by
  unfold F_slope_list_int__s1 at h
  refine sEnter (args := [.int .i64 p0, .func (.func 68) #[] #[v1, v2, v3]]) 21 Try.func67 rfl rfl (by simp) S (fun a S => ?_)
  refine sSeq (fun K1 hK1 => ?_)
  refine sRegion ?_
  refine sMove (.slice none 0 0) S (wN rfl) (.inr rfl) (by kernel_rfl) rfl (by decide) (fun a S => ?_)
  refine leafL (leafT (hK1 _ _ ?_))
  refine sSeq (fun K2 hK2 => ?_)
  refine sRegion ?_
  refine sMove (.int .i64 p0) S (wN rfl) (.inl rfl) (by kernel_rfl) rfl (by decide) (fun a S => ?_)
  obtain ⟨m5, hx6, h⟩ := bindSome h
  refine sMake (r := (rI .i64)) (m := p0) (xs := m5) (.int .i64 0) (0 : Int) 8 S (wN rfl) rfl Try.underlying34 (by kernel_rfl) rfl (by decide) (fun _ _ => rfl) (by kernel_rfl) (by kernel_rfl) hx6 rfl (by decide) (fun a w ad3 cp4 S => ?_)
  refine sMove (.slice ad3 m5.length cp4) S (wN rfl) (.inr rfl) (by kernel_rfl) rfl (by decide) (fun a S => ?_)
  refine leafL (leafT (hK2 _ _ ?_))
  obtain ⟨t10, h, g11⟩ := bindSome h
  refine sCut (fun a w => ∃ o7, o7 = t10 ∧ ∃ ad8, ∃ cp9, St E [] w0 21 a w [(5, .slice ad8 o7.length cp9)] [eRow (rI .i64) 3 (.slice ad8 o7.length cp9) o7] []) ?_ (fun a w hI => ?_)
  · refine sSeq (fun K12 hK12 => ?_)
    refine sRegion ?_
    refine sMove (.int .i64 p0) S (wN rfl) (.inl rfl) (by kernel_rfl) rfl (by decide) (fun a S => ?_)
    refine sMove (.int .i64 0) S (wN rfl) (.inl rfl) (by kernel_rfl) rfl (by decide) (fun a S => ?_)
    refine leafL (leafT (hK12 _ _ ?_))
    refine wp_block ?_
    obtain ⟨t19, hl, g18⟩ := bindSome h
    refine sLoop hl (fun s0 a w => match s0 with | (s13, s16) => ∃ ad14, ∃ cp15, St E [] w0 21 a w [(1, .func (.func 68) #[] #[v1, v2, v3]), (5, .slice ad14 s13.length cp15), (9, .int .i64 p0), (10, .int .i64 s16)] [eRow (rI .i64) 3 (.slice ad14 s13.length cp15) s13] [fPtr (rI .i64) (v1) p1, fPtr (rI .i64) (v2) p2, fPtr (rI .i64) (v3) p3]) ⟨ad3, cp4, S.fix [0] [0, 1, 2] (by decide) (by kernel_rfl) (by kernel_rfl) (by kernel_rfl)⟩ ?_
    clear hl h
    intro s0 a w c0 hI h hu17
    obtain ⟨s13, s16⟩ := s0
    unfold slope_list_int__s1_l1 at h
    dsimp only at h hI
    obtain ⟨ad14, cp15, S⟩ := hI
    refine sSeq (fun K23 hK23 => ?_)
    refine sRegion ?_
    refine sBin (.bool (decide (s16 < p0))) S (wN rfl) rfl (by kernel_rfl) (by kernel_rfl) (bLt _ _ _ _ .i64 s16 p0) rfl (by decide) (fun a S => ?_)
    refine leafL (leafT (hK23 _ _ ?_))
    refine sSeq (fun K24 hK24 => ?_)
    rcases iteSome h with ⟨hc25, h⟩ | ⟨hc25, h⟩
    · refine sCondT (b := decide (s16 < p0)) S (by kernel_rfl) hc25 ?_
      refine wp_skip (leafT (hK24 _ _ ?_))
      refine sSeq (fun K26 hK26 => ?_)
      refine wp_block ?_
      refine sSeq (fun K27 hK27 => ?_)
      refine sRegion ?_
      refine sMove (.int .i64 s16) S (wN rfl) (.inl rfl) (by kernel_rfl) rfl (by decide) (fun a S => ?_)
      refine sMove (.int .i64 s16) S (wN rfl) (.inr rfl) (by kernel_rfl) rfl (by decide) (fun a S => ?_)
      refine leafL (leafT (hK27 _ _ ?_))
      refine sRegion ?_
      refine sMove (.slice ad14 s13.length cp15) S (wN rfl) (.inl rfl) (by kernel_rfl) rfl (by decide) (fun a S => ?_)
      refine sMove (.int .i64 s16) S (wN rfl) (.inl rfl) (by kernel_rfl) rfl (by decide) (fun a S => ?_)
      refine sMove (.func (.func 68) #[] #[v1, v2, v3]) S (wN rfl) (.inl rfl) (by kernel_rfl) rfl (by decide) (fun a S => ?_)
      refine sMove (.int .i64 s16) S (wN rfl) (.inl rfl) (by kernel_rfl) rfl (by decide) (fun a S => ?_)
      obtain ⟨r28, hx29, h⟩ := bindSome h
      have S1 := S.mem
      refine sCallVQ (X := Unit) (g := 68) (vs := [.int .i64 s16]) (caps := [v1, v2, v3]) (val := fun _ => .int .i64 r28) S (wN rfl) rfl (by kernel_rfl) callee68 (by kernel_rfl) (S1.quiet [0, 1, 2] (by kernel_rfl)) (fun E1 w1 S1 => c_slope_Line_1_s0 E1 w1 s16 p1 v1 p2 v2 p3 v3 r28 hx29 S1) rfl (by decide) (fun _ a w S => ?_)
      obtain ⟨x30, hx31, h⟩ := bindSome h
      obtain ⟨q32, hq33, hp34⟩ := pIdxR (P := Try.prog) (r := (rI .i64)) (T := 3) (v := .slice ad14 s13.length cp15) (xs := s13) (j := s16) 34 3 0 S Try.underlying34 (by kernel_rfl) (by kernel_rfl) hx31
      refine sIdxV (v := .slice ad14 s13.length cp15) (k := .i64) (j := s16) S (wN rfl) rfl (by kernel_rfl) (by kernel_rfl) hq33 rfl (by decide) (fun a S => ?_)
      obtain ⟨l35, hx36, h⟩ := bindSome h
      refine sStoreR (r := (rI .i64)) (T := 3) (xs := s13) (ys := l35) (y := r28) (v := .slice ad14 s13.length cp15) (vq := q32) (u := .int .i64 r28) (j := s16) 0 S hp34 (wN rfl) rfl (by kernel_rfl) (by kernel_rfl) (by kernel_rfl) rfl hx36 (by kernel_rfl) rfl (fun a w S => ?_)
      rw [setO_v hx36 ad14 cp15] at S
      refine leafL (leafB (leafT (hK26 _ _ ?_)))
      refine sRegion ?_
      refine sBin (.int .i64 (w64 (s16 + 1))) S (wN rfl) rfl (by kernel_rfl) (by kernel_rfl) (bAdd _ _ _ _ s16 1) rfl (by decide) (fun a S => ?_)
      refine sMove (.int .i64 (w64 (s16 + 1))) S (wN rfl) (.inl rfl) (by kernel_rfl) rfl (by decide) (fun a S => ?_)
      exact leafL (leafT (⟨(l35, w64 (s16 + 1)), (Option.some.inj h).symm, ⟨ad14, cp15, S.fix [0] [0, 1, 2] (by decide) (by kernel_rfl) (by kernel_rfl) (by kernel_rfl)⟩⟩))
    · refine sCondF (b := decide (s16 < p0)) S (by kernel_rfl) hc25 ?_
      obtain rfl := Option.some.inj h
      obtain rfl := hu17 _ rfl
      have h := g18
      clear g18
      try dsimp only at h
      exact wp_exit (xThen (xThen (xHit (leafT (⟨s13, Option.some.inj h, ad14, cp15, S.fix [0] [] (by decide) (by kernel_rfl) (by kernel_rfl) (by kernel_rfl)⟩)))))
  · obtain ⟨o7, rfl, ad8, cp9, S⟩ := hI
    have h := g11
    clear g11
    try dsimp only at h
    refine sSeq (fun K37 hK37 => ?_)
    refine sRegion ?_
    refine sMove (.slice ad8 o7.length cp9) S (wN rfl) (.inl rfl) (by kernel_rfl) rfl (by decide) (fun a S => ?_)
    refine sMove (.slice ad8 o7.length cp9) S (wN rfl) (.inr rfl) (by kernel_rfl) rfl (by decide) (fun a S => ?_)
    refine leafL (leafT (hK37 _ _ ?_))
    obtain rfl := Option.some.inj h
    exact wp_ret (sRet (.slice ad8 o7.length cp9) S (rsl1 rfl (rvT (t := 4) (v := .slice ad8 o7.length cp9) S (by kernel_rfl))) ⟨(ad8, cp9), rfl, S.mem.sel [0] [] (by decide) (by kernel_rfl) (by kernel_rfl)⟩)

end Go.Proofs.Ytmedbnjhgkcndaa
