import Derived.Test.YtmedbnjhgkcndaaGTy
import Derived.Test.YtmedbnjhgkcndaaG80
namespace Go.Proofs.Ytmedbnjhgkcndaa
open Go.RowKit
set_option linter.unusedVariables false

noncomputable def gauge_Check_l1 (p0 : api_Gauge) : Int → Option (Int ⊕ (Int ⊕ Unit)) := fun s0 => match s0 with
  | s6 =>
    if decide (s6 < 4) then
      Option.bind (idxO ([p0.Stitches, p0.Width, p0.Rows, p0.Height] : List Int) s6) fun x15 =>
      Option.bind (F_gauge_within x15 1 10000) fun r18 =>
      if !r18 then
        some (.inr (.inl 8))
      else
        some (.inl (w64 (s6 + 1)))
    else
      some (.inr (.inr ()))
noncomputable def F_gauge_Check (p0 : api_Gauge) : Option Int :=
  Option.bind (α := Unit ⊕ Int) (
    Option.bind (whileO (gauge_Check_l1 p0) 0) fun z0 => match z0 with
      | .inl z =>
        some (.inr z)
      | .inr _ =>
        some (.inl ())) fun z0 => match z0 with
    | .inl _ =>
      some 0
    | .inr z =>
      some z
set_option maxHeartbeats 4000000 in
set_option maxRecDepth 100000 in
theorem c_gauge_Check (E : Nat → Prop) (w0 : World) (p0 : api_Gauge) (v0 : Value) (r : Int) (h : F_gauge_Check p0 = some r) (S : St0 E [] w0 w0 [] [fRep r_api_Gauge v0 p0]) :
    Calls Try.prog 79 #[v0] w0 (Ret (X := Unit) E [] w0 (fun _ => .int .i64 r) (fun _ => []) (fun _ => [])) := by
  unfold F_gauge_Check at h
  obtain rfl : v0 = .agg #[.int .i64 p0.Stitches, .int .i64 p0.Width, .int .i64 p0.Rows, .int .i64 p0.Height] := S.know (i := 0) (e := fRep r_api_Gauge (v0) p0) (by kernel_rfl)
  refine sEnter (args := [.agg #[.int .i64 p0.Stitches, .int .i64 p0.Width, .int .i64 p0.Rows, .int .i64 p0.Height]]) 21 Try.func79 rfl rfl (by simp) S (fun a S => ?_)
  refine sSeq (fun K1 hK1 => ?_)
  refine sRegion ?_
  refine sBox (v := .agg #[.int .i64 p0.Stitches, .int .i64 p0.Width, .int .i64 p0.Rows, .int .i64 p0.Height]) S (wN rfl) rfl (by kernel_rfl) [.int .i64 p0.Stitches, .int .i64 p0.Width, .int .i64 p0.Rows, .int .i64 p0.Height] rfl rfl (by decide) (fun a b2 w S => ?_)
  refine sMove (.int .i64 0) S (wN rfl) (.inr rfl) (by kernel_rfl) rfl (by decide) (fun a S => ?_)
  refine leafL (leafT (hK1 _ _ ?_))
  obtain ⟨t3, h, g4⟩ := bindSome h
  refine sCut (fun a w => .inl () = t3 ∧ St E [] w0 21 a w [] [] []) ?_ (fun a w hI => ?_)
  · refine sSeq (fun K5 hK5 => ?_)
    refine sRegion ?_
    refine sField (b := b2) (off := 0) 0 0 S (wN rfl) rfl (by kernel_rfl) (by kernel_rfl) rfl rfl (by decide) (fun a S => ?_)
    refine sLoad1 (p := b2) (off := 0) (T := 23) (vs := [.int .i64 p0.Stitches, .int .i64 p0.Width, .int .i64 p0.Rows, .int .i64 p0.Height]) 0 (.int .i64 p0.Stitches) S (wN rfl) rfl (by kernel_rfl) (by kernel_rfl) (by kernel_rfl) rfl rfl (by decide) (fun a S => ?_)
    refine sField (b := b2) (off := 0) 1 1 S (wN rfl) rfl (by kernel_rfl) (by kernel_rfl) rfl rfl (by decide) (fun a S => ?_)
    refine sLoad1 (p := b2) (off := 1) (T := 23) (vs := [.int .i64 p0.Stitches, .int .i64 p0.Width, .int .i64 p0.Rows, .int .i64 p0.Height]) 0 (.int .i64 p0.Width) S (wN rfl) rfl (by kernel_rfl) (by kernel_rfl) (by kernel_rfl) rfl rfl (by decide) (fun a S => ?_)
    refine sField (b := b2) (off := 0) 2 2 S (wN rfl) rfl (by kernel_rfl) (by kernel_rfl) rfl rfl (by decide) (fun a S => ?_)
    refine sLoad1 (p := b2) (off := 2) (T := 23) (vs := [.int .i64 p0.Stitches, .int .i64 p0.Width, .int .i64 p0.Rows, .int .i64 p0.Height]) 0 (.int .i64 p0.Rows) S (wN rfl) rfl (by kernel_rfl) (by kernel_rfl) (by kernel_rfl) rfl rfl (by decide) (fun a S => ?_)
    refine sField (b := b2) (off := 0) 3 3 S (wN rfl) rfl (by kernel_rfl) (by kernel_rfl) rfl rfl (by decide) (fun a S => ?_)
    refine sLoad1 (p := b2) (off := 3) (T := 23) (vs := [.int .i64 p0.Stitches, .int .i64 p0.Width, .int .i64 p0.Rows, .int .i64 p0.Height]) 0 (.int .i64 p0.Height) S (wN rfl) rfl (by kernel_rfl) (by kernel_rfl) (by kernel_rfl) rfl rfl (by decide) (fun a S => ?_)
    refine sBuild [(0, .int .i64 p0.Stitches), (1, .int .i64 p0.Width), (2, .int .i64 p0.Rows), (3, .int .i64 p0.Height)] [.int .i64 p0.Stitches, .int .i64 p0.Width, .int .i64 p0.Rows, .int .i64 p0.Height] S (wN rfl) rfl (by kernel_rfl) (by kernel_rfl) rfl (by decide) (fun a S => ?_)
    refine sMove (.int .i64 0) S (wN rfl) (.inl rfl) (by kernel_rfl) rfl (by decide) (fun a S => ?_)
    refine leafL (leafT (hK5 _ _ ?_))
    refine wp_block ?_
    obtain ⟨t9, hl, g8⟩ := bindSome h
    refine sLoop hl (fun s0 a w => match s0 with | s6 => St E [] w0 21 a w [(13, .agg #[.int .i64 p0.Stitches, .int .i64 p0.Width, .int .i64 p0.Rows, .int .i64 p0.Height]), (14, .int .i64 s6)] [] []) (S.fix [] [] (by decide) (by kernel_rfl) (by kernel_rfl) (by kernel_rfl)) ?_
    clear hl h
    intro s6 a w c0 hI h hu7
    unfold gauge_Check_l1 at h
    dsimp only at h hI
    have S := hI
    refine sSeq (fun K10 hK10 => ?_)
    refine sRegion ?_
    refine sBin (.bool (decide (s6 < 4))) S (wN rfl) rfl (by kernel_rfl) (by kernel_rfl) (bLt _ _ _ _ .i64 s6 4) rfl (by decide) (fun a S => ?_)
    refine leafL (leafT (hK10 _ _ ?_))
    refine sSeq (fun K11 hK11 => ?_)
    rcases iteSome h with ⟨hc12, h⟩ | ⟨hc12, h⟩
    · refine sCondT (b := decide (s6 < 4)) S (by kernel_rfl) hc12 ?_
      refine wp_skip (leafT (hK11 _ _ ?_))
      refine sSeq (fun K13 hK13 => ?_)
      refine wp_block ?_
      refine sSeq (fun K14 hK14 => ?_)
      refine sRegion ?_
      obtain ⟨x15, hx16, h⟩ := bindSome h
      refine sIndexA (g := fun z => .int .i64 z) (xs := ([p0.Stitches, p0.Width, p0.Rows, p0.Height] : List Int)) (j := s6) (k := .i64) 4 [.int .i64 p0.Stitches, .int .i64 p0.Width, .int .i64 p0.Rows, .int .i64 p0.Height] S (wN rfl) rfl Try.underlying138 (by kernel_rfl) (by kernel_rfl) (by kernel_rfl) (by kernel_rfl) rfl rfl hx16 rfl (by decide) (fun a S => ?_)
      refine sMove (.int .i64 x15) S (wN rfl) (.inr rfl) (by kernel_rfl) rfl (by decide) (fun a S => ?_)
      refine leafL (leafT (hK14 _ _ ?_))
      refine sSeq (fun K17 hK17 => ?_)
      refine sRegion ?_
      refine sMove (.int .i64 x15) S (wN rfl) (.inl rfl) (by kernel_rfl) rfl (by decide) (fun a S => ?_)
      obtain ⟨r18, hx19, h⟩ := bindSome h
      have S1 := S.mem
      refine sCallQ (X := Unit) (f := 80) (vs := [.int .i64 x15, .int .i64 1, .int .i64 10000]) (val := fun _ => .bool r18) S (wN rfl) rfl callee80 (by kernel_rfl) (S1.quiet [] (by kernel_rfl)) (fun E1 w1 S1 => c_gauge_within E1 w1 x15 1 10000 r18 hx19 S1) rfl (by decide) (fun _ a w S => ?_)
      refine sNot (b := r18) S (wN rfl) rfl (by kernel_rfl) rfl (by decide) (fun a S => ?_)
      refine leafL (leafT (hK17 _ _ ?_))
      rcases iteSome h with ⟨hc20, h⟩ | ⟨hc20, h⟩
      · refine sCondT (b := !r18) S (by kernel_rfl) hc20 ?_
        refine sSeq (fun K21 hK21 => ?_)
        refine sRegion ?_
        refine sMove (.int .i64 8) S (wN rfl) (.inr rfl) (by kernel_rfl) rfl (by decide) (fun a S => ?_)
        refine leafL (leafT (hK21 _ _ ?_))
        obtain rfl := Option.some.inj h
        obtain rfl := hu7 _ rfl
        have h := g8
        clear g8
        try dsimp only at h
        obtain rfl := Option.some.inj h
        have h := g4
        clear g4
        try dsimp only at h
        obtain rfl := Option.some.inj h
        exact wp_ret (rBlock (rThen (rThen (rBlock (rThen (sRet (.int .i64 8) S (rsl1 rfl (rvT (t := 2) (v := .int .i64 8) S (by kernel_rfl))) ⟨(), rfl, S.mem.sel [] [] (by decide) (by kernel_rfl) (by kernel_rfl)⟩))))))
      · refine sCondF (b := !r18) S (by kernel_rfl) hc20 ?_
        refine wp_skip (leafB (leafT (hK13 _ _ ?_)))
        refine sRegion ?_
        refine sBin (.int .i64 (w64 (s6 + 1))) S (wN rfl) rfl (by kernel_rfl) (by kernel_rfl) (bAdd _ _ _ _ s6 1) rfl (by decide) (fun a S => ?_)
        refine sMove (.int .i64 (w64 (s6 + 1))) S (wN rfl) (.inl rfl) (by kernel_rfl) rfl (by decide) (fun a S => ?_)
        exact leafL (leafT (⟨w64 (s6 + 1), (Option.some.inj h).symm, (S.fix [] [] (by decide) (by kernel_rfl) (by kernel_rfl) (by kernel_rfl))⟩))
    · refine sCondF (b := decide (s6 < 4)) S (by kernel_rfl) hc12 ?_
      obtain rfl := Option.some.inj h
      obtain rfl := hu7 _ rfl
      have h := g8
      clear g8
      try dsimp only at h
      exact wp_exit (xThen (xThen (xHit (leafT (⟨Option.some.inj h, S.fix [] [] (by decide) (by kernel_rfl) (by kernel_rfl) (by kernel_rfl)⟩)))))
  · obtain ⟨rfl, S⟩ := hI
    have h := g4
    clear g4
    try dsimp only at h
    refine sSeq (fun K22 hK22 => ?_)
    refine sRegion ?_
    refine sMove (.int .i64 0) S (wN rfl) (.inr rfl) (by kernel_rfl) rfl (by decide) (fun a S => ?_)
    refine leafL (leafT (hK22 _ _ ?_))
    obtain rfl := Option.some.inj h
    exact wp_ret (sRet (.int .i64 0) S (rsl1 rfl (rvT (t := 2) (v := .int .i64 0) S (by kernel_rfl))) ⟨(), rfl, S.mem.sel [] [] (by decide) (by kernel_rfl) (by kernel_rfl)⟩)

end Go.Proofs.Ytmedbnjhgkcndaa
