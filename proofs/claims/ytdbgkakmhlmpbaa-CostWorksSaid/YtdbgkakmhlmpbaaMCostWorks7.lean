/- Several texts in one: G23 PlN G14 G15 G19 G20 G21 G4 LCN G8 LCW LCX FrCostWorks -/
import Derived.WalkKit
import Derived.Maps.AppendAt
import Derived.Deep.AppendLies
import Derived.KernelRfl
import Derived.Laws.OwnMore
import Derived.Great.BuildSlice
import Derived.Orders
import Derived.Laws.StructEq
import Derived.ChangeKeysEq
import Derived.Defers
import Derived.Laws.BytesString
import Derived.RangeFuncNested
import Derived.RangeFuncBound
import Derived.RangeFuncCalls
import Derived.RangeFuncLeaves
import Derived.OrdersIn
import Derived.LoopNIn
import Derived.Test.YtdbgkakmhlmpbaaProg
import Derived.ProofKit
import Derived.OpenShut
import Derived.ChangeOld
import Derived.Deep.Slices
import Derived.Lib.SmallJoins
import Derived.JoinedOf
import Derived.JoinedAt
import Derived.Below
import Derived.Test.YtdbgkakmhlmpbaaRows
import Derived.Test.YtdbgkakmhlmpbaaMCostWorks6
namespace Go.Proofs.Ytdbgkakmhlmpbaa
open Go.RowKit
set_option linter.unusedVariables false

noncomputable def raddleref45_Check_l1 (p0 : api_Rates) : Int → Option (Int ⊕ (Int ⊕ Unit)) := fun s0 => match s0 with
  | s6 =>
    if decide (s6 < 11) then
      Option.bind (α := Bool) (
        Option.bind (idxO ([p0.Length.1, p0.Length.2.1, p0.Length.2.2.1, p0.Length.2.2.2.1, p0.Length.2.2.2.2.1, p0.Length.2.2.2.2.2.1, p0.Length.2.2.2.2.2.2.1, p0.Length.2.2.2.2.2.2.2.1, p0.Length.2.2.2.2.2.2.2.2.1, p0.Length.2.2.2.2.2.2.2.2.2.1, p0.Length.2.2.2.2.2.2.2.2.2.2] : List Int) s6) fun x17 =>
        Option.bind (F_raddleref45_in x17) fun r19 =>
        if !r19 then
          some true
        else
          Option.bind (idxO ([p0.Time.1, p0.Time.2.1, p0.Time.2.2.1, p0.Time.2.2.2.1, p0.Time.2.2.2.2.1, p0.Time.2.2.2.2.2.1, p0.Time.2.2.2.2.2.2.1, p0.Time.2.2.2.2.2.2.2.1, p0.Time.2.2.2.2.2.2.2.2.1, p0.Time.2.2.2.2.2.2.2.2.2.1, p0.Time.2.2.2.2.2.2.2.2.2.2] : List Int) s6) fun x22 =>
          Option.bind (F_raddleref45_in x22) fun r24 =>
          some (!r24)) fun o14 =>
      if o14 then
        some (.inr (.inl 8))
      else
        some (.inl (w64 (s6 + 1)))
    else
      some (.inr (.inr ()))
noncomputable def F_raddleref45_Check (p0 : api_Rates) : Option Int :=
  Option.bind (α := Unit ⊕ Int) (
    Option.bind (whileO (raddleref45_Check_l1 p0) 0) fun z0 => match z0 with
      | .inl z =>
        some (.inr z)
      | .inr _ =>
        some (.inl ())) fun z0 => match z0 with
    | .inl _ =>
      Option.bind (α := Bool) (
        Option.bind (F_raddleref45_in p0.Turn) fun r32 =>
        if !r32 then
          some true
        else
          if p0.Length.1 != 0 then
            some true
          else
            some (p0.Time.1 != 0)) fun o29 =>
      if o29 then
        some 8
      else
        some 0
    | .inr z =>
      some z
set_option maxHeartbeats 4000000 in
set_option maxRecDepth 100000 in
theorem c_raddleref45_Check (E : Nat → Prop) (w0 : World) (p0 : api_Rates) (v0 : Value) (r : Int) (h : F_raddleref45_Check p0 = some r) (S : St0 E [] w0 w0 [] [fRep r_api_Rates (v0) p0]) :
    Calls Try.prog 23 #[v0] w0 (Ret (X := Unit) E [] w0 (fun _ => .int .i64 r) (fun _ => []) (fun _ => [])) := by
  unfold F_raddleref45_Check at h
  obtain rfl : v0 = gv_api_Rates p0 := S.know (i := 0) (e := fRep r_api_Rates (v0) p0) rfl
  refine sEnter (args := [gv_api_Rates p0]) 38 Try.func23 rfl rfl (by simp) S (fun a S => ?_)
  refine sSeq (fun K1 hK1 => ?_)
  refine sRegion ?_
  refine sBox (v := gv_api_Rates p0) S (wN rfl) rfl rfl (gl_api_Rates p0) rfl rfl (lb rfl) fun a b2 w S => ?_
  refine sMove (iv 0) S (wN rfl) (.inr rfl) rfl rfl (lb rfl) fun a S => ?_
  refine leafL (leafT (hK1 _ _ ?_))
  obtain ⟨t3, h, g4⟩ := bindSome h
  refine sCut (fun a w => .inl () = t3 ∧ St [] E [] w0 38 a w [(1, .pointer (some ⟨b2, 0, none⟩))] [eBox b2 44 (gl_api_Rates p0)] []) ?_ (fun a w hI => ?_)
  rotate_left
  · obtain ⟨rfl, S⟩ := hI
    have h := g4
    clear g4
    try dsimp only at h
    refine sSeq (fun K28 hK28 => ?_)
    obtain ⟨t30, h, g31⟩ := bindSome h
    refine sCut (fun a w => ∃ o29, o29 = t30 ∧ St [] E [] w0 38 a w [(37, .bool o29)] [] []) ?_ (fun a w hI => ?_)
    rotate_left
    · obtain ⟨o29, rfl, S⟩ := hI
      have h := g31
      clear g31
      try dsimp only at h
      rcases iteSome h with ⟨hc36, h⟩ | ⟨hc36, h⟩
      · refine sCondT S rfl hc36 ?_
        refine sSeq (fun K37 hK37 => ?_)
        refine sRegion ?_
        refine sMove (iv 8) S (wN rfl) (.inr rfl) rfl rfl (lb rfl) fun a S => ?_
        refine leafL (leafT (hK37 _ _ ?_))
        obtain rfl := Option.some.inj h
        exact wp_ret (rThen (sRet (iv 8) S (rsl1 rfl (rvT (t := 2) (v := iv 8) S rfl)) ⟨(), rfl, S.mem.sel [] [] (by decide) rfl rfl⟩))
      refine sCondF S rfl hc36 ?_
      refine wp_skip (leafT (hK28 _ _ ?_))
      refine sSeq (fun K38 hK38 => ?_)
      refine sRegion ?_
      refine sMove (iv 0) S (wN rfl) (.inr rfl) rfl rfl (lb rfl) fun a S => ?_
      refine leafL (leafT (hK38 _ _ ?_))
      obtain rfl := Option.some.inj h
      exact wp_ret (sRet (iv 0) S (rsl1 rfl (rvT (t := 2) (v := iv 0) S rfl)) ⟨(), rfl, S.mem.sel [] [] (by decide) rfl rfl⟩)
    refine sRegion ?_
    refine sField (b := b2) (off := 0) 22 22 S (wN rfl) rfl rfl rfl rfl rfl (lb rfl) fun a S => ?_
    refine sLoad1 (p := b2) (off := 22) (T := 44) (vs := (gl_api_Rates p0)) 0 (iv p0.Turn) S (wN rfl) rfl rfl rfl rfl rfl rfl (lb rfl) fun a S => ?_
    obtain ⟨r32, hx33, h⟩ := bindSome h
    have S1 := S.mem
    refine sCallQ (X := Unit) (f := 43) (vs := [iv p0.Turn]) (val := fun _ => .bool r32) S (wN rfl) rfl callee43 rfl (S1.quiet [] rfl) (fun E1 w1 S1 => c_raddleref45_in E1 w1 p0.Turn r32 hx33 S1) rfl (lb rfl) fun _ a w S => ?_
    refine sNot (b := r32) S (wN rfl) rfl rfl rfl (lb rfl) fun a S => ?_
    refine sMove (.bool (!r32)) S (wN rfl) (.inl rfl) rfl rfl (lb rfl) fun a S => ?_
    rcases iteSome h with ⟨hc34, h⟩ | ⟨hc34, h⟩
    · refine sSkip 4 false 26 27 S rfl rfl rfl hc34 rfl (lb rfl) fun a S => ?_
      refine sSkip 4 false 26 28 S rfl rfl rfl hc34 rfl (lb rfl) fun a S => ?_
      refine sSkip 4 false 26 29 S rfl rfl rfl hc34 rfl (lb rfl) fun a S => ?_
      refine sSkip 4 false 26 30 S rfl rfl rfl hc34 rfl (lb rfl) fun a S => ?_
      refine sPickT (.bool true) S (wN rfl) rfl rfl hc34 rfl rfl (lb rfl) fun a S => ?_
      refine sMove (.bool true) S (wN rfl) (.inl rfl) rfl rfl (lb rfl) fun a S => ?_
      refine sSkip 10 false 32 33 S rfl rfl rfl rfl rfl (lb rfl) fun a S => ?_
      refine sSkip 10 false 32 34 S rfl rfl rfl rfl rfl (lb rfl) fun a S => ?_
      refine sSkip 10 false 32 35 S rfl rfl rfl rfl rfl (lb rfl) fun a S => ?_
      refine sSkip 10 false 32 36 S rfl rfl rfl rfl rfl (lb rfl) fun a S => ?_
      refine sPickT (.bool true) S (wN rfl) rfl rfl rfl rfl rfl (lb rfl) fun a S => ?_
      exact leafL (leafT (⟨true, Option.some.inj h, S.fix [] [] (by decide) rfl rfl rfl⟩))
    refine sField (b := b2) (off := 0) 0 0 S (wG 4 false 26 rfl rfl rfl hc34) rfl rfl rfl rfl rfl (lb rfl) fun a S => ?_
    refine sIdxV (v := .pointer (some ⟨b2, 0, none⟩)) (k := .i64) (j := 0) (q := .pointer (some ⟨b2, 0, none⟩)) S (wG 4 false 26 rfl rfl rfl hc34) rfl rfl rfl (idxV_arr (m := 11) (sz := 1) Try.underlying42 rfl (by decide) (by decide) 0) rfl (lb rfl) fun a S => ?_
    refine sLoad1 (p := b2) (off := 0) (T := 44) (vs := (gl_api_Rates p0)) 0 (iv p0.Length.1) S (wG 4 false 26 rfl rfl rfl hc34) rfl rfl rfl rfl rfl rfl (lb rfl) fun a S => ?_
    refine sBin (.bool (p0.Length.1 != 0)) S (wG 4 false 26 rfl rfl rfl hc34) rfl rfl rfl (bNe _ _ _ _ .i64 p0.Length.1 0) rfl (lb rfl) fun a S => ?_
    refine sPickF (.bool (p0.Length.1 != 0)) S (wN rfl) rfl rfl hc34 rfl rfl (lb rfl) fun a S => ?_
    refine sMove (.bool (p0.Length.1 != 0)) S (wN rfl) (.inl rfl) rfl rfl (lb rfl) fun a S => ?_
    rcases iteSome h with ⟨hc35, h⟩ | ⟨hc35, h⟩
    · refine sSkip 10 false 32 33 S rfl rfl rfl hc35 rfl (lb rfl) fun a S => ?_
      refine sSkip 10 false 32 34 S rfl rfl rfl hc35 rfl (lb rfl) fun a S => ?_
      refine sSkip 10 false 32 35 S rfl rfl rfl hc35 rfl (lb rfl) fun a S => ?_
      refine sSkip 10 false 32 36 S rfl rfl rfl hc35 rfl (lb rfl) fun a S => ?_
      refine sPickT (.bool true) S (wN rfl) rfl rfl hc35 rfl rfl (lb rfl) fun a S => ?_
      exact leafL (leafT (⟨true, Option.some.inj h, S.fix [] [] (by decide) rfl rfl rfl⟩))
    refine sField (b := b2) (off := 0) 11 11 S (wG 10 false 32 rfl rfl rfl hc35) rfl rfl rfl rfl rfl (lb rfl) fun a S => ?_
    refine sIdxV (v := .pointer (some ⟨b2, 11, none⟩)) (k := .i64) (j := 0) (q := .pointer (some ⟨b2, 11, none⟩)) S (wG 10 false 32 rfl rfl rfl hc35) rfl rfl rfl (idxV_arr (m := 11) (sz := 1) Try.underlying42 rfl (by decide) (by decide) 11) rfl (lb rfl) fun a S => ?_
    refine sLoad1 (p := b2) (off := 11) (T := 44) (vs := (gl_api_Rates p0)) 0 (iv p0.Time.1) S (wG 10 false 32 rfl rfl rfl hc35) rfl rfl rfl rfl rfl rfl (lb rfl) fun a S => ?_
    refine sBin (.bool (p0.Time.1 != 0)) S (wG 10 false 32 rfl rfl rfl hc35) rfl rfl rfl (bNe _ _ _ _ .i64 p0.Time.1 0) rfl (lb rfl) fun a S => ?_
    refine sPickF (.bool (p0.Time.1 != 0)) S (wN rfl) rfl rfl hc35 rfl rfl (lb rfl) fun a S => ?_
    exact leafL (leafT (⟨p0.Time.1 != 0, Option.some.inj h, S.fix [] [] (by decide) rfl rfl rfl⟩))
  refine sSeq (fun K5 hK5 => ?_)
  refine sRegion ?_
  refine sMove (iv 0) S (wN rfl) (.inr rfl) rfl rfl (lb rfl) fun a S => ?_
  refine leafL (leafT (hK5 _ _ ?_))
  refine wp_block ?_
  obtain ⟨t9, hl, g8⟩ := bindSome h
  refine sLoop hl (fun s0 a w => match s0 with | s6 => St [] E [] w0 38 a w [(1, .pointer (some ⟨b2, 0, none⟩)), (3, iv s6)] [eBox b2 44 (gl_api_Rates p0)] []) (S.fix [0] [] (by decide) rfl rfl rfl) ?_
  clear hl h
  intro s6 a w c0 hI h hu7
  unfold raddleref45_Check_l1 at h
  dsimp only at h hI
  have S := hI
  refine sSeq (fun K10 hK10 => ?_)
  refine sSeq (fun K11 hK11 => ?_)
  refine sRegion ?_
  refine sMove (iv s6) S (wN rfl) (.inl rfl) rfl rfl (lb rfl) fun a S => ?_
  refine sBin (.bool (decide (s6 < 11))) S (wN rfl) rfl rfl rfl (bLt _ _ _ _ .i64 s6 11) rfl (lb rfl) fun a S => ?_
  refine leafL (leafT (hK11 _ _ ?_))
  rcases iteSome h with ⟨hc12, h⟩ | ⟨hc12, h⟩
  rotate_left
  · refine sCondF S rfl hc12 ?_
    obtain rfl := Option.some.inj h
    obtain rfl := hu7 _ rfl
    have h := g8
    clear g8
    try dsimp only at h
    exact wp_exit (xThen (xThen (xHit (leafT (⟨Option.some.inj h, S.fix [0] [] (by decide) rfl rfl rfl⟩)))))
  refine sCondT S rfl hc12 ?_
  refine wp_skip (leafT (hK10 _ _ ?_))
  refine sSeq (fun K13 hK13 => ?_)
  refine wp_block ?_
  obtain ⟨t15, h, g16⟩ := bindSome h
  refine sCut (fun a w => ∃ o14, o14 = t15 ∧ St [] E [] w0 38 a w [(1, .pointer (some ⟨b2, 0, none⟩)), (3, iv s6), (21, .bool o14)] [eBox b2 44 (gl_api_Rates p0)] []) ?_ (fun a w hI => ?_)
  rotate_left
  · obtain ⟨o14, rfl, S⟩ := hI
    have h := g16
    clear g16
    try dsimp only at h
    rcases iteSome h with ⟨hc26, h⟩ | ⟨hc26, h⟩
    rotate_left
    · refine sCondF S rfl hc26 ?_
      refine wp_skip (leafB (leafT (hK13 _ _ ?_)))
      refine sRegion ?_
      refine sMove (iv s6) S (wN rfl) (.inl rfl) rfl rfl (lb rfl) fun a S => ?_
      refine sBin (iv (w64 (s6 + 1))) S (wN rfl) rfl rfl rfl (bAdd _ _ _ _ s6 1) rfl (lb rfl) fun a S => ?_
      refine sMove (iv (w64 (s6 + 1))) S (wN rfl) (.inr rfl) rfl rfl (lb rfl) fun a S => ?_
      exact leafL (leafT (⟨w64 (s6 + 1), (Option.some.inj h).symm, (S.fix [0] [] (by decide) rfl rfl rfl)⟩))
    refine sCondT S rfl hc26 ?_
    refine sSeq (fun K27 hK27 => ?_)
    refine sRegion ?_
    refine sMove (iv 8) S (wN rfl) (.inr rfl) rfl rfl (lb rfl) fun a S => ?_
    refine leafL (leafT (hK27 _ _ ?_))
    obtain rfl := Option.some.inj h
    obtain rfl := hu7 _ rfl
    have h := g8
    clear g8
    try dsimp only at h
    obtain rfl := Option.some.inj h
    have h := g4
    clear g4
    try dsimp only at h
    obtain rfl := Option.some.inj h
    exact wp_ret (rBlock (rThen (rThen (rBlock (rThen (sRet (iv 8) S (rsl1 rfl (rvT (t := 2) (v := iv 8) S rfl)) ⟨(), rfl, S.mem.sel [] [] (by decide) rfl rfl⟩))))))
  refine sRegion ?_
  refine sMove (iv s6) S (wN rfl) (.inl rfl) rfl rfl (lb rfl) fun a S => ?_
  refine sField (b := b2) (off := 0) 0 0 S (wN rfl) rfl rfl rfl rfl rfl (lb rfl) fun a S => ?_
  obtain ⟨x17, hx18, h⟩ := bindSome h
  refine sIdxV (v := .pointer (some ⟨b2, 0, none⟩)) (k := .i64) (j := s6) (q := .pointer (some ⟨b2, 0 + (s6).toNat * 1, none⟩)) S (wN rfl) rfl rfl rfl (idxV_arr (m := 11) (sz := 1) Try.underlying42 rfl (idxO_rng (m := 11) hx18 rfl).1 (idxO_rng (m := 11) hx18 rfl).2 0) rfl (lb rfl) fun a S => ?_
  refine sLoad1 (p := b2) (off := 0 + (s6).toNat * 1) (T := 44) (vs := [iv p0.Length.1, iv p0.Length.2.1, iv p0.Length.2.2.1, iv p0.Length.2.2.2.1, iv p0.Length.2.2.2.2.1, iv p0.Length.2.2.2.2.2.1, iv p0.Length.2.2.2.2.2.2.1, iv p0.Length.2.2.2.2.2.2.2.1, iv p0.Length.2.2.2.2.2.2.2.2.1, iv p0.Length.2.2.2.2.2.2.2.2.2.1, iv p0.Length.2.2.2.2.2.2.2.2.2.2, iv p0.Time.1, iv p0.Time.2.1, iv p0.Time.2.2.1, iv p0.Time.2.2.2.1, iv p0.Time.2.2.2.2.1, iv p0.Time.2.2.2.2.2.1, iv p0.Time.2.2.2.2.2.2.1, iv p0.Time.2.2.2.2.2.2.2.1, iv p0.Time.2.2.2.2.2.2.2.2.1, iv p0.Time.2.2.2.2.2.2.2.2.2.1, iv p0.Time.2.2.2.2.2.2.2.2.2.2, iv p0.Turn]) 0 (iv x17) S (wN rfl) rfl rfl rfl rfl (box_at (g := (fun z => .int .i64 z)) [] [iv p0.Time.1, iv p0.Time.2.1, iv p0.Time.2.2.1, iv p0.Time.2.2.2.1, iv p0.Time.2.2.2.2.1, iv p0.Time.2.2.2.2.2.1, iv p0.Time.2.2.2.2.2.2.1, iv p0.Time.2.2.2.2.2.2.2.1, iv p0.Time.2.2.2.2.2.2.2.2.1, iv p0.Time.2.2.2.2.2.2.2.2.2.1, iv p0.Time.2.2.2.2.2.2.2.2.2.2, iv p0.Turn] 0 hx18 rfl rfl) rfl (lb rfl) fun a S => ?_
  obtain ⟨r19, hx20, h⟩ := bindSome h
  have S1 := S.mem
  refine sCallQ (X := Unit) (f := 43) (vs := [iv x17]) (val := fun _ => .bool r19) S (wN rfl) rfl callee43 rfl (S1.quiet [] rfl) (fun E1 w1 S1 => c_raddleref45_in E1 w1 x17 r19 hx20 S1) rfl (lb rfl) fun _ a w S => ?_
  refine sNot (b := r19) S (wN rfl) rfl rfl rfl (lb rfl) fun a S => ?_
  refine sMove (.bool (!r19)) S (wN rfl) (.inl rfl) rfl rfl (lb rfl) fun a S => ?_
  rcases iteSome h with ⟨hc21, h⟩ | ⟨hc21, h⟩
  · refine sSkip 6 false 14 15 S rfl rfl rfl hc21 rfl (lb rfl) fun a S => ?_
    refine sSkip 6 false 14 16 S rfl rfl rfl hc21 rfl (lb rfl) fun a S => ?_
    refine sSkip 6 false 14 17 S rfl rfl rfl hc21 rfl (lb rfl) fun a S => ?_
    refine sSkip 6 false 14 18 S rfl rfl rfl hc21 rfl (lb rfl) fun a S => ?_
    refine sSkip 6 false 14 19 S rfl rfl rfl hc21 rfl (lb rfl) fun a S => ?_
    refine sSkip 6 false 14 20 S rfl rfl rfl hc21 rfl (lb rfl) fun a S => ?_
    refine sPickT (.bool true) S (wN rfl) rfl rfl hc21 rfl rfl (lb rfl) fun a S => ?_
    exact leafL (leafT (⟨true, Option.some.inj h, S.fix [0] [] (by decide) rfl rfl rfl⟩))
  refine sMove (iv s6) S (wG 6 false 14 rfl rfl rfl hc21) (.inl rfl) rfl rfl (lb rfl) fun a S => ?_
  refine sField (b := b2) (off := 0) 11 11 S (wG 6 false 14 rfl rfl rfl hc21) rfl rfl rfl rfl rfl (lb rfl) fun a S => ?_
  obtain ⟨x22, hx23, h⟩ := bindSome h
  refine sIdxV (v := .pointer (some ⟨b2, 11, none⟩)) (k := .i64) (j := s6) (q := .pointer (some ⟨b2, 11 + (s6).toNat * 1, none⟩)) S (wG 6 false 14 rfl rfl rfl hc21) rfl rfl rfl (idxV_arr (m := 11) (sz := 1) Try.underlying42 rfl (idxO_rng (m := 11) hx23 rfl).1 (idxO_rng (m := 11) hx23 rfl).2 11) rfl (lb rfl) fun a S => ?_
  refine sLoad1 (p := b2) (off := 11 + (s6).toNat * 1) (T := 44) (vs := [iv p0.Length.1, iv p0.Length.2.1, iv p0.Length.2.2.1, iv p0.Length.2.2.2.1, iv p0.Length.2.2.2.2.1, iv p0.Length.2.2.2.2.2.1, iv p0.Length.2.2.2.2.2.2.1, iv p0.Length.2.2.2.2.2.2.2.1, iv p0.Length.2.2.2.2.2.2.2.2.1, iv p0.Length.2.2.2.2.2.2.2.2.2.1, iv p0.Length.2.2.2.2.2.2.2.2.2.2, iv p0.Time.1, iv p0.Time.2.1, iv p0.Time.2.2.1, iv p0.Time.2.2.2.1, iv p0.Time.2.2.2.2.1, iv p0.Time.2.2.2.2.2.1, iv p0.Time.2.2.2.2.2.2.1, iv p0.Time.2.2.2.2.2.2.2.1, iv p0.Time.2.2.2.2.2.2.2.2.1, iv p0.Time.2.2.2.2.2.2.2.2.2.1, iv p0.Time.2.2.2.2.2.2.2.2.2.2, iv p0.Turn]) 0 (iv x22) S (wG 6 false 14 rfl rfl rfl hc21) rfl rfl rfl rfl (box_at (g := (fun z => .int .i64 z)) [iv p0.Length.1, iv p0.Length.2.1, iv p0.Length.2.2.1, iv p0.Length.2.2.2.1, iv p0.Length.2.2.2.2.1, iv p0.Length.2.2.2.2.2.1, iv p0.Length.2.2.2.2.2.2.1, iv p0.Length.2.2.2.2.2.2.2.1, iv p0.Length.2.2.2.2.2.2.2.2.1, iv p0.Length.2.2.2.2.2.2.2.2.2.1, iv p0.Length.2.2.2.2.2.2.2.2.2.2] [iv p0.Turn] 11 hx23 rfl rfl) rfl (lb rfl) fun a S => ?_
  obtain ⟨r24, hx25, h⟩ := bindSome h
  have S1 := S.mem
  refine sCallQ (X := Unit) (f := 43) (vs := [iv x22]) (val := fun _ => .bool r24) S (wG 6 false 14 rfl rfl rfl hc21) rfl callee43 rfl (S1.quiet [] rfl) (fun E1 w1 S1 => c_raddleref45_in E1 w1 x22 r24 hx25 S1) rfl (lb rfl) fun _ a w S => ?_
  refine sNot (b := r24) S (wG 6 false 14 rfl rfl rfl hc21) rfl rfl rfl (lb rfl) fun a S => ?_
  refine sPickF (.bool (!r24)) S (wN rfl) rfl rfl hc21 rfl rfl (lb rfl) fun a S => ?_
  exact leafL (leafT (⟨!r24, Option.some.inj h, S.fix [0] [] (by decide) rfl rfl rfl⟩))

end Go.Proofs.Ytdbgkakmhlmpbaa
namespace Go.Proofs.Ytdbgkakmhlmpbaa
open Go.RowKit
set_option linter.unusedVariables false

abbrev C11 := Int × Int × Int × Int × Int × Int × Int × Int × Int × Int × Int
def dot (t v : C11) : Int := t.1 * v.1 + (t.2.1 * v.2.1 + (t.2.2.1 * v.2.2.1 + (t.2.2.2.1 * v.2.2.2.1 + (t.2.2.2.2.1 * v.2.2.2.2.1 + (t.2.2.2.2.2.1 * v.2.2.2.2.2.1 + (t.2.2.2.2.2.2.1 * v.2.2.2.2.2.2.1 + (t.2.2.2.2.2.2.2.1 * v.2.2.2.2.2.2.2.1 + (t.2.2.2.2.2.2.2.2.1 * v.2.2.2.2.2.2.2.2.1 + (t.2.2.2.2.2.2.2.2.2.1 * v.2.2.2.2.2.2.2.2.2.1 + t.2.2.2.2.2.2.2.2.2.2 * v.2.2.2.2.2.2.2.2.2.2)))))))))
def l11 (t : C11) : List Int := [t.1, t.2.1, t.2.2.1, t.2.2.2.1, t.2.2.2.2.1, t.2.2.2.2.2.1, t.2.2.2.2.2.2.1, t.2.2.2.2.2.2.2.1, t.2.2.2.2.2.2.2.2.1, t.2.2.2.2.2.2.2.2.2.1, t.2.2.2.2.2.2.2.2.2.2]
def bd11 (b : Int) (v : C11) : Prop := (0 ≤ v.1 ∧ v.1 ≤ b) ∧ (0 ≤ v.2.1 ∧ v.2.1 ≤ b) ∧ (0 ≤ v.2.2.1 ∧ v.2.2.1 ≤ b) ∧ (0 ≤ v.2.2.2.1 ∧ v.2.2.2.1 ≤ b) ∧ (0 ≤ v.2.2.2.2.1 ∧ v.2.2.2.2.1 ≤ b) ∧ (0 ≤ v.2.2.2.2.2.1 ∧ v.2.2.2.2.2.1 ≤ b) ∧ (0 ≤ v.2.2.2.2.2.2.1 ∧ v.2.2.2.2.2.2.1 ≤ b) ∧ (0 ≤ v.2.2.2.2.2.2.2.1 ∧ v.2.2.2.2.2.2.2.1 ≤ b) ∧ (0 ≤ v.2.2.2.2.2.2.2.2.1 ∧ v.2.2.2.2.2.2.2.2.1 ≤ b) ∧ (0 ≤ v.2.2.2.2.2.2.2.2.2.1 ∧ v.2.2.2.2.2.2.2.2.2.1 ≤ b) ∧ (0 ≤ v.2.2.2.2.2.2.2.2.2.2 ∧ v.2.2.2.2.2.2.2.2.2.2 ≤ b)
/-- what a tuple says of a kind -/
def at11 (t : C11) (k : Int) : Int := if k = 0 then t.1 else if k = 1 then t.2.1 else if k = 2 then t.2.2.1 else if k = 3 then t.2.2.2.1 else if k = 4 then t.2.2.2.2.1 else if k = 5 then t.2.2.2.2.2.1 else if k = 6 then t.2.2.2.2.2.2.1 else if k = 7 then t.2.2.2.2.2.2.2.1 else if k = 8 then t.2.2.2.2.2.2.2.2.1 else if k = 9 then t.2.2.2.2.2.2.2.2.2.1 else t.2.2.2.2.2.2.2.2.2.2
theorem idx11 (t : C11) {k : Int} (h : 0 ≤ k ∧ k ≤ 10) : idxO (l11 t) k = some (at11 t k) := by
  rcases kinds (x := k) (by omega) with h | h | h | h | h | h | h | h | h | h | h | h <;> first | omega | (subst h; rfl)
theorem at11_bd {b : Int} {t : C11} (h : bd11 b t) (k : Int) : 0 ≤ at11 t k ∧ at11 t k ≤ b := by
  obtain ⟨h0, h1, h2, h3, h4, h5, h6, h7, h8, h9, h10⟩ := h
  unfold at11
  repeat' split
  all_goals assumption
/-- two loops side by side -/
theorem loop_two {S S' σ τ τ' : Type} {B : S → Option (S ⊕ τ)} {B' : S' → Option (S' ⊕ τ')} (n : Nat) (st : Nat → σ → S) (st' : Nat → σ → S') (I : Nat → σ → Prop) (Pt : τ → τ' → Prop) {s0 : σ} (h0 : I 0 s0)
    (step : ∀ k s, k < n → I k s → (∃ s', B (st k s) = some (.inl (st (k + 1) s')) ∧ B' (st' k s) = some (.inl (st' (k + 1) s')) ∧ I (k + 1) s') ∨ (∃ t t', B (st k s) = some (.inr t) ∧ B' (st' k s) = some (.inr t') ∧ Pt t t'))
    (last : ∀ s, I n s → ∃ t t', B (st n s) = some (.inr t) ∧ B' (st' n s) = some (.inr t') ∧ Pt t t') : ∃ t t', whileO B (st 0 s0) = some t ∧ whileO B' (st' 0 s0) = some t' ∧ Pt t t' := by
  have key : ∀ j k s, j + k = n → I k s → ∃ t t', whileO B (st k s) = some t ∧ whileO B' (st' k s) = some t' ∧ Pt t t' := by
    intro j
    induction j with
    | zero =>
      intro k s hk hI
      obtain rfl : k = n := by omega
      obtain ⟨t, t', h1, h2, h3⟩ := last s hI
      exact ⟨t, t', whileO_done h1, whileO_done h2, h3⟩
    | succ j ih =>
      intro k s hk hI
      rcases step k s (by omega) hI with ⟨s', h1, h2, h3⟩ | ⟨t, t', h1, h2, h3⟩
      · rw [whileO_step h1, whileO_step h2]; exact ih _ _ (by omega) h3
      · exact ⟨t, t', whileO_done h1, whileO_done h2, h3⟩
  exact key n 0 s0 (by omega) h0
/-- one cell more -/
theorem cnt_step (t v : C11) (b : Int) (hb : bd11 b v) (hb1 : b ≤ 1000000000) {p : api_Stitch} (hp : okS p) :
    ∃ v', bd11 (b + 1) v' ∧ dot t v' = dot t v + at11 t p.Kind ∧ ∀ i : Nat,
      (some (Sum.inl (((i + 1 : Nat) : Int), (if p.Kind = 0 then w64 (at11 v p.Kind + 1) else v.1), (if p.Kind = 1 then w64 (at11 v p.Kind + 1) else v.2.1), (if p.Kind = 2 then w64 (at11 v p.Kind + 1) else v.2.2.1), (if p.Kind = 3 then w64 (at11 v p.Kind + 1) else v.2.2.2.1), (if p.Kind = 4 then w64 (at11 v p.Kind + 1) else v.2.2.2.2.1), (if p.Kind = 5 then w64 (at11 v p.Kind + 1) else v.2.2.2.2.2.1), (if p.Kind = 6 then w64 (at11 v p.Kind + 1) else v.2.2.2.2.2.2.1), (if p.Kind = 7 then w64 (at11 v p.Kind + 1) else v.2.2.2.2.2.2.2.1), (if p.Kind = 8 then w64 (at11 v p.Kind + 1) else v.2.2.2.2.2.2.2.2.1), (if p.Kind = 9 then w64 (at11 v p.Kind + 1) else v.2.2.2.2.2.2.2.2.2.1), (if p.Kind = 10 then w64 (at11 v p.Kind + 1) else v.2.2.2.2.2.2.2.2.2.2))) : Option ((Int × C11) ⊕ C11)) = some (.inl (((i + 1 : Nat) : Int), v')) := by
  have hk := okS_bd hp
  have ha := at11_bd hb p.Kind
  have hw : w64 (at11 v p.Kind + 1) = at11 v p.Kind + 1 := w64_of (by omega) (by omega)
  rw [hw]
  refine ⟨_, ?_, ?_, fun i => rfl⟩
  · obtain ⟨h0, h1, h2, h3, h4, h5, h6, h7, h8, h9, h10⟩ := hb
    refine ⟨?_, ?_, ?_, ?_, ?_, ?_, ?_, ?_, ?_, ?_, ?_⟩ <;> (dsimp only; split <;> omega)
  · rcases kinds (x := p.Kind) (by omega) with h | h | h | h | h | h | h | h | h | h | h | h <;> first | omega | (simp only [h, at11, dot]; simp [Int.mul_add]; omega)
def rowT (f : api_Stitch → Int) (r : api_Row) : Int := sm f r.Cells
/-- the counts of a chart -/
theorem count_loop (t : C11) (c : api_Chart) (hk : chk c = 0) : ∃ v : C11, whileO (cost_Count_l2 c) (0, 0, 0, 0, 0, 0, 0, 0, 0, 0, 0, 0) = some v ∧ whileO (raddleref45_Count_l2 c) (0, 0, 0, 0, 0, 0, 0, 0, 0, 0, 0, 0) = some v ∧ bd11 20000 v ∧ dot t v = sm (rowT fun p => at11 t p.Kind) c.Rows := by
  obtain ⟨hl, _, _, hr⟩ := chk_ok hk
  have hinner : ∀ (i : Nat) (hi : i < c.Rows.length) (v : C11), bd11 (200 * i) v → ∃ v' : C11, whileO (cost_Count_l1 c.Rows[i]) (0, v) = some v' ∧ whileO (raddleref45_Count_l1 c (i : Int)) (0, v) = some v' ∧ bd11 (200 * (i + 1)) v' ∧ dot t v' = dot t v + rowT (fun p => at11 t p.Kind) c.Rows[i] := by
    intro i hi v hv
    have hal := allS_ok (chkR_mem hr _ (List.getElem_mem hi))
    have hn := hal.1
    have key : ∃ t1 t2, whileO (cost_Count_l1 c.Rows[i]) (0, v) = some t1 ∧ whileO (raddleref45_Count_l1 c (i : Int)) (0, v) = some t2 ∧ (t1 = t2 ∧ bd11 (200 * (i + 1)) t1 ∧ dot t t1 = dot t v + rowT (fun p => at11 t p.Kind) c.Rows[i]) := by
      refine loop_two (σ := C11) c.Rows[i].Cells.length (fun k v => ((k : Int), v)) (fun k v => ((k : Int), v)) (fun k s => bd11 (200 * i + k) s ∧ dot t s = dot t v + sm (fun p => at11 t p.Kind) (c.Rows[i].Cells.take k)) _ (s0 := v) ⟨by simpa using hv, by simp [sm]⟩ ?_ ?_
      · rintro k s hk2 ⟨hs, hd⟩
        have hp := hal.2.1 _ (List.getElem_mem hk2)
        have hkd := okS_bd hp
        obtain ⟨v', h1, h2, h3⟩ := cnt_step t s _ hs (by omega) hp
        have hix := idx11 s (k := c.Rows[i].Cells[k].Kind) (by omega)
        obtain ⟨s0, s1, s2, s3, s4, s5, s6, s7, s8, s9, s10⟩ := s
        simp only [l11] at hix
        refine .inl ⟨v', ?_, ?_, ?_, ?_⟩
        · unfold cost_Count_l1
          simp only [dT (show (k : Int) < (c.Rows[i].Cells.length : Int) by omega), if_true, idxO_nat hk2, Option.bind_some, hix, w64_succ (show k < 9223372036854775807 by omega)]
          exact h3 k
        · unfold raddleref45_Count_l1
          simp only [idxO_nat hi, Option.bind_some, dT (show (k : Int) < (c.Rows[i].Cells.length : Int) by omega), if_true, idxO_nat hk2, hix, w64_succ (show k < 9223372036854775807 by omega)]
          exact h3 k
        · have e : (200 : Int) * i + ((k + 1 : Nat) : Int) = 200 * i + k + 1 := by omega
          rw [e]; exact h1
        · rw [h2, hd, sm_take _ _ hk2]; omega
      · rintro s ⟨hs, hd⟩
        obtain ⟨s0, s1, s2, s3, s4, s5, s6, s7, s8, s9, s10⟩ := s
        refine ⟨(s0, s1, s2, s3, s4, s5, s6, s7, s8, s9, s10), (s0, s1, s2, s3, s4, s5, s6, s7, s8, s9, s10), ?_, ?_, rfl, ?_, ?_⟩
        · unfold cost_Count_l1
          simp only [dF (show ¬ (c.Rows[i].Cells.length : Int) < (c.Rows[i].Cells.length : Int) by omega), Bool.false_eq_true, if_false]
        · unfold raddleref45_Count_l1
          simp only [idxO_nat hi, Option.bind_some, dF (show ¬ (c.Rows[i].Cells.length : Int) < (c.Rows[i].Cells.length : Int) by omega), Bool.false_eq_true, if_false]
        · simp only [bd11] at hs ⊢
          omega
        · rw [hd, List.take_length]; rfl
    obtain ⟨t1, t2, h1, h2, rfl, h3, h4⟩ := key
    exact ⟨t1, h1, h2, h3, h4⟩
  have key : ∃ t1 t2, whileO (cost_Count_l2 c) (0, 0, 0, 0, 0, 0, 0, 0, 0, 0, 0, 0) = some t1 ∧ whileO (raddleref45_Count_l2 c) (0, 0, 0, 0, 0, 0, 0, 0, 0, 0, 0, 0) = some t2 ∧ (t1 = t2 ∧ bd11 20000 t1 ∧ dot t t1 = sm (rowT fun p => at11 t p.Kind) c.Rows) := by
    refine loop_two (σ := C11) c.Rows.length (fun k v => ((k : Int), v)) (fun k v => ((k : Int), v)) (fun k s => bd11 (200 * k) s ∧ dot t s = sm (rowT fun p => at11 t p.Kind) (c.Rows.take k)) _ (s0 := (0, 0, 0, 0, 0, 0, 0, 0, 0, 0, 0)) ⟨by simp [bd11], by simp [sm, dot]⟩ ?_ ?_
    · rintro k s hk2 ⟨hs, hd⟩
      obtain ⟨v', h1, h2, h3, h4⟩ := hinner k hk2 s hs
      obtain ⟨s0, s1, s2, s3, s4, s5, s6, s7, s8, s9, s10⟩ := s
      refine .inl ⟨v', ?_, ?_, ?_, ?_⟩
      · unfold cost_Count_l2
        simp only [dT (show (k : Int) < (c.Rows.length : Int) by omega), if_true, idxO_nat hk2, Option.bind_some, h1, w64_succ (show k < 9223372036854775807 by omega)]
      · unfold raddleref45_Count_l2
        simp only [dT (show (k : Int) < (c.Rows.length : Int) by omega), if_true, Option.bind_some, h2, w64_succ (show k < 9223372036854775807 by omega)]
      · have e : (200 : Int) * ((k + 1 : Nat) : Int) = 200 * (k + 1) := by omega
        rw [e]; exact h3
      · rw [h4, hd, sm_take _ _ hk2]
    · rintro s ⟨hs, hd⟩
      obtain ⟨s0, s1, s2, s3, s4, s5, s6, s7, s8, s9, s10⟩ := s
      refine ⟨(s0, s1, s2, s3, s4, s5, s6, s7, s8, s9, s10), (s0, s1, s2, s3, s4, s5, s6, s7, s8, s9, s10), ?_, ?_, rfl, ?_, ?_⟩
      · unfold cost_Count_l2
        simp only [dF (show ¬ (c.Rows.length : Int) < (c.Rows.length : Int) by omega), Bool.false_eq_true, if_false]
      · unfold raddleref45_Count_l2
        simp only [dF (show ¬ (c.Rows.length : Int) < (c.Rows.length : Int) by omega), Bool.false_eq_true, if_false]
      · simp only [bd11] at hs ⊢
        omega
      · rw [hd, List.take_length]
  obtain ⟨t1, t2, h1, h2, rfl, h3, h4⟩ := key
  exact ⟨t1, h1, h2, h3, h4⟩
theorem sm_nn {α : Type} {f : α → Int} {l : List α} (h : ∀ x, x ∈ l → 0 ≤ f x) : 0 ≤ sm f l := by
  induction l with
  | nil => simp [sm]
  | cons x l ih =>
    have h1 := h x (by simp)
    have h2 := ih fun y hy => h y (by simp [hy])
    simp only [sm]; omega
theorem sm_take_le {α : Type} {f : α → Int} {l : List α} (h : ∀ x, x ∈ l → 0 ≤ f x) (k : Nat) : sm f (l.take k) ≤ sm f l := by
  have e : sm f l = sm f (l.take k) + sm f (l.drop k) := by rw [← sm_append, List.take_append_drop]
  have := sm_nn (l := l.drop k) fun x hx => h x (List.mem_of_mem_drop hx)
  omega
/-- a loop that sums -/
theorem loop_acc {α τ : Type} {B : Int × Int → Option ((Int × Int) ⊕ τ)} (l : List α) (f : α → Int) (a0 : Int) {t : τ} (hf : ∀ x, x ∈ l → 0 ≤ f x)
    (h : ∀ k (hk : k < l.length) (a : Int), a0 ≤ a → a + f l[k] ≤ a0 + sm f l → B ((k : Int), a) = some (.inl (((k + 1 : Nat) : Int), a + f l[k]))) (hn : B ((l.length : Int), a0 + sm f l) = some (.inr t)) : whileO B (0, a0) = some t := by
  have key : ∃ u, whileO B ((fun (k : Nat) (_ : Unit) => ((k : Int), a0 + sm f (l.take k))) 0 ()) = some u ∧ u = t := by
    refine loop_at (σ := Unit) l.length (fun k _ => ((k : Int), a0 + sm f (l.take k))) (fun _ _ => True) _ (s0 := ()) trivial ?_ ?_
    · intro k _ hk _
      refine .inl ⟨(), ?_, trivial⟩
      have h1 := sm_take_le hf (k + 1)
      have h2 := sm_nn (l := l.take k) fun x hx => hf x (List.mem_of_mem_take hx)
      rw [sm_take _ _ hk] at h1
      rw [h k hk _ (by omega) (by omega), sm_take _ _ hk, Int.add_assoc]
    · intro _ _
      exact ⟨t, by rw [List.take_length]; exact hn, rfl⟩
  obtain ⟨u, h1, rfl⟩ := key
  simpa [sm] using h1
theorem loop_acc2 {α τ : Type} {B : Int × Int × Int → Option ((Int × Int × Int) ⊕ τ)} (l : List α) (f g : α → Int) (a0 b0 : Int) {t : τ} (hf : ∀ x, x ∈ l → 0 ≤ f x) (hg : ∀ x, x ∈ l → 0 ≤ g x)
    (h : ∀ k (hk : k < l.length) (a b : Int), a0 ≤ a → a + f l[k] ≤ a0 + sm f l → b0 ≤ b → b + g l[k] ≤ b0 + sm g l → B ((k : Int), a, b) = some (.inl (((k + 1 : Nat) : Int), a + f l[k], b + g l[k]))) (hn : B ((l.length : Int), a0 + sm f l, b0 + sm g l) = some (.inr t)) : whileO B (0, a0, b0) = some t := by
  have key : ∃ u, whileO B ((fun (k : Nat) (_ : Unit) => ((k : Int), a0 + sm f (l.take k), b0 + sm g (l.take k))) 0 ()) = some u ∧ u = t := by
    refine loop_at (σ := Unit) l.length (fun k _ => ((k : Int), a0 + sm f (l.take k), b0 + sm g (l.take k))) (fun _ _ => True) _ (s0 := ()) trivial ?_ ?_
    · intro k _ hk _
      refine .inl ⟨(), ?_, trivial⟩
      have h1 := sm_take_le hf (k + 1)
      have h2 := sm_nn (l := l.take k) fun x hx => hf x (List.mem_of_mem_take hx)
      have h3 := sm_take_le hg (k + 1)
      have h4 := sm_nn (l := l.take k) fun x hx => hg x (List.mem_of_mem_take hx)
      rw [sm_take _ _ hk] at h1 h3
      rw [h k hk _ _ (by omega) (by omega) (by omega) (by omega), sm_take _ _ hk, sm_take _ _ hk, Int.add_assoc, Int.add_assoc]
    · intro _ _
      exact ⟨t, by rw [List.take_length]; exact hn, rfl⟩
  obtain ⟨u, h1, rfl⟩ := key
  simpa [sm] using h1
/-- rates -/
def okR (r : api_Rates) : Prop := bd11 1000000 r.Length ∧ bd11 1000000 r.Time ∧ 0 ≤ r.Turn ∧ r.Turn ≤ 1000000 ∧ r.Length.1 = 0 ∧ r.Time.1 = 0
instance (b : Int) (v : C11) : Decidable (bd11 b v) := by unfold bd11; infer_instance
instance (r : api_Rates) : Decidable (okR r) := by unfold okR; infer_instance
theorem rate_eq (x : Int) : F_cost_rate x = some (decide (0 ≤ x ∧ x ≤ 1000000)) := by
  unfold F_cost_rate
  by_cases h : 0 ≤ x <;> simp [h]
theorem rin_eq (x : Int) : F_raddleref45_in x = some (decide (0 ≤ x ∧ x ≤ 1000000)) := by
  unfold F_raddleref45_in
  by_cases h : 0 ≤ x <;> simp [h]
theorem range11 (r : api_Rates) : (List.range 11).all (fun k => decide ((0 ≤ at11 r.Length (k : Int) ∧ at11 r.Length (k : Int) ≤ 1000000) ∧ (0 ≤ at11 r.Time (k : Int) ∧ at11 r.Time (k : Int) ≤ 1000000))) = true ↔ bd11 1000000 r.Length ∧ bd11 1000000 r.Time := by
  rw [List.all_eq_true]
  constructor
  · intro h
    have g : ∀ k : Nat, k < 11 → (0 ≤ at11 r.Length (k : Int) ∧ at11 r.Length (k : Int) ≤ 1000000) ∧ (0 ≤ at11 r.Time (k : Int) ∧ at11 r.Time (k : Int) ≤ 1000000) := fun k hk => by simpa using h k (List.mem_range.2 hk)
    have g0 := g 0 (by decide)
    have g1 := g 1 (by decide)
    have g2 := g 2 (by decide)
    have g3 := g 3 (by decide)
    have g4 := g 4 (by decide)
    have g5 := g 5 (by decide)
    have g6 := g 6 (by decide)
    have g7 := g 7 (by decide)
    have g8 := g 8 (by decide)
    have g9 := g 9 (by decide)
    have g10 := g 10 (by decide)
    exact ⟨⟨g0.1, g1.1, g2.1, g3.1, g4.1, g5.1, g6.1, g7.1, g8.1, g9.1, g10.1⟩, ⟨g0.2, g1.2, g2.2, g3.2, g4.2, g5.2, g6.2, g7.2, g8.2, g9.2, g10.2⟩⟩
  · rintro ⟨h1, h2⟩ k _
    simpa using ⟨at11_bd h1 (k : Int), at11_bd h2 (k : Int)⟩
theorem rcheck_tail (r : api_Rates) (b : Bool) (hb : b = true ↔ bd11 1000000 r.Length ∧ bd11 1000000 r.Time) : (if b = true then (if (0 ≤ r.Turn ∧ r.Turn ≤ 1000000) ∧ r.Length.1 = 0 ∧ r.Time.1 = 0 then (0 : Int) else 8) else 8) = if okR r then 0 else 8 := by
  cases b with
  | true =>
    obtain ⟨h1, h2⟩ := hb.1 rfl
    rw [if_pos rfl]
    exact ifc ⟨fun h => ⟨h1, h2, h.1.1, h.1.2, h.2.1, h.2.2⟩, fun h => ⟨⟨h.2.2.1, h.2.2.2.1⟩, h.2.2.2.2.1, h.2.2.2.2.2⟩⟩
  | false =>
    have hn : ¬ okR r := fun h => by have := hb.2 ⟨h.1, h.2.1⟩; cases this
    rw [if_neg (by simp), if_neg hn]
theorem rates_eq (r : api_Rates) : F_cost_Check r = some (if okR r then 0 else 8) := by
  have hloop : whileO (cost_Check_l1 r) 0 = some (if (List.range 11).all (fun k => decide ((0 ≤ at11 r.Length (k : Int) ∧ at11 r.Length (k : Int) ≤ 1000000) ∧ (0 ≤ at11 r.Time (k : Int) ∧ at11 r.Time (k : Int) ≤ 1000000))) = true then .inr () else .inl 8) := by
    refine loop_all 11 _ _ _ ?_ rfl
    intro k hk
    have e1 := idx11 r.Length (k := (k : Int)) (by omega)
    have e2 := idx11 r.Time (k := (k : Int)) (by omega)
    simp only [l11] at e1 e2
    unfold cost_Check_l1
    simp only [dT (show (k : Int) < 11 by omega), if_true, e1, e2, Option.bind_some, rate_eq, w64_succ (show k < 9223372036854775807 by omega)]
    by_cases c1 : 0 ≤ at11 r.Length (k : Int) ∧ at11 r.Length (k : Int) ≤ 1000000 <;> by_cases c2 : 0 ≤ at11 r.Time (k : Int) ∧ at11 r.Time (k : Int) ≤ 1000000 <;> simp [c1, c2]
  unfold F_cost_Check
  rw [hloop, ← rcheck_tail r _ (range11 r)]
  cases (List.range 11).all (fun k => decide ((0 ≤ at11 r.Length (k : Int) ∧ at11 r.Length (k : Int) ≤ 1000000) ∧ (0 ≤ at11 r.Time (k : Int) ∧ at11 r.Time (k : Int) ≤ 1000000))) with
  | true =>
    simp only [if_true, Option.bind_some, rate_eq]
    by_cases c1 : 0 ≤ r.Turn ∧ r.Turn ≤ 1000000 <;> by_cases c2 : r.Length.1 = 0 <;> by_cases c3 : r.Time.1 = 0 <;> simp [c1, c2, c3]
  | false => simp
theorem rrates_eq (r : api_Rates) : F_raddleref45_Check r = some (if okR r then 0 else 8) := by
  have hloop : whileO (raddleref45_Check_l1 r) 0 = some (if (List.range 11).all (fun k => decide ((0 ≤ at11 r.Length (k : Int) ∧ at11 r.Length (k : Int) ≤ 1000000) ∧ (0 ≤ at11 r.Time (k : Int) ∧ at11 r.Time (k : Int) ≤ 1000000))) = true then .inr () else .inl 8) := by
    refine loop_all 11 _ _ _ ?_ rfl
    intro k hk
    have e1 := idx11 r.Length (k := (k : Int)) (by omega)
    have e2 := idx11 r.Time (k := (k : Int)) (by omega)
    simp only [l11] at e1 e2
    unfold raddleref45_Check_l1
    simp only [dT (show (k : Int) < 11 by omega), if_true, e1, e2, Option.bind_some, rin_eq, w64_succ (show k < 9223372036854775807 by omega)]
    by_cases c1 : 0 ≤ at11 r.Length (k : Int) ∧ at11 r.Length (k : Int) ≤ 1000000 <;> by_cases c2 : 0 ≤ at11 r.Time (k : Int) ∧ at11 r.Time (k : Int) ≤ 1000000 <;> simp [c1, c2]
  unfold F_raddleref45_Check
  rw [hloop, ← rcheck_tail r _ (range11 r)]
  cases (List.range 11).all (fun k => decide ((0 ≤ at11 r.Length (k : Int) ∧ at11 r.Length (k : Int) ≤ 1000000) ∧ (0 ≤ at11 r.Time (k : Int) ∧ at11 r.Time (k : Int) ≤ 1000000))) with
  | true =>
    simp only [if_true, Option.bind_some, rin_eq]
    by_cases c1 : 0 ≤ r.Turn ∧ r.Turn ≤ 1000000 <;> by_cases c2 : r.Length.1 = 0 <;> by_cases c3 : r.Time.1 = 0 <;> simp [c1, c2, c3]
  | false => simp
def lenS (r : api_Rates) (p : api_Stitch) : Int := at11 r.Length p.Kind * (if (1 : Int) < madeS p then madeS p else 1)
def timS (r : api_Rates) (p : api_Stitch) : Int := at11 r.Time p.Kind
def billOf (c : api_Chart) (r : api_Rates) : api_Bill := ⟨sm (rowT (lenS r)) c.Rows, r.Turn * (c.Rows.length : Int) + sm (rowT (timS r)) c.Rows⟩
def needOf (c : api_Chart) (r : api_Rates) : api_Bill × Int := if chk c = 0 then (if okR r then (billOf c r, 0) else (⟨0, 0⟩, 8)) else (⟨0, 0⟩, chk c)
theorem lenS_bd {r : api_Rates} (h : okR r) {p : api_Stitch} (hp : okS p) : 0 ≤ lenS r p ∧ lenS r p ≤ 200000000 := by
  have h1 := at11_bd h.1 p.Kind
  have h2 := madeS_bd hp
  exact mul_bd h1.1 h1.2 (b := 200) (by split <;> omega) (by split <;> omega)
theorem timS_bd {r : api_Rates} (h : okR r) (p : api_Stitch) : 0 ≤ timS r p ∧ timS r p ≤ 1000000 := at11_bd h.2.1 p.Kind
theorem rowT_bd {f : api_Stitch → Int} {b : Int} {r : api_Row} (hb : 0 ≤ b) (hr : allS r.Cells = 0) (hf : ∀ p, okS p → 0 ≤ f p ∧ f p ≤ b) : 0 ≤ rowT f r ∧ rowT f r ≤ b * 200 := by
  have h := allS_ok hr
  have h1 := sm_bd (f := f) (b := b) (l := r.Cells) fun p hp => hf p (h.2.1 p hp)
  have h2 : b * (r.Cells.length : Int) ≤ b * 200 := Int.mul_le_mul_of_nonneg_left (by omega) hb
  exact ⟨h1.1, by unfold rowT; omega⟩
theorem rows_bd {f : api_Stitch → Int} {b : Int} {c : api_Chart} (hb : 0 ≤ b) (hc : chk c = 0) (hf : ∀ p, okS p → 0 ≤ f p ∧ f p ≤ b) : 0 ≤ sm (rowT f) c.Rows ∧ sm (rowT f) c.Rows ≤ b * 20000 := by
  have h := chk_ok hc
  have h1 := sm_bd (f := rowT f) (b := b * 200) (l := c.Rows) fun r hr => rowT_bd hb (chkR_mem h.2.2.2 r hr) hf
  have h2 : b * 200 * (c.Rows.length : Int) ≤ b * 200 * 100 := Int.mul_le_mul_of_nonneg_left (by omega) (by omega)
  exact ⟨h1.1, by omega⟩
/-- the sum of the counts' times -/
def pd (t v : C11) : Nat → Int
  | 0 => 0
  | k + 1 => pd t v k + at11 t (k : Int) * at11 v (k : Int)
theorem pd_dot (t v : C11) : pd t v 11 = dot t v := by
  simp only [pd]
  simp [at11, dot]
  omega
theorem need_times (c : api_Chart) (r : api_Rates) (v : C11) (hr : okR r) (hv : bd11 20000 v) (e : Int) (a0 : Int) (ha : 0 ≤ a0 ∧ a0 ≤ 1000000000) : whileO (cost_Need_l1 (v, e) r) (0, a0) = some (a0 + dot r.Time v) := by
  have hb : ∀ k : Nat, 0 ≤ pd r.Time v k ∧ pd r.Time v k ≤ 20000000000 * k := by
    intro k
    induction k with
    | zero => simp [pd]
    | succ k ih =>
      have h1 := at11_bd hr.2.1 (k : Int)
      have h2 := at11_bd hv (k : Int)
      have h3 := mul_bd h1.1 h1.2 h2.1 h2.2
      simp only [pd]
      omega
  have key : ∃ u, whileO (cost_Need_l1 (v, e) r) ((fun (k : Nat) (_ : Unit) => ((k : Int), a0 + pd r.Time v k)) 0 ()) = some u ∧ u = a0 + dot r.Time v := by
    refine loop_at (σ := Unit) 11 (fun k _ => ((k : Int), a0 + pd r.Time v k)) (fun _ _ => True) _ (s0 := ()) trivial ?_ ?_
    · intro k _ hk _
      refine .inl ⟨(), ?_, trivial⟩
      have e1 := idx11 r.Time (k := (k : Int)) (by omega)
      have e2 := idx11 v (k := (k : Int)) (by omega)
      simp only [l11] at e1 e2
      have h1 := at11_bd hr.2.1 (k : Int)
      have h2 := at11_bd hv (k : Int)
      have h3 := mul_bd h1.1 h1.2 h2.1 h2.2
      have h4 := hb k
      have w1 : w64 (at11 r.Time (k : Int) * at11 v (k : Int)) = at11 r.Time (k : Int) * at11 v (k : Int) := w64_of (by omega) (by omega)
      have w2 : w64 (a0 + pd r.Time v k + at11 r.Time (k : Int) * at11 v (k : Int)) = a0 + pd r.Time v (k + 1) := by
        rw [w64_of (by omega) (by omega)]; simp only [pd]; omega
      unfold cost_Need_l1
      simp only [dT (show (k : Int) < 11 by omega), if_true, e1, e2, Option.bind_some, w1, w2, w64_succ (show k < 9223372036854775807 by omega)]
    · intro _ _
      refine ⟨_, ?_, rfl⟩
      rw [← pd_dot]
      rfl
  obtain ⟨u, h1, rfl⟩ := key
  simpa [pd] using h1
theorem makes_one {p : api_Stitch} (hp : okS p) : F_stitch_Makes [p] = some (madeS p, 0) := by
  have hb := okS_bd hp
  have h0 : allS [p] = 0 := by
    have h1 := usedS_bd hp
    have h2 := madeS_bd hp
    have ho : allOk [p] := fun q hq => by simp at hq; subst hq; exact hp
    unfold allS
    rw [if_neg (by simp), if_pos ho, if_neg (by simp [sm]; omega)]
  rw [makes_eq (l := [p]) (fun q hq => by simp at hq; subst hq; unfold wfS; omega), if_pos h0]
  simp [sm]
theorem need_eq (c : api_Chart) (r : api_Rates) (hw : wfR c.Rows) : F_cost_Need c r = some (needOf c r) := by
  unfold F_cost_Need needOf F_cost_Count
  rw [chart_check_eq c hw]
  by_cases hc : chk c = 0
  case neg => simp only [Option.bind_some, nT hc, if_true, if_neg hc]
  obtain ⟨v, h1, h2, h3, h4⟩ := count_loop r.Time c hc
  obtain ⟨v0, v1, v2, v3, v4, v5, v6, v7, v8, v9, v10⟩ := v
  simp only [Option.bind_some, nF hc, Bool.false_eq_true, if_false, h1, bne_self_eq_false, rates_eq, if_pos hc]
  by_cases hr : okR r
  case neg => simp only [if_neg hr, nT (show ¬ (8 : Int) = 0 by omega), if_true]
  simp only [if_pos hr, bne_self_eq_false, Bool.false_eq_true, if_false]
  obtain ⟨hl, _, _, hcr⟩ := chk_ok hc
  have ht : 0 ≤ r.Turn * (c.Rows.length : Int) ∧ r.Turn * (c.Rows.length : Int) ≤ 1000000 * 100 := mul_bd hr.2.2.1 hr.2.2.2.1 (by omega) (by omega)
  rw [w64_of (by omega) (by omega), need_times c r _ hr h3 0 _ (by omega)]
  have hinner : ∀ (x : api_Row), x ∈ c.Rows → ∀ a, 0 ≤ a → a + rowT (lenS r) x ≤ 4000000000000 → whileO (cost_Need_l2 x r) (0, a) = some (a + rowT (lenS r) x) := by
    intro x hx a ha hb
    have hal := allS_ok (chkR_mem hcr x hx)
    refine loop_acc x.Cells (lenS r) a (fun p hp => (lenS_bd hr (hal.2.1 p hp)).1) ?_ ?_
    · intro k hk a' ha1 ha2
      have hp := hal.2.1 _ (List.getElem_mem hk)
      have hkd := okS_bd hp
      have e1 := idx11 r.Length (k := x.Cells[k].Kind) (by omega)
      simp only [l11] at e1
      have hb2 := lenS_bd hr hp
      have hb3 : sm (lenS r) x.Cells = rowT (lenS r) x := rfl
      unfold lenS at hb2
      have w1 : w64 (at11 r.Length x.Cells[k].Kind * (if (1 : Int) < madeS x.Cells[k] then madeS x.Cells[k] else 1)) = lenS r x.Cells[k] := w64_of (by omega) (by omega)
      have w2 : w64 (a' + lenS r x.Cells[k]) = a' + lenS r x.Cells[k] := w64_of (by unfold lenS; omega) (by omega)
      unfold cost_Need_l2
      simp only [dT (show (k : Int) < (x.Cells.length : Int) by omega), if_true, idxO_nat hk, Option.bind_some, makes_one hp, e1, w1, w2, w64_succ (show k < 9223372036854775807 by omega)]
    · unfold cost_Need_l2
      simp only [dF (show ¬ (x.Cells.length : Int) < (x.Cells.length : Int) by omega), Bool.false_eq_true, if_false]
      rfl
  have hrb := rows_bd (f := lenS r) (b := 200000000) (by omega) hc fun p hp => lenS_bd hr hp
  have houter : whileO (cost_Need_l3 c r) (0, 0) = some (0 + sm (rowT (lenS r)) c.Rows) := by
    refine loop_acc c.Rows (rowT (lenS r)) 0 (fun x hx => (rowT_bd (b := 200000000) (by omega) (chkR_mem hcr x hx) fun p hp => lenS_bd hr hp).1) ?_ ?_
    · intro k hk a ha1 ha2
      unfold cost_Need_l3
      simp only [dT (show (k : Int) < (c.Rows.length : Int) by omega), if_true, idxO_nat hk, Option.bind_some, hinner _ (List.getElem_mem hk) a ha1 (by omega), w64_succ (show k < 9223372036854775807 by omega)]
    · unfold cost_Need_l3
      simp only [dF (show ¬ (c.Rows.length : Int) < (c.Rows.length : Int) by omega), Bool.false_eq_true, if_false]
  simp only [Option.bind_some, houter, h4, Int.zero_add]
  rfl

end Go.Proofs.Ytdbgkakmhlmpbaa
namespace Go.Proofs.Ytdbgkakmhlmpbaa
open Go.RowKit
set_option linter.unusedVariables false

noncomputable def raddleref45_Great_l1 (p0 : api_Chart) : Int → Option (Int ⊕ (Bool ⊕ Unit)) := fun s0 => match s0 with
  | s10 =>
    if decide (s10 < (p0.Rows.length : Int)) then
      Option.bind (idxO p0.Rows s10) fun x19 =>
      if decide (60 < (x19.Cells.length : Int)) then
        some (.inr (.inl true))
      else
        some (.inl (w64 (s10 + 1)))
    else
      some (.inr (.inr ()))
noncomputable def F_raddleref45_Great (p0 : api_Chart) : Option Bool :=
  Option.bind (α := Unit ⊕ Bool) (
    Option.bind (whileO (raddleref45_Great_l1 p0) 0) fun z0 => match z0 with
      | .inl z =>
        some (.inr z)
      | .inr _ =>
        some (.inl ())) fun z0 => match z0 with
    | .inl _ =>
      Option.bind (α := Bool) (
        if decide (20 < (p0.Rows.length : Int)) then
          if decide ((p0.Rows.length : Int) ≤ 100) then
            some true
          else
            some (decide (110 < (p0.Rows.length : Int)))
        else
          some (decide (110 < (p0.Rows.length : Int)))) fun o30 =>
      some o30
    | .inr z =>
      some z
set_option maxHeartbeats 4000000 in
set_option maxRecDepth 100000 in
theorem c_raddleref45_Great (E : Nat → Prop) (w0 : World) (p0 : api_Chart) (v0 : Value) (r : Bool) (h : F_raddleref45_Great p0 = some r) (S : St0 E [] w0 w0 [] [fRep r_api_Chart (v0) p0]) :
    Calls Try.prog 14 #[v0] w0 (Ret (X := Unit) E [] w0 (fun _ => .bool r) (fun _ => []) (fun _ => [])) := by
  unfold F_raddleref45_Great at h
  obtain ⟨u1, rfl, hu2⟩ := S.know (i := 0) (e := fRep r_api_Chart (v0) p0) rfl
  have S := S.learn (fRep (rL r_api_Row) u1 p0.Rows) hu2
  obtain ⟨ad3, cp4, _, rfl, _⟩ := hu2
  refine sEnter (args := [.agg #[iv p0.Start, .slice ad3 p0.Rows.length cp4]]) 35 Try.func14 rfl rfl (by simp) S (fun a S => ?_)
  refine sSeq (fun K5 hK5 => ?_)
  refine sRegion ?_
  refine sBox (v := .agg #[iv p0.Start, .slice ad3 p0.Rows.length cp4]) S (wN rfl) rfl rfl [iv p0.Start, .slice ad3 p0.Rows.length cp4] rfl rfl (lb rfl) fun a b6 w S => ?_
  refine sMove (.bool false) S (wN rfl) (.inr rfl) rfl rfl (lb rfl) fun a S => ?_
  refine leafL (leafT (hK5 _ _ ?_))
  obtain ⟨t7, h, g8⟩ := bindSome h
  refine sCut (fun a w => .inl () = t7 ∧ St [] E [] w0 35 a w [(1, .pointer (some ⟨b6, 0, none⟩))] [eBox b6 41 [iv p0.Start, .slice ad3 p0.Rows.length cp4]] [fRep (rL r_api_Row) (.slice ad3 p0.Rows.length cp4) p0.Rows]) ?_ (fun a w hI => ?_)
  · refine sSeq (fun K9 hK9 => ?_)
    refine sRegion ?_
    refine sMove (iv 0) S (wN rfl) (.inr rfl) rfl rfl (lb rfl) fun a S => ?_
    refine leafL (leafT (hK9 _ _ ?_))
    refine wp_block ?_
    obtain ⟨t13, hl, g12⟩ := bindSome h
    refine sLoop hl (fun s0 a w => match s0 with | s10 => St [] E [] w0 35 a w [(1, .pointer (some ⟨b6, 0, none⟩)), (3, iv s10)] [eBox b6 41 [iv p0.Start, .slice ad3 p0.Rows.length cp4]] [fRep (rL r_api_Row) (.slice ad3 p0.Rows.length cp4) p0.Rows]) (S.fix [0] [0] (by decide) rfl rfl rfl) ?_
    clear hl h
    intro s10 a w c0 hI h hu11
    unfold raddleref45_Great_l1 at h
    dsimp only at h hI
    have S := hI
    refine sSeq (fun K14 hK14 => ?_)
    refine sSeq (fun K15 hK15 => ?_)
    refine sRegion ?_
    refine sMove (iv s10) S (wN rfl) (.inl rfl) rfl rfl (lb rfl) fun a S => ?_
    refine sField (b := b6) (off := 0) 1 1 S (wN rfl) rfl rfl rfl rfl rfl (lb rfl) fun a S => ?_
    refine sLoad1 (p := b6) (off := 1) (T := 41) (vs := [iv p0.Start, .slice ad3 p0.Rows.length cp4]) 0 (.slice ad3 p0.Rows.length cp4) S (wN rfl) rfl rfl rfl rfl rfl rfl (lb rfl) fun a S => ?_
    refine sLen (ad := ad3) (m := p0.Rows.length) (c := cp4) S (wN rfl) rfl Try.underlying39 rfl rfl (lb rfl) fun a S => ?_
    refine sBin (.bool (decide (s10 < (p0.Rows.length : Int)))) S (wN rfl) rfl rfl rfl (bLt _ _ _ _ .i64 s10 (p0.Rows.length : Int)) rfl (lb rfl) fun a S => ?_
    refine leafL (leafT (hK15 _ _ ?_))
    rcases iteSome h with ⟨hc16, h⟩ | ⟨hc16, h⟩
    rotate_left
    · refine sCondF S rfl hc16 ?_
      obtain rfl := Option.some.inj h
      obtain rfl := hu11 _ rfl
      have h := g12
      clear g12
      try dsimp only at h
      exact wp_exit (xThen (xThen (xHit (leafT (⟨Option.some.inj h, S.fix [0] [0] (by decide) rfl rfl rfl⟩)))))
    refine sCondT S rfl hc16 ?_
    refine wp_skip (leafT (hK14 _ _ ?_))
    refine sSeq (fun K17 hK17 => ?_)
    refine wp_block ?_
    refine sSeq (fun K18 hK18 => ?_)
    refine sRegion ?_
    refine sField (b := b6) (off := 0) 1 1 S (wN rfl) rfl rfl rfl rfl rfl (lb rfl) fun a S => ?_
    refine sLoad1 (p := b6) (off := 1) (T := 41) (vs := [iv p0.Start, .slice ad3 p0.Rows.length cp4]) 0 (.slice ad3 p0.Rows.length cp4) S (wN rfl) rfl rfl rfl rfl rfl rfl (lb rfl) fun a S => ?_
    refine sMove (iv s10) S (wN rfl) (.inl rfl) rfl rfl (lb rfl) fun a S => ?_
    obtain ⟨x19, hx20, h⟩ := bindSome h
    obtain ⟨q21, hq22, S⟩ := pIdx (P := Try.prog) (r := r_api_Row) (v := .slice ad3 p0.Rows.length cp4) (xs := p0.Rows) (j := s10) 39 72 0 S Try.underlying39 rfl rfl hx20
    refine sIdxV (v := .slice ad3 p0.Rows.length cp4) (k := .i64) (j := s10) S (wN rfl) rfl rfl rfl hq22 rfl (lb rfl) fun a S => ?_
    obtain ⟨q23, hq24, S⟩ := pFld (P := Try.prog) (r := r_api_Row) (s2 := (rL r_api_Stitch)) (g := (·.Cells)) (q := q21) (z := x19) 72 1 0 1 S rfl rfl comp_api_Row_Cells
    refine sFldV (q := q21) S (wN rfl) rfl rfl hq24 rfl (lb rfl) fun a S => ?_
    obtain ⟨u25, S⟩ := pLoad (r := (rL r_api_Stitch)) (q := q23) (x := x19.Cells) 0 S rfl
    obtain ⟨ad26, cp27, _, rfl, _⟩ := S.mem.know (i := 1) (e := fRep (rL r_api_Stitch) (u25) x19.Cells) rfl
    refine sLoadV1 (vq := q23) 0 (.slice ad26 x19.Cells.length cp27) S (wN rfl) rfl rfl rfl rfl rfl (lb rfl) fun a S => ?_
    refine sLen (ad := ad26) (m := x19.Cells.length) (c := cp27) S (wN rfl) rfl Try.underlying70 rfl rfl (lb rfl) fun a S => ?_
    refine sBin (.bool (decide (60 < (x19.Cells.length : Int)))) S (wN rfl) rfl rfl rfl (bGt _ _ _ _ .i64 (x19.Cells.length : Int) 60) rfl (lb rfl) fun a S => ?_
    refine leafL (leafT (hK18 _ _ ?_))
    rcases iteSome h with ⟨hc28, h⟩ | ⟨hc28, h⟩
    rotate_left
    · refine sCondF S rfl hc28 ?_
      refine wp_skip (leafB (leafT (hK17 _ _ ?_)))
      refine sRegion ?_
      refine sMove (iv s10) S (wN rfl) (.inl rfl) rfl rfl (lb rfl) fun a S => ?_
      refine sBin (iv (w64 (s10 + 1))) S (wN rfl) rfl rfl rfl (bAdd _ _ _ _ s10 1) rfl (lb rfl) fun a S => ?_
      refine sMove (iv (w64 (s10 + 1))) S (wN rfl) (.inr rfl) rfl rfl (lb rfl) fun a S => ?_
      exact leafL (leafT (⟨w64 (s10 + 1), (Option.some.inj h).symm, (S.fix [0] [4] (by decide) rfl rfl rfl)⟩))
    refine sCondT S rfl hc28 ?_
    refine sSeq (fun K29 hK29 => ?_)
    refine sRegion ?_
    refine sMove (.bool true) S (wN rfl) (.inr rfl) rfl rfl (lb rfl) fun a S => ?_
    refine leafL (leafT (hK29 _ _ ?_))
    obtain rfl := Option.some.inj h
    obtain rfl := hu11 _ rfl
    have h := g12
    clear g12
    try dsimp only at h
    obtain rfl := Option.some.inj h
    have h := g8
    clear g8
    try dsimp only at h
    obtain rfl := Option.some.inj h
    exact wp_ret (rBlock (rThen (rThen (rBlock (rThen (sRet (.bool true) S (rsl1 rfl (rvT (t := 2) (v := .bool true) S rfl)) ⟨(), rfl, S.mem.sel [] [] (by decide) rfl rfl⟩))))))
  obtain ⟨rfl, S⟩ := hI
  have h := g8
  clear g8
  try dsimp only at h
  obtain ⟨t31, h, g32⟩ := bindSome h
  refine sCut (fun a w => ∃ o30, o30 = t31 ∧ St [] E [] w0 35 a w [(2, .bool o30)] [] []) ?_ (fun a w hI => ?_)
  rotate_left
  · obtain ⟨o30, rfl, S⟩ := hI
    have h := g32
    clear g32
    try dsimp only at h
    obtain rfl := Option.some.inj h
    exact wp_ret (sRet (.bool o30) S (rsl1 rfl (rvT (t := 2) (v := .bool o30) S rfl)) ⟨(), rfl, S.mem.sel [] [] (by decide) rfl rfl⟩)
  refine sRegion ?_
  refine sField (b := b6) (off := 0) 1 1 S (wN rfl) rfl rfl rfl rfl rfl (lb rfl) fun a S => ?_
  refine sLoad1 (p := b6) (off := 1) (T := 41) (vs := [iv p0.Start, .slice ad3 p0.Rows.length cp4]) 0 (.slice ad3 p0.Rows.length cp4) S (wN rfl) rfl rfl rfl rfl rfl rfl (lb rfl) fun a S => ?_
  refine sLen (ad := ad3) (m := p0.Rows.length) (c := cp4) S (wN rfl) rfl Try.underlying39 rfl rfl (lb rfl) fun a S => ?_
  refine sBin (.bool (decide (20 < (p0.Rows.length : Int)))) S (wN rfl) rfl rfl rfl (bGt _ _ _ _ .i64 (p0.Rows.length : Int) 20) rfl (lb rfl) fun a S => ?_
  refine sMove (.bool (decide (20 < (p0.Rows.length : Int)))) S (wN rfl) (.inl rfl) rfl rfl (lb rfl) fun a S => ?_
  rcases iteSome h with ⟨hc33, h⟩ | ⟨hc33, h⟩
  rotate_left
  · refine sSkip 4 true 23 24 S rfl rfl rfl hc33 rfl (lb rfl) fun a S => ?_
    refine sSkip 4 true 23 25 S rfl rfl rfl hc33 rfl (lb rfl) fun a S => ?_
    refine sSkip 4 true 23 26 S rfl rfl rfl hc33 rfl (lb rfl) fun a S => ?_
    refine sSkip 4 true 23 27 S rfl rfl rfl hc33 rfl (lb rfl) fun a S => ?_
    refine sPickF (.bool false) S (wN rfl) rfl rfl hc33 rfl rfl (lb rfl) fun a S => ?_
    refine sMove (.bool false) S (wN rfl) (.inl rfl) rfl rfl (lb rfl) fun a S => ?_
    refine sField (b := b6) (off := 0) 1 1 S (wG 10 false 29 rfl rfl rfl rfl) rfl rfl rfl rfl rfl (lb rfl) fun a S => ?_
    refine sLoad1 (p := b6) (off := 1) (T := 41) (vs := [iv p0.Start, .slice ad3 p0.Rows.length cp4]) 0 (.slice ad3 p0.Rows.length cp4) S (wG 10 false 29 rfl rfl rfl rfl) rfl rfl rfl rfl rfl rfl (lb rfl) fun a S => ?_
    refine sLen (ad := ad3) (m := p0.Rows.length) (c := cp4) S (wG 10 false 29 rfl rfl rfl rfl) rfl Try.underlying39 rfl rfl (lb rfl) fun a S => ?_
    refine sBin (.bool (decide (110 < (p0.Rows.length : Int)))) S (wG 10 false 29 rfl rfl rfl rfl) rfl rfl rfl (bGt _ _ _ _ .i64 (p0.Rows.length : Int) 110) rfl (lb rfl) fun a S => ?_
    refine sPickF (.bool (decide (110 < (p0.Rows.length : Int)))) S (wN rfl) rfl rfl rfl rfl rfl (lb rfl) fun a S => ?_
    refine sMove (.bool (decide (110 < (p0.Rows.length : Int)))) S (wN rfl) (.inr rfl) rfl rfl (lb rfl) fun a S => ?_
    exact leafL (leafT (⟨decide (110 < (p0.Rows.length : Int)), Option.some.inj h, S.fix [] [] (by decide) rfl rfl rfl⟩))
  refine sField (b := b6) (off := 0) 1 1 S (wG 4 true 23 rfl rfl rfl hc33) rfl rfl rfl rfl rfl (lb rfl) fun a S => ?_
  refine sLoad1 (p := b6) (off := 1) (T := 41) (vs := [iv p0.Start, .slice ad3 p0.Rows.length cp4]) 0 (.slice ad3 p0.Rows.length cp4) S (wG 4 true 23 rfl rfl rfl hc33) rfl rfl rfl rfl rfl rfl (lb rfl) fun a S => ?_
  refine sLen (ad := ad3) (m := p0.Rows.length) (c := cp4) S (wG 4 true 23 rfl rfl rfl hc33) rfl Try.underlying39 rfl rfl (lb rfl) fun a S => ?_
  refine sBin (.bool (decide ((p0.Rows.length : Int) ≤ 100))) S (wG 4 true 23 rfl rfl rfl hc33) rfl rfl rfl (bLe _ _ _ _ .i64 (p0.Rows.length : Int) 100) rfl (lb rfl) fun a S => ?_
  refine sPickT (.bool (decide ((p0.Rows.length : Int) ≤ 100))) S (wN rfl) rfl rfl hc33 rfl rfl (lb rfl) fun a S => ?_
  refine sMove (.bool (decide ((p0.Rows.length : Int) ≤ 100))) S (wN rfl) (.inl rfl) rfl rfl (lb rfl) fun a S => ?_
  rcases iteSome h with ⟨hc34, h⟩ | ⟨hc34, h⟩
  · refine sSkip 10 false 29 30 S rfl rfl rfl hc34 rfl (lb rfl) fun a S => ?_
    refine sSkip 10 false 29 31 S rfl rfl rfl hc34 rfl (lb rfl) fun a S => ?_
    refine sSkip 10 false 29 32 S rfl rfl rfl hc34 rfl (lb rfl) fun a S => ?_
    refine sSkip 10 false 29 33 S rfl rfl rfl hc34 rfl (lb rfl) fun a S => ?_
    refine sPickT (.bool true) S (wN rfl) rfl rfl hc34 rfl rfl (lb rfl) fun a S => ?_
    refine sMove (.bool true) S (wN rfl) (.inr rfl) rfl rfl (lb rfl) fun a S => ?_
    exact leafL (leafT (⟨true, Option.some.inj h, S.fix [] [] (by decide) rfl rfl rfl⟩))
  refine sField (b := b6) (off := 0) 1 1 S (wG 10 false 29 rfl rfl rfl hc34) rfl rfl rfl rfl rfl (lb rfl) fun a S => ?_
  refine sLoad1 (p := b6) (off := 1) (T := 41) (vs := [iv p0.Start, .slice ad3 p0.Rows.length cp4]) 0 (.slice ad3 p0.Rows.length cp4) S (wG 10 false 29 rfl rfl rfl hc34) rfl rfl rfl rfl rfl rfl (lb rfl) fun a S => ?_
  refine sLen (ad := ad3) (m := p0.Rows.length) (c := cp4) S (wG 10 false 29 rfl rfl rfl hc34) rfl Try.underlying39 rfl rfl (lb rfl) fun a S => ?_
  refine sBin (.bool (decide (110 < (p0.Rows.length : Int)))) S (wG 10 false 29 rfl rfl rfl hc34) rfl rfl rfl (bGt _ _ _ _ .i64 (p0.Rows.length : Int) 110) rfl (lb rfl) fun a S => ?_
  refine sPickF (.bool (decide (110 < (p0.Rows.length : Int)))) S (wN rfl) rfl rfl hc34 rfl rfl (lb rfl) fun a S => ?_
  refine sMove (.bool (decide (110 < (p0.Rows.length : Int)))) S (wN rfl) (.inr rfl) rfl rfl (lb rfl) fun a S => ?_
  exact leafL (leafT (⟨decide (110 < (p0.Rows.length : Int)), Option.some.inj h, S.fix [] [] (by decide) rfl rfl rfl⟩))

end Go.Proofs.Ytdbgkakmhlmpbaa
namespace Go.Proofs.Ytdbgkakmhlmpbaa
open Go.RowKit
set_option linter.unusedVariables false

end Go.Proofs.Ytdbgkakmhlmpbaa
namespace Go.Proofs.Ytdbgkakmhlmpbaa
open Go.RowKit
set_option linter.unusedVariables false

end Go.Proofs.Ytdbgkakmhlmpbaa
namespace Go.Proofs.Ytdbgkakmhlmpbaa
open Go.RowKit
set_option linter.unusedVariables false

end Go.Proofs.Ytdbgkakmhlmpbaa
namespace Go.Proofs.Ytdbgkakmhlmpbaa
open Go.RowKit
set_option linter.unusedVariables false

end Go.Proofs.Ytdbgkakmhlmpbaa
namespace Go.Proofs.Ytdbgkakmhlmpbaa
open Go.RowKit
set_option linter.unusedVariables false

end Go.Proofs.Ytdbgkakmhlmpbaa
namespace Go.Proofs.Ytdbgkakmhlmpbaa
open Go.RowKit
set_option linter.unusedVariables false

theorem great_some (c : api_Chart) (hl : c.Rows.length ≤ 9223372036854775807) : ∃ b, F_raddleref45_Great c = some b := by
  have hloop : whileO (raddleref45_Great_l1 c) 0 = some (if (List.range c.Rows.length).all (fun k => decide ((c.Rows.getD k ⟨false, []⟩).Cells.length ≤ 60)) = true then .inr () else .inl true) := by
    refine loop_all c.Rows.length _ _ _ ?_ ?_
    · intro k hk
      unfold raddleref45_Great_l1
      simp only [dT (show (k : Int) < (c.Rows.length : Int) by omega), if_true, idxO_nat hk, Option.bind_some, w64_succ (show k < 9223372036854775807 by omega), getD_of _ hk]
      by_cases hc : c.Rows[k].Cells.length ≤ 60
      · simp only [dF (show ¬ (60 : Int) < (c.Rows[k].Cells.length : Int) by omega), Bool.false_eq_true, if_false, dT hc, if_true]
      · simp only [dT (show (60 : Int) < (c.Rows[k].Cells.length : Int) by omega), if_true, dF hc, Bool.false_eq_true, if_false]
    · unfold raddleref45_Great_l1
      simp only [dF (show ¬ (c.Rows.length : Int) < (c.Rows.length : Int) by omega), Bool.false_eq_true, if_false]
  unfold F_raddleref45_Great
  rw [hloop]
  cases (List.range c.Rows.length).all (fun k => decide ((c.Rows.getD k ⟨false, []⟩).Cells.length ≤ 60)) with
  | false => exact ⟨_, rfl⟩
  | true =>
    simp only [if_true, Option.bind_some]
    by_cases c1 : (20 : Int) < (c.Rows.length : Int)
    · by_cases c2 : (c.Rows.length : Int) ≤ 100
      · simp only [dT c1, dT c2, if_true, Option.bind_some]; exact ⟨_, rfl⟩
      · simp only [dT c1, dF c2, if_true, Bool.false_eq_true, if_false, Option.bind_some]; exact ⟨_, rfl⟩
    · simp only [dF c1, Bool.false_eq_true, if_false, Option.bind_some]; exact ⟨_, rfl⟩
end Go.Proofs.Ytdbgkakmhlmpbaa
namespace Go.Proofs.Ytdbgkakmhlmpbaa
open Go.RowKit
set_option linter.unusedVariables false

def anc_raddlelaw45_CostWorks_0 : List (List Nat) := [[], [0], [], [2], [], [2, 3, 4], [2, 3, 4, 5], [], [7], [2, 3, 4, 5, 6, 7, 8], [0, 1, 2, 3, 4, 5, 6, 7, 8, 9], [0, 1, 2, 3, 4, 5, 6, 7, 8, 9, 10], [0, 1, 2, 3, 4, 5, 6, 7, 8, 9, 10, 11]]
def anc_raddlelaw45_CostWorks_1 : List (List Nat) := [[], [0], [], [2], [], [2, 3, 4], [2, 3, 4, 5], [0, 1, 2, 3, 4, 5, 6], [0, 1, 2, 3, 4, 5, 6, 7], [0, 1, 2, 3, 4, 5, 6, 7, 8]]
noncomputable def raddlelaw45_CostWorks_l1 (p0 : api_Chart) (s45 : Int) (p1 : api_Rates) : (Int × Int × Int) → Option ((Int × Int × Int) ⊕ (Bool ⊕ (Int × Int))) := fun s0 => match s0 with
  | (s62, s63, s64) =>
    Option.bind (idxO p0.Rows s45) fun x72 =>
    if decide (s62 < (x72.Cells.length : Int)) then
      Option.bind (idxO x72.Cells s62) fun x91 =>
      Option.bind (F_stitch_Makes [x91]) fun r100 =>
      Option.bind (α := Bool) (
        if r100.2 != 0 then
          some true
        else
          some (decide (10 < x91.Kind))) fun o103 =>
      if o103 then
        some (.inr (.inl false))
      else
        Option.bind (idxO ([p1.Length.1, p1.Length.2.1, p1.Length.2.2.1, p1.Length.2.2.2.1, p1.Length.2.2.2.2.1, p1.Length.2.2.2.2.2.1, p1.Length.2.2.2.2.2.2.1, p1.Length.2.2.2.2.2.2.2.1, p1.Length.2.2.2.2.2.2.2.2.1, p1.Length.2.2.2.2.2.2.2.2.2.1, p1.Length.2.2.2.2.2.2.2.2.2.2] : List Int) x91.Kind) fun x110 =>
        Option.bind (idxO ([p1.Time.1, p1.Time.2.1, p1.Time.2.2.1, p1.Time.2.2.2.1, p1.Time.2.2.2.2.1, p1.Time.2.2.2.2.2.1, p1.Time.2.2.2.2.2.2.1, p1.Time.2.2.2.2.2.2.2.1, p1.Time.2.2.2.2.2.2.2.2.1, p1.Time.2.2.2.2.2.2.2.2.2.1, p1.Time.2.2.2.2.2.2.2.2.2.2] : List Int) x91.Kind) fun x112 =>
        some (.inl (w64 (s62 + 1), w64 (s63 + (w64 (x110 * (if (1 : Int) < r100.1 then r100.1 else 1)))), w64 (s64 + x112)))
    else
      some (.inr (.inr (s63, s64)))
noncomputable def raddlelaw45_CostWorks_l2 (p0 : api_Chart) (p1 : api_Rates) : (Int × Int × Int) → Option ((Int × Int × Int) ⊕ (Bool ⊕ (Int × Int))) := fun s0 => match s0 with
  | (s45, s46, s47) =>
    if decide (s45 < (p0.Rows.length : Int)) then
      Option.bind (α := (Int × Int) ⊕ Bool) (
        Option.bind (whileO (raddlelaw45_CostWorks_l1 p0 s45 p1) (0, s46, w64 (s47 + p1.Turn))) fun z0 => match z0 with
          | .inl z =>
            some (.inr z)
          | .inr (e68, e69) =>
            some (.inl (e68, e69))) fun z0 => match z0 with
        | .inl (o56, o57) =>
          some (.inl (w64 (s45 + 1), o56, o57))
        | .inr z =>
          some (.inr (.inl z))
    else
      some (.inr (.inr (s46, s47)))
noncomputable def F_raddlelaw45_CostWorks (p0 : api_Chart) (p1 : api_Rates) (p2 : api_Bill) (p3 : api_Bill) (p4 : api_Count) : Option Bool :=
  Option.bind (F_raddlelaw45_alive) fun r12 =>
  Option.bind (α := Bool) (
    Option.bind (F_raddleref45_Great p0) fun r18 =>
    if r18 then
      some true
    else
      Option.bind (F_raddleref26_Check p0) fun r21 =>
      if r21 != 0 then
        some true
      else
        Option.bind (F_raddleref45_Check p1) fun r24 =>
        if r24 != 0 then
          some true
        else
          if decide (p2.Length < 0) then
            some true
          else
            if decide (1000000000 < p2.Length) then
              some true
            else
              if decide (p3.Length < 0) then
                some true
              else
                if decide (1000000000 < p3.Length) then
                  some true
                else
                  some (!r12)) fun o15 =>
  if o15 then
    some r12
  else
    Option.bind (F_cost_Need p0 p1) fun r34 =>
    Option.bind (α := (Int × Int) ⊕ Bool) (
      Option.bind (whileO (raddlelaw45_CostWorks_l2 p0 p1) (0, 0, 0)) fun z0 => match z0 with
        | .inl z =>
          some (.inr z)
        | .inr (e51, e52) =>
          some (.inl (e51, e52))) fun z0 => match z0 with
      | .inl (o40, o41) =>
        Option.bind (α := Bool) (
          if r34.2 != 0 then
            some true
          else
            some (!((r34.1.Length == o40) && ((r34.1.Time == o41) && true)))) fun o115 =>
        if o115 then
          some false
        else
          Option.bind (F_cost_Weight p2 p4) fun r122 =>
          Option.bind (F_cost_Weight p3 p4) fun r127 =>
          Option.bind (F_cost_Weight (api_Bill.mk (w64 (p2.Length + p3.Length)) 0) p4) fun r132 =>
          Option.bind (α := Bool) (
            if r122.2 != 0 then
              some true
            else
              if r127.2 != 0 then
                some true
              else
                some (r132.2 != 0)) fun o137 =>
          if o137 then
            some r12
          else
            Option.bind (F_yarn_Add r122.1 r127.1) fun r145 =>
            Option.bind (α := Bool) (
              if r12 then
                if r145.2 == 0 then
                  some ((r145.1.Num == r132.1.Num) && ((r145.1.Den == r132.1.Den) && true))
                else
                  some false
              else
                some false) fun o149 =>
            some o149
      | .inr z =>
        some z
set_option maxHeartbeats 4000000 in
set_option maxRecDepth 100000 in
theorem c_raddlelaw45_CostWorks (E : Nat → Prop) (w0 : World) (p0 : api_Chart) (v0 : Value) (p1 : api_Rates) (v1 : Value) (p2 : api_Bill) (v2 : Value) (p3 : api_Bill) (v3 : Value) (p4 : api_Count) (v4 : Value) (r : Bool) (h : F_raddlelaw45_CostWorks p0 p1 p2 p3 p4 = some r) (S : St0 E [] w0 w0 [] [fRep r_api_Chart (v0) p0, fRep r_api_Rates (v1) p1, fRep r_api_Bill (v2) p2, fRep r_api_Bill (v3) p3, fRep r_api_Count (v4) p4]) :
    Calls Try.prog 8 #[v0, v1, v2, v3, v4] w0 (Ret (X := Unit) E [] w0 (fun _ => .bool r) (fun _ => []) (fun _ => [])) := by
  unfold F_raddlelaw45_CostWorks at h
  obtain ⟨u1, rfl, hu2⟩ := S.know (i := 0) (e := fRep r_api_Chart (v0) p0) rfl
  have S := S.learn (fRep (rL r_api_Row) u1 p0.Rows) hu2
  obtain ⟨ad3, cp4, _, rfl, _⟩ := hu2
  obtain rfl : v1 = gv_api_Rates p1 := S.know (i := 2) (e := fRep r_api_Rates (v1) p1) rfl
  obtain rfl : v2 = .agg #[iv p2.Length, iv p2.Time] := S.know (i := 3) (e := fRep r_api_Bill (v2) p2) rfl
  obtain rfl : v3 = .agg #[iv p3.Length, iv p3.Time] := S.know (i := 4) (e := fRep r_api_Bill (v3) p3) rfl
  obtain rfl : v4 = .agg #[.int .u8 p4.System, iv p4.N.Num, iv p4.N.Den] := S.know (i := 5) (e := fRep r_api_Count (v4) p4) rfl
  refine sEnter (args := [.agg #[iv p0.Start, .slice ad3 p0.Rows.length cp4], gv_api_Rates p1, .agg #[iv p2.Length, iv p2.Time], .agg #[iv p3.Length, iv p3.Time], .agg #[.int .u8 p4.System, iv p4.N.Num, iv p4.N.Den]]) 196 Try.func8 rfl rfl (by simp) S (fun a S => ?_)
  refine sSeq (fun K5 hK5 => ?_)
  refine sRegion ?_
  refine sBox (v := .agg #[iv p0.Start, .slice ad3 p0.Rows.length cp4]) S (wN rfl) rfl rfl [iv p0.Start, .slice ad3 p0.Rows.length cp4] rfl rfl (lb rfl) fun a b6 w S => ?_
  refine sBox (v := gv_api_Rates p1) S (wN rfl) rfl rfl (gl_api_Rates p1) rfl rfl (lb rfl) fun a b7 w S => ?_
  refine sBox (v := .agg #[iv p2.Length, iv p2.Time]) S (wN rfl) rfl rfl [iv p2.Length, iv p2.Time] rfl rfl (lb rfl) fun a b8 w S => ?_
  refine sBox (v := .agg #[iv p3.Length, iv p3.Time]) S (wN rfl) rfl rfl [iv p3.Length, iv p3.Time] rfl rfl (lb rfl) fun a b9 w S => ?_
  refine sBox (v := .agg #[.int .u8 p4.System, iv p4.N.Num, iv p4.N.Den]) S (wN rfl) rfl rfl [.int .u8 p4.System, iv p4.N.Num, iv p4.N.Den] rfl rfl (lb rfl) fun a b10 w S => ?_
  refine sMove (.bool false) S (wN rfl) (.inr rfl) rfl rfl (lb rfl) fun a S => ?_
  refine leafL (leafT (hK5 _ _ ?_))
  refine sSeq (fun K11 hK11 => ?_)
  refine sRegion ?_
  obtain ⟨r12, hx13, h⟩ := bindSome h
  have S1 := S.mem
  refine sCallQ (X := Unit) (f := 24) (vs := []) (val := fun _ => .bool r12) S (wN rfl) rfl callee24 rfl (S1.quiet [] rfl) (fun E1 w1 S1 => c_raddlelaw45_alive E1 w1  r12 hx13 S1) rfl (lb rfl) fun _ a w S => ?_
  refine sMove (.bool r12) S (wN rfl) (.inr rfl) rfl rfl (lb rfl) fun a S => ?_
  refine leafL (leafT (hK11 _ _ ?_))
  refine sSeq (fun K14 hK14 => ?_)
  obtain ⟨t16, h, g17⟩ := bindSome h
  refine sCut (fun a w => ∃ o15, o15 = t16 ∧ St [] E [] w0 196 a w [(5, .pointer (some ⟨b6, 0, none⟩)), (6, .pointer (some ⟨b7, 0, none⟩)), (7, .pointer (some ⟨b8, 0, none⟩)), (8, .pointer (some ⟨b9, 0, none⟩)), (9, .pointer (some ⟨b10, 0, none⟩)), (11, .bool r12), (64, .bool o15)] [eBox b6 41 [iv p0.Start, .slice ad3 p0.Rows.length cp4], eBox b7 44 (gl_api_Rates p1), eBox b8 23 [iv p2.Length, iv p2.Time], eBox b9 23 [iv p3.Length, iv p3.Time], eBox b10 27 [.int .u8 p4.System, iv p4.N.Num, iv p4.N.Den]] [fRep (rL r_api_Row) (.slice ad3 p0.Rows.length cp4) p0.Rows]) ?_ (fun a w hI => ?_)
  · refine sRegion ?_
    refine sLoadN (p := b6) (off := 0) (T := 41) (vs := [iv p0.Start, .slice ad3 p0.Rows.length cp4]) 4 [iv p0.Start, .slice ad3 p0.Rows.length cp4] S (wN rfl) rfl rfl rfl rfl rfl rfl rfl (lb rfl) fun a S => ?_
    obtain ⟨r18, hx19, h⟩ := bindSome h
    have S1 := S.mem
    refine sCallQ (X := Unit) (f := 14) (vs := [.agg #[iv p0.Start, .slice ad3 p0.Rows.length cp4]]) (val := fun _ => .bool r18) S (wN rfl) rfl callee14 rfl (S1.quiet [1] rfl) (fun E1 w1 S1 => c_raddleref45_Great E1 w1 p0 (.agg #[iv p0.Start, .slice ad3 p0.Rows.length cp4]) r18 hx19 S1) rfl (lb rfl) fun _ a w S => ?_
    refine sMove (.bool r18) S (wN rfl) (.inl rfl) rfl rfl (lb rfl) fun a S => ?_
    rcases iteSome h with ⟨hc20, h⟩ | ⟨hc20, h⟩
    · refine sSkip 2 false 31 32 S rfl rfl rfl hc20 rfl (lb rfl) fun a S => ?_
      refine sSkip 2 false 31 33 S rfl rfl rfl hc20 rfl (lb rfl) fun a S => ?_
      refine sSkip 2 false 31 34 S rfl rfl rfl hc20 rfl (lb rfl) fun a S => ?_
      refine sPickT (.bool true) S (wN rfl) rfl rfl hc20 rfl rfl (lb rfl) fun a S => ?_
      refine sMove (.bool true) S (wN rfl) (.inl rfl) rfl rfl (lb rfl) fun a S => ?_
      refine sSkip 7 false 36 37 S rfl rfl rfl rfl rfl (lb rfl) fun a S => ?_
      refine sSkip 7 false 36 38 S rfl rfl rfl rfl rfl (lb rfl) fun a S => ?_
      refine sSkip 7 false 36 39 S rfl rfl rfl rfl rfl (lb rfl) fun a S => ?_
      refine sPickT (.bool true) S (wN rfl) rfl rfl rfl rfl rfl (lb rfl) fun a S => ?_
      refine sMove (.bool true) S (wN rfl) (.inl rfl) rfl rfl (lb rfl) fun a S => ?_
      refine sSkip 12 false 41 42 S rfl rfl rfl rfl rfl (lb rfl) fun a S => ?_
      refine sSkip 12 false 41 43 S rfl rfl rfl rfl rfl (lb rfl) fun a S => ?_
      refine sSkip 12 false 41 44 S rfl rfl rfl rfl rfl (lb rfl) fun a S => ?_
      refine sPickT (.bool true) S (wN rfl) rfl rfl rfl rfl rfl (lb rfl) fun a S => ?_
      refine sMove (.bool true) S (wN rfl) (.inl rfl) rfl rfl (lb rfl) fun a S => ?_
      refine sSkip 17 false 46 47 S rfl rfl rfl rfl rfl (lb rfl) fun a S => ?_
      refine sSkip 17 false 46 48 S rfl rfl rfl rfl rfl (lb rfl) fun a S => ?_
      refine sSkip 17 false 46 49 S rfl rfl rfl rfl rfl (lb rfl) fun a S => ?_
      refine sPickT (.bool true) S (wN rfl) rfl rfl rfl rfl rfl (lb rfl) fun a S => ?_
      refine sMove (.bool true) S (wN rfl) (.inl rfl) rfl rfl (lb rfl) fun a S => ?_
      refine sSkip 22 false 51 52 S rfl rfl rfl rfl rfl (lb rfl) fun a S => ?_
      refine sSkip 22 false 51 53 S rfl rfl rfl rfl rfl (lb rfl) fun a S => ?_
      refine sSkip 22 false 51 54 S rfl rfl rfl rfl rfl (lb rfl) fun a S => ?_
      refine sPickT (.bool true) S (wN rfl) rfl rfl rfl rfl rfl (lb rfl) fun a S => ?_
      refine sMove (.bool true) S (wN rfl) (.inl rfl) rfl rfl (lb rfl) fun a S => ?_
      refine sSkip 27 false 56 57 S rfl rfl rfl rfl rfl (lb rfl) fun a S => ?_
      refine sSkip 27 false 56 58 S rfl rfl rfl rfl rfl (lb rfl) fun a S => ?_
      refine sSkip 27 false 56 59 S rfl rfl rfl rfl rfl (lb rfl) fun a S => ?_
      refine sPickT (.bool true) S (wN rfl) rfl rfl rfl rfl rfl (lb rfl) fun a S => ?_
      refine sMove (.bool true) S (wN rfl) (.inl rfl) rfl rfl (lb rfl) fun a S => ?_
      refine sSkip 32 false 61 62 S rfl rfl rfl rfl rfl (lb rfl) fun a S => ?_
      refine sSkip 32 false 61 63 S rfl rfl rfl rfl rfl (lb rfl) fun a S => ?_
      refine sPickT (.bool true) S (wN rfl) rfl rfl rfl rfl rfl (lb rfl) fun a S => ?_
      exact leafL (leafT (⟨true, Option.some.inj h, S.fix [4, 3, 2, 1, 0] [0] (by decide) rfl rfl rfl⟩))
    refine sLoadN (p := b6) (off := 0) (T := 41) (vs := [iv p0.Start, .slice ad3 p0.Rows.length cp4]) 4 [iv p0.Start, .slice ad3 p0.Rows.length cp4] S (wG 2 false 31 rfl rfl rfl hc20) rfl rfl rfl rfl rfl rfl rfl (lb rfl) fun a S => ?_
    obtain ⟨r21, hx22, h⟩ := bindSome h
    have S1 := S.mem
    refine sCallQ (X := Unit) (f := 30) (vs := [.agg #[iv p0.Start, .slice ad3 p0.Rows.length cp4]]) (val := fun _ => iv r21) S (wG 2 false 31 rfl rfl rfl hc20) rfl callee30 rfl (S1.quiet [1] rfl) (fun E1 w1 S1 => c_raddleref26_Check E1 w1 p0 (.agg #[iv p0.Start, .slice ad3 p0.Rows.length cp4]) r21 hx22 S1) rfl (lb rfl) fun _ a w S => ?_
    refine sBin (.bool (r21 != 0)) S (wG 2 false 31 rfl rfl rfl hc20) rfl rfl rfl (bNe _ _ _ _ .i64 r21 0) rfl (lb rfl) fun a S => ?_
    refine sPickF (.bool (r21 != 0)) S (wN rfl) rfl rfl hc20 rfl rfl (lb rfl) fun a S => ?_
    refine sMove (.bool (r21 != 0)) S (wN rfl) (.inl rfl) rfl rfl (lb rfl) fun a S => ?_
    rcases iteSome h with ⟨hc23, h⟩ | ⟨hc23, h⟩
    · refine sSkip 7 false 36 37 S rfl rfl rfl hc23 rfl (lb rfl) fun a S => ?_
      refine sSkip 7 false 36 38 S rfl rfl rfl hc23 rfl (lb rfl) fun a S => ?_
      refine sSkip 7 false 36 39 S rfl rfl rfl hc23 rfl (lb rfl) fun a S => ?_
      refine sPickT (.bool true) S (wN rfl) rfl rfl hc23 rfl rfl (lb rfl) fun a S => ?_
      refine sMove (.bool true) S (wN rfl) (.inl rfl) rfl rfl (lb rfl) fun a S => ?_
      refine sSkip 12 false 41 42 S rfl rfl rfl rfl rfl (lb rfl) fun a S => ?_
      refine sSkip 12 false 41 43 S rfl rfl rfl rfl rfl (lb rfl) fun a S => ?_
      refine sSkip 12 false 41 44 S rfl rfl rfl rfl rfl (lb rfl) fun a S => ?_
      refine sPickT (.bool true) S (wN rfl) rfl rfl rfl rfl rfl (lb rfl) fun a S => ?_
      refine sMove (.bool true) S (wN rfl) (.inl rfl) rfl rfl (lb rfl) fun a S => ?_
      refine sSkip 17 false 46 47 S rfl rfl rfl rfl rfl (lb rfl) fun a S => ?_
      refine sSkip 17 false 46 48 S rfl rfl rfl rfl rfl (lb rfl) fun a S => ?_
      refine sSkip 17 false 46 49 S rfl rfl rfl rfl rfl (lb rfl) fun a S => ?_
      refine sPickT (.bool true) S (wN rfl) rfl rfl rfl rfl rfl (lb rfl) fun a S => ?_
      refine sMove (.bool true) S (wN rfl) (.inl rfl) rfl rfl (lb rfl) fun a S => ?_
      refine sSkip 22 false 51 52 S rfl rfl rfl rfl rfl (lb rfl) fun a S => ?_
      refine sSkip 22 false 51 53 S rfl rfl rfl rfl rfl (lb rfl) fun a S => ?_
      refine sSkip 22 false 51 54 S rfl rfl rfl rfl rfl (lb rfl) fun a S => ?_
      refine sPickT (.bool true) S (wN rfl) rfl rfl rfl rfl rfl (lb rfl) fun a S => ?_
      refine sMove (.bool true) S (wN rfl) (.inl rfl) rfl rfl (lb rfl) fun a S => ?_
      refine sSkip 27 false 56 57 S rfl rfl rfl rfl rfl (lb rfl) fun a S => ?_
      refine sSkip 27 false 56 58 S rfl rfl rfl rfl rfl (lb rfl) fun a S => ?_
      refine sSkip 27 false 56 59 S rfl rfl rfl rfl rfl (lb rfl) fun a S => ?_
      refine sPickT (.bool true) S (wN rfl) rfl rfl rfl rfl rfl (lb rfl) fun a S => ?_
      refine sMove (.bool true) S (wN rfl) (.inl rfl) rfl rfl (lb rfl) fun a S => ?_
      refine sSkip 32 false 61 62 S rfl rfl rfl rfl rfl (lb rfl) fun a S => ?_
      refine sSkip 32 false 61 63 S rfl rfl rfl rfl rfl (lb rfl) fun a S => ?_
      refine sPickT (.bool true) S (wN rfl) rfl rfl rfl rfl rfl (lb rfl) fun a S => ?_
      exact leafL (leafT (⟨true, Option.some.inj h, S.fix [4, 3, 2, 1, 0] [0] (by decide) rfl rfl rfl⟩))
    refine sLoadN (p := b7) (off := 0) (T := 44) (vs := (gl_api_Rates p1)) 3 (gl_api_Rates p1) S (wG 7 false 36 rfl rfl rfl hc23) rfl rfl rfl rfl rfl rfl rfl (lb rfl) fun a S => ?_
    obtain ⟨r24, hx25, h⟩ := bindSome h
    have S1 := S.mem
    refine sCallQ (X := Unit) (f := 23) (vs := [gv_api_Rates p1]) (val := fun _ => iv r24) S (wG 7 false 36 rfl rfl rfl hc23) rfl callee23 rfl (S1.quiet [2] rfl) (fun E1 w1 S1 => c_raddleref45_Check E1 w1 p1 (gv_api_Rates p1) r24 hx25 S1) rfl (lb rfl) fun _ a w S => ?_
    refine sBin (.bool (r24 != 0)) S (wG 7 false 36 rfl rfl rfl hc23) rfl rfl rfl (bNe _ _ _ _ .i64 r24 0) rfl (lb rfl) fun a S => ?_
    refine sPickF (.bool (r24 != 0)) S (wN rfl) rfl rfl hc23 rfl rfl (lb rfl) fun a S => ?_
    refine sMove (.bool (r24 != 0)) S (wN rfl) (.inl rfl) rfl rfl (lb rfl) fun a S => ?_
    rcases iteSome h with ⟨hc26, h⟩ | ⟨hc26, h⟩
    · refine sSkip 12 false 41 42 S rfl rfl rfl hc26 rfl (lb rfl) fun a S => ?_
      refine sSkip 12 false 41 43 S rfl rfl rfl hc26 rfl (lb rfl) fun a S => ?_
      refine sSkip 12 false 41 44 S rfl rfl rfl hc26 rfl (lb rfl) fun a S => ?_
      refine sPickT (.bool true) S (wN rfl) rfl rfl hc26 rfl rfl (lb rfl) fun a S => ?_
      refine sMove (.bool true) S (wN rfl) (.inl rfl) rfl rfl (lb rfl) fun a S => ?_
      refine sSkip 17 false 46 47 S rfl rfl rfl rfl rfl (lb rfl) fun a S => ?_
      refine sSkip 17 false 46 48 S rfl rfl rfl rfl rfl (lb rfl) fun a S => ?_
      refine sSkip 17 false 46 49 S rfl rfl rfl rfl rfl (lb rfl) fun a S => ?_
      refine sPickT (.bool true) S (wN rfl) rfl rfl rfl rfl rfl (lb rfl) fun a S => ?_
      refine sMove (.bool true) S (wN rfl) (.inl rfl) rfl rfl (lb rfl) fun a S => ?_
      refine sSkip 22 false 51 52 S rfl rfl rfl rfl rfl (lb rfl) fun a S => ?_
      refine sSkip 22 false 51 53 S rfl rfl rfl rfl rfl (lb rfl) fun a S => ?_
      refine sSkip 22 false 51 54 S rfl rfl rfl rfl rfl (lb rfl) fun a S => ?_
      refine sPickT (.bool true) S (wN rfl) rfl rfl rfl rfl rfl (lb rfl) fun a S => ?_
      refine sMove (.bool true) S (wN rfl) (.inl rfl) rfl rfl (lb rfl) fun a S => ?_
      refine sSkip 27 false 56 57 S rfl rfl rfl rfl rfl (lb rfl) fun a S => ?_
      refine sSkip 27 false 56 58 S rfl rfl rfl rfl rfl (lb rfl) fun a S => ?_
      refine sSkip 27 false 56 59 S rfl rfl rfl rfl rfl (lb rfl) fun a S => ?_
      refine sPickT (.bool true) S (wN rfl) rfl rfl rfl rfl rfl (lb rfl) fun a S => ?_
      refine sMove (.bool true) S (wN rfl) (.inl rfl) rfl rfl (lb rfl) fun a S => ?_
      refine sSkip 32 false 61 62 S rfl rfl rfl rfl rfl (lb rfl) fun a S => ?_
      refine sSkip 32 false 61 63 S rfl rfl rfl rfl rfl (lb rfl) fun a S => ?_
      refine sPickT (.bool true) S (wN rfl) rfl rfl rfl rfl rfl (lb rfl) fun a S => ?_
      exact leafL (leafT (⟨true, Option.some.inj h, S.fix [4, 3, 2, 1, 0] [0] (by decide) rfl rfl rfl⟩))
    refine sField (b := b8) (off := 0) 0 0 S (wG 12 false 41 rfl rfl rfl hc26) rfl rfl rfl rfl rfl (lb rfl) fun a S => ?_
    refine sLoad1 (p := b8) (off := 0) (T := 23) (vs := [iv p2.Length, iv p2.Time]) 2 (iv p2.Length) S (wG 12 false 41 rfl rfl rfl hc26) rfl rfl rfl rfl rfl rfl (lb rfl) fun a S => ?_
    refine sBin (.bool (decide (p2.Length < 0))) S (wG 12 false 41 rfl rfl rfl hc26) rfl rfl rfl (bLt _ _ _ _ .i64 p2.Length 0) rfl (lb rfl) fun a S => ?_
    refine sPickF (.bool (decide (p2.Length < 0))) S (wN rfl) rfl rfl hc26 rfl rfl (lb rfl) fun a S => ?_
    refine sMove (.bool (decide (p2.Length < 0))) S (wN rfl) (.inl rfl) rfl rfl (lb rfl) fun a S => ?_
    rcases iteSome h with ⟨hc27, h⟩ | ⟨hc27, h⟩
    · refine sSkip 17 false 46 47 S rfl rfl rfl hc27 rfl (lb rfl) fun a S => ?_
      refine sSkip 17 false 46 48 S rfl rfl rfl hc27 rfl (lb rfl) fun a S => ?_
      refine sSkip 17 false 46 49 S rfl rfl rfl hc27 rfl (lb rfl) fun a S => ?_
      refine sPickT (.bool true) S (wN rfl) rfl rfl hc27 rfl rfl (lb rfl) fun a S => ?_
      refine sMove (.bool true) S (wN rfl) (.inl rfl) rfl rfl (lb rfl) fun a S => ?_
      refine sSkip 22 false 51 52 S rfl rfl rfl rfl rfl (lb rfl) fun a S => ?_
      refine sSkip 22 false 51 53 S rfl rfl rfl rfl rfl (lb rfl) fun a S => ?_
      refine sSkip 22 false 51 54 S rfl rfl rfl rfl rfl (lb rfl) fun a S => ?_
      refine sPickT (.bool true) S (wN rfl) rfl rfl rfl rfl rfl (lb rfl) fun a S => ?_
      refine sMove (.bool true) S (wN rfl) (.inl rfl) rfl rfl (lb rfl) fun a S => ?_
      refine sSkip 27 false 56 57 S rfl rfl rfl rfl rfl (lb rfl) fun a S => ?_
      refine sSkip 27 false 56 58 S rfl rfl rfl rfl rfl (lb rfl) fun a S => ?_
      refine sSkip 27 false 56 59 S rfl rfl rfl rfl rfl (lb rfl) fun a S => ?_
      refine sPickT (.bool true) S (wN rfl) rfl rfl rfl rfl rfl (lb rfl) fun a S => ?_
      refine sMove (.bool true) S (wN rfl) (.inl rfl) rfl rfl (lb rfl) fun a S => ?_
      refine sSkip 32 false 61 62 S rfl rfl rfl rfl rfl (lb rfl) fun a S => ?_
      refine sSkip 32 false 61 63 S rfl rfl rfl rfl rfl (lb rfl) fun a S => ?_
      refine sPickT (.bool true) S (wN rfl) rfl rfl rfl rfl rfl (lb rfl) fun a S => ?_
      exact leafL (leafT (⟨true, Option.some.inj h, S.fix [4, 3, 2, 1, 0] [0] (by decide) rfl rfl rfl⟩))
    refine sField (b := b8) (off := 0) 0 0 S (wG 17 false 46 rfl rfl rfl hc27) rfl rfl rfl rfl rfl (lb rfl) fun a S => ?_
    refine sLoad1 (p := b8) (off := 0) (T := 23) (vs := [iv p2.Length, iv p2.Time]) 2 (iv p2.Length) S (wG 17 false 46 rfl rfl rfl hc27) rfl rfl rfl rfl rfl rfl (lb rfl) fun a S => ?_
    refine sBin (.bool (decide (1000000000 < p2.Length))) S (wG 17 false 46 rfl rfl rfl hc27) rfl rfl rfl (bGt _ _ _ _ .i64 p2.Length 1000000000) rfl (lb rfl) fun a S => ?_
    refine sPickF (.bool (decide (1000000000 < p2.Length))) S (wN rfl) rfl rfl hc27 rfl rfl (lb rfl) fun a S => ?_
    refine sMove (.bool (decide (1000000000 < p2.Length))) S (wN rfl) (.inl rfl) rfl rfl (lb rfl) fun a S => ?_
    rcases iteSome h with ⟨hc28, h⟩ | ⟨hc28, h⟩
    · refine sSkip 22 false 51 52 S rfl rfl rfl hc28 rfl (lb rfl) fun a S => ?_
      refine sSkip 22 false 51 53 S rfl rfl rfl hc28 rfl (lb rfl) fun a S => ?_
      refine sSkip 22 false 51 54 S rfl rfl rfl hc28 rfl (lb rfl) fun a S => ?_
      refine sPickT (.bool true) S (wN rfl) rfl rfl hc28 rfl rfl (lb rfl) fun a S => ?_
      refine sMove (.bool true) S (wN rfl) (.inl rfl) rfl rfl (lb rfl) fun a S => ?_
      refine sSkip 27 false 56 57 S rfl rfl rfl rfl rfl (lb rfl) fun a S => ?_
      refine sSkip 27 false 56 58 S rfl rfl rfl rfl rfl (lb rfl) fun a S => ?_
      refine sSkip 27 false 56 59 S rfl rfl rfl rfl rfl (lb rfl) fun a S => ?_
      refine sPickT (.bool true) S (wN rfl) rfl rfl rfl rfl rfl (lb rfl) fun a S => ?_
      refine sMove (.bool true) S (wN rfl) (.inl rfl) rfl rfl (lb rfl) fun a S => ?_
      refine sSkip 32 false 61 62 S rfl rfl rfl rfl rfl (lb rfl) fun a S => ?_
      refine sSkip 32 false 61 63 S rfl rfl rfl rfl rfl (lb rfl) fun a S => ?_
      refine sPickT (.bool true) S (wN rfl) rfl rfl rfl rfl rfl (lb rfl) fun a S => ?_
      exact leafL (leafT (⟨true, Option.some.inj h, S.fix [4, 3, 2, 1, 0] [0] (by decide) rfl rfl rfl⟩))
    refine sField (b := b9) (off := 0) 0 0 S (wG 22 false 51 rfl rfl rfl hc28) rfl rfl rfl rfl rfl (lb rfl) fun a S => ?_
    refine sLoad1 (p := b9) (off := 0) (T := 23) (vs := [iv p3.Length, iv p3.Time]) 1 (iv p3.Length) S (wG 22 false 51 rfl rfl rfl hc28) rfl rfl rfl rfl rfl rfl (lb rfl) fun a S => ?_
    refine sBin (.bool (decide (p3.Length < 0))) S (wG 22 false 51 rfl rfl rfl hc28) rfl rfl rfl (bLt _ _ _ _ .i64 p3.Length 0) rfl (lb rfl) fun a S => ?_
    refine sPickF (.bool (decide (p3.Length < 0))) S (wN rfl) rfl rfl hc28 rfl rfl (lb rfl) fun a S => ?_
    refine sMove (.bool (decide (p3.Length < 0))) S (wN rfl) (.inl rfl) rfl rfl (lb rfl) fun a S => ?_
    rcases iteSome h with ⟨hc29, h⟩ | ⟨hc29, h⟩
    · refine sSkip 27 false 56 57 S rfl rfl rfl hc29 rfl (lb rfl) fun a S => ?_
      refine sSkip 27 false 56 58 S rfl rfl rfl hc29 rfl (lb rfl) fun a S => ?_
      refine sSkip 27 false 56 59 S rfl rfl rfl hc29 rfl (lb rfl) fun a S => ?_
      refine sPickT (.bool true) S (wN rfl) rfl rfl hc29 rfl rfl (lb rfl) fun a S => ?_
      refine sMove (.bool true) S (wN rfl) (.inl rfl) rfl rfl (lb rfl) fun a S => ?_
      refine sSkip 32 false 61 62 S rfl rfl rfl rfl rfl (lb rfl) fun a S => ?_
      refine sSkip 32 false 61 63 S rfl rfl rfl rfl rfl (lb rfl) fun a S => ?_
      refine sPickT (.bool true) S (wN rfl) rfl rfl rfl rfl rfl (lb rfl) fun a S => ?_
      exact leafL (leafT (⟨true, Option.some.inj h, S.fix [4, 3, 2, 1, 0] [0] (by decide) rfl rfl rfl⟩))
    refine sField (b := b9) (off := 0) 0 0 S (wG 27 false 56 rfl rfl rfl hc29) rfl rfl rfl rfl rfl (lb rfl) fun a S => ?_
    refine sLoad1 (p := b9) (off := 0) (T := 23) (vs := [iv p3.Length, iv p3.Time]) 1 (iv p3.Length) S (wG 27 false 56 rfl rfl rfl hc29) rfl rfl rfl rfl rfl rfl (lb rfl) fun a S => ?_
    refine sBin (.bool (decide (1000000000 < p3.Length))) S (wG 27 false 56 rfl rfl rfl hc29) rfl rfl rfl (bGt _ _ _ _ .i64 p3.Length 1000000000) rfl (lb rfl) fun a S => ?_
    refine sPickF (.bool (decide (1000000000 < p3.Length))) S (wN rfl) rfl rfl hc29 rfl rfl (lb rfl) fun a S => ?_
    refine sMove (.bool (decide (1000000000 < p3.Length))) S (wN rfl) (.inl rfl) rfl rfl (lb rfl) fun a S => ?_
    rcases iteSome h with ⟨hc30, h⟩ | ⟨hc30, h⟩
    · refine sSkip 32 false 61 62 S rfl rfl rfl hc30 rfl (lb rfl) fun a S => ?_
      refine sSkip 32 false 61 63 S rfl rfl rfl hc30 rfl (lb rfl) fun a S => ?_
      refine sPickT (.bool true) S (wN rfl) rfl rfl hc30 rfl rfl (lb rfl) fun a S => ?_
      exact leafL (leafT (⟨true, Option.some.inj h, S.fix [4, 3, 2, 1, 0] [0] (by decide) rfl rfl rfl⟩))
    refine sMove (.bool r12) S (wG 32 false 61 rfl rfl rfl hc30) (.inl rfl) rfl rfl (lb rfl) fun a S => ?_
    refine sNot (b := r12) S (wG 32 false 61 rfl rfl rfl hc30) rfl rfl rfl (lb rfl) fun a S => ?_
    refine sPickF (.bool (!r12)) S (wN rfl) rfl rfl hc30 rfl rfl (lb rfl) fun a S => ?_
    exact leafL (leafT (⟨!r12, Option.some.inj h, S.fix [4, 3, 2, 1, 0] [0] (by decide) rfl rfl rfl⟩))
  obtain ⟨o15, rfl, S⟩ := hI
  have h := g17
  clear g17
  try dsimp only at h
  rcases iteSome h with ⟨hc31, h⟩ | ⟨hc31, h⟩
  · refine sCondT S rfl hc31 ?_
    refine sSeq (fun K32 hK32 => ?_)
    refine sRegion ?_
    refine sMove (.bool r12) S (wN rfl) (.inl rfl) rfl rfl (lb rfl) fun a S => ?_
    refine sMove (.bool r12) S (wN rfl) (.inr rfl) rfl rfl (lb rfl) fun a S => ?_
    refine leafL (leafT (hK32 _ _ ?_))
    obtain rfl := Option.some.inj h
    exact wp_ret (rThen (sRet (.bool r12) S (rsl1 rfl (rvT (t := 10) (v := .bool r12) S rfl)) ⟨(), rfl, S.mem.sel [] [] (by decide) rfl rfl⟩))
  refine sCondF S rfl hc31 ?_
  refine wp_skip (leafT (hK14 _ _ ?_))
  refine sSeq (fun K33 hK33 => ?_)
  refine sRegion ?_
  refine sLoadN (p := b6) (off := 0) (T := 41) (vs := [iv p0.Start, .slice ad3 p0.Rows.length cp4]) 0 [iv p0.Start, .slice ad3 p0.Rows.length cp4] S (wN rfl) rfl rfl rfl rfl rfl rfl rfl (lb rfl) fun a S => ?_
  refine sLoadN (p := b7) (off := 0) (T := 44) (vs := (gl_api_Rates p1)) 1 (gl_api_Rates p1) S (wN rfl) rfl rfl rfl rfl rfl rfl rfl (lb rfl) fun a S => ?_
  obtain ⟨r34, hx35, h⟩ := bindSome h
  have S := S.learn (fRep r_api_Chart (.agg #[iv p0.Start, .slice ad3 p0.Rows.length cp4]) p0) ⟨_, rfl, S.mem.know (i := 0) (e := fRep (rL r_api_Row) (.slice ad3 p0.Rows.length cp4) p0.Rows) rfl⟩
  have S := S.learn (fRep r_api_Rates (gv_api_Rates p1) p1) rfl
  refine sCall (X := Value) (f := 18) (vs := [.agg #[iv p0.Start, .slice ad3 p0.Rows.length cp4], gv_api_Rates p1]) (val := c_cost_Need_val r34) (B' := fun _ => []) (D' := c_cost_Need_D r34) [] [eBox b6 41 [iv p0.Start, .slice ad3 p0.Rows.length cp4], eBox b7 44 (gl_api_Rates p1), eBox b8 23 [iv p2.Length, iv p2.Time], eBox b9 23 [iv p3.Length, iv p3.Time], eBox b10 27 [.int .u8 p4.System, iv p4.N.Num, iv p4.N.Den]] [fRep r_api_Chart (.agg #[iv p0.Start, .slice ad3 p0.Rows.length cp4]) p0, fRep r_api_Rates (gv_api_Rates p1) p1] [0, 1, 2, 3, 4] [1, 0] S (wN rfl) rfl callee18 rfl (by decide) rfl rfl (fun E1 w1 S1 => c_cost_Need E1 w1 p0 (.agg #[iv p0.Start, .slice ad3 p0.Rows.length cp4]) p1 (gv_api_Rates p1) r34 hx35 S1) rfl (lb rfl) fun u36 a w S => ?_
  obtain rfl : u36 = .agg #[iv r34.1.Length, iv r34.1.Time] := S.mem.know (i := 0) (e := fRep r_api_Bill (u36) r34.1) rfl
  refine sMove (.tuple #[.agg #[iv r34.1.Length, iv r34.1.Time], iv r34.2]) S (wN rfl) (.inl rfl) rfl rfl (lb rfl) fun a S => ?_
  refine sExtract (vs := [.agg #[iv r34.1.Length, iv r34.1.Time], iv r34.2]) (.agg #[iv r34.1.Length, iv r34.1.Time]) S (wN rfl) rfl rfl rfl rfl (lb rfl) fun a S => ?_
  refine sExtract (vs := [.agg #[iv r34.1.Length, iv r34.1.Time], iv r34.2]) (iv r34.2) S (wN rfl) rfl rfl rfl rfl (lb rfl) fun a S => ?_
  refine sAlloc (.agg #[iv 0, iv 0]) S (wN rfl) rfl rfl [iv 0, iv 0] rfl rfl (lb rfl) fun a b37 w S => ?_
  refine sStore (p := b37) (off := 0) (T := 23) (vs := [iv 0, iv 0]) (v := .agg #[iv r34.1.Length, iv r34.1.Time]) 0 [iv r34.1.Length, iv r34.1.Time] S (wN rfl) rfl rfl rfl rfl rfl rfl rfl (by simp) rfl fun a w S => ?_
  refine sMove (iv r34.2) S (wN rfl) (.inr rfl) rfl rfl (lb rfl) fun a S => ?_
  refine leafL (leafT (hK33 _ _ ?_))
  refine sSeq (fun K38 hK38 => ?_)
  refine sRegion ?_
  refine sAlloc (.agg #[iv 0, iv 0]) S (wN rfl) rfl rfl [iv 0, iv 0] rfl rfl (lb rfl) fun a b39 w S => ?_
  refine leafL (leafT (hK38 _ _ ?_))
  obtain ⟨t42, h, g43⟩ := bindSome h
  refine sCut (fun a w => ∃ o40, ∃ o41, .inl (o40, o41) = t42 ∧ St [] E [] w0 196 a w [(7, .pointer (some ⟨b8, 0, none⟩)), (8, .pointer (some ⟨b9, 0, none⟩)), (9, .pointer (some ⟨b10, 0, none⟩)), (11, .bool r12), (12, .pointer (some ⟨b37, 0, none⟩)), (13, iv r34.2), (14, .pointer (some ⟨b39, 0, none⟩))] [eBox b8 23 [iv p2.Length, iv p2.Time], eBox b9 23 [iv p3.Length, iv p3.Time], eBox b10 27 [.int .u8 p4.System, iv p4.N.Num, iv p4.N.Den], eBox b37 23 [iv r34.1.Length, iv r34.1.Time], eBox b39 23 [iv o40, iv o41]] []) ?_ (fun a w hI => ?_)
  rotate_left
  · obtain ⟨o40, o41, rfl, S⟩ := hI
    have h := g43
    clear g43
    try dsimp only at h
    refine sSeq (fun K114 hK114 => ?_)
    obtain ⟨t116, h, g117⟩ := bindSome h
    refine sCut (fun a w => ∃ o115, o115 = t116 ∧ St [] E [] w0 196 a w [(7, .pointer (some ⟨b8, 0, none⟩)), (8, .pointer (some ⟨b9, 0, none⟩)), (9, .pointer (some ⟨b10, 0, none⟩)), (11, .bool r12), (145, .bool o115)] [eBox b8 23 [iv p2.Length, iv p2.Time], eBox b9 23 [iv p3.Length, iv p3.Time], eBox b10 27 [.int .u8 p4.System, iv p4.N.Num, iv p4.N.Den]] []) ?_ (fun a w hI => ?_)
    · refine sRegion ?_
      refine sMove (iv r34.2) S (wN rfl) (.inl rfl) rfl rfl (lb rfl) fun a S => ?_
      refine sBin (.bool (r34.2 != 0)) S (wN rfl) rfl rfl rfl (bNe _ _ _ _ .i64 r34.2 0) rfl (lb rfl) fun a S => ?_
      refine sMove (.bool (r34.2 != 0)) S (wN rfl) (.inl rfl) rfl rfl (lb rfl) fun a S => ?_
      rcases iteSome h with ⟨hc118, h⟩ | ⟨hc118, h⟩
      · refine sSkip 2 false 141 142 S rfl rfl rfl hc118 rfl (lb rfl) fun a S => ?_
        refine sSkip 2 false 141 143 S rfl rfl rfl hc118 rfl (lb rfl) fun a S => ?_
        refine sSkip 2 false 141 144 S rfl rfl rfl hc118 rfl (lb rfl) fun a S => ?_
        refine sPickT (.bool true) S (wN rfl) rfl rfl hc118 rfl rfl (lb rfl) fun a S => ?_
        exact leafL (leafT (⟨true, Option.some.inj h, S.fix [0, 1, 2] [] (by decide) rfl rfl rfl⟩))
      refine sLoadN (p := b37) (off := 0) (T := 23) (vs := [iv r34.1.Length, iv r34.1.Time]) 3 [iv r34.1.Length, iv r34.1.Time] S (wG 2 false 141 rfl rfl rfl hc118) rfl rfl rfl rfl rfl rfl rfl (lb rfl) fun a S => ?_
      refine sLoadN (p := b39) (off := 0) (T := 23) (vs := [iv o40, iv o41]) 4 [iv o40, iv o41] S (wG 2 false 141 rfl rfl rfl hc118) rfl rfl rfl rfl rfl rfl rfl (lb rfl) fun a S => ?_
      refine sBin (.bool (!((r34.1.Length == o40) && ((r34.1.Time == o41) && true)))) S (wG 2 false 141 rfl rfl rfl hc118) rfl rfl rfl (bNeV _ _ _ _ #[iv r34.1.Length, iv r34.1.Time] #[iv o40, iv o41] ((r34.1.Length == o40) && ((r34.1.Time == o41) && true)) (by kernel_rfl) (eqlV_of (by kernel_rfl))) rfl (lb rfl) fun a S => ?_
      refine sPickF (.bool (!((r34.1.Length == o40) && ((r34.1.Time == o41) && true)))) S (wN rfl) rfl rfl hc118 rfl rfl (lb rfl) fun a S => ?_
      exact leafL (leafT (⟨!((r34.1.Length == o40) && ((r34.1.Time == o41) && true)), Option.some.inj h, S.fix [0, 1, 2] [] (by decide) rfl rfl rfl⟩))
    obtain ⟨o115, rfl, S⟩ := hI
    have h := g117
    clear g117
    try dsimp only at h
    rcases iteSome h with ⟨hc119, h⟩ | ⟨hc119, h⟩
    · refine sCondT S rfl hc119 ?_
      refine sSeq (fun K120 hK120 => ?_)
      refine sRegion ?_
      refine sMove (.bool false) S (wN rfl) (.inr rfl) rfl rfl (lb rfl) fun a S => ?_
      refine leafL (leafT (hK120 _ _ ?_))
      obtain rfl := Option.some.inj h
      exact wp_ret (rThen (sRet (.bool false) S (rsl1 rfl (rvT (t := 10) (v := .bool false) S rfl)) ⟨(), rfl, S.mem.sel [] [] (by decide) rfl rfl⟩))
    refine sCondF S rfl hc119 ?_
    refine wp_skip (leafT (hK114 _ _ ?_))
    refine sSeq (fun K121 hK121 => ?_)
    refine sRegion ?_
    refine sLoadN (p := b8) (off := 0) (T := 23) (vs := [iv p2.Length, iv p2.Time]) 0 [iv p2.Length, iv p2.Time] S (wN rfl) rfl rfl rfl rfl rfl rfl rfl (lb rfl) fun a S => ?_
    refine sLoadN (p := b10) (off := 0) (T := 27) (vs := [.int .u8 p4.System, iv p4.N.Num, iv p4.N.Den]) 2 [.int .u8 p4.System, iv p4.N.Num, iv p4.N.Den] S (wN rfl) rfl rfl rfl rfl rfl rfl rfl (lb rfl) fun a S => ?_
    obtain ⟨r122, hx123, h⟩ := bindSome h
    have S := S.learn (fRep r_api_Bill (.agg #[iv p2.Length, iv p2.Time]) p2) rfl
    have S := S.learn (fRep r_api_Count (.agg #[.int .u8 p4.System, iv p4.N.Num, iv p4.N.Den]) p4) rfl
    refine sCall (X := Value) (f := 10) (vs := [.agg #[iv p2.Length, iv p2.Time], .agg #[.int .u8 p4.System, iv p4.N.Num, iv p4.N.Den]]) (val := c_cost_Weight_val r122) (B' := fun _ => []) (D' := c_cost_Weight_D r122) [] [eBox b8 23 [iv p2.Length, iv p2.Time], eBox b9 23 [iv p3.Length, iv p3.Time], eBox b10 27 [.int .u8 p4.System, iv p4.N.Num, iv p4.N.Den]] [fRep r_api_Bill (.agg #[iv p2.Length, iv p2.Time]) p2, fRep r_api_Count (.agg #[.int .u8 p4.System, iv p4.N.Num, iv p4.N.Den]) p4] [0, 1, 2] [1, 0] S (wN rfl) rfl callee10 rfl (by decide) rfl rfl (fun E1 w1 S1 => c_cost_Weight E1 w1 p2 (.agg #[iv p2.Length, iv p2.Time]) p4 (.agg #[.int .u8 p4.System, iv p4.N.Num, iv p4.N.Den]) r122 hx123 S1) rfl (lb rfl) fun u124 a w S => ?_
    obtain rfl : u124 = .agg #[iv r122.1.Num, iv r122.1.Den] := S.mem.know (i := 0) (e := fRep r_api_Ratio (u124) r122.1) rfl
    refine sMove (.tuple #[.agg #[iv r122.1.Num, iv r122.1.Den], iv r122.2]) S (wN rfl) (.inl rfl) rfl rfl (lb rfl) fun a S => ?_
    refine sExtract (vs := [.agg #[iv r122.1.Num, iv r122.1.Den], iv r122.2]) (.agg #[iv r122.1.Num, iv r122.1.Den]) S (wN rfl) rfl rfl rfl rfl (lb rfl) fun a S => ?_
    refine sExtract (vs := [.agg #[iv r122.1.Num, iv r122.1.Den], iv r122.2]) (iv r122.2) S (wN rfl) rfl rfl rfl rfl (lb rfl) fun a S => ?_
    refine sAlloc (.agg #[iv 0, iv 0]) S (wN rfl) rfl rfl [iv 0, iv 0] rfl rfl (lb rfl) fun a b125 w S => ?_
    refine sStore (p := b125) (off := 0) (T := 25) (vs := [iv 0, iv 0]) (v := .agg #[iv r122.1.Num, iv r122.1.Den]) 0 [iv r122.1.Num, iv r122.1.Den] S (wN rfl) rfl rfl rfl rfl rfl rfl rfl (by simp) rfl fun a w S => ?_
    refine sMove (iv r122.2) S (wN rfl) (.inr rfl) rfl rfl (lb rfl) fun a S => ?_
    refine leafL (leafT (hK121 _ _ ?_))
    refine sSeq (fun K126 hK126 => ?_)
    refine sRegion ?_
    refine sLoadN (p := b9) (off := 0) (T := 23) (vs := [iv p3.Length, iv p3.Time]) 2 [iv p3.Length, iv p3.Time] S (wN rfl) rfl rfl rfl rfl rfl rfl rfl (lb rfl) fun a S => ?_
    refine sLoadN (p := b10) (off := 0) (T := 27) (vs := [.int .u8 p4.System, iv p4.N.Num, iv p4.N.Den]) 3 [.int .u8 p4.System, iv p4.N.Num, iv p4.N.Den] S (wN rfl) rfl rfl rfl rfl rfl rfl rfl (lb rfl) fun a S => ?_
    obtain ⟨r127, hx128, h⟩ := bindSome h
    have S := S.learn (fRep r_api_Bill (.agg #[iv p3.Length, iv p3.Time]) p3) rfl
    refine sCall (X := Value) (f := 10) (vs := [.agg #[iv p3.Length, iv p3.Time], .agg #[.int .u8 p4.System, iv p4.N.Num, iv p4.N.Den]]) (val := c_cost_Weight_val r127) (B' := fun _ => []) (D' := c_cost_Weight_D r127) [] [eBox b125 25 [iv r122.1.Num, iv r122.1.Den], eBox b8 23 [iv p2.Length, iv p2.Time], eBox b9 23 [iv p3.Length, iv p3.Time], eBox b10 27 [.int .u8 p4.System, iv p4.N.Num, iv p4.N.Den]] [fRep r_api_Bill (.agg #[iv p3.Length, iv p3.Time]) p3, fRep r_api_Count (.agg #[.int .u8 p4.System, iv p4.N.Num, iv p4.N.Den]) p4] [0, 1, 2, 3] [0, 2] S (wN rfl) rfl callee10 rfl (by decide) rfl rfl (fun E1 w1 S1 => c_cost_Weight E1 w1 p3 (.agg #[iv p3.Length, iv p3.Time]) p4 (.agg #[.int .u8 p4.System, iv p4.N.Num, iv p4.N.Den]) r127 hx128 S1) rfl (lb rfl) fun u129 a w S => ?_
    obtain rfl : u129 = .agg #[iv r127.1.Num, iv r127.1.Den] := S.mem.know (i := 0) (e := fRep r_api_Ratio (u129) r127.1) rfl
    refine sMove (.tuple #[.agg #[iv r127.1.Num, iv r127.1.Den], iv r127.2]) S (wN rfl) (.inl rfl) rfl rfl (lb rfl) fun a S => ?_
    refine sExtract (vs := [.agg #[iv r127.1.Num, iv r127.1.Den], iv r127.2]) (.agg #[iv r127.1.Num, iv r127.1.Den]) S (wN rfl) rfl rfl rfl rfl (lb rfl) fun a S => ?_
    refine sExtract (vs := [.agg #[iv r127.1.Num, iv r127.1.Den], iv r127.2]) (iv r127.2) S (wN rfl) rfl rfl rfl rfl (lb rfl) fun a S => ?_
    refine sAlloc (.agg #[iv 0, iv 0]) S (wN rfl) rfl rfl [iv 0, iv 0] rfl rfl (lb rfl) fun a b130 w S => ?_
    refine sStore (p := b130) (off := 0) (T := 25) (vs := [iv 0, iv 0]) (v := .agg #[iv r127.1.Num, iv r127.1.Den]) 0 [iv r127.1.Num, iv r127.1.Den] S (wN rfl) rfl rfl rfl rfl rfl rfl rfl (by simp) rfl fun a w S => ?_
    refine sMove (iv r127.2) S (wN rfl) (.inr rfl) rfl rfl (lb rfl) fun a S => ?_
    refine leafL (leafT (hK126 _ _ ?_))
    refine sSeq (fun K131 hK131 => ?_)
    refine sRegion ?_
    refine sField (b := b8) (off := 0) 0 0 S (wN rfl) rfl rfl rfl rfl rfl (lb rfl) fun a S => ?_
    refine sLoad1 (p := b8) (off := 0) (T := 23) (vs := [iv p2.Length, iv p2.Time]) 2 (iv p2.Length) S (wN rfl) rfl rfl rfl rfl rfl rfl (lb rfl) fun a S => ?_
    refine sField (b := b9) (off := 0) 0 0 S (wN rfl) rfl rfl rfl rfl rfl (lb rfl) fun a S => ?_
    refine sLoad1 (p := b9) (off := 0) (T := 23) (vs := [iv p3.Length, iv p3.Time]) 3 (iv p3.Length) S (wN rfl) rfl rfl rfl rfl rfl rfl (lb rfl) fun a S => ?_
    refine sBin (iv (w64 (p2.Length + p3.Length))) S (wN rfl) rfl rfl rfl (bAdd _ _ _ _ p2.Length p3.Length) rfl (lb rfl) fun a S => ?_
    refine sBuild [(0, iv (w64 (p2.Length + p3.Length)))] [iv (w64 (p2.Length + p3.Length)), iv 0] S (wN rfl) rfl rfl rfl rfl (lb rfl) fun a S => ?_
    refine sLoadN (p := b10) (off := 0) (T := 27) (vs := [.int .u8 p4.System, iv p4.N.Num, iv p4.N.Den]) 4 [.int .u8 p4.System, iv p4.N.Num, iv p4.N.Den] S (wN rfl) rfl rfl rfl rfl rfl rfl rfl (lb rfl) fun a S => ?_
    obtain ⟨r132, hx133, h⟩ := bindSome h
    have S := S.learn (fRep r_api_Bill (.agg #[iv (w64 (p2.Length + p3.Length)), iv 0]) (api_Bill.mk (w64 (p2.Length + p3.Length)) 0)) rfl
    refine sCall (X := Value) (f := 10) (vs := [.agg #[iv (w64 (p2.Length + p3.Length)), iv 0], .agg #[.int .u8 p4.System, iv p4.N.Num, iv p4.N.Den]]) (val := c_cost_Weight_val r132) (B' := fun _ => []) (D' := c_cost_Weight_D r132) [] [eBox b130 25 [iv r127.1.Num, iv r127.1.Den], eBox b125 25 [iv r122.1.Num, iv r122.1.Den], eBox b8 23 [iv p2.Length, iv p2.Time], eBox b9 23 [iv p3.Length, iv p3.Time], eBox b10 27 [.int .u8 p4.System, iv p4.N.Num, iv p4.N.Den]] [fRep r_api_Bill (.agg #[iv (w64 (p2.Length + p3.Length)), iv 0]) (api_Bill.mk (w64 (p2.Length + p3.Length)) 0), fRep r_api_Count (.agg #[.int .u8 p4.System, iv p4.N.Num, iv p4.N.Den]) p4] [0, 1, 2, 3, 4] [0, 4] S (wN rfl) rfl callee10 rfl (by decide) rfl rfl (fun E1 w1 S1 => c_cost_Weight E1 w1 (api_Bill.mk (w64 (p2.Length + p3.Length)) 0) (.agg #[iv (w64 (p2.Length + p3.Length)), iv 0]) p4 (.agg #[.int .u8 p4.System, iv p4.N.Num, iv p4.N.Den]) r132 hx133 S1) rfl (lb rfl) fun u134 a w S => ?_
    obtain rfl : u134 = .agg #[iv r132.1.Num, iv r132.1.Den] := S.mem.know (i := 0) (e := fRep r_api_Ratio (u134) r132.1) rfl
    refine sMove (.tuple #[.agg #[iv r132.1.Num, iv r132.1.Den], iv r132.2]) S (wN rfl) (.inl rfl) rfl rfl (lb rfl) fun a S => ?_
    refine sExtract (vs := [.agg #[iv r132.1.Num, iv r132.1.Den], iv r132.2]) (.agg #[iv r132.1.Num, iv r132.1.Den]) S (wN rfl) rfl rfl rfl rfl (lb rfl) fun a S => ?_
    refine sExtract (vs := [.agg #[iv r132.1.Num, iv r132.1.Den], iv r132.2]) (iv r132.2) S (wN rfl) rfl rfl rfl rfl (lb rfl) fun a S => ?_
    refine sAlloc (.agg #[iv 0, iv 0]) S (wN rfl) rfl rfl [iv 0, iv 0] rfl rfl (lb rfl) fun a b135 w S => ?_
    refine sStore (p := b135) (off := 0) (T := 25) (vs := [iv 0, iv 0]) (v := .agg #[iv r132.1.Num, iv r132.1.Den]) 0 [iv r132.1.Num, iv r132.1.Den] S (wN rfl) rfl rfl rfl rfl rfl rfl rfl (by simp) rfl fun a w S => ?_
    refine sMove (iv r132.2) S (wN rfl) (.inr rfl) rfl rfl (lb rfl) fun a S => ?_
    refine leafL (leafT (hK131 _ _ ?_))
    refine sSeq (fun K136 hK136 => ?_)
    obtain ⟨t138, h, g139⟩ := bindSome h
    refine sCut (fun a w => ∃ o137, o137 = t138 ∧ St [] E [] w0 196 a w [(11, .bool r12), (20, .pointer (some ⟨b125, 0, none⟩)), (22, .pointer (some ⟨b130, 0, none⟩)), (24, .pointer (some ⟨b135, 0, none⟩)), (178, .bool o137)] [eBox b125 25 [iv r122.1.Num, iv r122.1.Den], eBox b130 25 [iv r127.1.Num, iv r127.1.Den], eBox b135 25 [iv r132.1.Num, iv r132.1.Den]] []) ?_ (fun a w hI => ?_)
    · refine sRegion ?_
      refine sMove (iv r122.2) S (wN rfl) (.inl rfl) rfl rfl (lb rfl) fun a S => ?_
      refine sBin (.bool (r122.2 != 0)) S (wN rfl) rfl rfl rfl (bNe _ _ _ _ .i64 r122.2 0) rfl (lb rfl) fun a S => ?_
      refine sMove (.bool (r122.2 != 0)) S (wN rfl) (.inl rfl) rfl rfl (lb rfl) fun a S => ?_
      rcases iteSome h with ⟨hc140, h⟩ | ⟨hc140, h⟩
      · refine sSkip 2 false 171 172 S rfl rfl rfl hc140 rfl (lb rfl) fun a S => ?_
        refine sSkip 2 false 171 173 S rfl rfl rfl hc140 rfl (lb rfl) fun a S => ?_
        refine sPickT (.bool true) S (wN rfl) rfl rfl hc140 rfl rfl (lb rfl) fun a S => ?_
        refine sMove (.bool true) S (wN rfl) (.inl rfl) rfl rfl (lb rfl) fun a S => ?_
        refine sSkip 6 false 175 176 S rfl rfl rfl rfl rfl (lb rfl) fun a S => ?_
        refine sSkip 6 false 175 177 S rfl rfl rfl rfl rfl (lb rfl) fun a S => ?_
        refine sPickT (.bool true) S (wN rfl) rfl rfl rfl rfl rfl (lb rfl) fun a S => ?_
        exact leafL (leafT (⟨true, Option.some.inj h, S.fix [2, 1, 0] [] (by decide) rfl rfl rfl⟩))
      refine sMove (iv r127.2) S (wG 2 false 171 rfl rfl rfl hc140) (.inl rfl) rfl rfl (lb rfl) fun a S => ?_
      refine sBin (.bool (r127.2 != 0)) S (wG 2 false 171 rfl rfl rfl hc140) rfl rfl rfl (bNe _ _ _ _ .i64 r127.2 0) rfl (lb rfl) fun a S => ?_
      refine sPickF (.bool (r127.2 != 0)) S (wN rfl) rfl rfl hc140 rfl rfl (lb rfl) fun a S => ?_
      refine sMove (.bool (r127.2 != 0)) S (wN rfl) (.inl rfl) rfl rfl (lb rfl) fun a S => ?_
      rcases iteSome h with ⟨hc141, h⟩ | ⟨hc141, h⟩
      · refine sSkip 6 false 175 176 S rfl rfl rfl hc141 rfl (lb rfl) fun a S => ?_
        refine sSkip 6 false 175 177 S rfl rfl rfl hc141 rfl (lb rfl) fun a S => ?_
        refine sPickT (.bool true) S (wN rfl) rfl rfl hc141 rfl rfl (lb rfl) fun a S => ?_
        exact leafL (leafT (⟨true, Option.some.inj h, S.fix [2, 1, 0] [] (by decide) rfl rfl rfl⟩))
      refine sMove (iv r132.2) S (wG 6 false 175 rfl rfl rfl hc141) (.inl rfl) rfl rfl (lb rfl) fun a S => ?_
      refine sBin (.bool (r132.2 != 0)) S (wG 6 false 175 rfl rfl rfl hc141) rfl rfl rfl (bNe _ _ _ _ .i64 r132.2 0) rfl (lb rfl) fun a S => ?_
      refine sPickF (.bool (r132.2 != 0)) S (wN rfl) rfl rfl hc141 rfl rfl (lb rfl) fun a S => ?_
      exact leafL (leafT (⟨r132.2 != 0, Option.some.inj h, S.fix [2, 1, 0] [] (by decide) rfl rfl rfl⟩))
    obtain ⟨o137, rfl, S⟩ := hI
    have h := g139
    clear g139
    try dsimp only at h
    rcases iteSome h with ⟨hc142, h⟩ | ⟨hc142, h⟩
    · refine sCondT S rfl hc142 ?_
      refine sSeq (fun K143 hK143 => ?_)
      refine sRegion ?_
      refine sMove (.bool r12) S (wN rfl) (.inl rfl) rfl rfl (lb rfl) fun a S => ?_
      refine sMove (.bool r12) S (wN rfl) (.inr rfl) rfl rfl (lb rfl) fun a S => ?_
      refine leafL (leafT (hK143 _ _ ?_))
      obtain rfl := Option.some.inj h
      exact wp_ret (rThen (sRet (.bool r12) S (rsl1 rfl (rvT (t := 10) (v := .bool r12) S rfl)) ⟨(), rfl, S.mem.sel [] [] (by decide) rfl rfl⟩))
    refine sCondF S rfl hc142 ?_
    refine wp_skip (leafT (hK136 _ _ ?_))
    refine sSeq (fun K144 hK144 => ?_)
    refine sRegion ?_
    refine sLoadN (p := b125) (off := 0) (T := 25) (vs := [iv r122.1.Num, iv r122.1.Den]) 0 [iv r122.1.Num, iv r122.1.Den] S (wN rfl) rfl rfl rfl rfl rfl rfl rfl (lb rfl) fun a S => ?_
    refine sLoadN (p := b130) (off := 0) (T := 25) (vs := [iv r127.1.Num, iv r127.1.Den]) 1 [iv r127.1.Num, iv r127.1.Den] S (wN rfl) rfl rfl rfl rfl rfl rfl rfl (lb rfl) fun a S => ?_
    obtain ⟨r145, hx146, h⟩ := bindSome h
    have S := S.learn (fRep r_api_Ratio (.agg #[iv r122.1.Num, iv r122.1.Den]) r122.1) rfl
    have S := S.learn (fRep r_api_Ratio (.agg #[iv r127.1.Num, iv r127.1.Den]) r127.1) rfl
    refine sCall (X := Value) (f := 34) (vs := [.agg #[iv r122.1.Num, iv r122.1.Den], .agg #[iv r127.1.Num, iv r127.1.Den]]) (val := c_yarn_Add_val r145) (B' := fun _ => []) (D' := c_yarn_Add_D r145) [] [eBox b125 25 [iv r122.1.Num, iv r122.1.Den], eBox b130 25 [iv r127.1.Num, iv r127.1.Den], eBox b135 25 [iv r132.1.Num, iv r132.1.Den]] [fRep r_api_Ratio (.agg #[iv r122.1.Num, iv r122.1.Den]) r122.1, fRep r_api_Ratio (.agg #[iv r127.1.Num, iv r127.1.Den]) r127.1] [0, 1, 2] [1, 0] S (wN rfl) rfl callee34 rfl (by decide) rfl rfl (fun E1 w1 S1 => c_yarn_Add E1 w1 r122.1 (.agg #[iv r122.1.Num, iv r122.1.Den]) r127.1 (.agg #[iv r127.1.Num, iv r127.1.Den]) r145 hx146 S1) rfl (lb rfl) fun u147 a w S => ?_
    obtain rfl : u147 = .agg #[iv r145.1.Num, iv r145.1.Den] := S.mem.know (i := 0) (e := fRep r_api_Ratio (u147) r145.1) rfl
    refine sMove (.tuple #[.agg #[iv r145.1.Num, iv r145.1.Den], iv r145.2]) S (wN rfl) (.inl rfl) rfl rfl (lb rfl) fun a S => ?_
    refine sExtract (vs := [.agg #[iv r145.1.Num, iv r145.1.Den], iv r145.2]) (.agg #[iv r145.1.Num, iv r145.1.Den]) S (wN rfl) rfl rfl rfl rfl (lb rfl) fun a S => ?_
    refine sExtract (vs := [.agg #[iv r145.1.Num, iv r145.1.Den], iv r145.2]) (iv r145.2) S (wN rfl) rfl rfl rfl rfl (lb rfl) fun a S => ?_
    refine sAlloc (.agg #[iv 0, iv 0]) S (wN rfl) rfl rfl [iv 0, iv 0] rfl rfl (lb rfl) fun a b148 w S => ?_
    refine sStore (p := b148) (off := 0) (T := 25) (vs := [iv 0, iv 0]) (v := .agg #[iv r145.1.Num, iv r145.1.Den]) 0 [iv r145.1.Num, iv r145.1.Den] S (wN rfl) rfl rfl rfl rfl rfl rfl rfl (by simp) rfl fun a w S => ?_
    refine sMove (iv r145.2) S (wN rfl) (.inr rfl) rfl rfl (lb rfl) fun a S => ?_
    refine leafL (leafT (hK144 _ _ ?_))
    obtain ⟨t150, h, g151⟩ := bindSome h
    refine sCut (fun a w => ∃ o149, o149 = t150 ∧ St [] E [] w0 196 a w [(10, .bool o149)] [] []) ?_ (fun a w hI => ?_)
    rotate_left
    · obtain ⟨o149, rfl, S⟩ := hI
      have h := g151
      clear g151
      try dsimp only at h
      obtain rfl := Option.some.inj h
      exact wp_ret (sRet (.bool o149) S (rsl1 rfl (rvT (t := 10) (v := .bool o149) S rfl)) ⟨(), rfl, S.mem.sel [] [] (by decide) rfl rfl⟩)
    refine sRegion ?_
    refine sMove (.bool r12) S (wN rfl) (.inl rfl) rfl rfl (lb rfl) fun a S => ?_
    refine sMove (.bool r12) S (wN rfl) (.inl rfl) rfl rfl (lb rfl) fun a S => ?_
    rcases iteSome h with ⟨hc152, h⟩ | ⟨hc152, h⟩
    rotate_left
    · refine sSkip 1 true 187 188 S rfl rfl rfl hc152 rfl (lb rfl) fun a S => ?_
      refine sSkip 1 true 187 189 S rfl rfl rfl hc152 rfl (lb rfl) fun a S => ?_
      refine sPickF (.bool false) S (wN rfl) rfl rfl hc152 rfl rfl (lb rfl) fun a S => ?_
      refine sMove (.bool false) S (wN rfl) (.inl rfl) rfl rfl (lb rfl) fun a S => ?_
      refine sSkip 5 true 191 192 S rfl rfl rfl rfl rfl (lb rfl) fun a S => ?_
      refine sSkip 5 true 191 193 S rfl rfl rfl rfl rfl (lb rfl) fun a S => ?_
      refine sSkip 5 true 191 194 S rfl rfl rfl rfl rfl (lb rfl) fun a S => ?_
      refine sPickF (.bool false) S (wN rfl) rfl rfl rfl rfl rfl (lb rfl) fun a S => ?_
      refine sMove (.bool false) S (wN rfl) (.inr rfl) rfl rfl (lb rfl) fun a S => ?_
      exact leafL (leafT (⟨false, Option.some.inj h, S.fix [] [] (by decide) rfl rfl rfl⟩))
    refine sMove (iv r145.2) S (wG 1 true 187 rfl rfl rfl hc152) (.inl rfl) rfl rfl (lb rfl) fun a S => ?_
    refine sBin (.bool (r145.2 == 0)) S (wG 1 true 187 rfl rfl rfl hc152) rfl rfl rfl (bEq _ _ _ _ .i64 r145.2 0) rfl (lb rfl) fun a S => ?_
    refine sPickT (.bool (r145.2 == 0)) S (wN rfl) rfl rfl hc152 rfl rfl (lb rfl) fun a S => ?_
    refine sMove (.bool (r145.2 == 0)) S (wN rfl) (.inl rfl) rfl rfl (lb rfl) fun a S => ?_
    rcases iteSome h with ⟨hc153, h⟩ | ⟨hc153, h⟩
    rotate_left
    · refine sSkip 5 true 191 192 S rfl rfl rfl hc153 rfl (lb rfl) fun a S => ?_
      refine sSkip 5 true 191 193 S rfl rfl rfl hc153 rfl (lb rfl) fun a S => ?_
      refine sSkip 5 true 191 194 S rfl rfl rfl hc153 rfl (lb rfl) fun a S => ?_
      refine sPickF (.bool false) S (wN rfl) rfl rfl hc153 rfl rfl (lb rfl) fun a S => ?_
      refine sMove (.bool false) S (wN rfl) (.inr rfl) rfl rfl (lb rfl) fun a S => ?_
      exact leafL (leafT (⟨false, Option.some.inj h, S.fix [] [] (by decide) rfl rfl rfl⟩))
    refine sLoadN (p := b148) (off := 0) (T := 25) (vs := [iv r145.1.Num, iv r145.1.Den]) 0 [iv r145.1.Num, iv r145.1.Den] S (wG 5 true 191 rfl rfl rfl hc153) rfl rfl rfl rfl rfl rfl rfl (lb rfl) fun a S => ?_
    refine sLoadN (p := b135) (off := 0) (T := 25) (vs := [iv r132.1.Num, iv r132.1.Den]) 3 [iv r132.1.Num, iv r132.1.Den] S (wG 5 true 191 rfl rfl rfl hc153) rfl rfl rfl rfl rfl rfl rfl (lb rfl) fun a S => ?_
    refine sBin (.bool ((r145.1.Num == r132.1.Num) && ((r145.1.Den == r132.1.Den) && true))) S (wG 5 true 191 rfl rfl rfl hc153) rfl rfl rfl (bEqV _ _ _ _ #[iv r145.1.Num, iv r145.1.Den] #[iv r132.1.Num, iv r132.1.Den] ((r145.1.Num == r132.1.Num) && ((r145.1.Den == r132.1.Den) && true)) (by kernel_rfl) (eqlV_of (by kernel_rfl))) rfl (lb rfl) fun a S => ?_
    refine sPickT (.bool ((r145.1.Num == r132.1.Num) && ((r145.1.Den == r132.1.Den) && true))) S (wN rfl) rfl rfl hc153 rfl rfl (lb rfl) fun a S => ?_
    refine sMove (.bool ((r145.1.Num == r132.1.Num) && ((r145.1.Den == r132.1.Den) && true))) S (wN rfl) (.inr rfl) rfl rfl (lb rfl) fun a S => ?_
    exact leafL (leafT (⟨((r145.1.Num == r132.1.Num) && ((r145.1.Den == r132.1.Den) && true)), Option.some.inj h, S.fix [] [] (by decide) rfl rfl rfl⟩))
  refine sSeq (fun K44 hK44 => ?_)
  refine sRegion ?_
  refine sMove (iv 0) S (wN rfl) (.inr rfl) rfl rfl (lb rfl) fun a S => ?_
  refine leafL (leafT (hK44 _ _ ?_))
  refine wp_block ?_
  obtain ⟨t50, hl, g49⟩ := bindSome h
  refine sLoop hl (fun s0 a w => match s0 with | (s45, s46, s47) => St [] E [] w0 196 a w [(5, .pointer (some ⟨b6, 0, none⟩)), (6, .pointer (some ⟨b7, 0, none⟩)), (7, .pointer (some ⟨b8, 0, none⟩)), (8, .pointer (some ⟨b9, 0, none⟩)), (9, .pointer (some ⟨b10, 0, none⟩)), (11, .bool r12), (12, .pointer (some ⟨b37, 0, none⟩)), (13, iv r34.2), (14, .pointer (some ⟨b39, 0, none⟩)), (15, iv s45)] [eBox b6 41 [iv p0.Start, .slice ad3 p0.Rows.length cp4], eBox b7 44 (gl_api_Rates p1), eBox b8 23 [iv p2.Length, iv p2.Time], eBox b9 23 [iv p3.Length, iv p3.Time], eBox b10 27 [.int .u8 p4.System, iv p4.N.Num, iv p4.N.Den], eBox b37 23 [iv r34.1.Length, iv r34.1.Time], eBox b39 23 [iv s46, iv s47]] [fRep (rL r_api_Row) (.slice ad3 p0.Rows.length cp4) p0.Rows]) (S.fix [2, 3, 4, 5, 6, 1, 0] [3] (by decide) rfl rfl rfl) ?_
  clear hl h
  intro s0 a w c0 hI h hu48
  obtain ⟨s45, s46, s47⟩ := s0
  unfold raddlelaw45_CostWorks_l2 at h
  dsimp only at h hI
  have S := hI
  refine sSeq (fun K53 hK53 => ?_)
  refine sSeq (fun K54 hK54 => ?_)
  refine sRegion ?_
  refine sMove (iv s45) S (wN rfl) (.inl rfl) rfl rfl (lb rfl) fun a S => ?_
  refine sField (b := b6) (off := 0) 1 1 S (wN rfl) rfl rfl rfl rfl rfl (lb rfl) fun a S => ?_
  refine sLoad1 (p := b6) (off := 1) (T := 41) (vs := [iv p0.Start, .slice ad3 p0.Rows.length cp4]) 0 (.slice ad3 p0.Rows.length cp4) S (wN rfl) rfl rfl rfl rfl rfl rfl (lb rfl) fun a S => ?_
  refine sLen (ad := ad3) (m := p0.Rows.length) (c := cp4) S (wN rfl) rfl Try.underlying39 rfl rfl (lb rfl) fun a S => ?_
  refine sBin (.bool (decide (s45 < (p0.Rows.length : Int)))) S (wN rfl) rfl rfl rfl (bLt _ _ _ _ .i64 s45 (p0.Rows.length : Int)) rfl (lb rfl) fun a S => ?_
  refine leafL (leafT (hK54 _ _ ?_))
  rcases iteSome h with ⟨hc55, h⟩ | ⟨hc55, h⟩
  rotate_left
  · refine sCondF S rfl hc55 ?_
    obtain rfl := Option.some.inj h
    obtain rfl := hu48 _ rfl
    have h := g49
    clear g49
    try dsimp only at h
    exact wp_exit (xThen (xThen (xHit (leafT (⟨s46, s47, Option.some.inj h, S.fix [2, 3, 4, 5, 6] [] (by decide) rfl rfl rfl⟩)))))
  refine sCondT S rfl hc55 ?_
  refine wp_skip (leafT (hK53 _ _ ?_))
  obtain ⟨t58, h, g59⟩ := bindSome h
  refine sCut (fun a w => ∃ o56, ∃ o57, .inl (o56, o57) = t58 ∧ St [] E [] w0 196 a w [(5, .pointer (some ⟨b6, 0, none⟩)), (6, .pointer (some ⟨b7, 0, none⟩)), (7, .pointer (some ⟨b8, 0, none⟩)), (8, .pointer (some ⟨b9, 0, none⟩)), (9, .pointer (some ⟨b10, 0, none⟩)), (11, .bool r12), (12, .pointer (some ⟨b37, 0, none⟩)), (13, iv r34.2), (14, .pointer (some ⟨b39, 0, none⟩)), (15, iv s45)] [eBox b6 41 [iv p0.Start, .slice ad3 p0.Rows.length cp4], eBox b7 44 (gl_api_Rates p1), eBox b8 23 [iv p2.Length, iv p2.Time], eBox b9 23 [iv p3.Length, iv p3.Time], eBox b10 27 [.int .u8 p4.System, iv p4.N.Num, iv p4.N.Den], eBox b37 23 [iv r34.1.Length, iv r34.1.Time], eBox b39 23 [iv o56, iv o57]] [fRep (rL r_api_Row) (.slice ad3 p0.Rows.length cp4) p0.Rows]) ?_ (fun a w hI => ?_)
  rotate_left
  · obtain ⟨o56, o57, rfl, S⟩ := hI
    have h := g59
    clear g59
    try dsimp only at h
    refine sRegion ?_
    refine sMove (iv s45) S (wN rfl) (.inl rfl) rfl rfl (lb rfl) fun a S => ?_
    refine sBin (iv (w64 (s45 + 1))) S (wN rfl) rfl rfl rfl (bAdd _ _ _ _ s45 1) rfl (lb rfl) fun a S => ?_
    refine sMove (iv (w64 (s45 + 1))) S (wN rfl) (.inr rfl) rfl rfl (lb rfl) fun a S => ?_
    exact leafL (leafT (⟨(w64 (s45 + 1), o56, o57), (Option.some.inj h).symm, (S.fix [0, 1, 2, 3, 4, 5, 6] [0] (by decide) rfl rfl rfl)⟩))
  refine wp_block ?_
  refine sSeq (fun K60 hK60 => ?_)
  refine sRegion ?_
  refine sField (b := b39) (off := 0) 1 1 S (wN rfl) rfl rfl rfl rfl rfl (lb rfl) fun a S => ?_
  refine sLoad1 (p := b39) (off := 1) (T := 23) (vs := [iv s46, iv s47]) 6 (iv s47) S (wN rfl) rfl rfl rfl rfl rfl rfl (lb rfl) fun a S => ?_
  refine sField (b := b7) (off := 0) 22 22 S (wN rfl) rfl rfl rfl rfl rfl (lb rfl) fun a S => ?_
  refine sLoad1 (p := b7) (off := 22) (T := 44) (vs := (gl_api_Rates p1)) 1 (iv p1.Turn) S (wN rfl) rfl rfl rfl rfl rfl rfl (lb rfl) fun a S => ?_
  refine sBin (iv (w64 (s47 + p1.Turn))) S (wN rfl) rfl rfl rfl (bAdd _ _ _ _ s47 p1.Turn) rfl (lb rfl) fun a S => ?_
  refine sField (b := b39) (off := 0) 1 1 S (wN rfl) rfl rfl rfl rfl rfl (lb rfl) fun a S => ?_
  refine sStore (p := b39) (off := 1) (T := 23) (vs := [iv s46, iv s47]) (v := iv (w64 (s47 + p1.Turn))) 6 [iv (w64 (s47 + p1.Turn))] S (wN rfl) rfl rfl rfl rfl rfl rfl rfl (by simp) rfl fun a w S => ?_
  refine leafL (leafT (hK60 _ _ ?_))
  refine sSeq (fun K61 hK61 => ?_)
  refine sRegion ?_
  refine sMove (iv 0) S (wN rfl) (.inr rfl) rfl rfl (lb rfl) fun a S => ?_
  refine leafL (leafT (hK61 _ _ ?_))
  refine wp_block ?_
  obtain ⟨t67, hl, g66⟩ := bindSome h
  refine sLoop hl (fun s0 a w => match s0 with | (s62, s63, s64) => St [] E [] w0 196 a w [(5, .pointer (some ⟨b6, 0, none⟩)), (6, .pointer (some ⟨b7, 0, none⟩)), (7, .pointer (some ⟨b8, 0, none⟩)), (8, .pointer (some ⟨b9, 0, none⟩)), (9, .pointer (some ⟨b10, 0, none⟩)), (11, .bool r12), (12, .pointer (some ⟨b37, 0, none⟩)), (13, iv r34.2), (14, .pointer (some ⟨b39, 0, none⟩)), (15, iv s45), (16, iv s62)] [eBox b6 41 [iv p0.Start, .slice ad3 p0.Rows.length cp4], eBox b7 44 (gl_api_Rates p1), eBox b8 23 [iv p2.Length, iv p2.Time], eBox b9 23 [iv p3.Length, iv p3.Time], eBox b10 27 [.int .u8 p4.System, iv p4.N.Num, iv p4.N.Den], eBox b37 23 [iv r34.1.Length, iv r34.1.Time], eBox b39 23 [iv s63, iv s64]] [fRep (rL r_api_Row) (.slice ad3 p0.Rows.length cp4) p0.Rows]) (S.fix [1, 2, 3, 4, 5, 6, 0] [0] (by decide) rfl rfl rfl) ?_
  clear hl h
  intro s0 a w c0 hI h hu65
  obtain ⟨s62, s63, s64⟩ := s0
  unfold raddlelaw45_CostWorks_l1 at h
  dsimp only at h hI
  have S := hI
  refine sSeq (fun K70 hK70 => ?_)
  refine sSeq (fun K71 hK71 => ?_)
  refine sRegion ?_
  refine sMove (iv s62) S (wN rfl) (.inl rfl) rfl rfl (lb rfl) fun a S => ?_
  refine sField (b := b6) (off := 0) 1 1 S (wN rfl) rfl rfl rfl rfl rfl (lb rfl) fun a S => ?_
  refine sLoad1 (p := b6) (off := 1) (T := 41) (vs := [iv p0.Start, .slice ad3 p0.Rows.length cp4]) 0 (.slice ad3 p0.Rows.length cp4) S (wN rfl) rfl rfl rfl rfl rfl rfl (lb rfl) fun a S => ?_
  refine sMove (iv s45) S (wN rfl) (.inl rfl) rfl rfl (lb rfl) fun a S => ?_
  obtain ⟨x72, hx73, h⟩ := bindSome h
  obtain ⟨q74, hq75, S⟩ := pIdx (P := Try.prog) (r := r_api_Row) (v := .slice ad3 p0.Rows.length cp4) (xs := p0.Rows) (j := s45) 39 72 0 S Try.underlying39 rfl rfl hx73
  refine sIdxV (v := .slice ad3 p0.Rows.length cp4) (k := .i64) (j := s45) S (wN rfl) rfl rfl rfl hq75 rfl (lb rfl) fun a S => ?_
  obtain ⟨q76, hq77, S⟩ := pFld (P := Try.prog) (r := r_api_Row) (s2 := (rL r_api_Stitch)) (g := (·.Cells)) (q := q74) (z := x72) 72 1 0 1 S rfl rfl comp_api_Row_Cells
  refine sFldV (q := q74) S (wN rfl) rfl rfl hq77 rfl (lb rfl) fun a S => ?_
  obtain ⟨u78, S⟩ := pLoad (r := (rL r_api_Stitch)) (q := q76) (x := x72.Cells) 0 S rfl
  obtain ⟨ad79, cp80, _, rfl, _⟩ := S.mem.know (i := 1) (e := fRep (rL r_api_Stitch) (u78) x72.Cells) rfl
  refine sLoadV1 (vq := q76) 0 (.slice ad79 x72.Cells.length cp80) S (wN rfl) rfl rfl rfl rfl rfl (lb rfl) fun a S => ?_
  refine sLen (ad := ad79) (m := x72.Cells.length) (c := cp80) S (wN rfl) rfl Try.underlying70 rfl rfl (lb rfl) fun a S => ?_
  refine sBin (.bool (decide (s62 < (x72.Cells.length : Int)))) S (wN rfl) rfl rfl rfl (bLt _ _ _ _ .i64 s62 (x72.Cells.length : Int)) rfl (lb rfl) fun a S => ?_
  refine leafL (leafT (hK71 _ _ ?_))
  rcases iteSome h with ⟨hc81, h⟩ | ⟨hc81, h⟩
  rotate_left
  · refine sCondF S rfl hc81 ?_
    obtain rfl := Option.some.inj h
    obtain rfl := hu65 _ rfl
    have h := g66
    clear g66
    try dsimp only at h
    exact wp_exit (xThen (xThen (xHit (leafB (leafT (⟨s63, s64, Option.some.inj h, S.fix [0, 1, 2, 3, 4, 5, 6] [4] (by decide) rfl rfl rfl⟩))))))
  refine sCondT S rfl hc81 ?_
  refine wp_skip (leafT (hK70 _ _ ?_))
  refine sSeq (fun K82 hK82 => ?_)
  refine wp_block ?_
  refine sSeq (fun K83 hK83 => ?_)
  refine sRegion ?_
  refine sField (b := b6) (off := 0) 1 1 S (wN rfl) rfl rfl rfl rfl rfl (lb rfl) fun a S => ?_
  refine sLoad1 (p := b6) (off := 1) (T := 41) (vs := [iv p0.Start, .slice ad3 p0.Rows.length cp4]) 0 (.slice ad3 p0.Rows.length cp4) S (wN rfl) rfl rfl rfl rfl rfl rfl (lb rfl) fun a S => ?_
  refine sMove (iv s45) S (wN rfl) (.inl rfl) rfl rfl (lb rfl) fun a S => ?_
  obtain ⟨q84, hq85, S⟩ := pIdx (P := Try.prog) (r := r_api_Row) (v := .slice ad3 p0.Rows.length cp4) (xs := p0.Rows) (j := s45) 39 72 4 S Try.underlying39 rfl rfl hx73
  refine sIdxV (v := .slice ad3 p0.Rows.length cp4) (k := .i64) (j := s45) S (wN rfl) rfl rfl rfl hq85 rfl (lb rfl) fun a S => ?_
  obtain ⟨q86, hq87, S⟩ := pFld (P := Try.prog) (r := r_api_Row) (s2 := (rL r_api_Stitch)) (g := (·.Cells)) (q := q84) (z := x72) 72 1 0 1 S rfl rfl comp_api_Row_Cells
  refine sFldV (q := q84) S (wN rfl) rfl rfl hq87 rfl (lb rfl) fun a S => ?_
  obtain ⟨u88, S⟩ := pLoad (r := (rL r_api_Stitch)) (q := q86) (x := x72.Cells) 0 S rfl
  obtain ⟨ad89, cp90, _, rfl, _⟩ := S.mem.know (i := 1) (e := fRep (rL r_api_Stitch) (u88) x72.Cells) rfl
  refine sLoadV1 (vq := q86) 0 (.slice ad89 x72.Cells.length cp90) S (wN rfl) rfl rfl rfl rfl rfl (lb rfl) fun a S => ?_
  refine sMove (iv s62) S (wN rfl) (.inl rfl) rfl rfl (lb rfl) fun a S => ?_
  obtain ⟨x91, hx92, h⟩ := bindSome h
  obtain ⟨q93, hq94, S⟩ := pIdx (P := Try.prog) (r := r_api_Stitch) (v := .slice ad89 x72.Cells.length cp90) (xs := x72.Cells) (j := s62) 70 74 1 S Try.underlying70 rfl rfl hx92
  refine sIdxV (v := .slice ad89 x72.Cells.length cp90) (k := .i64) (j := s62) S (wN rfl) rfl rfl rfl hq94 rfl (lb rfl) fun a S => ?_
  obtain ⟨u95, S⟩ := pLoad (r := r_api_Stitch) (q := q93) (x := x91) 0 S rfl
  obtain rfl : u95 = .agg #[.int .u8 x91.Kind, .bool x91.Purl, iv x91.A, iv x91.B] := S.mem.know (i := 1) (e := fRep r_api_Stitch (u95) x91) rfl
  refine sLoadVN (vq := q93) 0 [.int .u8 x91.Kind, .bool x91.Purl, iv x91.A, iv x91.B] S (wN rfl) rfl rfl rfl rfl rfl rfl (lb rfl) fun a S => ?_
  refine sAlloc (.agg #[.int .u8 0, .bool false, iv 0, iv 0]) S (wN rfl) rfl rfl [.int .u8 0, .bool false, iv 0, iv 0] rfl rfl (lb rfl) fun a b96 w S => ?_
  refine sStore (p := b96) (off := 0) (T := 74) (vs := [.int .u8 0, .bool false, iv 0, iv 0]) (v := .agg #[.int .u8 x91.Kind, .bool x91.Purl, iv x91.A, iv x91.B]) 0 [.int .u8 x91.Kind, .bool x91.Purl, iv x91.A, iv x91.B] S (wN rfl) rfl rfl rfl rfl rfl rfl rfl (by simp) rfl fun a w S => ?_
  refine leafL (leafT (hK83 _ _ ?_))
  refine sSeq (fun K97 hK97 => ?_)
  refine sRegion ?_
  refine sLoadN (p := b96) (off := 0) (T := 74) (vs := [.int .u8 x91.Kind, .bool x91.Purl, iv x91.A, iv x91.B]) 0 [.int .u8 x91.Kind, .bool x91.Purl, iv x91.A, iv x91.B] S (wN rfl) rfl rfl rfl rfl rfl rfl rfl (lb rfl) fun a S => ?_
  refine sLit (r := r_api_Stitch) (T := 74) (xs := [x91]) [(0, .agg #[.int .u8 x91.Kind, .bool x91.Purl, iv x91.A, iv x91.B])] 1 [.agg #[.int .u8 x91.Kind, .bool x91.Purl, iv x91.A, iv x91.B]] [.int .u8 x91.Kind, .bool x91.Purl, iv x91.A, iv x91.B] (.agg #[.int .u8 0, .bool false, iv 0, iv 0]) 24 S (wN rfl) rfl rfl Try.underlying70 rfl (by decide) (by decide) (by kernel_rfl) rfl (fun E1 w1 hE => All.cons (r_api_Stitch.mono hE (S.mem.know (i := 1) (e := fRep r_api_Stitch (.agg #[.int .u8 x91.Kind, .bool x91.Purl, iv x91.A, iv x91.B]) x91) rfl)) (All.nil _ _ _)) rfl rfl (lb rfl) fun a w ad98 cp99 S => ?_
  obtain ⟨r100, hx101, h⟩ := bindSome h
  have S1 := S.mem
  have S1 := S1.shutR (r := r_api_Stitch) (T := 74) (v := .slice ad98 [x91].length cp99) (xs := [x91]) 0 rfl
  refine sCallQ (X := Unit) (f := 33) (vs := [.slice ad98 [x91].length cp99]) (val := fun _ => .tuple #[iv r100.1, iv r100.2]) S (wN rfl) rfl callee33 rfl (S1.quiet [0] rfl) (fun E1 w1 S1 => c_stitch_Makes E1 w1 [x91] (.slice ad98 [x91].length cp99) r100 hx101 S1) rfl (lb rfl) fun _ a w S => ?_
  refine sMove (.tuple #[iv r100.1, iv r100.2]) S (wN rfl) (.inl rfl) rfl rfl (lb rfl) fun a S => ?_
  refine sExtract (vs := [iv r100.1, iv r100.2]) (iv r100.1) S (wN rfl) rfl rfl rfl rfl (lb rfl) fun a S => ?_
  refine sExtract (vs := [iv r100.1, iv r100.2]) (iv r100.2) S (wN rfl) rfl rfl rfl rfl (lb rfl) fun a S => ?_
  refine sMove (iv r100.1) S (wN rfl) (.inr rfl) rfl rfl (lb rfl) fun a S => ?_
  refine sMove (iv r100.2) S (wN rfl) (.inr rfl) rfl rfl (lb rfl) fun a S => ?_
  refine leafL (leafT (hK97 _ _ ?_))
  refine sSeq (fun K102 hK102 => ?_)
  obtain ⟨t104, h, g105⟩ := bindSome h
  refine sCut (fun a w => ∃ o103, o103 = t104 ∧ St [] E [] w0 196 a w [(5, .pointer (some ⟨b6, 0, none⟩)), (6, .pointer (some ⟨b7, 0, none⟩)), (7, .pointer (some ⟨b8, 0, none⟩)), (8, .pointer (some ⟨b9, 0, none⟩)), (9, .pointer (some ⟨b10, 0, none⟩)), (11, .bool r12), (12, .pointer (some ⟨b37, 0, none⟩)), (13, iv r34.2), (14, .pointer (some ⟨b39, 0, none⟩)), (15, iv s45), (16, iv s62), (17, .pointer (some ⟨b96, 0, none⟩)), (18, iv r100.1), (117, .bool o103)] [eBox b6 41 [iv p0.Start, .slice ad3 p0.Rows.length cp4], eBox b7 44 (gl_api_Rates p1), eBox b8 23 [iv p2.Length, iv p2.Time], eBox b9 23 [iv p3.Length, iv p3.Time], eBox b10 27 [.int .u8 p4.System, iv p4.N.Num, iv p4.N.Den], eBox b37 23 [iv r34.1.Length, iv r34.1.Time], eBox b39 23 [iv s63, iv s64], eBox b96 74 [.int .u8 x91.Kind, .bool x91.Purl, iv x91.A, iv x91.B]] [fRep (rL r_api_Row) (.slice ad3 p0.Rows.length cp4) p0.Rows]) ?_ (fun a w hI => ?_)
  · refine sRegion ?_
    refine sMove (iv r100.2) S (wN rfl) (.inl rfl) rfl rfl (lb rfl) fun a S => ?_
    refine sBin (.bool (r100.2 != 0)) S (wN rfl) rfl rfl rfl (bNe _ _ _ _ .i64 r100.2 0) rfl (lb rfl) fun a S => ?_
    refine sMove (.bool (r100.2 != 0)) S (wN rfl) (.inl rfl) rfl rfl (lb rfl) fun a S => ?_
    rcases iteSome h with ⟨hc106, h⟩ | ⟨hc106, h⟩
    · refine sSkip 2 false 113 114 S rfl rfl rfl hc106 rfl (lb rfl) fun a S => ?_
      refine sSkip 2 false 113 115 S rfl rfl rfl hc106 rfl (lb rfl) fun a S => ?_
      refine sSkip 2 false 113 116 S rfl rfl rfl hc106 rfl (lb rfl) fun a S => ?_
      refine sPickT (.bool true) S (wN rfl) rfl rfl hc106 rfl rfl (lb rfl) fun a S => ?_
      exact leafL (leafT (⟨true, Option.some.inj h, S.fix [2, 3, 4, 5, 6, 7, 8, 1] [11] (by decide) rfl rfl rfl⟩))
    refine sField (b := b96) (off := 0) 0 0 S (wG 2 false 113 rfl rfl rfl hc106) rfl rfl rfl rfl rfl (lb rfl) fun a S => ?_
    refine sLoad1 (p := b96) (off := 0) (T := 74) (vs := [.int .u8 x91.Kind, .bool x91.Purl, iv x91.A, iv x91.B]) 1 (.int .u8 x91.Kind) S (wG 2 false 113 rfl rfl rfl hc106) rfl rfl rfl rfl rfl rfl (lb rfl) fun a S => ?_
    refine sBin (.bool (decide (10 < x91.Kind))) S (wG 2 false 113 rfl rfl rfl hc106) rfl rfl rfl (bGt _ _ _ _ .u8 x91.Kind 10) rfl (lb rfl) fun a S => ?_
    refine sPickF (.bool (decide (10 < x91.Kind))) S (wN rfl) rfl rfl hc106 rfl rfl (lb rfl) fun a S => ?_
    exact leafL (leafT (⟨decide (10 < x91.Kind), Option.some.inj h, S.fix [2, 3, 4, 5, 6, 7, 8, 1] [11] (by decide) rfl rfl rfl⟩))
  obtain ⟨o103, rfl, S⟩ := hI
  have h := g105
  clear g105
  try dsimp only at h
  rcases iteSome h with ⟨hc107, h⟩ | ⟨hc107, h⟩
  · refine sCondT S rfl hc107 ?_
    refine sSeq (fun K108 hK108 => ?_)
    refine sRegion ?_
    refine sMove (.bool false) S (wN rfl) (.inr rfl) rfl rfl (lb rfl) fun a S => ?_
    refine leafL (leafT (hK108 _ _ ?_))
    obtain rfl := Option.some.inj h
    obtain rfl := hu65 _ rfl
    have h := g66
    clear g66
    try dsimp only at h
    obtain rfl := Option.some.inj h
    have h := g59
    clear g59
    try dsimp only at h
    obtain rfl := Option.some.inj h
    obtain rfl := hu48 _ rfl
    have h := g49
    clear g49
    try dsimp only at h
    obtain rfl := Option.some.inj h
    have h := g43
    clear g43
    try dsimp only at h
    obtain rfl := Option.some.inj h
    exact wp_ret (rThen (rBlock (rThen (rThen (rBlock (rBlock (rThen (rThen (rBlock (rThen (sRet (.bool false) S (rsl1 rfl (rvT (t := 10) (v := .bool false) S rfl)) ⟨(), rfl, S.mem.sel [] [] (by decide) rfl rfl⟩)))))))))))
  refine sCondF S rfl hc107 ?_
  refine wp_skip (leafT (hK102 _ _ ?_))
  refine sSeq (fun K109 hK109 => ?_)
  obtain ⟨x110, hx111, h⟩ := bindSome h
  refine sDraw (nf := [12]) (W := [(0, 118, .pointer (some ⟨b39, 0, none⟩)), (1, 119, iv s63), (2, 120, .pointer (some ⟨b96, 0, none⟩)), (3, 121, .int .u8 x91.Kind), (4, 122, .pointer (some ⟨b7, 0, none⟩)), (5, 123, .pointer (some ⟨b7, 0 + (x91.Kind).toNat * 1, none⟩)), (6, 124, iv x110), (7, 125, iv r100.1), (8, 126, iv (if (1 : Int) < r100.1 then r100.1 else 1)), (9, 127, iv (w64 (x110 * (if (1 : Int) < r100.1 then r100.1 else 1)))), (10, 128, iv (w64 (s63 + (w64 (x110 * (if (1 : Int) < r100.1 then r100.1 else 1)))))), (11, 129, .pointer (some ⟨b39, 0, none⟩))]) rfl S ?_
  refine node_by (A := anc_raddlelaw45_CostWorks_0) (nf := [12]) (Y := []) (W := [(0, 118, .pointer (some ⟨b39, 0, none⟩)), (1, 119, iv s63), (2, 120, .pointer (some ⟨b96, 0, none⟩)), (3, 121, .int .u8 x91.Kind), (4, 122, .pointer (some ⟨b7, 0, none⟩)), (5, 123, .pointer (some ⟨b7, 0 + (x91.Kind).toNat * 1, none⟩)), (6, 124, iv x110), (7, 125, iv r100.1), (8, 126, iv (if (1 : Int) < r100.1 then r100.1 else 1)), (9, 127, iv (w64 (x110 * (if (1 : Int) < r100.1 then r100.1 else 1)))), (10, 128, iv (w64 (s63 + (w64 (x110 * (if (1 : Int) < r100.1 then r100.1 else 1)))))), (11, 129, .pointer (some ⟨b39, 0, none⟩))]) 13 (by kernel_rfl) (by kernel_rfl) (by kernel_rfl) (by kernel_rfl) (by kernel_rfl) [0, 1, 2, 3, 4, 5, 6, 7, 8, 9, 10, 11] (by kernel_rfl) (by decide) (by decide) (aF 0 12 (by decide) ?_ (aF 1 11 (by decide) ?_ (aF 2 10 (by decide) ?_ (aF 3 9 (by decide) ?_ (aF 4 8 (by decide) ?_ (aF 5 7 (by decide) ?_ (aF 6 6 (by decide) ?_ (aF 7 5 (by decide) ?_ (aF 8 4 (by decide) ?_ (aF 9 3 (by decide) ?_ (aF 10 2 (by decide) ?_ (aF 11 1 (by decide) ?_ (aN 12 0 (by decide) ?_ (trivial)))))))))))))) [] (fun q hq => by cases hq) (fun hY => absurd (hY 12 (by decide)) (by decide))
  · refine fI 118 (.pointer (some ⟨b39, 0, none⟩)) [(14, .pointer (some ⟨b39, 0, none⟩))] 0 [none] rfl rfl rfl rfl rfl rfl fun G a w S => ?_
    refine sField (b := b39) (off := 0) 0 0 S (wN rfl) rfl rfl rfl rfl rfl (lb rfl) fun a S => ?_
    exact leafL ⟨rfl, S⟩
  · refine fI 119 (iv s63) [(118, .pointer (some ⟨b39, 0, none⟩))] 1 [some 0] rfl rfl rfl rfl rfl rfl fun G a w S => ?_
    refine sLoad1 (p := b39) (off := 0) (T := 23) (vs := [iv s63, iv s64]) 6 (iv s63) S (wN rfl) rfl rfl rfl rfl rfl rfl (lb rfl) fun a S => ?_
    exact leafL ⟨rfl, S⟩
  · refine fI 120 (.pointer (some ⟨b96, 0, none⟩)) [(17, .pointer (some ⟨b96, 0, none⟩))] 2 [none] rfl rfl rfl rfl rfl rfl fun G a w S => ?_
    refine sField (b := b96) (off := 0) 0 0 S (wN rfl) rfl rfl rfl rfl rfl (lb rfl) fun a S => ?_
    exact leafL ⟨rfl, S⟩
  · refine fI 121 (.int .u8 x91.Kind) [(120, .pointer (some ⟨b96, 0, none⟩))] 3 [some 2] rfl rfl rfl rfl rfl rfl fun G a w S => ?_
    refine sLoad1 (p := b96) (off := 0) (T := 74) (vs := [.int .u8 x91.Kind, .bool x91.Purl, iv x91.A, iv x91.B]) 7 (.int .u8 x91.Kind) S (wN rfl) rfl rfl rfl rfl rfl rfl (lb rfl) fun a S => ?_
    exact leafL ⟨rfl, S⟩
  · refine fI 122 (.pointer (some ⟨b7, 0, none⟩)) [(6, .pointer (some ⟨b7, 0, none⟩))] 4 [none] rfl rfl rfl rfl rfl rfl fun G a w S => ?_
    refine sField (b := b7) (off := 0) 0 0 S (wN rfl) rfl rfl rfl rfl rfl (lb rfl) fun a S => ?_
    exact leafL ⟨rfl, S⟩
  · refine fI 123 (.pointer (some ⟨b7, 0 + (x91.Kind).toNat * 1, none⟩)) [(121, .int .u8 x91.Kind), (122, .pointer (some ⟨b7, 0, none⟩))] 5 [some 3, some 4] rfl rfl rfl rfl rfl rfl fun G a w S => ?_
    refine sIdxV (v := .pointer (some ⟨b7, 0, none⟩)) (k := .u8) (j := x91.Kind) (q := .pointer (some ⟨b7, 0 + (x91.Kind).toNat * 1, none⟩)) S (wN rfl) rfl rfl rfl (idxV_arr (m := 11) (sz := 1) Try.underlying42 rfl (idxO_rng (m := 11) hx111 rfl).1 (idxO_rng (m := 11) hx111 rfl).2 0) rfl (lb rfl) fun a S => ?_
    exact leafL ⟨rfl, S⟩
  · refine fI 124 (iv x110) [(123, .pointer (some ⟨b7, 0 + (x91.Kind).toNat * 1, none⟩))] 6 [some 5] rfl rfl rfl rfl rfl rfl fun G a w S => ?_
    refine sLoad1 (p := b7) (off := 0 + (x91.Kind).toNat * 1) (T := 44) (vs := [iv p1.Length.1, iv p1.Length.2.1, iv p1.Length.2.2.1, iv p1.Length.2.2.2.1, iv p1.Length.2.2.2.2.1, iv p1.Length.2.2.2.2.2.1, iv p1.Length.2.2.2.2.2.2.1, iv p1.Length.2.2.2.2.2.2.2.1, iv p1.Length.2.2.2.2.2.2.2.2.1, iv p1.Length.2.2.2.2.2.2.2.2.2.1, iv p1.Length.2.2.2.2.2.2.2.2.2.2, iv p1.Time.1, iv p1.Time.2.1, iv p1.Time.2.2.1, iv p1.Time.2.2.2.1, iv p1.Time.2.2.2.2.1, iv p1.Time.2.2.2.2.2.1, iv p1.Time.2.2.2.2.2.2.1, iv p1.Time.2.2.2.2.2.2.2.1, iv p1.Time.2.2.2.2.2.2.2.2.1, iv p1.Time.2.2.2.2.2.2.2.2.2.1, iv p1.Time.2.2.2.2.2.2.2.2.2.2, iv p1.Turn]) 1 (iv x110) S (wN rfl) rfl rfl rfl rfl (box_at (g := (fun z => .int .i64 z)) [] [iv p1.Time.1, iv p1.Time.2.1, iv p1.Time.2.2.1, iv p1.Time.2.2.2.1, iv p1.Time.2.2.2.2.1, iv p1.Time.2.2.2.2.2.1, iv p1.Time.2.2.2.2.2.2.1, iv p1.Time.2.2.2.2.2.2.2.1, iv p1.Time.2.2.2.2.2.2.2.2.1, iv p1.Time.2.2.2.2.2.2.2.2.2.1, iv p1.Time.2.2.2.2.2.2.2.2.2.2, iv p1.Turn] 0 hx111 rfl rfl) rfl (lb rfl) fun a S => ?_
    exact leafL ⟨rfl, S⟩
  · refine fI 125 (iv r100.1) [(18, iv r100.1)] 7 [none] rfl rfl rfl rfl rfl rfl fun G a w S => ?_
    refine sMove (iv r100.1) S (wN rfl) (.inl rfl) rfl rfl (lb rfl) fun a S => ?_
    exact leafL ⟨rfl, S⟩
  · refine fI 126 (iv (if (1 : Int) < r100.1 then r100.1 else 1)) [(125, iv r100.1)] 8 [some 7] rfl rfl rfl rfl rfl rfl fun G a w S => ?_
    refine sMax2 (p := 1) (q := r100.1) S (wN rfl) rfl rfl rfl rfl (lb rfl) fun a S => ?_
    exact leafL ⟨rfl, S⟩
  · refine fI 127 (iv (w64 (x110 * (if (1 : Int) < r100.1 then r100.1 else 1)))) [(124, iv x110), (126, iv (if (1 : Int) < r100.1 then r100.1 else 1))] 9 [some 6, some 8] rfl rfl rfl rfl rfl rfl fun G a w S => ?_
    refine sBin (iv (w64 (x110 * (if (1 : Int) < r100.1 then r100.1 else 1)))) S (wN rfl) rfl rfl rfl (bMul _ _ _ _ x110 (if (1 : Int) < r100.1 then r100.1 else 1)) rfl (lb rfl) fun a S => ?_
    exact leafL ⟨rfl, S⟩
  · refine fI 128 (iv (w64 (s63 + (w64 (x110 * (if (1 : Int) < r100.1 then r100.1 else 1)))))) [(119, iv s63), (127, iv (w64 (x110 * (if (1 : Int) < r100.1 then r100.1 else 1))))] 10 [some 1, some 9] rfl rfl rfl rfl rfl rfl fun G a w S => ?_
    refine sBin (iv (w64 (s63 + (w64 (x110 * (if (1 : Int) < r100.1 then r100.1 else 1)))))) S (wN rfl) rfl rfl rfl (bAdd _ _ _ _ s63 (w64 (x110 * (if (1 : Int) < r100.1 then r100.1 else 1)))) rfl (lb rfl) fun a S => ?_
    exact leafL ⟨rfl, S⟩
  · refine fI 129 (.pointer (some ⟨b39, 0, none⟩)) [(14, .pointer (some ⟨b39, 0, none⟩))] 11 [none] rfl rfl rfl rfl rfl rfl fun G a w S => ?_
    refine sField (b := b39) (off := 0) 0 0 S (wN rfl) rfl rfl rfl rfl rfl (lb rfl) fun a S => ?_
    exact leafL ⟨rfl, S⟩
  refine ⟨_, [(128, iv (w64 (s63 + (w64 (x110 * (if (1 : Int) < r100.1 then r100.1 else 1)))))), (129, .pointer (some ⟨b39, 0, none⟩))], rfl, (srcs_of [some 10, some 11] rfl rfl rfl), fun G a w S => ?_⟩
  refine sStore (p := b39) (off := 0) (T := 23) (vs := [iv s63, iv s64]) (v := iv (w64 (s63 + (w64 (x110 * (if (1 : Int) < r100.1 then r100.1 else 1)))))) 6 [iv (w64 (s63 + (w64 (x110 * (if (1 : Int) < r100.1 then r100.1 else 1)))))] S (wN rfl) rfl rfl rfl rfl rfl rfl rfl (by simp) rfl fun a w S => ?_
  refine leafL ⟨rfl, _, _, .inr ⟨[], rfl, S, hz_of rfl, ?_⟩⟩
  refine node_by (A := anc_raddlelaw45_CostWorks_0) (nf := [12]) (Y := [12]) 13 (by kernel_rfl) (by kernel_rfl) (by kernel_rfl) (by kernel_rfl) (by kernel_rfl) [0, 1, 2, 3, 4, 5, 6, 7, 8, 9, 10, 11] (by kernel_rfl) (by decide) (by decide) (aD 0 12 12 (by decide) (aD 1 11 12 (by decide) (aD 2 10 12 (by decide) (aD 3 9 12 (by decide) (aD 4 8 12 (by decide) (aD 5 7 12 (by decide) (aD 6 6 12 (by decide) (aD 7 5 12 (by decide) (aD 8 4 12 (by decide) (aD 9 3 12 (by decide) (aD 10 2 12 (by decide) (aD 11 1 12 (by decide) (aY 12 0 (by decide) (trivial)))))))))))))) [(5, .pointer (some ⟨b6, 0, none⟩)), (6, .pointer (some ⟨b7, 0, none⟩)), (7, .pointer (some ⟨b8, 0, none⟩)), (8, .pointer (some ⟨b9, 0, none⟩)), (9, .pointer (some ⟨b10, 0, none⟩)), (11, .bool r12), (12, .pointer (some ⟨b37, 0, none⟩)), (13, iv r34.2), (14, .pointer (some ⟨b39, 0, none⟩)), (15, iv s45), (16, iv s62), (17, .pointer (some ⟨b96, 0, none⟩))] (fin_of [none, none, none, none, none, none, none, none, none, none, none, none] rfl (by kernel_rfl) (by kernel_rfl)) (fun _ a w S => ?_)
  refine leafT (hK109 _ _ ?_)
  obtain ⟨x112, hx113, h⟩ := bindSome h
  refine sDraw (nf := [9]) (W := [(0, 130, .pointer (some ⟨b39, 1, none⟩)), (1, 131, iv s64), (2, 132, .pointer (some ⟨b96, 0, none⟩)), (3, 133, .int .u8 x91.Kind), (4, 134, .pointer (some ⟨b7, 11, none⟩)), (5, 135, .pointer (some ⟨b7, 11 + (x91.Kind).toNat * 1, none⟩)), (6, 136, iv x112), (7, 137, iv (w64 (s64 + x112))), (8, 138, .pointer (some ⟨b39, 1, none⟩))]) rfl S ?_
  refine node_by (A := anc_raddlelaw45_CostWorks_1) (nf := [9]) (Y := []) (W := [(0, 130, .pointer (some ⟨b39, 1, none⟩)), (1, 131, iv s64), (2, 132, .pointer (some ⟨b96, 0, none⟩)), (3, 133, .int .u8 x91.Kind), (4, 134, .pointer (some ⟨b7, 11, none⟩)), (5, 135, .pointer (some ⟨b7, 11 + (x91.Kind).toNat * 1, none⟩)), (6, 136, iv x112), (7, 137, iv (w64 (s64 + x112))), (8, 138, .pointer (some ⟨b39, 1, none⟩))]) 10 (by kernel_rfl) (by kernel_rfl) (by kernel_rfl) (by kernel_rfl) (by kernel_rfl) [0, 1, 2, 3, 4, 5, 6, 7, 8] (by kernel_rfl) (by decide) (by decide) (aF 0 9 (by decide) ?_ (aF 1 8 (by decide) ?_ (aF 2 7 (by decide) ?_ (aF 3 6 (by decide) ?_ (aF 4 5 (by decide) ?_ (aF 5 4 (by decide) ?_ (aF 6 3 (by decide) ?_ (aF 7 2 (by decide) ?_ (aF 8 1 (by decide) ?_ (aN 9 0 (by decide) ?_ (trivial))))))))))) [] (fun q hq => by cases hq) (fun hY => absurd (hY 9 (by decide)) (by decide))
  · refine fI 130 (.pointer (some ⟨b39, 1, none⟩)) [(14, .pointer (some ⟨b39, 0, none⟩))] 0 [none] rfl rfl rfl rfl rfl rfl fun G a w S => ?_
    refine sField (b := b39) (off := 0) 1 1 S (wN rfl) rfl rfl rfl rfl rfl (lb rfl) fun a S => ?_
    exact leafL ⟨rfl, S⟩
  · refine fI 131 (iv s64) [(130, .pointer (some ⟨b39, 1, none⟩))] 1 [some 0] rfl rfl rfl rfl rfl rfl fun G a w S => ?_
    refine sLoad1 (p := b39) (off := 1) (T := 23) (vs := [iv (w64 (s63 + (w64 (x110 * (if (1 : Int) < r100.1 then r100.1 else 1))))), iv s64]) 0 (iv s64) S (wN rfl) rfl rfl rfl rfl rfl rfl (lb rfl) fun a S => ?_
    exact leafL ⟨rfl, S⟩
  · refine fI 132 (.pointer (some ⟨b96, 0, none⟩)) [(17, .pointer (some ⟨b96, 0, none⟩))] 2 [none] rfl rfl rfl rfl rfl rfl fun G a w S => ?_
    refine sField (b := b96) (off := 0) 0 0 S (wN rfl) rfl rfl rfl rfl rfl (lb rfl) fun a S => ?_
    exact leafL ⟨rfl, S⟩
  · refine fI 133 (.int .u8 x91.Kind) [(132, .pointer (some ⟨b96, 0, none⟩))] 3 [some 2] rfl rfl rfl rfl rfl rfl fun G a w S => ?_
    refine sLoad1 (p := b96) (off := 0) (T := 74) (vs := [.int .u8 x91.Kind, .bool x91.Purl, iv x91.A, iv x91.B]) 7 (.int .u8 x91.Kind) S (wN rfl) rfl rfl rfl rfl rfl rfl (lb rfl) fun a S => ?_
    exact leafL ⟨rfl, S⟩
  · refine fI 134 (.pointer (some ⟨b7, 11, none⟩)) [(6, .pointer (some ⟨b7, 0, none⟩))] 4 [none] rfl rfl rfl rfl rfl rfl fun G a w S => ?_
    refine sField (b := b7) (off := 0) 11 11 S (wN rfl) rfl rfl rfl rfl rfl (lb rfl) fun a S => ?_
    exact leafL ⟨rfl, S⟩
  · refine fI 135 (.pointer (some ⟨b7, 11 + (x91.Kind).toNat * 1, none⟩)) [(133, .int .u8 x91.Kind), (134, .pointer (some ⟨b7, 11, none⟩))] 5 [some 3, some 4] rfl rfl rfl rfl rfl rfl fun G a w S => ?_
    refine sIdxV (v := .pointer (some ⟨b7, 11, none⟩)) (k := .u8) (j := x91.Kind) (q := .pointer (some ⟨b7, 11 + (x91.Kind).toNat * 1, none⟩)) S (wN rfl) rfl rfl rfl (idxV_arr (m := 11) (sz := 1) Try.underlying42 rfl (idxO_rng (m := 11) hx113 rfl).1 (idxO_rng (m := 11) hx113 rfl).2 11) rfl (lb rfl) fun a S => ?_
    exact leafL ⟨rfl, S⟩
  · refine fI 136 (iv x112) [(135, .pointer (some ⟨b7, 11 + (x91.Kind).toNat * 1, none⟩))] 6 [some 5] rfl rfl rfl rfl rfl rfl fun G a w S => ?_
    refine sLoad1 (p := b7) (off := 11 + (x91.Kind).toNat * 1) (T := 44) (vs := [iv p1.Length.1, iv p1.Length.2.1, iv p1.Length.2.2.1, iv p1.Length.2.2.2.1, iv p1.Length.2.2.2.2.1, iv p1.Length.2.2.2.2.2.1, iv p1.Length.2.2.2.2.2.2.1, iv p1.Length.2.2.2.2.2.2.2.1, iv p1.Length.2.2.2.2.2.2.2.2.1, iv p1.Length.2.2.2.2.2.2.2.2.2.1, iv p1.Length.2.2.2.2.2.2.2.2.2.2, iv p1.Time.1, iv p1.Time.2.1, iv p1.Time.2.2.1, iv p1.Time.2.2.2.1, iv p1.Time.2.2.2.2.1, iv p1.Time.2.2.2.2.2.1, iv p1.Time.2.2.2.2.2.2.1, iv p1.Time.2.2.2.2.2.2.2.1, iv p1.Time.2.2.2.2.2.2.2.2.1, iv p1.Time.2.2.2.2.2.2.2.2.2.1, iv p1.Time.2.2.2.2.2.2.2.2.2.2, iv p1.Turn]) 2 (iv x112) S (wN rfl) rfl rfl rfl rfl (box_at (g := (fun z => .int .i64 z)) [iv p1.Length.1, iv p1.Length.2.1, iv p1.Length.2.2.1, iv p1.Length.2.2.2.1, iv p1.Length.2.2.2.2.1, iv p1.Length.2.2.2.2.2.1, iv p1.Length.2.2.2.2.2.2.1, iv p1.Length.2.2.2.2.2.2.2.1, iv p1.Length.2.2.2.2.2.2.2.2.1, iv p1.Length.2.2.2.2.2.2.2.2.2.1, iv p1.Length.2.2.2.2.2.2.2.2.2.2] [iv p1.Turn] 11 hx113 rfl rfl) rfl (lb rfl) fun a S => ?_
    exact leafL ⟨rfl, S⟩
  · refine fI 137 (iv (w64 (s64 + x112))) [(131, iv s64), (136, iv x112)] 7 [some 1, some 6] rfl rfl rfl rfl rfl rfl fun G a w S => ?_
    refine sBin (iv (w64 (s64 + x112))) S (wN rfl) rfl rfl rfl (bAdd _ _ _ _ s64 x112) rfl (lb rfl) fun a S => ?_
    exact leafL ⟨rfl, S⟩
  · refine fI 138 (.pointer (some ⟨b39, 1, none⟩)) [(14, .pointer (some ⟨b39, 0, none⟩))] 8 [none] rfl rfl rfl rfl rfl rfl fun G a w S => ?_
    refine sField (b := b39) (off := 0) 1 1 S (wN rfl) rfl rfl rfl rfl rfl (lb rfl) fun a S => ?_
    exact leafL ⟨rfl, S⟩
  refine ⟨_, [(137, iv (w64 (s64 + x112))), (138, .pointer (some ⟨b39, 1, none⟩))], rfl, (srcs_of [some 7, some 8] rfl rfl rfl), fun G a w S => ?_⟩
  refine sStore (p := b39) (off := 1) (T := 23) (vs := [iv (w64 (s63 + (w64 (x110 * (if (1 : Int) < r100.1 then r100.1 else 1))))), iv s64]) (v := iv (w64 (s64 + x112))) 0 [iv (w64 (s64 + x112))] S (wN rfl) rfl rfl rfl rfl rfl rfl rfl (by simp) rfl fun a w S => ?_
  refine leafL ⟨rfl, _, _, .inr ⟨[], rfl, S, hz_of rfl, ?_⟩⟩
  refine node_by (A := anc_raddlelaw45_CostWorks_1) (nf := [9]) (Y := [9]) 10 (by kernel_rfl) (by kernel_rfl) (by kernel_rfl) (by kernel_rfl) (by kernel_rfl) [0, 1, 2, 3, 4, 5, 6, 7, 8] (by kernel_rfl) (by decide) (by decide) (aD 0 9 9 (by decide) (aD 1 8 9 (by decide) (aD 2 7 9 (by decide) (aD 3 6 9 (by decide) (aD 4 5 9 (by decide) (aD 5 4 9 (by decide) (aD 6 3 9 (by decide) (aD 7 2 9 (by decide) (aD 8 1 9 (by decide) (aY 9 0 (by decide) (trivial))))))))))) [(5, .pointer (some ⟨b6, 0, none⟩)), (6, .pointer (some ⟨b7, 0, none⟩)), (7, .pointer (some ⟨b8, 0, none⟩)), (8, .pointer (some ⟨b9, 0, none⟩)), (9, .pointer (some ⟨b10, 0, none⟩)), (11, .bool r12), (12, .pointer (some ⟨b37, 0, none⟩)), (13, iv r34.2), (14, .pointer (some ⟨b39, 0, none⟩)), (15, iv s45), (16, iv s62)] (fin_of [none, none, none, none, none, none, none, none, none, none, none] rfl (by kernel_rfl) (by kernel_rfl)) (fun _ a w S => ?_)
  refine leafB (leafT (hK82 _ _ ?_))
  refine sRegion ?_
  refine sMove (iv s62) S (wN rfl) (.inl rfl) rfl rfl (lb rfl) fun a S => ?_
  refine sBin (iv (w64 (s62 + 1))) S (wN rfl) rfl rfl rfl (bAdd _ _ _ _ s62 1) rfl (lb rfl) fun a S => ?_
  refine sMove (iv (w64 (s62 + 1))) S (wN rfl) (.inr rfl) rfl rfl (lb rfl) fun a S => ?_
  exact leafL (leafT (⟨(w64 (s62 + 1), w64 (s63 + (w64 (x110 * (if (1 : Int) < r100.1 then r100.1 else 1)))), w64 (s64 + x112)), (Option.some.inj h).symm, (S.fix [1, 2, 3, 4, 5, 6, 0] [0] (by decide) rfl rfl rfl)⟩))

end Go.Proofs.Ytdbgkakmhlmpbaa
namespace Go.Proofs.Ytdbgkakmhlmpbaa
open Go.RowKit
set_option linter.unusedVariables false

theorem sm_add {α : Type} (t : Int) (f : α → Int) (l : List α) : sm (fun x => t + f x) l = t * (l.length : Int) + sm f l := by
  induction l with
  | nil => simp [sm]
  | cons x l ih =>
    simp only [sm, ih, List.length_cons]
    have : t * ((l.length + 1 : Nat) : Int) = t * (l.length : Int) + t := by rw [Int.natCast_add, Int.mul_add]; simp
    omega
theorem works_row (c : api_Chart) (r : api_Rates) (hr : okR r) {i : Nat} (hi : i < c.Rows.length) (hal : allS c.Rows[i].Cells = 0) (a b : Int) (ha : 0 ≤ a ∧ a ≤ 1000000000000000) (hb : 0 ≤ b ∧ b ≤ 1000000000000000) :
    whileO (raddlelaw45_CostWorks_l1 c (i : Int) r) (0, a, b) = some (.inr (a + rowT (lenS r) c.Rows[i], b + rowT (timS r) c.Rows[i])) := by
  have hk := allS_ok hal
  have b1 := rowT_bd (f := lenS r) (b := 200000000) (r := c.Rows[i]) (by omega) hal (fun p hp => lenS_bd hr hp)
  have b2 := rowT_bd (f := timS r) (b := 1000000) (r := c.Rows[i]) (by omega) hal (fun p _ => timS_bd hr p)
  unfold rowT at b1 b2 ⊢
  refine loop_acc2 c.Rows[i].Cells (lenS r) (timS r) a b (fun p hp => (lenS_bd hr (hk.2.1 p hp)).1) (fun p _ => (timS_bd hr p).1) ?_ ?_
  · intro k hk2 a' b' h1 h2 h3 h4
    have hp := hk.2.1 _ (List.getElem_mem hk2)
    have hkd := okS_bd hp
    have i1 := idx11 r.Length (k := c.Rows[i].Cells[k].Kind) (by omega)
    have i2 := idx11 r.Time (k := c.Rows[i].Cells[k].Kind) (by omega)
    simp only [l11] at i1 i2
    have l1 := lenS_bd hr hp
    have l2 := timS_bd hr c.Rows[i].Cells[k]
    have hkl : k < 9223372036854775807 := by omega
    unfold raddlelaw45_CostWorks_l1
    simp only [idxO_nat hi, Option.bind_some, dT (show (k : Int) < (c.Rows[i].Cells.length : Int) by omega), if_true, idxO_nat hk2, makes_one hp, bne_self_eq_false, Bool.false_eq_true, if_false, dF (show ¬ (10 : Int) < c.Rows[i].Cells[k].Kind by omega), i1, i2, w64_succ hkl]
    show some (Sum.inl (((k + 1 : Nat) : Int), w64 (a' + w64 (lenS r c.Rows[i].Cells[k])), w64 (b' + timS r c.Rows[i].Cells[k]))) = _
    rw [w64_of (x := lenS r c.Rows[i].Cells[k]) (by omega) (by omega), w64_of (by omega) (by omega), w64_of (by omega) (by omega)]
  · unfold raddlelaw45_CostWorks_l1
    simp only [idxO_nat hi, Option.bind_some, dF (show ¬ (c.Rows[i].Cells.length : Int) < (c.Rows[i].Cells.length : Int) by omega), Bool.false_eq_true, if_false]
theorem works_rows (c : api_Chart) (r : api_Rates) (hr : okR r) (hc : chk c = 0) : whileO (raddlelaw45_CostWorks_l2 c r) (0, 0, 0) = some (.inr ((billOf c r).Length, (billOf c r).Time)) := by
  obtain ⟨hl, _, _, hrs⟩ := chk_ok hc
  have hal : ∀ x, x ∈ c.Rows → allS x.Cells = 0 := chkR_mem hrs
  have b1 := rows_bd (f := lenS r) (b := 200000000) (c := c) (by omega) hc (fun p hp => lenS_bd hr hp)
  have b2 := rows_bd (f := timS r) (b := 1000000) (c := c) (by omega) hc (fun p _ => timS_bd hr p)
  have ht := hr.2.2.1
  have ht2 := hr.2.2.2.1
  have htl : r.Turn * (c.Rows.length : Int) ≤ 1000000 * 100 ∧ 0 ≤ r.Turn * (c.Rows.length : Int) := by
    have := mul_bd (u := r.Turn) (v := (c.Rows.length : Int)) (a := 1000000) (b := 100) ht ht2 (by omega) (by omega)
    omega
  have hg := sm_add r.Turn (rowT (timS r)) c.Rows
  have e : (billOf c r).Length = 0 + sm (rowT (lenS r)) c.Rows ∧ (billOf c r).Time = 0 + sm (fun x => r.Turn + rowT (timS r) x) c.Rows := by
    rw [hg]; unfold billOf; exact ⟨(Int.zero_add _).symm, (Int.zero_add _).symm⟩
  rw [e.1, e.2]
  refine loop_acc2 c.Rows (rowT (lenS r)) (fun x => r.Turn + rowT (timS r) x) 0 0 (fun x hx => (rowT_bd (b := 200000000) (by omega) (hal x hx) (fun p hp => lenS_bd hr hp)).1) (fun x hx => by have := (rowT_bd (b := 1000000) (by omega) (hal x hx) (fun p _ => timS_bd hr p)).1; omega) ?_ ?_
  · intro k hk a b h1 h2 h3 h4
    have hx := hal _ (List.getElem_mem hk)
    have c1 := rowT_bd (f := lenS r) (b := 200000000) (r := c.Rows[k]) (by omega) hx (fun p hp => lenS_bd hr hp)
    have c2 := rowT_bd (f := timS r) (b := 1000000) (r := c.Rows[k]) (by omega) hx (fun p _ => timS_bd hr p)
    have hkl : k < 9223372036854775807 := by omega
    have ew : w64 (b + r.Turn) = b + r.Turn := w64_of (by omega) (by omega)
    unfold raddlelaw45_CostWorks_l2
    simp only [dT (show (k : Int) < (c.Rows.length : Int) by omega), if_true, ew, works_row c r hr hk hx a (b + r.Turn) (by omega) (by omega), Option.bind_some, w64_succ hkl]
    rw [Int.add_assoc]
  · unfold raddlelaw45_CostWorks_l2
    simp only [dF (show ¬ (c.Rows.length : Int) < (c.Rows.length : Int) by omega), Bool.false_eq_true, if_false]
theorem weight_val (b : api_Bill) (n : api_Count) (hl : 0 ≤ b.Length) : F_cost_Weight b n = if b.Time < 0 then some (⟨0, 0⟩, 2) else F_yarn_Weigh n b.Length := by
  unfold F_cost_Weight
  simp only [dF (show ¬ b.Length < 0 by omega), Bool.false_eq_true, if_false, Option.bind_some]
  by_cases h : b.Time < 0
  · rw [if_pos h]; simp only [dT h, if_true, Option.bind_some]
  · rw [if_neg h]; simp only [dF h, Bool.false_eq_true, if_false, Option.bind_some]
    cases F_yarn_Weigh n b.Length <;> rfl
theorem law_CostWorks' (ha : F_raddlelaw45_alive = some true) (c : api_Chart) (r : api_Rates) (a b : api_Bill) (n : api_Count) (wc : wf_api_Chart c) (wr : wf_api_Rates r) (wa : wf_api_Bill a) (wb : wf_api_Bill b) (wn : wf_api_Count n) : F_raddlelaw45_CostWorks c r a b n = some true := by
  obtain ⟨g, hg⟩ := great_some c wc.2.1
  unfold F_raddlelaw45_CostWorks
  simp only [ha, Option.bind_some, hg, rchart_check_eq, rrates_eq, need_eq c r (wfR_of wc)]
  cases g with
  | true => simp only [if_true, Option.bind_some]
  | false =>
  simp only [Bool.false_eq_true, if_false]
  by_cases hc : chk c = 0
  case neg => simp only [nT hc, if_true, Option.bind_some]
  simp only [nF hc, Bool.false_eq_true, if_false]
  by_cases hr : okR r
  case neg => simp only [hr, if_false, nT (show ¬ (8 : Int) = 0 by omega), if_true, Option.bind_some]
  simp only [hr, if_true, bne_self_eq_false, Bool.false_eq_true, if_false]
  by_cases a0 : a.Length < 0
  · simp only [dT a0, if_true, Option.bind_some]
  by_cases a1 : 1000000000 < a.Length
  · simp only [dF a0, dT a1, Bool.false_eq_true, if_false, if_true, Option.bind_some]
  by_cases b0 : b.Length < 0
  · simp only [dF a0, dF a1, dT b0, Bool.false_eq_true, if_false, if_true, Option.bind_some]
  by_cases b1 : 1000000000 < b.Length
  · simp only [dF a0, dF a1, dF b0, dT b1, Bool.false_eq_true, if_false, if_true, Option.bind_some]
  simp only [dF a0, dF a1, dF b0, dF b1, Bool.not_true, Bool.false_eq_true, if_false, Option.bind_some, works_rows c r hr hc]
  have hn : needOf c r = (billOf c r, 0) := by unfold needOf; rw [if_pos hc, if_pos hr]
  simp only [hn, bne_self_eq_false, Bool.false_eq_true, if_false, beq_self_eq_true, Bool.and_self, Bool.not_true, Option.bind_some]
  have es : w64 (a.Length + b.Length) = a.Length + b.Length := w64_of (by omega) (by omega)
  obtain ⟨x, y, z, hx, hy, hz, key⟩ : ∃ x y z : api_Ratio × Int, F_cost_Weight a n = some x ∧ F_cost_Weight b n = some y ∧ F_cost_Weight ⟨a.Length + b.Length, 0⟩ n = some z ∧ (x.2 = 0 → y.2 = 0 → z.2 = 0 → F_yarn_Add x.1 y.1 = some z) := by
    rw [weight_val a n (by omega), weight_val b n (by omega), weight_val _ n (show 0 ≤ (api_Bill.mk (a.Length + b.Length) 0).Length by dsimp only; omega)]
    simp only [show ¬ (0 : Int) < 0 by omega, if_false]
    rcases weigh_val n wn with h | ⟨u, v, u0, u1, v0, v1, h1, h2⟩
    · obtain ⟨z, z1, z2⟩ := h (a.Length + b.Length)
      obtain ⟨x, x1, _⟩ := h a.Length
      obtain ⟨y, y1, _⟩ := h b.Length
      rw [z1, x1, y1]
      by_cases t1 : a.Time < 0
      · by_cases t2 : b.Time < 0
        · rw [if_pos t1, if_pos t2]; exact ⟨_, _, _, rfl, rfl, rfl, fun _ _ h => absurd h z2⟩
        · rw [if_pos t1, if_neg t2]; exact ⟨_, _, _, rfl, rfl, rfl, fun _ _ h => absurd h z2⟩
      · by_cases t2 : b.Time < 0
        · rw [if_neg t1, if_pos t2]; exact ⟨_, _, _, rfl, rfl, rfl, fun _ _ h => absurd h z2⟩
        · rw [if_neg t1, if_neg t2]; exact ⟨_, _, _, rfl, rfl, rfl, fun _ _ h => absurd h z2⟩
    · obtain ⟨A, hA⟩ : ∃ A : Nat, a.Length = A := ⟨a.Length.toNat, by omega⟩
      obtain ⟨B, hB⟩ : ∃ B : Nat, b.Length = B := ⟨b.Length.toNat, by omega⟩
      obtain ⟨z, z1, z2⟩ : ∃ z, F_yarn_Weigh n (a.Length + b.Length) = some z ∧ (z.2 = 0 → z = mk ((A + B) * u) (10000 * v)) := by
        by_cases hs : 1000000000 < a.Length + b.Length
        · obtain ⟨z, z1, z2⟩ := h1 _ (.inr hs)
          exact ⟨z, z1, fun h => absurd h z2⟩
        · refine ⟨_, ?_, fun _ => rfl⟩
          rw [← h2 (A + B) (by omega), hA, hB]; rfl
      rw [z1]
      have hx := h2 A (by omega)
      have hy := h2 B (by omega)
      rw [hA, hB, hx, hy]
      by_cases t1 : a.Time < 0
      · by_cases t2 : b.Time < 0
        · rw [if_pos t1, if_pos t2]; exact ⟨_, _, _, rfl, rfl, rfl, fun h _ _ => absurd h (by simp)⟩
        · rw [if_pos t1, if_neg t2]; exact ⟨_, _, _, rfl, rfl, rfl, fun h _ _ => absurd h (by simp)⟩
      · by_cases t2 : b.Time < 0
        · rw [if_neg t1, if_pos t2]; exact ⟨_, _, _, rfl, rfl, rfl, fun _ h _ => absurd h (by simp)⟩
        · rw [if_neg t1, if_neg t2]
          refine ⟨_, _, _, rfl, rfl, rfl, fun k1 k2 k3 => ?_⟩
          have hz := z2 k3
          rw [hz] at k3 ⊢
          rw [Nat.add_mul] at k3 ⊢
          exact mk_sum (by omega) k1 k2 k3
  simp only [es, hx, hy, hz, Option.bind_some]
  by_cases x0 : x.2 = 0
  case neg => simp only [nT x0, if_true, Option.bind_some]
  by_cases y0 : y.2 = 0
  case neg => simp only [nF x0, nT y0, Bool.false_eq_true, if_false, if_true, Option.bind_some]
  by_cases z0 : z.2 = 0
  case neg => simp only [nF x0, nF y0, nT z0, Bool.false_eq_true, if_false, if_true, Option.bind_some]
  simp only [nF x0, nF y0, nF z0, Bool.false_eq_true, if_false, if_true, Option.bind_some, key x0 y0 z0, bT z0, beq_self_eq_true, Bool.and_self]

end Go.Proofs.Ytdbgkakmhlmpbaa
namespace Go.Proofs.Ytdbgkakmhlmpbaa
open Go.RowKit
set_option linter.unusedVariables false

theorem law_CostWorks (c : api_Chart) (r : api_Rates) (a b : api_Bill) (n : api_Count) (wc : wf_api_Chart c) (wr : wf_api_Rates r) (wa : wf_api_Bill a) (wb : wf_api_Bill b) (wn : wf_api_Count n) : F_raddlelaw45_CostWorks c r a b n = some true := law_CostWorks' k_raddlelaw45_alive c r a b n wc wr wa wb wn

end Go.Proofs.Ytdbgkakmhlmpbaa
namespace Go.Proofs.Ytdbgkakmhlmpbaa
open Go.RowKit
set_option linter.unusedVariables false

namespace frameCostWorks
open Go.ChangeShapes Go.WideShapes Go.ChangeAt Go.Joins
theorem own : ownKnob Try.prog.godebug = none := by kernel_rfl
theorem laidOut : laidOutB Try.prog = true := by kernel_rfl
set_option maxRecDepth 100000 in
theorem lifted (os : Os) (started : os.Started) (H : Type) (enc : TypeId × Value → H) :
    ReturnsInHanded {} Try.checked os 8 .any (Rows.costWorksSpec.pre6 enc Try.prog Try.f8 Rows.costWorksRow.domain false) (Rows.costWorksSpec.post enc Try.prog Try.f8 false true false false) := by
  refine returnsInHanded_of_change (C := Try.checked) own started (by kernel_rfl) Try.func8
    (ChangeSpec.witness6 (enc := enc) (C := Try.checked) false ⟨#[], #[.agg #[iv 0, .slice none 0 0], gv_api_Rates (api_Rates.mk (0, 0, 0, 0, 0, 0, 0, 0, 0, 0, 0) (0, 0, 0, 0, 0, 0, 0, 0, 0, 0, 0) 0), .agg #[iv 0, iv 0], .agg #[iv 0, iv 0], .agg #[.int .u8 0, iv 0, iv 0]], []⟩ 8 (by kernel_rfl) (by kernel_rfl) (by kernel_rfl) (by kernel_rfl)) ?_
  intro W base args ds gs before hval0 hW hcnd _
  have hval : ∀ (j : Nat) t v, Try.f8.params[j]? = some t → args[j]? = some v → Value.okWide Try.prog W .any base t v := hval0
  have hW' := hW
  obtain ⟨p, q, hA0, hV, rfl, hfz, hnd⟩ := hW
  have hA : DataW.TrodAll enc Try.prog W 0 (fun _ => true) true Try.f8.params.toList args.toList ds p := hA0
  rw [Try.params8] at hA hval
  obtain ⟨v0, vs0, d0, ds0, p0, q0, hargs, rfl, rfl, h0, r0⟩ := trodAll_cons hA
  obtain ⟨v1, vs1, d1, ds1, p1, q1, rfl, rfl, rfl, h1, r1⟩ := trodAll_cons r0
  obtain ⟨v2, vs2, d2, ds2, p2, q2, rfl, rfl, rfl, h2, r2⟩ := trodAll_cons r1
  obtain ⟨v3, vs3, d3, ds3, p3, q3, rfl, rfl, rfl, h3, r3⟩ := trodAll_cons r2
  obtain ⟨v4, vs4, d4, ds4, p4, q4, rfl, rfl, rfl, h4, r4⟩ := trodAll_cons r3
  obtain ⟨rfl, rfl, rfl⟩ := trodAll_nil r4
  obtain rfl : args = #[v0, v1, v2, v3, v4] := by cases args; simp_all
  obtain ⟨rfl, rfl⟩ := trodVars_none hV
  have k0 := h0
  have lt0 : ∀ x ∈ p0, x.block < W.heap.size := by obtain ⟨m, hm⟩ := k0; exact DataW.trod_lt m _ _ _ hm
  have k1 := h1
  have lt1 : ∀ x ∈ p1, x.block < W.heap.size := by obtain ⟨m, hm⟩ := k1; exact DataW.trod_lt m _ _ _ hm
  have k2 := h2
  have lt2 : ∀ x ∈ p2, x.block < W.heap.size := by obtain ⟨m, hm⟩ := k2; exact DataW.trod_lt m _ _ _ hm
  have k3 := h3
  have lt3 : ∀ x ∈ p3, x.block < W.heap.size := by obtain ⟨m, hm⟩ := k3; exact DataW.trod_lt m _ _ _ hm
  have k4 := h4
  have lt4 : ∀ x ∈ p4, x.block < W.heap.size := by obtain ⟨m, hm⟩ := k4; exact DataW.trod_lt m _ _ _ hm
  obtain ⟨x0, rep0, wf0⟩ := top_agg Try.underlying41 aggr_api_Chart op_api_Chart (hval 0 _ v0 rfl rfl) h0
  obtain ⟨x1, rep1, wf1⟩ := top_agg Try.underlying44 aggr_api_Rates op_api_Rates (hval 1 _ v1 rfl rfl) h1
  obtain ⟨x2, rep2, wf2⟩ := top_agg Try.underlying23 aggr_api_Bill op_api_Bill (hval 2 _ v2 rfl rfl) h2
  obtain ⟨x3, rep3, wf3⟩ := top_agg Try.underlying23 aggr_api_Bill op_api_Bill (hval 3 _ v3 rfl rfl) h3
  obtain ⟨x4, rep4, wf4⟩ := top_agg Try.underlying27 aggr_api_Count op_api_Count (hval 4 _ v4 rfl rfl) h4
  clear hA0 hval0
  refine (c_raddlelaw45_CostWorks (fun _ => False) W x0 v0 x1 v1 x2 v2 x3 v3 x4 v4 true (law_CostWorks x0 x1 x2 x3 x4 wf0 wf1 wf2 wf3 wf4) (St0.start (by intro d hd; simp only [List.mem_cons, List.not_mem_nil, or_false] at hd; rcases hd with rfl | rfl | rfl | rfl | rfl; exact rep0; exact rep1; exact rep2; exact rep3; exact rep4))).mono fun e W' hr => ?_
  obtain ⟨_, he, hS⟩ := hr
  have bel := hS.chg.below
  subst he
  exact ⟨_, rfl, _, _, _, [], _, [], hW', trodAll_mk1 (shut_bool Try.underlying4 _), (trodAll_cons_mk (Below.trod laidOut (by kernel_rfl) (of_decide_eq_true (by kernel_rfl)) k0 bel lt0) (trodAll_cons_mk (Below.trod laidOut (by kernel_rfl) (of_decide_eq_true (by kernel_rfl)) k1 bel lt1) (trodAll_cons_mk (Below.trod laidOut (by kernel_rfl) (of_decide_eq_true (by kernel_rfl)) k2 bel lt2) (trodAll_cons_mk (Below.trod laidOut (by kernel_rfl) (of_decide_eq_true (by kernel_rfl)) k3 bel lt3) (trodAll_cons_mk (Below.trod laidOut (by kernel_rfl) (of_decide_eq_true (by kernel_rfl)) k4 bel lt4) trodAll_mk0))))), rfl, bel.frame _, fun h => by cases h⟩
theorem over : Rows.costWorksRow.holds Try.pinned (OpenSpec.ofChange Rows.costWorksSpec) :=
  OpenClaim.holds_of_wide 8 Try.f8 rfl rfl rfl rfl rfl rfl rfl ⟨rfl, rfl, rfl, rfl, rfl⟩ rfl rfl rfl rfl rfl (by kernel_rfl) Try.func8 (by kernel_rfl)
    (of_decide_eq_true (by kernel_rfl)) (by unfold Func.isWrapper; first | (rw [if_pos (by decide +kernel)]; kernel_rfl) | (rw [if_neg (by decide +kernel)]; exact ⟨rfl, rfl⟩))
    (fun os started H enc _ => lifted os started H enc)
end frameCostWorks
theorem costWorks_holds : Rows.CostWorksSaid := frameCostWorks.over

end Go.Proofs.Ytdbgkakmhlmpbaa
