/- Several texts in one: G22 G18 G32 G90 G70 G88 G66 G50 G51 G30 G46 G47 G87 -/
import Derived.WalkKit
import Derived.Maps.AppendAt
import Derived.Deep.AppendLies
import Derived.KernelRfl
import Derived.Laws.OwnMore
import Derived.Great.BuildSlice
import Derived.Orders
import Derived.Laws.StructEq
import Derived.ChangeKeysEq
import Derived.Defers
import Derived.Laws.BytesString
import Derived.RangeFuncNested
import Derived.RangeFuncBound
import Derived.RangeFuncCalls
import Derived.RangeFuncLeaves
import Derived.OrdersIn
import Derived.LoopNIn
import Derived.Test.YtdbgkakmhlmpbaaProg
import Derived.ProofKit
import Derived.OpenShut
import Derived.ChangeOld
import Derived.Deep.Slices
import Derived.Lib.SmallJoins
import Derived.JoinedOf
import Derived.JoinedAt
import Derived.Below
import Derived.Test.YtdbgkakmhlmpbaaRows
import Derived.Test.YtdbgkakmhlmpbaaMCostSkeins3
namespace Go.Proofs.Ytdbgkakmhlmpbaa
open Go.RowKit
set_option linter.unusedVariables false

noncomputable def cost_Check_l1 (p0 : api_Rates) : Int → Option (Int ⊕ (Int ⊕ Unit)) := fun s0 => match s0 with
  | s6 =>
    if decide (s6 < 11) then
      Option.bind (idxO ([p0.Length.1, p0.Length.2.1, p0.Length.2.2.1, p0.Length.2.2.2.1, p0.Length.2.2.2.2.1, p0.Length.2.2.2.2.2.1, p0.Length.2.2.2.2.2.2.1, p0.Length.2.2.2.2.2.2.2.1, p0.Length.2.2.2.2.2.2.2.2.1, p0.Length.2.2.2.2.2.2.2.2.2.1, p0.Length.2.2.2.2.2.2.2.2.2.2] : List Int) s6) fun x15 =>
      Option.bind (α := Bool) (
        Option.bind (F_cost_rate x15) fun r20 =>
        if !r20 then
          some true
        else
          Option.bind (idxO ([p0.Time.1, p0.Time.2.1, p0.Time.2.2.1, p0.Time.2.2.2.1, p0.Time.2.2.2.2.1, p0.Time.2.2.2.2.2.1, p0.Time.2.2.2.2.2.2.1, p0.Time.2.2.2.2.2.2.2.1, p0.Time.2.2.2.2.2.2.2.2.1, p0.Time.2.2.2.2.2.2.2.2.2.1, p0.Time.2.2.2.2.2.2.2.2.2.2] : List Int) s6) fun x23 =>
          Option.bind (F_cost_rate x23) fun r25 =>
          some (!r25)) fun o17 =>
      if o17 then
        some (.inr (.inl 8))
      else
        some (.inl (w64 (s6 + 1)))
    else
      some (.inr (.inr ()))
noncomputable def F_cost_Check (p0 : api_Rates) : Option Int :=
  Option.bind (α := Unit ⊕ Int) (
    Option.bind (whileO (cost_Check_l1 p0) 0) fun z0 => match z0 with
      | .inl z =>
        some (.inr z)
      | .inr _ =>
        some (.inl ())) fun z0 => match z0 with
    | .inl _ =>
      Option.bind (α := Bool) (
        Option.bind (F_cost_rate p0.Turn) fun r33 =>
        if !r33 then
          some true
        else
          if p0.Length.1 != 0 then
            some true
          else
            some (p0.Time.1 != 0)) fun o30 =>
      if o30 then
        some 8
      else
        some 0
    | .inr z =>
      some z
set_option maxHeartbeats 4000000 in
set_option maxRecDepth 100000 in
theorem c_cost_Check (E : Nat → Prop) (w0 : World) (p0 : api_Rates) (v0 : Value) (r : Int) (h : F_cost_Check p0 = some r) (S : St0 E [] w0 w0 [] [fRep r_api_Rates (v0) p0]) :
    Calls Try.prog 22 #[v0] w0 (Ret (X := Unit) E [] w0 (fun _ => .int .i64 r) (fun _ => []) (fun _ => [])) := by
  unfold F_cost_Check at h
  obtain rfl : v0 = gv_api_Rates p0 := S.know (i := 0) (e := fRep r_api_Rates (v0) p0) rfl
  refine sEnter (args := [gv_api_Rates p0]) 39 Try.func22 rfl rfl (by simp) S (fun a S => ?_)
  refine sSeq (fun K1 hK1 => ?_)
  refine sRegion ?_
  refine sBox (v := gv_api_Rates p0) S (wN rfl) rfl rfl (gl_api_Rates p0) rfl rfl (lb rfl) fun a b2 w S => ?_
  refine sMove (iv 0) S (wN rfl) (.inr rfl) rfl rfl (lb rfl) fun a S => ?_
  refine leafL (leafT (hK1 _ _ ?_))
  obtain ⟨t3, h, g4⟩ := bindSome h
  refine sCut (fun a w => .inl () = t3 ∧ St [] E [] w0 39 a w [(1, .pointer (some ⟨b2, 0, none⟩))] [eBox b2 44 (gl_api_Rates p0)] []) ?_ (fun a w hI => ?_)
  rotate_left
  · obtain ⟨rfl, S⟩ := hI
    have h := g4
    clear g4
    try dsimp only at h
    refine sSeq (fun K29 hK29 => ?_)
    obtain ⟨t31, h, g32⟩ := bindSome h
    refine sCut (fun a w => ∃ o30, o30 = t31 ∧ St [] E [] w0 39 a w [(38, .bool o30)] [] []) ?_ (fun a w hI => ?_)
    rotate_left
    · obtain ⟨o30, rfl, S⟩ := hI
      have h := g32
      clear g32
      try dsimp only at h
      rcases iteSome h with ⟨hc37, h⟩ | ⟨hc37, h⟩
      · refine sCondT S rfl hc37 ?_
        refine sSeq (fun K38 hK38 => ?_)
        refine sRegion ?_
        refine sMove (iv 8) S (wN rfl) (.inr rfl) rfl rfl (lb rfl) fun a S => ?_
        refine leafL (leafT (hK38 _ _ ?_))
        obtain rfl := Option.some.inj h
        exact wp_ret (rThen (sRet (iv 8) S (rsl1 rfl (rvT (t := 2) (v := iv 8) S rfl)) ⟨(), rfl, S.mem.sel [] [] (by decide) rfl rfl⟩))
      refine sCondF S rfl hc37 ?_
      refine wp_skip (leafT (hK29 _ _ ?_))
      refine sSeq (fun K39 hK39 => ?_)
      refine sRegion ?_
      refine sMove (iv 0) S (wN rfl) (.inr rfl) rfl rfl (lb rfl) fun a S => ?_
      refine leafL (leafT (hK39 _ _ ?_))
      obtain rfl := Option.some.inj h
      exact wp_ret (sRet (iv 0) S (rsl1 rfl (rvT (t := 2) (v := iv 0) S rfl)) ⟨(), rfl, S.mem.sel [] [] (by decide) rfl rfl⟩)
    refine sRegion ?_
    refine sField (b := b2) (off := 0) 22 22 S (wN rfl) rfl rfl rfl rfl rfl (lb rfl) fun a S => ?_
    refine sLoad1 (p := b2) (off := 22) (T := 44) (vs := (gl_api_Rates p0)) 0 (iv p0.Turn) S (wN rfl) rfl rfl rfl rfl rfl rfl (lb rfl) fun a S => ?_
    obtain ⟨r33, hx34, h⟩ := bindSome h
    have S1 := S.mem
    refine sCallQ (X := Unit) (f := 42) (vs := [iv p0.Turn]) (val := fun _ => .bool r33) S (wN rfl) rfl callee42 rfl (S1.quiet [] rfl) (fun E1 w1 S1 => c_cost_rate E1 w1 p0.Turn r33 hx34 S1) rfl (lb rfl) fun _ a w S => ?_
    refine sNot (b := r33) S (wN rfl) rfl rfl rfl (lb rfl) fun a S => ?_
    refine sMove (.bool (!r33)) S (wN rfl) (.inl rfl) rfl rfl (lb rfl) fun a S => ?_
    rcases iteSome h with ⟨hc35, h⟩ | ⟨hc35, h⟩
    · refine sSkip 4 false 27 28 S rfl rfl rfl hc35 rfl (lb rfl) fun a S => ?_
      refine sSkip 4 false 27 29 S rfl rfl rfl hc35 rfl (lb rfl) fun a S => ?_
      refine sSkip 4 false 27 30 S rfl rfl rfl hc35 rfl (lb rfl) fun a S => ?_
      refine sSkip 4 false 27 31 S rfl rfl rfl hc35 rfl (lb rfl) fun a S => ?_
      refine sPickT (.bool true) S (wN rfl) rfl rfl hc35 rfl rfl (lb rfl) fun a S => ?_
      refine sMove (.bool true) S (wN rfl) (.inl rfl) rfl rfl (lb rfl) fun a S => ?_
      refine sSkip 10 false 33 34 S rfl rfl rfl rfl rfl (lb rfl) fun a S => ?_
      refine sSkip 10 false 33 35 S rfl rfl rfl rfl rfl (lb rfl) fun a S => ?_
      refine sSkip 10 false 33 36 S rfl rfl rfl rfl rfl (lb rfl) fun a S => ?_
      refine sSkip 10 false 33 37 S rfl rfl rfl rfl rfl (lb rfl) fun a S => ?_
      refine sPickT (.bool true) S (wN rfl) rfl rfl rfl rfl rfl (lb rfl) fun a S => ?_
      exact leafL (leafT (⟨true, Option.some.inj h, S.fix [] [] (by decide) rfl rfl rfl⟩))
    refine sField (b := b2) (off := 0) 0 0 S (wG 4 false 27 rfl rfl rfl hc35) rfl rfl rfl rfl rfl (lb rfl) fun a S => ?_
    refine sIdxV (v := .pointer (some ⟨b2, 0, none⟩)) (k := .i64) (j := 0) (q := .pointer (some ⟨b2, 0, none⟩)) S (wG 4 false 27 rfl rfl rfl hc35) rfl rfl rfl (idxV_arr (m := 11) (sz := 1) Try.underlying42 rfl (by decide) (by decide) 0) rfl (lb rfl) fun a S => ?_
    refine sLoad1 (p := b2) (off := 0) (T := 44) (vs := (gl_api_Rates p0)) 0 (iv p0.Length.1) S (wG 4 false 27 rfl rfl rfl hc35) rfl rfl rfl rfl rfl rfl (lb rfl) fun a S => ?_
    refine sBin (.bool (p0.Length.1 != 0)) S (wG 4 false 27 rfl rfl rfl hc35) rfl rfl rfl (bNe _ _ _ _ .i64 p0.Length.1 0) rfl (lb rfl) fun a S => ?_
    refine sPickF (.bool (p0.Length.1 != 0)) S (wN rfl) rfl rfl hc35 rfl rfl (lb rfl) fun a S => ?_
    refine sMove (.bool (p0.Length.1 != 0)) S (wN rfl) (.inl rfl) rfl rfl (lb rfl) fun a S => ?_
    rcases iteSome h with ⟨hc36, h⟩ | ⟨hc36, h⟩
    · refine sSkip 10 false 33 34 S rfl rfl rfl hc36 rfl (lb rfl) fun a S => ?_
      refine sSkip 10 false 33 35 S rfl rfl rfl hc36 rfl (lb rfl) fun a S => ?_
      refine sSkip 10 false 33 36 S rfl rfl rfl hc36 rfl (lb rfl) fun a S => ?_
      refine sSkip 10 false 33 37 S rfl rfl rfl hc36 rfl (lb rfl) fun a S => ?_
      refine sPickT (.bool true) S (wN rfl) rfl rfl hc36 rfl rfl (lb rfl) fun a S => ?_
      exact leafL (leafT (⟨true, Option.some.inj h, S.fix [] [] (by decide) rfl rfl rfl⟩))
    refine sField (b := b2) (off := 0) 11 11 S (wG 10 false 33 rfl rfl rfl hc36) rfl rfl rfl rfl rfl (lb rfl) fun a S => ?_
    refine sIdxV (v := .pointer (some ⟨b2, 11, none⟩)) (k := .i64) (j := 0) (q := .pointer (some ⟨b2, 11, none⟩)) S (wG 10 false 33 rfl rfl rfl hc36) rfl rfl rfl (idxV_arr (m := 11) (sz := 1) Try.underlying42 rfl (by decide) (by decide) 11) rfl (lb rfl) fun a S => ?_
    refine sLoad1 (p := b2) (off := 11) (T := 44) (vs := (gl_api_Rates p0)) 0 (iv p0.Time.1) S (wG 10 false 33 rfl rfl rfl hc36) rfl rfl rfl rfl rfl rfl (lb rfl) fun a S => ?_
    refine sBin (.bool (p0.Time.1 != 0)) S (wG 10 false 33 rfl rfl rfl hc36) rfl rfl rfl (bNe _ _ _ _ .i64 p0.Time.1 0) rfl (lb rfl) fun a S => ?_
    refine sPickF (.bool (p0.Time.1 != 0)) S (wN rfl) rfl rfl hc36 rfl rfl (lb rfl) fun a S => ?_
    exact leafL (leafT (⟨p0.Time.1 != 0, Option.some.inj h, S.fix [] [] (by decide) rfl rfl rfl⟩))
  refine sSeq (fun K5 hK5 => ?_)
  refine sRegion ?_
  refine sField (b := b2) (off := 0) 0 0 S (wN rfl) rfl rfl rfl rfl rfl (lb rfl) fun a S => ?_
  refine sLoadN (p := b2) (off := 0) (T := 44) (vs := (gl_api_Rates p0)) 0 (gl_A11_Int p0.Length) S (wN rfl) rfl rfl rfl rfl rfl rfl rfl (lb rfl) fun a S => ?_
  refine sMove (iv 0) S (wN rfl) (.inl rfl) rfl rfl (lb rfl) fun a S => ?_
  refine leafL (leafT (hK5 _ _ ?_))
  refine wp_block ?_
  obtain ⟨t9, hl, g8⟩ := bindSome h
  refine sLoop hl (fun s0 a w => match s0 with | s6 => St [] E [] w0 39 a w [(1, .pointer (some ⟨b2, 0, none⟩)), (6, gv_A11_Int p0.Length), (7, iv s6)] [eBox b2 44 (gl_api_Rates p0)] []) (S.fix [0] [] (by decide) rfl rfl rfl) ?_
  clear hl h
  intro s6 a w c0 hI h hu7
  unfold cost_Check_l1 at h
  dsimp only at h hI
  have S := hI
  refine sSeq (fun K10 hK10 => ?_)
  refine sRegion ?_
  refine sBin (.bool (decide (s6 < 11))) S (wN rfl) rfl rfl rfl (bLt _ _ _ _ .i64 s6 11) rfl (lb rfl) fun a S => ?_
  refine leafL (leafT (hK10 _ _ ?_))
  refine sSeq (fun K11 hK11 => ?_)
  rcases iteSome h with ⟨hc12, h⟩ | ⟨hc12, h⟩
  rotate_left
  · refine sCondF S rfl hc12 ?_
    obtain rfl := Option.some.inj h
    obtain rfl := hu7 _ rfl
    have h := g8
    clear g8
    try dsimp only at h
    exact wp_exit (xThen (xThen (xHit (leafT (⟨Option.some.inj h, S.fix [0] [] (by decide) rfl rfl rfl⟩)))))
  refine sCondT S rfl hc12 ?_
  refine wp_skip (leafT (hK11 _ _ ?_))
  refine sSeq (fun K13 hK13 => ?_)
  refine wp_block ?_
  refine sSeq (fun K14 hK14 => ?_)
  refine sRegion ?_
  refine sMove (iv s6) S (wN rfl) (.inl rfl) rfl rfl (lb rfl) fun a S => ?_
  obtain ⟨x15, hx16, h⟩ := bindSome h
  refine sIndexA (g := fun z => .int .i64 z) (xs := ([p0.Length.1, p0.Length.2.1, p0.Length.2.2.1, p0.Length.2.2.2.1, p0.Length.2.2.2.2.1, p0.Length.2.2.2.2.2.1, p0.Length.2.2.2.2.2.2.1, p0.Length.2.2.2.2.2.2.2.1, p0.Length.2.2.2.2.2.2.2.2.1, p0.Length.2.2.2.2.2.2.2.2.2.1, p0.Length.2.2.2.2.2.2.2.2.2.2] : List Int)) (j := s6) (k := .i64) 11 [iv p0.Length.1, iv p0.Length.2.1, iv p0.Length.2.2.1, iv p0.Length.2.2.2.1, iv p0.Length.2.2.2.2.1, iv p0.Length.2.2.2.2.2.1, iv p0.Length.2.2.2.2.2.2.1, iv p0.Length.2.2.2.2.2.2.2.1, iv p0.Length.2.2.2.2.2.2.2.2.1, iv p0.Length.2.2.2.2.2.2.2.2.2.1, iv p0.Length.2.2.2.2.2.2.2.2.2.2] S (wN rfl) rfl Try.underlying42 rfl rfl rfl rfl rfl rfl hx16 rfl (lb rfl) fun a S => ?_
  refine sMove (iv s6) S (wN rfl) (.inr rfl) rfl rfl (lb rfl) fun a S => ?_
  refine sMove (iv x15) S (wN rfl) (.inr rfl) rfl rfl (lb rfl) fun a S => ?_
  refine leafL (leafT (hK14 _ _ ?_))
  obtain ⟨t18, h, g19⟩ := bindSome h
  refine sCut (fun a w => ∃ o17, o17 = t18 ∧ St [] E [] w0 39 a w [(1, .pointer (some ⟨b2, 0, none⟩)), (6, gv_A11_Int p0.Length), (7, iv s6), (21, .bool o17)] [eBox b2 44 (gl_api_Rates p0)] []) ?_ (fun a w hI => ?_)
  rotate_left
  · obtain ⟨o17, rfl, S⟩ := hI
    have h := g19
    clear g19
    try dsimp only at h
    rcases iteSome h with ⟨hc27, h⟩ | ⟨hc27, h⟩
    rotate_left
    · refine sCondF S rfl hc27 ?_
      refine wp_skip (leafB (leafT (hK13 _ _ ?_)))
      refine sRegion ?_
      refine sBin (iv (w64 (s6 + 1))) S (wN rfl) rfl rfl rfl (bAdd _ _ _ _ s6 1) rfl (lb rfl) fun a S => ?_
      refine sMove (iv (w64 (s6 + 1))) S (wN rfl) (.inl rfl) rfl rfl (lb rfl) fun a S => ?_
      exact leafL (leafT (⟨w64 (s6 + 1), (Option.some.inj h).symm, (S.fix [0] [] (by decide) rfl rfl rfl)⟩))
    refine sCondT S rfl hc27 ?_
    refine sSeq (fun K28 hK28 => ?_)
    refine sRegion ?_
    refine sMove (iv 8) S (wN rfl) (.inr rfl) rfl rfl (lb rfl) fun a S => ?_
    refine leafL (leafT (hK28 _ _ ?_))
    obtain rfl := Option.some.inj h
    obtain rfl := hu7 _ rfl
    have h := g8
    clear g8
    try dsimp only at h
    obtain rfl := Option.some.inj h
    have h := g4
    clear g4
    try dsimp only at h
    obtain rfl := Option.some.inj h
    exact wp_ret (rBlock (rThen (rThen (rBlock (rThen (sRet (iv 8) S (rsl1 rfl (rvT (t := 2) (v := iv 8) S rfl)) ⟨(), rfl, S.mem.sel [] [] (by decide) rfl rfl⟩))))))
  refine sRegion ?_
  refine sMove (iv x15) S (wN rfl) (.inl rfl) rfl rfl (lb rfl) fun a S => ?_
  obtain ⟨r20, hx21, h⟩ := bindSome h
  have S1 := S.mem
  refine sCallQ (X := Unit) (f := 42) (vs := [iv x15]) (val := fun _ => .bool r20) S (wN rfl) rfl callee42 rfl (S1.quiet [] rfl) (fun E1 w1 S1 => c_cost_rate E1 w1 x15 r20 hx21 S1) rfl (lb rfl) fun _ a w S => ?_
  refine sNot (b := r20) S (wN rfl) rfl rfl rfl (lb rfl) fun a S => ?_
  refine sMove (.bool (!r20)) S (wN rfl) (.inl rfl) rfl rfl (lb rfl) fun a S => ?_
  rcases iteSome h with ⟨hc22, h⟩ | ⟨hc22, h⟩
  · refine sSkip 3 false 14 15 S rfl rfl rfl hc22 rfl (lb rfl) fun a S => ?_
    refine sSkip 3 false 14 16 S rfl rfl rfl hc22 rfl (lb rfl) fun a S => ?_
    refine sSkip 3 false 14 17 S rfl rfl rfl hc22 rfl (lb rfl) fun a S => ?_
    refine sSkip 3 false 14 18 S rfl rfl rfl hc22 rfl (lb rfl) fun a S => ?_
    refine sSkip 3 false 14 19 S rfl rfl rfl hc22 rfl (lb rfl) fun a S => ?_
    refine sSkip 3 false 14 20 S rfl rfl rfl hc22 rfl (lb rfl) fun a S => ?_
    refine sPickT (.bool true) S (wN rfl) rfl rfl hc22 rfl rfl (lb rfl) fun a S => ?_
    exact leafL (leafT (⟨true, Option.some.inj h, S.fix [0] [] (by decide) rfl rfl rfl⟩))
  refine sMove (iv s6) S (wG 3 false 14 rfl rfl rfl hc22) (.inl rfl) rfl rfl (lb rfl) fun a S => ?_
  refine sField (b := b2) (off := 0) 11 11 S (wG 3 false 14 rfl rfl rfl hc22) rfl rfl rfl rfl rfl (lb rfl) fun a S => ?_
  obtain ⟨x23, hx24, h⟩ := bindSome h
  refine sIdxV (v := .pointer (some ⟨b2, 11, none⟩)) (k := .i64) (j := s6) (q := .pointer (some ⟨b2, 11 + (s6).toNat * 1, none⟩)) S (wG 3 false 14 rfl rfl rfl hc22) rfl rfl rfl (idxV_arr (m := 11) (sz := 1) Try.underlying42 rfl (idxO_rng (m := 11) hx24 rfl).1 (idxO_rng (m := 11) hx24 rfl).2 11) rfl (lb rfl) fun a S => ?_
  refine sLoad1 (p := b2) (off := 11 + (s6).toNat * 1) (T := 44) (vs := [iv p0.Length.1, iv p0.Length.2.1, iv p0.Length.2.2.1, iv p0.Length.2.2.2.1, iv p0.Length.2.2.2.2.1, iv p0.Length.2.2.2.2.2.1, iv p0.Length.2.2.2.2.2.2.1, iv p0.Length.2.2.2.2.2.2.2.1, iv p0.Length.2.2.2.2.2.2.2.2.1, iv p0.Length.2.2.2.2.2.2.2.2.2.1, iv p0.Length.2.2.2.2.2.2.2.2.2.2, iv p0.Time.1, iv p0.Time.2.1, iv p0.Time.2.2.1, iv p0.Time.2.2.2.1, iv p0.Time.2.2.2.2.1, iv p0.Time.2.2.2.2.2.1, iv p0.Time.2.2.2.2.2.2.1, iv p0.Time.2.2.2.2.2.2.2.1, iv p0.Time.2.2.2.2.2.2.2.2.1, iv p0.Time.2.2.2.2.2.2.2.2.2.1, iv p0.Time.2.2.2.2.2.2.2.2.2.2, iv p0.Turn]) 0 (iv x23) S (wG 3 false 14 rfl rfl rfl hc22) rfl rfl rfl rfl (box_at (g := (fun z => .int .i64 z)) [iv p0.Length.1, iv p0.Length.2.1, iv p0.Length.2.2.1, iv p0.Length.2.2.2.1, iv p0.Length.2.2.2.2.1, iv p0.Length.2.2.2.2.2.1, iv p0.Length.2.2.2.2.2.2.1, iv p0.Length.2.2.2.2.2.2.2.1, iv p0.Length.2.2.2.2.2.2.2.2.1, iv p0.Length.2.2.2.2.2.2.2.2.2.1, iv p0.Length.2.2.2.2.2.2.2.2.2.2] [iv p0.Turn] 11 hx24 rfl rfl) rfl (lb rfl) fun a S => ?_
  obtain ⟨r25, hx26, h⟩ := bindSome h
  have S1 := S.mem
  refine sCallQ (X := Unit) (f := 42) (vs := [iv x23]) (val := fun _ => .bool r25) S (wG 3 false 14 rfl rfl rfl hc22) rfl callee42 rfl (S1.quiet [] rfl) (fun E1 w1 S1 => c_cost_rate E1 w1 x23 r25 hx26 S1) rfl (lb rfl) fun _ a w S => ?_
  refine sNot (b := r25) S (wG 3 false 14 rfl rfl rfl hc22) rfl rfl rfl (lb rfl) fun a S => ?_
  refine sPickF (.bool (!r25)) S (wN rfl) rfl rfl hc22 rfl rfl (lb rfl) fun a S => ?_
  exact leafL (leafT (⟨!r25, Option.some.inj h, S.fix [0] [] (by decide) rfl rfl rfl⟩))

end Go.Proofs.Ytdbgkakmhlmpbaa
namespace Go.Proofs.Ytdbgkakmhlmpbaa
open Go.RowKit
set_option linter.unusedVariables false

def anc_cost_Need_0 : List (List Nat) := [[], [0], [], [], [2, 3], [2, 3, 4], [], [2, 3, 4, 5, 6], [0, 1, 2, 3, 4, 5, 6, 7], [0, 1, 2, 3, 4, 5, 6, 7, 8], [0, 1, 2, 3, 4, 5, 6, 7, 8, 9]]
def anc_cost_Need_1 : List (List Nat) := [[], [0], [], [2], [], [2, 3, 4], [2, 3, 4, 5], [], [7], [2, 3, 4, 5, 6, 7, 8], [0, 1, 2, 3, 4, 5, 6, 7, 8, 9], [0, 1, 2, 3, 4, 5, 6, 7, 8, 9, 10], [0, 1, 2, 3, 4, 5, 6, 7, 8, 9, 10, 11]]
noncomputable def cost_Need_l1 (r10 : ((Int × Int × Int × Int × Int × Int × Int × Int × Int × Int × Int) × Int)) (p1 : api_Rates) : (Int × Int) → Option ((Int × Int) ⊕ Int) := fun s0 => match s0 with
  | (s31, s32) =>
    if decide (s31 < 11) then
      Option.bind (idxO ([r10.1.1, r10.1.2.1, r10.1.2.2.1, r10.1.2.2.2.1, r10.1.2.2.2.2.1, r10.1.2.2.2.2.2.1, r10.1.2.2.2.2.2.2.1, r10.1.2.2.2.2.2.2.2.1, r10.1.2.2.2.2.2.2.2.2.1, r10.1.2.2.2.2.2.2.2.2.2.1, r10.1.2.2.2.2.2.2.2.2.2.2] : List Int) s31) fun x42 =>
      Option.bind (idxO ([p1.Time.1, p1.Time.2.1, p1.Time.2.2.1, p1.Time.2.2.2.1, p1.Time.2.2.2.2.1, p1.Time.2.2.2.2.2.1, p1.Time.2.2.2.2.2.2.1, p1.Time.2.2.2.2.2.2.2.1, p1.Time.2.2.2.2.2.2.2.2.1, p1.Time.2.2.2.2.2.2.2.2.2.1, p1.Time.2.2.2.2.2.2.2.2.2.2] : List Int) s31) fun x44 =>
      some (.inl (w64 (s31 + 1), w64 (s32 + (w64 (x44 * x42)))))
    else
      some (.inr s32)
noncomputable def cost_Need_l2 (x63 : api_Row) (p1 : api_Rates) : (Int × Int) → Option ((Int × Int) ⊕ Int) := fun s0 => match s0 with
  | (s74, s75) =>
    if decide (s74 < (x63.Cells.length : Int)) then
      Option.bind (idxO x63.Cells s74) fun x85 =>
      Option.bind (F_stitch_Makes [x85]) fun r94 =>
      Option.bind (idxO ([p1.Length.1, p1.Length.2.1, p1.Length.2.2.1, p1.Length.2.2.2.1, p1.Length.2.2.2.2.1, p1.Length.2.2.2.2.2.1, p1.Length.2.2.2.2.2.2.1, p1.Length.2.2.2.2.2.2.2.1, p1.Length.2.2.2.2.2.2.2.2.1, p1.Length.2.2.2.2.2.2.2.2.2.1, p1.Length.2.2.2.2.2.2.2.2.2.2] : List Int) x85.Kind) fun x96 =>
      some (.inl (w64 (s74 + 1), w64 (s75 + (w64 (x96 * (if (1 : Int) < r94.1 then r94.1 else 1))))))
    else
      some (.inr s75)
noncomputable def cost_Need_l3 (p0 : api_Chart) (p1 : api_Rates) : (Int × Int) → Option ((Int × Int) ⊕ Int) := fun s0 => match s0 with
  | (s50, s51) =>
    if decide (s50 < (p0.Rows.length : Int)) then
      Option.bind (α := Int) (
        Option.bind (idxO p0.Rows s50) fun x63 =>
        Option.bind (whileO (cost_Need_l2 x63 p1) (0, s51)) fun e79 =>
          some e79) fun o59 =>
      some (.inl (w64 (s50 + 1), o59))
    else
      some (.inr s51)
noncomputable def F_cost_Need (p0 : api_Chart) (p1 : api_Rates) : Option (api_Bill × Int) :=
  Option.bind (F_cost_Count p0) fun r10 =>
  if r10.2 != 0 then
    some ((api_Bill.mk 0 0), r10.2)
  else
    Option.bind (F_cost_Check p1) fun r20 =>
    if r20 != 0 then
      some ((api_Bill.mk 0 0), r20)
    else
      Option.bind (α := Int) (
        Option.bind (whileO (cost_Need_l1 r10 p1) (0, w64 (p1.Turn * (p0.Rows.length : Int)))) fun e36 =>
          some e36) fun o27 =>
      Option.bind (α := Int) (
        Option.bind (whileO (cost_Need_l3 p0 p1) (0, 0)) fun e55 =>
          some e55) fun o46 =>
      some ((api_Bill.mk o46 o27), 0)
def c_cost_Need_val (r : (api_Bill × Int)) (x : Value) : Value := .tuple #[x, .int .i64 r.2]
def c_cost_Need_D (r : (api_Bill × Int)) (x : Value) : List Fact := [fRep r_api_Bill x r.1]
set_option maxHeartbeats 4000000 in
set_option maxRecDepth 100000 in
theorem c_cost_Need (E : Nat → Prop) (w0 : World) (p0 : api_Chart) (v0 : Value) (p1 : api_Rates) (v1 : Value) (r : (api_Bill × Int)) (h : F_cost_Need p0 p1 = some r) (S : St0 E [] w0 w0 [] [fRep r_api_Chart (v0) p0, fRep r_api_Rates (v1) p1]) :
    Calls Try.prog 18 #[v0, v1] w0 (Ret (X := Value) E [] w0 (c_cost_Need_val r) (fun _ => []) (c_cost_Need_D r)) := by
  unfold F_cost_Need at h
  obtain ⟨u1, rfl, hu2⟩ := S.know (i := 0) (e := fRep r_api_Chart (v0) p0) rfl
  have S := S.learn (fRep (rL r_api_Row) u1 p0.Rows) hu2
  obtain ⟨ad3, cp4, _, rfl, _⟩ := hu2
  obtain rfl : v1 = gv_api_Rates p1 := S.know (i := 2) (e := fRep r_api_Rates (v1) p1) rfl
  refine sEnter (args := [.agg #[iv p0.Start, .slice ad3 p0.Rows.length cp4], gv_api_Rates p1]) 91 Try.func18 rfl rfl (by simp) S (fun a S => ?_)
  refine sSeq (fun K5 hK5 => ?_)
  refine sRegion ?_
  refine sBox (v := .agg #[iv p0.Start, .slice ad3 p0.Rows.length cp4]) S (wN rfl) rfl rfl [iv p0.Start, .slice ad3 p0.Rows.length cp4] rfl rfl (lb rfl) fun a b6 w S => ?_
  refine sBox (v := gv_api_Rates p1) S (wN rfl) rfl rfl (gl_api_Rates p1) rfl rfl (lb rfl) fun a b7 w S => ?_
  refine sAlloc (.agg #[iv 0, iv 0]) S (wN rfl) rfl rfl [iv 0, iv 0] rfl rfl (lb rfl) fun a b8 w S => ?_
  refine sMove (iv 0) S (wN rfl) (.inr rfl) rfl rfl (lb rfl) fun a S => ?_
  refine leafL (leafT (hK5 _ _ ?_))
  refine sSeq (fun K9 hK9 => ?_)
  refine sRegion ?_
  refine sLoadN (p := b6) (off := 0) (T := 41) (vs := [iv p0.Start, .slice ad3 p0.Rows.length cp4]) 2 [iv p0.Start, .slice ad3 p0.Rows.length cp4] S (wN rfl) rfl rfl rfl rfl rfl rfl rfl (lb rfl) fun a S => ?_
  obtain ⟨r10, hx11, h⟩ := bindSome h
  refine sCall (X := Value) (f := 16) (vs := [.agg #[iv p0.Start, .slice ad3 p0.Rows.length cp4]]) (val := c_cost_Count_val r10) (B' := fun _ => []) (D' := c_cost_Count_D r10) [] [eBox b8 23 [iv 0, iv 0], eBox b7 44 (gl_api_Rates p1), eBox b6 41 [iv p0.Start, .slice ad3 p0.Rows.length cp4]] [fRep r_api_Chart (.agg #[iv p0.Start, .slice ad3 p0.Rows.length cp4]) p0] [0, 1, 2] [1] S (wN rfl) rfl callee16 rfl (by decide) rfl rfl (fun E1 w1 S1 => c_cost_Count E1 w1 p0 (.agg #[iv p0.Start, .slice ad3 p0.Rows.length cp4]) r10 hx11 S1) rfl (lb rfl) fun u12 a w S => ?_
  obtain rfl : u12 = gv_A11_Int r10.1 := S.mem.know (i := 0) (e := fRep r_A11_Int (u12) r10.1) rfl
  refine sMove (.tuple #[gv_A11_Int r10.1, iv r10.2]) S (wN rfl) (.inl rfl) rfl rfl (lb rfl) fun a S => ?_
  refine sExtract (vs := [gv_A11_Int r10.1, iv r10.2]) (gv_A11_Int r10.1) S (wN rfl) rfl rfl rfl rfl (lb rfl) fun a S => ?_
  refine sExtract (vs := [gv_A11_Int r10.1, iv r10.2]) (iv r10.2) S (wN rfl) rfl rfl rfl rfl (lb rfl) fun a S => ?_
  refine sAlloc (gv_A11_Int (0, 0, 0, 0, 0, 0, 0, 0, 0, 0, 0)) S (wN rfl) rfl rfl (gl_A11_Int (0, 0, 0, 0, 0, 0, 0, 0, 0, 0, 0)) rfl rfl (lb rfl) fun a b13 w S => ?_
  refine sStore (p := b13) (off := 0) (T := 42) (vs := [iv 0, iv 0, iv 0, iv 0, iv 0, iv 0, iv 0, iv 0, iv 0, iv 0, iv 0]) (v := gv_A11_Int r10.1) 0 [iv r10.1.1, iv r10.1.2.1, iv r10.1.2.2.1, iv r10.1.2.2.2.1, iv r10.1.2.2.2.2.1, iv r10.1.2.2.2.2.2.1, iv r10.1.2.2.2.2.2.2.1, iv r10.1.2.2.2.2.2.2.2.1, iv r10.1.2.2.2.2.2.2.2.2.1, iv r10.1.2.2.2.2.2.2.2.2.2.1, iv r10.1.2.2.2.2.2.2.2.2.2.2] S (wN rfl) rfl rfl rfl rfl rfl rfl rfl (by simp) rfl fun a w S => ?_
  refine sMove (iv r10.2) S (wN rfl) (.inr rfl) rfl rfl (lb rfl) fun a S => ?_
  refine leafL (leafT (hK9 _ _ ?_))
  refine sSeq (fun K14 hK14 => ?_)
  refine sSeq (fun K15 hK15 => ?_)
  refine sRegion ?_
  refine sMove (iv r10.2) S (wN rfl) (.inl rfl) rfl rfl (lb rfl) fun a S => ?_
  refine sBin (.bool (r10.2 != 0)) S (wN rfl) rfl rfl rfl (bNe _ _ _ _ .i64 r10.2 0) rfl (lb rfl) fun a S => ?_
  refine leafL (leafT (hK15 _ _ ?_))
  rcases iteSome h with ⟨hc16, h⟩ | ⟨hc16, h⟩
  · refine sCondT S rfl hc16 ?_
    refine sSeq (fun K17 hK17 => ?_)
    refine sRegion ?_
    refine sBuild [] [iv 0, iv 0] S (wN rfl) rfl rfl rfl rfl (lb rfl) fun a S => ?_
    refine sMove (iv r10.2) S (wN rfl) (.inl rfl) rfl rfl (lb rfl) fun a S => ?_
    refine sStore (p := b8) (off := 0) (T := 23) (vs := [iv 0, iv 0]) (v := .agg #[iv 0, iv 0]) 1 [iv 0, iv 0] S (wN rfl) rfl rfl rfl rfl rfl rfl rfl (by simp) rfl fun a w S => ?_
    refine sMove (iv r10.2) S (wN rfl) (.inr rfl) rfl rfl (lb rfl) fun a S => ?_
    refine leafL (leafT (hK17 _ _ ?_))
    obtain rfl := Option.some.inj h
    have S := S.learn (fRep r_api_Bill (.agg #[iv 0, iv 0]) (api_Bill.mk 0 0)) rfl
    exact wp_ret (rThen (sRet (.tuple #[.agg #[iv 0, iv 0], iv r10.2]) S (rsl2 rfl (rvN (c := 4) (t := 23) (T := 23) (p := b8) 0 [iv 0, iv 0] S rfl rfl rfl rfl) (rvT (t := 5) (v := iv r10.2) S rfl)) ⟨(.agg #[iv 0, iv 0]), rfl, S.mem.sel [] [0] (by decide) rfl rfl⟩))
  refine sCondF S rfl hc16 ?_
  refine wp_skip (leafT (hK14 _ _ ?_))
  refine sSeq (fun K18 hK18 => ?_)
  refine sSeq (fun K19 hK19 => ?_)
  refine sRegion ?_
  refine sLoadN (p := b7) (off := 0) (T := 44) (vs := (gl_api_Rates p1)) 2 (gl_api_Rates p1) S (wN rfl) rfl rfl rfl rfl rfl rfl rfl (lb rfl) fun a S => ?_
  obtain ⟨r20, hx21, h⟩ := bindSome h
  have S1 := S.mem
  refine sCallQ (X := Unit) (f := 22) (vs := [gv_api_Rates p1]) (val := fun _ => iv r20) S (wN rfl) rfl callee22 rfl (S1.quiet [3] rfl) (fun E1 w1 S1 => c_cost_Check E1 w1 p1 (gv_api_Rates p1) r20 hx21 S1) rfl (lb rfl) fun _ a w S => ?_
  refine sMove (iv r20) S (wN rfl) (.inr rfl) rfl rfl (lb rfl) fun a S => ?_
  refine leafL (leafT (hK19 _ _ ?_))
  refine sSeq (fun K22 hK22 => ?_)
  refine sRegion ?_
  refine sMove (iv r20) S (wN rfl) (.inl rfl) rfl rfl (lb rfl) fun a S => ?_
  refine sBin (.bool (r20 != 0)) S (wN rfl) rfl rfl rfl (bNe _ _ _ _ .i64 r20 0) rfl (lb rfl) fun a S => ?_
  refine leafL (leafT (hK22 _ _ ?_))
  rcases iteSome h with ⟨hc23, h⟩ | ⟨hc23, h⟩
  · refine sCondT S rfl hc23 ?_
    refine sSeq (fun K24 hK24 => ?_)
    refine sRegion ?_
    refine sBuild [] [iv 0, iv 0] S (wN rfl) rfl rfl rfl rfl (lb rfl) fun a S => ?_
    refine sMove (iv r20) S (wN rfl) (.inl rfl) rfl rfl (lb rfl) fun a S => ?_
    refine sStore (p := b8) (off := 0) (T := 23) (vs := [iv 0, iv 0]) (v := .agg #[iv 0, iv 0]) 1 [iv 0, iv 0] S (wN rfl) rfl rfl rfl rfl rfl rfl rfl (by simp) rfl fun a w S => ?_
    refine sMove (iv r20) S (wN rfl) (.inr rfl) rfl rfl (lb rfl) fun a S => ?_
    refine leafL (leafT (hK24 _ _ ?_))
    obtain rfl := Option.some.inj h
    have S := S.learn (fRep r_api_Bill (.agg #[iv 0, iv 0]) (api_Bill.mk 0 0)) rfl
    exact wp_ret (rThen (sRet (.tuple #[.agg #[iv 0, iv 0], iv r20]) S (rsl2 rfl (rvN (c := 4) (t := 23) (T := 23) (p := b8) 0 [iv 0, iv 0] S rfl rfl rfl rfl) (rvT (t := 5) (v := iv r20) S rfl)) ⟨(.agg #[iv 0, iv 0]), rfl, S.mem.sel [] [0] (by decide) rfl rfl⟩))
  refine sCondF S rfl hc23 ?_
  refine wp_skip (leafT (hK18 _ _ ?_))
  refine sSeq (fun K25 hK25 => ?_)
  refine sRegion ?_
  refine sField (b := b7) (off := 0) 22 22 S (wN rfl) rfl rfl rfl rfl rfl (lb rfl) fun a S => ?_
  refine sLoad1 (p := b7) (off := 22) (T := 44) (vs := (gl_api_Rates p1)) 2 (iv p1.Turn) S (wN rfl) rfl rfl rfl rfl rfl rfl (lb rfl) fun a S => ?_
  refine sField (b := b6) (off := 0) 1 1 S (wN rfl) rfl rfl rfl rfl rfl (lb rfl) fun a S => ?_
  refine sLoad1 (p := b6) (off := 1) (T := 41) (vs := [iv p0.Start, .slice ad3 p0.Rows.length cp4]) 3 (.slice ad3 p0.Rows.length cp4) S (wN rfl) rfl rfl rfl rfl rfl rfl (lb rfl) fun a S => ?_
  refine sLen (ad := ad3) (m := p0.Rows.length) (c := cp4) S (wN rfl) rfl Try.underlying39 rfl rfl (lb rfl) fun a S => ?_
  refine sBin (iv (w64 (p1.Turn * (p0.Rows.length : Int)))) S (wN rfl) rfl rfl rfl (bMul _ _ _ _ p1.Turn (p0.Rows.length : Int)) rfl (lb rfl) fun a S => ?_
  refine sBuild [(1, iv (w64 (p1.Turn * (p0.Rows.length : Int))))] [iv 0, iv (w64 (p1.Turn * (p0.Rows.length : Int)))] S (wN rfl) rfl rfl rfl rfl (lb rfl) fun a S => ?_
  refine sAlloc (.agg #[iv 0, iv 0]) S (wN rfl) rfl rfl [iv 0, iv 0] rfl rfl (lb rfl) fun a b26 w S => ?_
  refine sStore (p := b26) (off := 0) (T := 23) (vs := [iv 0, iv 0]) (v := .agg #[iv 0, iv (w64 (p1.Turn * (p0.Rows.length : Int)))]) 0 [iv 0, iv (w64 (p1.Turn * (p0.Rows.length : Int)))] S (wN rfl) rfl rfl rfl rfl rfl rfl rfl (by simp) rfl fun a w S => ?_
  refine leafL (leafT (hK25 _ _ ?_))
  obtain ⟨t28, h, g29⟩ := bindSome h
  refine sCut (fun a w => ∃ o27, o27 = t28 ∧ St [] E [] w0 91 a w [(2, .pointer (some ⟨b6, 0, none⟩)), (3, .pointer (some ⟨b7, 0, none⟩)), (4, .pointer (some ⟨b8, 0, none⟩)), (9, .pointer (some ⟨b26, 0, none⟩))] [eBox b6 41 [iv p0.Start, .slice ad3 p0.Rows.length cp4], eBox b7 44 (gl_api_Rates p1), eBox b8 23 [iv 0, iv 0], eBox b26 23 [iv 0, iv o27]] [fRep (rL r_api_Row) (.slice ad3 p0.Rows.length cp4) p0.Rows]) ?_ (fun a w hI => ?_)
  · refine sSeq (fun K30 hK30 => ?_)
    refine sRegion ?_
    refine sLoadN (p := b13) (off := 0) (T := 42) (vs := (gl_A11_Int r10.1)) 1 (gl_A11_Int r10.1) S (wN rfl) rfl rfl rfl rfl rfl rfl rfl (lb rfl) fun a S => ?_
    refine sMove (iv 0) S (wN rfl) (.inl rfl) rfl rfl (lb rfl) fun a S => ?_
    refine leafL (leafT (hK30 _ _ ?_))
    refine wp_block ?_
    obtain ⟨t35, hl, g34⟩ := bindSome h
    refine sLoop hl (fun s0 a w => match s0 with | (s31, s32) => St [] E [] w0 91 a w [(2, .pointer (some ⟨b6, 0, none⟩)), (3, .pointer (some ⟨b7, 0, none⟩)), (4, .pointer (some ⟨b8, 0, none⟩)), (9, .pointer (some ⟨b26, 0, none⟩)), (40, gv_A11_Int r10.1), (41, iv s31)] [eBox b6 41 [iv p0.Start, .slice ad3 p0.Rows.length cp4], eBox b7 44 (gl_api_Rates p1), eBox b8 23 [iv 0, iv 0], eBox b26 23 [iv 0, iv s32]] [fRep (rL r_api_Row) (.slice ad3 p0.Rows.length cp4) p0.Rows]) (S.fix [4, 3, 2, 0] [1] (by decide) rfl rfl rfl) ?_
    clear hl h
    intro s0 a w c0 hI h hu33
    obtain ⟨s31, s32⟩ := s0
    unfold cost_Need_l1 at h
    dsimp only at h hI
    have S := hI
    refine sSeq (fun K37 hK37 => ?_)
    refine sRegion ?_
    refine sBin (.bool (decide (s31 < 11))) S (wN rfl) rfl rfl rfl (bLt _ _ _ _ .i64 s31 11) rfl (lb rfl) fun a S => ?_
    refine leafL (leafT (hK37 _ _ ?_))
    refine sSeq (fun K38 hK38 => ?_)
    rcases iteSome h with ⟨hc39, h⟩ | ⟨hc39, h⟩
    rotate_left
    · refine sCondF S rfl hc39 ?_
      obtain rfl := Option.some.inj h
      obtain rfl := hu33 _ rfl
      have h := g34
      clear g34
      try dsimp only at h
      exact wp_exit (xThen (xThen (xHit (leafT (⟨s32, Option.some.inj h, S.fix [0, 1, 2, 3] [0] (by decide) rfl rfl rfl⟩)))))
    refine sCondT S rfl hc39 ?_
    refine wp_skip (leafT (hK38 _ _ ?_))
    refine sSeq (fun K40 hK40 => ?_)
    refine wp_block ?_
    refine sSeq (fun K41 hK41 => ?_)
    refine sRegion ?_
    refine sMove (iv s31) S (wN rfl) (.inl rfl) rfl rfl (lb rfl) fun a S => ?_
    obtain ⟨x42, hx43, h⟩ := bindSome h
    refine sIndexA (g := fun z => .int .i64 z) (xs := ([r10.1.1, r10.1.2.1, r10.1.2.2.1, r10.1.2.2.2.1, r10.1.2.2.2.2.1, r10.1.2.2.2.2.2.1, r10.1.2.2.2.2.2.2.1, r10.1.2.2.2.2.2.2.2.1, r10.1.2.2.2.2.2.2.2.2.1, r10.1.2.2.2.2.2.2.2.2.2.1, r10.1.2.2.2.2.2.2.2.2.2.2] : List Int)) (j := s31) (k := .i64) 11 [iv r10.1.1, iv r10.1.2.1, iv r10.1.2.2.1, iv r10.1.2.2.2.1, iv r10.1.2.2.2.2.1, iv r10.1.2.2.2.2.2.1, iv r10.1.2.2.2.2.2.2.1, iv r10.1.2.2.2.2.2.2.2.1, iv r10.1.2.2.2.2.2.2.2.2.1, iv r10.1.2.2.2.2.2.2.2.2.2.1, iv r10.1.2.2.2.2.2.2.2.2.2.2] S (wN rfl) rfl Try.underlying42 rfl rfl rfl rfl rfl rfl hx43 rfl (lb rfl) fun a S => ?_
    refine sMove (iv s31) S (wN rfl) (.inr rfl) rfl rfl (lb rfl) fun a S => ?_
    refine sMove (iv x42) S (wN rfl) (.inr rfl) rfl rfl (lb rfl) fun a S => ?_
    refine leafL (leafT (hK41 _ _ ?_))
    obtain ⟨x44, hx45, h⟩ := bindSome h
    refine sDraw (nf := [10]) (W := [(0, 45, .pointer (some ⟨b26, 1, none⟩)), (1, 46, iv s32), (2, 47, iv s31), (3, 48, .pointer (some ⟨b7, 11, none⟩)), (4, 49, .pointer (some ⟨b7, 11 + (s31).toNat * 1, none⟩)), (5, 50, iv x44), (6, 51, iv x42), (7, 52, iv (w64 (x44 * x42))), (8, 53, iv (w64 (s32 + (w64 (x44 * x42))))), (9, 54, .pointer (some ⟨b26, 1, none⟩))]) rfl S ?_
    refine node_by (A := anc_cost_Need_0) (nf := [10]) (Y := []) (W := [(0, 45, .pointer (some ⟨b26, 1, none⟩)), (1, 46, iv s32), (2, 47, iv s31), (3, 48, .pointer (some ⟨b7, 11, none⟩)), (4, 49, .pointer (some ⟨b7, 11 + (s31).toNat * 1, none⟩)), (5, 50, iv x44), (6, 51, iv x42), (7, 52, iv (w64 (x44 * x42))), (8, 53, iv (w64 (s32 + (w64 (x44 * x42))))), (9, 54, .pointer (some ⟨b26, 1, none⟩))]) 11 (by kernel_rfl) (by kernel_rfl) (by kernel_rfl) (by kernel_rfl) (by kernel_rfl) [0, 1, 2, 3, 4, 5, 6, 7, 8, 9] (by kernel_rfl) (by decide) (by decide) (aF 0 10 (by decide) ?_ (aF 1 9 (by decide) ?_ (aF 2 8 (by decide) ?_ (aF 3 7 (by decide) ?_ (aF 4 6 (by decide) ?_ (aF 5 5 (by decide) ?_ (aF 6 4 (by decide) ?_ (aF 7 3 (by decide) ?_ (aF 8 2 (by decide) ?_ (aF 9 1 (by decide) ?_ (aN 10 0 (by decide) ?_ (trivial)))))))))))) [] (fun q hq => by cases hq) (fun hY => absurd (hY 10 (by decide)) (by decide))
    · refine fI 45 (.pointer (some ⟨b26, 1, none⟩)) [(9, .pointer (some ⟨b26, 0, none⟩))] 0 [none] rfl rfl rfl rfl rfl rfl fun G a w S => ?_
      refine sField (b := b26) (off := 0) 1 1 S (wN rfl) rfl rfl rfl rfl rfl (lb rfl) fun a S => ?_
      exact leafL ⟨rfl, S⟩
    · refine fI 46 (iv s32) [(45, .pointer (some ⟨b26, 1, none⟩))] 1 [some 0] rfl rfl rfl rfl rfl rfl fun G a w S => ?_
      refine sLoad1 (p := b26) (off := 1) (T := 23) (vs := [iv 0, iv s32]) 3 (iv s32) S (wN rfl) rfl rfl rfl rfl rfl rfl (lb rfl) fun a S => ?_
      exact leafL ⟨rfl, S⟩
    · refine fI 47 (iv s31) [(10, iv s31)] 2 [none] rfl rfl rfl rfl rfl rfl fun G a w S => ?_
      refine sMove (iv s31) S (wN rfl) (.inl rfl) rfl rfl (lb rfl) fun a S => ?_
      exact leafL ⟨rfl, S⟩
    · refine fI 48 (.pointer (some ⟨b7, 11, none⟩)) [(3, .pointer (some ⟨b7, 0, none⟩))] 3 [none] rfl rfl rfl rfl rfl rfl fun G a w S => ?_
      refine sField (b := b7) (off := 0) 11 11 S (wN rfl) rfl rfl rfl rfl rfl (lb rfl) fun a S => ?_
      exact leafL ⟨rfl, S⟩
    · refine fI 49 (.pointer (some ⟨b7, 11 + (s31).toNat * 1, none⟩)) [(47, iv s31), (48, .pointer (some ⟨b7, 11, none⟩))] 4 [some 2, some 3] rfl rfl rfl rfl rfl rfl fun G a w S => ?_
      refine sIdxV (v := .pointer (some ⟨b7, 11, none⟩)) (k := .i64) (j := s31) (q := .pointer (some ⟨b7, 11 + (s31).toNat * 1, none⟩)) S (wN rfl) rfl rfl rfl (idxV_arr (m := 11) (sz := 1) Try.underlying42 rfl (idxO_rng (m := 11) hx45 rfl).1 (idxO_rng (m := 11) hx45 rfl).2 11) rfl (lb rfl) fun a S => ?_
      exact leafL ⟨rfl, S⟩
    · refine fI 50 (iv x44) [(49, .pointer (some ⟨b7, 11 + (s31).toNat * 1, none⟩))] 5 [some 4] rfl rfl rfl rfl rfl rfl fun G a w S => ?_
      refine sLoad1 (p := b7) (off := 11 + (s31).toNat * 1) (T := 44) (vs := [iv p1.Length.1, iv p1.Length.2.1, iv p1.Length.2.2.1, iv p1.Length.2.2.2.1, iv p1.Length.2.2.2.2.1, iv p1.Length.2.2.2.2.2.1, iv p1.Length.2.2.2.2.2.2.1, iv p1.Length.2.2.2.2.2.2.2.1, iv p1.Length.2.2.2.2.2.2.2.2.1, iv p1.Length.2.2.2.2.2.2.2.2.2.1, iv p1.Length.2.2.2.2.2.2.2.2.2.2, iv p1.Time.1, iv p1.Time.2.1, iv p1.Time.2.2.1, iv p1.Time.2.2.2.1, iv p1.Time.2.2.2.2.1, iv p1.Time.2.2.2.2.2.1, iv p1.Time.2.2.2.2.2.2.1, iv p1.Time.2.2.2.2.2.2.2.1, iv p1.Time.2.2.2.2.2.2.2.2.1, iv p1.Time.2.2.2.2.2.2.2.2.2.1, iv p1.Time.2.2.2.2.2.2.2.2.2.2, iv p1.Turn]) 1 (iv x44) S (wN rfl) rfl rfl rfl rfl (box_at (g := (fun z => .int .i64 z)) [iv p1.Length.1, iv p1.Length.2.1, iv p1.Length.2.2.1, iv p1.Length.2.2.2.1, iv p1.Length.2.2.2.2.1, iv p1.Length.2.2.2.2.2.1, iv p1.Length.2.2.2.2.2.2.1, iv p1.Length.2.2.2.2.2.2.2.1, iv p1.Length.2.2.2.2.2.2.2.2.1, iv p1.Length.2.2.2.2.2.2.2.2.2.1, iv p1.Length.2.2.2.2.2.2.2.2.2.2] [iv p1.Turn] 11 hx45 rfl rfl) rfl (lb rfl) fun a S => ?_
      exact leafL ⟨rfl, S⟩
    · refine fI 51 (iv x42) [(11, iv x42)] 6 [none] rfl rfl rfl rfl rfl rfl fun G a w S => ?_
      refine sMove (iv x42) S (wN rfl) (.inl rfl) rfl rfl (lb rfl) fun a S => ?_
      exact leafL ⟨rfl, S⟩
    · refine fI 52 (iv (w64 (x44 * x42))) [(50, iv x44), (51, iv x42)] 7 [some 5, some 6] rfl rfl rfl rfl rfl rfl fun G a w S => ?_
      refine sBin (iv (w64 (x44 * x42))) S (wN rfl) rfl rfl rfl (bMul _ _ _ _ x44 x42) rfl (lb rfl) fun a S => ?_
      exact leafL ⟨rfl, S⟩
    · refine fI 53 (iv (w64 (s32 + (w64 (x44 * x42))))) [(46, iv s32), (52, iv (w64 (x44 * x42)))] 8 [some 1, some 7] rfl rfl rfl rfl rfl rfl fun G a w S => ?_
      refine sBin (iv (w64 (s32 + (w64 (x44 * x42))))) S (wN rfl) rfl rfl rfl (bAdd _ _ _ _ s32 (w64 (x44 * x42))) rfl (lb rfl) fun a S => ?_
      exact leafL ⟨rfl, S⟩
    · refine fI 54 (.pointer (some ⟨b26, 1, none⟩)) [(9, .pointer (some ⟨b26, 0, none⟩))] 9 [none] rfl rfl rfl rfl rfl rfl fun G a w S => ?_
      refine sField (b := b26) (off := 0) 1 1 S (wN rfl) rfl rfl rfl rfl rfl (lb rfl) fun a S => ?_
      exact leafL ⟨rfl, S⟩
    refine ⟨_, [(53, iv (w64 (s32 + (w64 (x44 * x42))))), (54, .pointer (some ⟨b26, 1, none⟩))], rfl, (srcs_of [some 8, some 9] rfl rfl rfl), fun G a w S => ?_⟩
    refine sStore (p := b26) (off := 1) (T := 23) (vs := [iv 0, iv s32]) (v := iv (w64 (s32 + (w64 (x44 * x42))))) 3 [iv (w64 (s32 + (w64 (x44 * x42))))] S (wN rfl) rfl rfl rfl rfl rfl rfl rfl (by simp) rfl fun a w S => ?_
    refine leafL ⟨rfl, _, _, .inr ⟨[], rfl, S, hz_of rfl, ?_⟩⟩
    refine node_by (A := anc_cost_Need_0) (nf := [10]) (Y := [10]) 11 (by kernel_rfl) (by kernel_rfl) (by kernel_rfl) (by kernel_rfl) (by kernel_rfl) [0, 1, 2, 3, 4, 5, 6, 7, 8, 9] (by kernel_rfl) (by decide) (by decide) (aD 0 10 10 (by decide) (aD 1 9 10 (by decide) (aD 2 8 10 (by decide) (aD 3 7 10 (by decide) (aD 4 6 10 (by decide) (aD 5 5 10 (by decide) (aD 6 4 10 (by decide) (aD 7 3 10 (by decide) (aD 8 2 10 (by decide) (aD 9 1 10 (by decide) (aY 10 0 (by decide) (trivial)))))))))))) [(2, .pointer (some ⟨b6, 0, none⟩)), (3, .pointer (some ⟨b7, 0, none⟩)), (4, .pointer (some ⟨b8, 0, none⟩)), (9, .pointer (some ⟨b26, 0, none⟩)), (40, gv_A11_Int r10.1), (41, iv s31)] (fin_of [none, none, none, none, none, none] rfl (by kernel_rfl) (by kernel_rfl)) (fun _ a w S => ?_)
    refine leafB (leafT (hK40 _ _ ?_))
    refine sRegion ?_
    refine sBin (iv (w64 (s31 + 1))) S (wN rfl) rfl rfl rfl (bAdd _ _ _ _ s31 1) rfl (lb rfl) fun a S => ?_
    refine sMove (iv (w64 (s31 + 1))) S (wN rfl) (.inl rfl) rfl rfl (lb rfl) fun a S => ?_
    exact leafL (leafT (⟨(w64 (s31 + 1), w64 (s32 + (w64 (x44 * x42)))), (Option.some.inj h).symm, (S.fix [1, 2, 3, 0] [0] (by decide) rfl rfl rfl)⟩))
  obtain ⟨o27, rfl, S⟩ := hI
  have h := g29
  clear g29
  try dsimp only at h
  obtain ⟨t47, h, g48⟩ := bindSome h
  refine sCut (fun a w => ∃ o46, o46 = t47 ∧ St [] E [] w0 91 a w [(4, .pointer (some ⟨b8, 0, none⟩)), (9, .pointer (some ⟨b26, 0, none⟩))] [eBox b8 23 [iv 0, iv 0], eBox b26 23 [iv o46, iv o27]] []) ?_ (fun a w hI => ?_)
  rotate_left
  · obtain ⟨o46, rfl, S⟩ := hI
    have h := g48
    clear g48
    try dsimp only at h
    refine sSeq (fun K98 hK98 => ?_)
    refine sRegion ?_
    refine sLoadN (p := b26) (off := 0) (T := 23) (vs := [iv o46, iv o27]) 1 [iv o46, iv o27] S (wN rfl) rfl rfl rfl rfl rfl rfl rfl (lb rfl) fun a S => ?_
    refine sStore (p := b8) (off := 0) (T := 23) (vs := [iv 0, iv 0]) (v := .agg #[iv o46, iv o27]) 0 [iv o46, iv o27] S (wN rfl) rfl rfl rfl rfl rfl rfl rfl (by simp) rfl fun a w S => ?_
    refine sMove (iv 0) S (wN rfl) (.inr rfl) rfl rfl (lb rfl) fun a S => ?_
    refine leafL (leafT (hK98 _ _ ?_))
    obtain rfl := Option.some.inj h
    have S := S.learn (fRep r_api_Bill (.agg #[iv o46, iv o27]) (api_Bill.mk o46 o27)) rfl
    exact wp_ret (sRet (.tuple #[.agg #[iv o46, iv o27], iv 0]) S (rsl2 rfl (rvN (c := 4) (t := 23) (T := 23) (p := b8) 0 [iv o46, iv o27] S rfl rfl rfl rfl) (rvT (t := 5) (v := iv 0) S rfl)) ⟨(.agg #[iv o46, iv o27]), rfl, S.mem.sel [] [0] (by decide) rfl rfl⟩)
  refine sSeq (fun K49 hK49 => ?_)
  refine sRegion ?_
  refine sField (b := b6) (off := 0) 1 1 S (wN rfl) rfl rfl rfl rfl rfl (lb rfl) fun a S => ?_
  refine sLoad1 (p := b6) (off := 1) (T := 41) (vs := [iv p0.Start, .slice ad3 p0.Rows.length cp4]) 0 (.slice ad3 p0.Rows.length cp4) S (wN rfl) rfl rfl rfl rfl rfl rfl (lb rfl) fun a S => ?_
  refine sLen (ad := ad3) (m := p0.Rows.length) (c := cp4) S (wN rfl) rfl Try.underlying39 rfl rfl (lb rfl) fun a S => ?_
  refine sMove (iv 0) S (wN rfl) (.inl rfl) rfl rfl (lb rfl) fun a S => ?_
  refine leafL (leafT (hK49 _ _ ?_))
  refine wp_block ?_
  obtain ⟨t54, hl, g53⟩ := bindSome h
  refine sLoop hl (fun s0 a w => match s0 with | (s50, s51) => St [] E [] w0 91 a w [(3, .pointer (some ⟨b7, 0, none⟩)), (4, .pointer (some ⟨b8, 0, none⟩)), (9, .pointer (some ⟨b26, 0, none⟩)), (57, .slice ad3 p0.Rows.length cp4), (58, iv (p0.Rows.length : Int)), (59, iv s50)] [eBox b7 44 (gl_api_Rates p1), eBox b8 23 [iv 0, iv 0], eBox b26 23 [iv s51, iv o27]] [fRep (rL r_api_Row) (.slice ad3 p0.Rows.length cp4) p0.Rows]) (S.fix [1, 2, 3] [0] (by decide) rfl rfl rfl) ?_
  clear hl h
  intro s0 a w c0 hI h hu52
  obtain ⟨s50, s51⟩ := s0
  unfold cost_Need_l3 at h
  dsimp only at h hI
  have S := hI
  refine sSeq (fun K56 hK56 => ?_)
  refine sRegion ?_
  refine sBin (.bool (decide (s50 < (p0.Rows.length : Int)))) S (wN rfl) rfl rfl rfl (bLt _ _ _ _ .i64 s50 (p0.Rows.length : Int)) rfl (lb rfl) fun a S => ?_
  refine leafL (leafT (hK56 _ _ ?_))
  refine sSeq (fun K57 hK57 => ?_)
  rcases iteSome h with ⟨hc58, h⟩ | ⟨hc58, h⟩
  rotate_left
  · refine sCondF S rfl hc58 ?_
    obtain rfl := Option.some.inj h
    obtain rfl := hu52 _ rfl
    have h := g53
    clear g53
    try dsimp only at h
    exact wp_exit (xThen (xThen (xHit (leafT (⟨s51, Option.some.inj h, S.fix [1, 2] [] (by decide) rfl rfl rfl⟩)))))
  refine sCondT S rfl hc58 ?_
  refine wp_skip (leafT (hK57 _ _ ?_))
  obtain ⟨t60, h, g61⟩ := bindSome h
  refine sCut (fun a w => ∃ o59, o59 = t60 ∧ St [] E [] w0 91 a w [(3, .pointer (some ⟨b7, 0, none⟩)), (4, .pointer (some ⟨b8, 0, none⟩)), (9, .pointer (some ⟨b26, 0, none⟩)), (57, .slice ad3 p0.Rows.length cp4), (58, iv (p0.Rows.length : Int)), (59, iv s50)] [eBox b7 44 (gl_api_Rates p1), eBox b8 23 [iv 0, iv 0], eBox b26 23 [iv o59, iv o27]] [fRep (rL r_api_Row) (.slice ad3 p0.Rows.length cp4) p0.Rows]) ?_ (fun a w hI => ?_)
  rotate_left
  · obtain ⟨o59, rfl, S⟩ := hI
    have h := g61
    clear g61
    try dsimp only at h
    refine sRegion ?_
    refine sBin (iv (w64 (s50 + 1))) S (wN rfl) rfl rfl rfl (bAdd _ _ _ _ s50 1) rfl (lb rfl) fun a S => ?_
    refine sMove (iv (w64 (s50 + 1))) S (wN rfl) (.inl rfl) rfl rfl (lb rfl) fun a S => ?_
    exact leafL (leafT (⟨(w64 (s50 + 1), o59), (Option.some.inj h).symm, (S.fix [0, 1, 2] [0] (by decide) rfl rfl rfl)⟩))
  refine wp_block ?_
  refine sSeq (fun K62 hK62 => ?_)
  refine sRegion ?_
  obtain ⟨x63, hx64, h⟩ := bindSome h
  obtain ⟨q65, hq66, S⟩ := pIdx (P := Try.prog) (r := r_api_Row) (v := .slice ad3 p0.Rows.length cp4) (xs := p0.Rows) (j := s50) 39 72 0 S Try.underlying39 rfl rfl hx64
  refine sIdxV (v := .slice ad3 p0.Rows.length cp4) (k := .i64) (j := s50) S (wN rfl) rfl rfl rfl hq66 rfl (lb rfl) fun a S => ?_
  obtain ⟨u67, S⟩ := pLoad (r := r_api_Row) (q := q65) (x := x63) 0 S rfl
  obtain ⟨u68, rfl, hu69⟩ := S.mem.know (i := 1) (e := fRep r_api_Row (u67) x63) rfl
  have S := S.learn (fRep (rL r_api_Stitch) u68 x63.Cells) hu69
  obtain ⟨ad70, cp71, _, rfl, _⟩ := hu69
  refine sLoadVN (vq := q65) 1 [.bool x63.Back, .slice ad70 x63.Cells.length cp71] S (wN rfl) rfl rfl rfl rfl rfl rfl (lb rfl) fun a S => ?_
  refine sAlloc (.agg #[.bool false, .slice none 0 0]) S (wN rfl) rfl rfl [.bool false, .slice none 0 0] rfl rfl (lb rfl) fun a b72 w S => ?_
  refine sStore (p := b72) (off := 0) (T := 72) (vs := [.bool false, .slice none 0 0]) (v := .agg #[.bool x63.Back, .slice ad70 x63.Cells.length cp71]) 0 [.bool x63.Back, .slice ad70 x63.Cells.length cp71] S (wN rfl) rfl rfl rfl rfl rfl rfl rfl (by simp) rfl fun a w S => ?_
  refine leafL (leafT (hK62 _ _ ?_))
  refine sSeq (fun K73 hK73 => ?_)
  refine sRegion ?_
  refine sField (b := b72) (off := 0) 1 1 S (wN rfl) rfl rfl rfl rfl rfl (lb rfl) fun a S => ?_
  refine sLoad1 (p := b72) (off := 1) (T := 72) (vs := [.bool x63.Back, .slice ad70 x63.Cells.length cp71]) 0 (.slice ad70 x63.Cells.length cp71) S (wN rfl) rfl rfl rfl rfl rfl rfl (lb rfl) fun a S => ?_
  refine sLen (ad := ad70) (m := x63.Cells.length) (c := cp71) S (wN rfl) rfl Try.underlying70 rfl rfl (lb rfl) fun a S => ?_
  refine sMove (iv 0) S (wN rfl) (.inl rfl) rfl rfl (lb rfl) fun a S => ?_
  refine leafL (leafT (hK73 _ _ ?_))
  refine wp_block ?_
  obtain ⟨t78, hl, g77⟩ := bindSome h
  refine sLoop hl (fun s0 a w => match s0 with | (s74, s75) => St [] E [] w0 91 a w [(3, .pointer (some ⟨b7, 0, none⟩)), (4, .pointer (some ⟨b8, 0, none⟩)), (9, .pointer (some ⟨b26, 0, none⟩)), (57, .slice ad3 p0.Rows.length cp4), (58, iv (p0.Rows.length : Int)), (59, iv s50), (64, .slice ad70 x63.Cells.length cp71), (65, iv (x63.Cells.length : Int)), (66, iv s74)] [eBox b7 44 (gl_api_Rates p1), eBox b8 23 [iv 0, iv 0], eBox b26 23 [iv s75, iv o27]] [fRep (rL r_api_Row) (.slice ad3 p0.Rows.length cp4) p0.Rows, fRep (rL r_api_Stitch) (.slice ad70 x63.Cells.length cp71) x63.Cells]) (S.fix [1, 2, 3] [4, 0] (by decide) rfl rfl rfl) ?_
  clear hl h
  intro s0 a w c0 hI h hu76
  obtain ⟨s74, s75⟩ := s0
  unfold cost_Need_l2 at h
  dsimp only at h hI
  have S := hI
  refine sSeq (fun K80 hK80 => ?_)
  refine sRegion ?_
  refine sBin (.bool (decide (s74 < (x63.Cells.length : Int)))) S (wN rfl) rfl rfl rfl (bLt _ _ _ _ .i64 s74 (x63.Cells.length : Int)) rfl (lb rfl) fun a S => ?_
  refine leafL (leafT (hK80 _ _ ?_))
  refine sSeq (fun K81 hK81 => ?_)
  rcases iteSome h with ⟨hc82, h⟩ | ⟨hc82, h⟩
  rotate_left
  · refine sCondF S rfl hc82 ?_
    obtain rfl := Option.some.inj h
    obtain rfl := hu76 _ rfl
    have h := g77
    clear g77
    try dsimp only at h
    exact wp_exit (xThen (xThen (xHit (leafB (leafT (⟨s75, Option.some.inj h, S.fix [0, 1, 2] [0] (by decide) rfl rfl rfl⟩))))))
  refine sCondT S rfl hc82 ?_
  refine wp_skip (leafT (hK81 _ _ ?_))
  refine sSeq (fun K83 hK83 => ?_)
  refine wp_block ?_
  refine sSeq (fun K84 hK84 => ?_)
  refine sRegion ?_
  obtain ⟨x85, hx86, h⟩ := bindSome h
  obtain ⟨q87, hq88, S⟩ := pIdx (P := Try.prog) (r := r_api_Stitch) (v := .slice ad70 x63.Cells.length cp71) (xs := x63.Cells) (j := s74) 70 74 1 S Try.underlying70 rfl rfl hx86
  refine sIdxV (v := .slice ad70 x63.Cells.length cp71) (k := .i64) (j := s74) S (wN rfl) rfl rfl rfl hq88 rfl (lb rfl) fun a S => ?_
  obtain ⟨u89, S⟩ := pLoad (r := r_api_Stitch) (q := q87) (x := x85) 0 S rfl
  obtain rfl : u89 = .agg #[.int .u8 x85.Kind, .bool x85.Purl, iv x85.A, iv x85.B] := S.mem.know (i := 1) (e := fRep r_api_Stitch (u89) x85) rfl
  refine sLoadVN (vq := q87) 0 [.int .u8 x85.Kind, .bool x85.Purl, iv x85.A, iv x85.B] S (wN rfl) rfl rfl rfl rfl rfl rfl (lb rfl) fun a S => ?_
  refine sAlloc (.agg #[.int .u8 0, .bool false, iv 0, iv 0]) S (wN rfl) rfl rfl [.int .u8 0, .bool false, iv 0, iv 0] rfl rfl (lb rfl) fun a b90 w S => ?_
  refine sStore (p := b90) (off := 0) (T := 74) (vs := [.int .u8 0, .bool false, iv 0, iv 0]) (v := .agg #[.int .u8 x85.Kind, .bool x85.Purl, iv x85.A, iv x85.B]) 0 [.int .u8 x85.Kind, .bool x85.Purl, iv x85.A, iv x85.B] S (wN rfl) rfl rfl rfl rfl rfl rfl rfl (by simp) rfl fun a w S => ?_
  refine leafL (leafT (hK84 _ _ ?_))
  refine sSeq (fun K91 hK91 => ?_)
  refine sRegion ?_
  refine sLoadN (p := b90) (off := 0) (T := 74) (vs := [.int .u8 x85.Kind, .bool x85.Purl, iv x85.A, iv x85.B]) 0 [.int .u8 x85.Kind, .bool x85.Purl, iv x85.A, iv x85.B] S (wN rfl) rfl rfl rfl rfl rfl rfl rfl (lb rfl) fun a S => ?_
  refine sLit (r := r_api_Stitch) (T := 74) (xs := [x85]) [(0, .agg #[.int .u8 x85.Kind, .bool x85.Purl, iv x85.A, iv x85.B])] 1 [.agg #[.int .u8 x85.Kind, .bool x85.Purl, iv x85.A, iv x85.B]] [.int .u8 x85.Kind, .bool x85.Purl, iv x85.A, iv x85.B] (.agg #[.int .u8 0, .bool false, iv 0, iv 0]) 24 S (wN rfl) rfl rfl Try.underlying70 rfl (by decide) (by decide) (by kernel_rfl) rfl (fun E1 w1 hE => All.cons (r_api_Stitch.mono hE (S.mem.know (i := 1) (e := fRep r_api_Stitch (.agg #[.int .u8 x85.Kind, .bool x85.Purl, iv x85.A, iv x85.B]) x85) rfl)) (All.nil _ _ _)) rfl rfl (lb rfl) fun a w ad92 cp93 S => ?_
  obtain ⟨r94, hx95, h⟩ := bindSome h
  have S1 := S.mem
  have S1 := S1.shutR (r := r_api_Stitch) (T := 74) (v := .slice ad92 [x85].length cp93) (xs := [x85]) 0 rfl
  refine sCallQ (X := Unit) (f := 33) (vs := [.slice ad92 [x85].length cp93]) (val := fun _ => .tuple #[iv r94.1, iv r94.2]) S (wN rfl) rfl callee33 rfl (S1.quiet [0] rfl) (fun E1 w1 S1 => c_stitch_Makes E1 w1 [x85] (.slice ad92 [x85].length cp93) r94 hx95 S1) rfl (lb rfl) fun _ a w S => ?_
  refine sMove (.tuple #[iv r94.1, iv r94.2]) S (wN rfl) (.inl rfl) rfl rfl (lb rfl) fun a S => ?_
  refine sExtract (vs := [iv r94.1, iv r94.2]) (iv r94.1) S (wN rfl) rfl rfl rfl rfl (lb rfl) fun a S => ?_
  refine sExtract (vs := [iv r94.1, iv r94.2]) (iv r94.2) S (wN rfl) rfl rfl rfl rfl (lb rfl) fun a S => ?_
  refine sMove (iv r94.1) S (wN rfl) (.inr rfl) rfl rfl (lb rfl) fun a S => ?_
  refine sMove (iv r94.2) S (wN rfl) (.inr rfl) rfl rfl (lb rfl) fun a S => ?_
  refine leafL (leafT (hK91 _ _ ?_))
  obtain ⟨x96, hx97, h⟩ := bindSome h
  refine sDraw (nf := [12]) (W := [(0, 76, .pointer (some ⟨b26, 0, none⟩)), (1, 77, iv s75), (2, 78, .pointer (some ⟨b90, 0, none⟩)), (3, 79, .int .u8 x85.Kind), (4, 80, .pointer (some ⟨b7, 0, none⟩)), (5, 81, .pointer (some ⟨b7, 0 + (x85.Kind).toNat * 1, none⟩)), (6, 82, iv x96), (7, 83, iv r94.1), (8, 84, iv (if (1 : Int) < r94.1 then r94.1 else 1)), (9, 85, iv (w64 (x96 * (if (1 : Int) < r94.1 then r94.1 else 1)))), (10, 86, iv (w64 (s75 + (w64 (x96 * (if (1 : Int) < r94.1 then r94.1 else 1)))))), (11, 87, .pointer (some ⟨b26, 0, none⟩))]) rfl S ?_
  refine node_by (A := anc_cost_Need_1) (nf := [12]) (Y := []) (W := [(0, 76, .pointer (some ⟨b26, 0, none⟩)), (1, 77, iv s75), (2, 78, .pointer (some ⟨b90, 0, none⟩)), (3, 79, .int .u8 x85.Kind), (4, 80, .pointer (some ⟨b7, 0, none⟩)), (5, 81, .pointer (some ⟨b7, 0 + (x85.Kind).toNat * 1, none⟩)), (6, 82, iv x96), (7, 83, iv r94.1), (8, 84, iv (if (1 : Int) < r94.1 then r94.1 else 1)), (9, 85, iv (w64 (x96 * (if (1 : Int) < r94.1 then r94.1 else 1)))), (10, 86, iv (w64 (s75 + (w64 (x96 * (if (1 : Int) < r94.1 then r94.1 else 1)))))), (11, 87, .pointer (some ⟨b26, 0, none⟩))]) 13 (by kernel_rfl) (by kernel_rfl) (by kernel_rfl) (by kernel_rfl) (by kernel_rfl) [0, 1, 2, 3, 4, 5, 6, 7, 8, 9, 10, 11] (by kernel_rfl) (by decide) (by decide) (aF 0 12 (by decide) ?_ (aF 1 11 (by decide) ?_ (aF 2 10 (by decide) ?_ (aF 3 9 (by decide) ?_ (aF 4 8 (by decide) ?_ (aF 5 7 (by decide) ?_ (aF 6 6 (by decide) ?_ (aF 7 5 (by decide) ?_ (aF 8 4 (by decide) ?_ (aF 9 3 (by decide) ?_ (aF 10 2 (by decide) ?_ (aF 11 1 (by decide) ?_ (aN 12 0 (by decide) ?_ (trivial)))))))))))))) [] (fun q hq => by cases hq) (fun hY => absurd (hY 12 (by decide)) (by decide))
  · refine fI 76 (.pointer (some ⟨b26, 0, none⟩)) [(9, .pointer (some ⟨b26, 0, none⟩))] 0 [none] rfl rfl rfl rfl rfl rfl fun G a w S => ?_
    refine sField (b := b26) (off := 0) 0 0 S (wN rfl) rfl rfl rfl rfl rfl (lb rfl) fun a S => ?_
    exact leafL ⟨rfl, S⟩
  · refine fI 77 (iv s75) [(76, .pointer (some ⟨b26, 0, none⟩))] 1 [some 0] rfl rfl rfl rfl rfl rfl fun G a w S => ?_
    refine sLoad1 (p := b26) (off := 0) (T := 23) (vs := [iv s75, iv o27]) 4 (iv s75) S (wN rfl) rfl rfl rfl rfl rfl rfl (lb rfl) fun a S => ?_
    exact leafL ⟨rfl, S⟩
  · refine fI 78 (.pointer (some ⟨b90, 0, none⟩)) [(15, .pointer (some ⟨b90, 0, none⟩))] 2 [none] rfl rfl rfl rfl rfl rfl fun G a w S => ?_
    refine sField (b := b90) (off := 0) 0 0 S (wN rfl) rfl rfl rfl rfl rfl (lb rfl) fun a S => ?_
    exact leafL ⟨rfl, S⟩
  · refine fI 79 (.int .u8 x85.Kind) [(78, .pointer (some ⟨b90, 0, none⟩))] 3 [some 2] rfl rfl rfl rfl rfl rfl fun G a w S => ?_
    refine sLoad1 (p := b90) (off := 0) (T := 74) (vs := [.int .u8 x85.Kind, .bool x85.Purl, iv x85.A, iv x85.B]) 1 (.int .u8 x85.Kind) S (wN rfl) rfl rfl rfl rfl rfl rfl (lb rfl) fun a S => ?_
    exact leafL ⟨rfl, S⟩
  · refine fI 80 (.pointer (some ⟨b7, 0, none⟩)) [(3, .pointer (some ⟨b7, 0, none⟩))] 4 [none] rfl rfl rfl rfl rfl rfl fun G a w S => ?_
    refine sField (b := b7) (off := 0) 0 0 S (wN rfl) rfl rfl rfl rfl rfl (lb rfl) fun a S => ?_
    exact leafL ⟨rfl, S⟩
  · refine fI 81 (.pointer (some ⟨b7, 0 + (x85.Kind).toNat * 1, none⟩)) [(79, .int .u8 x85.Kind), (80, .pointer (some ⟨b7, 0, none⟩))] 5 [some 3, some 4] rfl rfl rfl rfl rfl rfl fun G a w S => ?_
    refine sIdxV (v := .pointer (some ⟨b7, 0, none⟩)) (k := .u8) (j := x85.Kind) (q := .pointer (some ⟨b7, 0 + (x85.Kind).toNat * 1, none⟩)) S (wN rfl) rfl rfl rfl (idxV_arr (m := 11) (sz := 1) Try.underlying42 rfl (idxO_rng (m := 11) hx97 rfl).1 (idxO_rng (m := 11) hx97 rfl).2 0) rfl (lb rfl) fun a S => ?_
    exact leafL ⟨rfl, S⟩
  · refine fI 82 (iv x96) [(81, .pointer (some ⟨b7, 0 + (x85.Kind).toNat * 1, none⟩))] 6 [some 5] rfl rfl rfl rfl rfl rfl fun G a w S => ?_
    refine sLoad1 (p := b7) (off := 0 + (x85.Kind).toNat * 1) (T := 44) (vs := [iv p1.Length.1, iv p1.Length.2.1, iv p1.Length.2.2.1, iv p1.Length.2.2.2.1, iv p1.Length.2.2.2.2.1, iv p1.Length.2.2.2.2.2.1, iv p1.Length.2.2.2.2.2.2.1, iv p1.Length.2.2.2.2.2.2.2.1, iv p1.Length.2.2.2.2.2.2.2.2.1, iv p1.Length.2.2.2.2.2.2.2.2.2.1, iv p1.Length.2.2.2.2.2.2.2.2.2.2, iv p1.Time.1, iv p1.Time.2.1, iv p1.Time.2.2.1, iv p1.Time.2.2.2.1, iv p1.Time.2.2.2.2.1, iv p1.Time.2.2.2.2.2.1, iv p1.Time.2.2.2.2.2.2.1, iv p1.Time.2.2.2.2.2.2.2.1, iv p1.Time.2.2.2.2.2.2.2.2.1, iv p1.Time.2.2.2.2.2.2.2.2.2.1, iv p1.Time.2.2.2.2.2.2.2.2.2.2, iv p1.Turn]) 2 (iv x96) S (wN rfl) rfl rfl rfl rfl (box_at (g := (fun z => .int .i64 z)) [] [iv p1.Time.1, iv p1.Time.2.1, iv p1.Time.2.2.1, iv p1.Time.2.2.2.1, iv p1.Time.2.2.2.2.1, iv p1.Time.2.2.2.2.2.1, iv p1.Time.2.2.2.2.2.2.1, iv p1.Time.2.2.2.2.2.2.2.1, iv p1.Time.2.2.2.2.2.2.2.2.1, iv p1.Time.2.2.2.2.2.2.2.2.2.1, iv p1.Time.2.2.2.2.2.2.2.2.2.2, iv p1.Turn] 0 hx97 rfl rfl) rfl (lb rfl) fun a S => ?_
    exact leafL ⟨rfl, S⟩
  · refine fI 83 (iv r94.1) [(16, iv r94.1)] 7 [none] rfl rfl rfl rfl rfl rfl fun G a w S => ?_
    refine sMove (iv r94.1) S (wN rfl) (.inl rfl) rfl rfl (lb rfl) fun a S => ?_
    exact leafL ⟨rfl, S⟩
  · refine fI 84 (iv (if (1 : Int) < r94.1 then r94.1 else 1)) [(83, iv r94.1)] 8 [some 7] rfl rfl rfl rfl rfl rfl fun G a w S => ?_
    refine sMax2 (p := 1) (q := r94.1) S (wN rfl) rfl rfl rfl rfl (lb rfl) fun a S => ?_
    exact leafL ⟨rfl, S⟩
  · refine fI 85 (iv (w64 (x96 * (if (1 : Int) < r94.1 then r94.1 else 1)))) [(82, iv x96), (84, iv (if (1 : Int) < r94.1 then r94.1 else 1))] 9 [some 6, some 8] rfl rfl rfl rfl rfl rfl fun G a w S => ?_
    refine sBin (iv (w64 (x96 * (if (1 : Int) < r94.1 then r94.1 else 1)))) S (wN rfl) rfl rfl rfl (bMul _ _ _ _ x96 (if (1 : Int) < r94.1 then r94.1 else 1)) rfl (lb rfl) fun a S => ?_
    exact leafL ⟨rfl, S⟩
  · refine fI 86 (iv (w64 (s75 + (w64 (x96 * (if (1 : Int) < r94.1 then r94.1 else 1)))))) [(77, iv s75), (85, iv (w64 (x96 * (if (1 : Int) < r94.1 then r94.1 else 1))))] 10 [some 1, some 9] rfl rfl rfl rfl rfl rfl fun G a w S => ?_
    refine sBin (iv (w64 (s75 + (w64 (x96 * (if (1 : Int) < r94.1 then r94.1 else 1)))))) S (wN rfl) rfl rfl rfl (bAdd _ _ _ _ s75 (w64 (x96 * (if (1 : Int) < r94.1 then r94.1 else 1)))) rfl (lb rfl) fun a S => ?_
    exact leafL ⟨rfl, S⟩
  · refine fI 87 (.pointer (some ⟨b26, 0, none⟩)) [(9, .pointer (some ⟨b26, 0, none⟩))] 11 [none] rfl rfl rfl rfl rfl rfl fun G a w S => ?_
    refine sField (b := b26) (off := 0) 0 0 S (wN rfl) rfl rfl rfl rfl rfl (lb rfl) fun a S => ?_
    exact leafL ⟨rfl, S⟩
  refine ⟨_, [(86, iv (w64 (s75 + (w64 (x96 * (if (1 : Int) < r94.1 then r94.1 else 1)))))), (87, .pointer (some ⟨b26, 0, none⟩))], rfl, (srcs_of [some 10, some 11] rfl rfl rfl), fun G a w S => ?_⟩
  refine sStore (p := b26) (off := 0) (T := 23) (vs := [iv s75, iv o27]) (v := iv (w64 (s75 + (w64 (x96 * (if (1 : Int) < r94.1 then r94.1 else 1)))))) 4 [iv (w64 (s75 + (w64 (x96 * (if (1 : Int) < r94.1 then r94.1 else 1)))))] S (wN rfl) rfl rfl rfl rfl rfl rfl rfl (by simp) rfl fun a w S => ?_
  refine leafL ⟨rfl, _, _, .inr ⟨[], rfl, S, hz_of rfl, ?_⟩⟩
  refine node_by (A := anc_cost_Need_1) (nf := [12]) (Y := [12]) 13 (by kernel_rfl) (by kernel_rfl) (by kernel_rfl) (by kernel_rfl) (by kernel_rfl) [0, 1, 2, 3, 4, 5, 6, 7, 8, 9, 10, 11] (by kernel_rfl) (by decide) (by decide) (aD 0 12 12 (by decide) (aD 1 11 12 (by decide) (aD 2 10 12 (by decide) (aD 3 9 12 (by decide) (aD 4 8 12 (by decide) (aD 5 7 12 (by decide) (aD 6 6 12 (by decide) (aD 7 5 12 (by decide) (aD 8 4 12 (by decide) (aD 9 3 12 (by decide) (aD 10 2 12 (by decide) (aD 11 1 12 (by decide) (aY 12 0 (by decide) (trivial)))))))))))))) [(3, .pointer (some ⟨b7, 0, none⟩)), (4, .pointer (some ⟨b8, 0, none⟩)), (9, .pointer (some ⟨b26, 0, none⟩)), (57, .slice ad3 p0.Rows.length cp4), (58, iv (p0.Rows.length : Int)), (59, iv s50), (64, .slice ad70 x63.Cells.length cp71), (65, iv (x63.Cells.length : Int)), (66, iv s74)] (fin_of [none, none, none, none, none, none, none, none, none] rfl (by kernel_rfl) (by kernel_rfl)) (fun _ a w S => ?_)
  refine leafB (leafT (hK83 _ _ ?_))
  refine sRegion ?_
  refine sBin (iv (w64 (s74 + 1))) S (wN rfl) rfl rfl rfl (bAdd _ _ _ _ s74 1) rfl (lb rfl) fun a S => ?_
  refine sMove (iv (w64 (s74 + 1))) S (wN rfl) (.inl rfl) rfl rfl (lb rfl) fun a S => ?_
  exact leafL (leafT (⟨(w64 (s74 + 1), w64 (s75 + (w64 (x96 * (if (1 : Int) < r94.1 then r94.1 else 1))))), (Option.some.inj h).symm, (S.fix [3, 4, 0] [3, 4] (by decide) rfl rfl rfl)⟩))

end Go.Proofs.Ytdbgkakmhlmpbaa
namespace Go.Proofs.Ytdbgkakmhlmpbaa
open Go.RowKit
set_option linter.unusedVariables false

noncomputable def F_raddleref25_Gives (p0 : api_Stitch) : Option Int :=
  if p0.Kind == 10 then
    some 0
  else
    Option.bind (α := Bool) (
      if p0.Kind == 5 then
        some (p0.Kind == 5)
      else
        some (p0.Kind == 9)) fun o8 =>
    if o8 then
      some p0.A
    else
      Option.bind (α := Bool) (
        if p0.Kind == 6 then
          some (p0.Kind == 6)
        else
          some (p0.Kind == 7)) fun o15 =>
      if o15 then
        some (w64 (p0.A + p0.B))
      else
        some 1
set_option maxHeartbeats 4000000 in
set_option maxRecDepth 100000 in
theorem c_raddleref25_Gives (E : Nat → Prop) (w0 : World) (p0 : api_Stitch) (v0 : Value) (r : Int) (h : F_raddleref25_Gives p0 = some r) (S : St0 E [] w0 w0 [] [fRep r_api_Stitch (v0) p0]) :
    Calls Try.prog 32 #[v0] w0 (Ret (X := Unit) E [] w0 (fun _ => .int .i64 r) (fun _ => []) (fun _ => [])) := by
  unfold F_raddleref25_Gives at h
  obtain rfl : v0 = .agg #[.int .u8 p0.Kind, .bool p0.Purl, iv p0.A, iv p0.B] := S.know (i := 0) (e := fRep r_api_Stitch (v0) p0) rfl
  refine sEnter (args := [.agg #[.int .u8 p0.Kind, .bool p0.Purl, iv p0.A, iv p0.B]]) 20 Try.func32 rfl rfl (by simp) S (fun a S => ?_)
  refine sSeq (fun K1 hK1 => ?_)
  refine sRegion ?_
  refine sBox (v := .agg #[.int .u8 p0.Kind, .bool p0.Purl, iv p0.A, iv p0.B]) S (wN rfl) rfl rfl [.int .u8 p0.Kind, .bool p0.Purl, iv p0.A, iv p0.B] rfl rfl (lb rfl) fun a b2 w S => ?_
  refine sMove (iv 0) S (wN rfl) (.inr rfl) rfl rfl (lb rfl) fun a S => ?_
  refine leafL (leafT (hK1 _ _ ?_))
  refine sSeq (fun K3 hK3 => ?_)
  refine sSeq (fun K4 hK4 => ?_)
  refine sRegion ?_
  refine sField (b := b2) (off := 0) 0 0 S (wN rfl) rfl rfl rfl rfl rfl (lb rfl) fun a S => ?_
  refine sLoad1 (p := b2) (off := 0) (T := 74) (vs := [.int .u8 p0.Kind, .bool p0.Purl, iv p0.A, iv p0.B]) 0 (.int .u8 p0.Kind) S (wN rfl) rfl rfl rfl rfl rfl rfl (lb rfl) fun a S => ?_
  refine leafL (leafT (hK4 _ _ ?_))
  refine wp_block ?_
  refine sSeq (fun K5 hK5 => ?_)
  refine sRegion ?_
  refine sBin (.bool (p0.Kind == 10)) S (wN rfl) rfl rfl rfl (bEq _ _ _ _ .u8 p0.Kind 10) rfl (lb rfl) fun a S => ?_
  refine sMove (.bool (p0.Kind == 10)) S (wN rfl) (.inr rfl) rfl rfl (lb rfl) fun a S => ?_
  refine leafL (leafT (hK5 _ _ ?_))
  rcases iteSome h with ⟨hc6, h⟩ | ⟨hc6, h⟩
  · refine sCondT S rfl hc6 ?_
    refine sSeq (fun K7 hK7 => ?_)
    refine sRegion ?_
    refine sMove (iv 0) S (wN rfl) (.inr rfl) rfl rfl (lb rfl) fun a S => ?_
    refine leafL (leafT (hK7 _ _ ?_))
    obtain rfl := Option.some.inj h
    exact wp_ret (rBlock (rThen (sRet (iv 0) S (rsl1 rfl (rvT (t := 2) (v := iv 0) S rfl)) ⟨(), rfl, S.mem.sel [] [] (by decide) rfl rfl⟩)))
  refine sCondF S rfl hc6 ?_
  obtain ⟨t9, h, g10⟩ := bindSome h
  refine sCut (fun a w => ∃ o8, o8 = t9 ∧ St [] E [] w0 20 a w [(1, .pointer (some ⟨b2, 0, none⟩)), (4, .int .u8 p0.Kind), (7, .bool o8)] [eBox b2 74 [.int .u8 p0.Kind, .bool p0.Purl, iv p0.A, iv p0.B]] []) ?_ (fun a w hI => ?_)
  · refine sSeq (fun K11 hK11 => ?_)
    refine sRegion ?_
    refine sBin (.bool (p0.Kind == 5)) S (wN rfl) rfl rfl rfl (bEq _ _ _ _ .u8 p0.Kind 5) rfl (lb rfl) fun a S => ?_
    refine sMove (.bool (p0.Kind == 5)) S (wN rfl) (.inr rfl) rfl rfl (lb rfl) fun a S => ?_
    refine leafL (leafT (hK11 _ _ ?_))
    rcases iteSome h with ⟨hc12, h⟩ | ⟨hc12, h⟩
    · refine sCondT S rfl hc12 ?_
      exact wp_skip (leafT (⟨p0.Kind == 5, Option.some.inj h, S.fix [0] [] (by decide) rfl rfl rfl⟩))
    refine sCondF S rfl hc12 ?_
    refine sRegion ?_
    refine sBin (.bool (p0.Kind == 9)) S (wN rfl) rfl rfl rfl (bEq _ _ _ _ .u8 p0.Kind 9) rfl (lb rfl) fun a S => ?_
    refine sMove (.bool (p0.Kind == 9)) S (wN rfl) (.inr rfl) rfl rfl (lb rfl) fun a S => ?_
    exact leafL (leafT (⟨p0.Kind == 9, Option.some.inj h, S.fix [0] [] (by decide) rfl rfl rfl⟩))
  obtain ⟨o8, rfl, S⟩ := hI
  have h := g10
  clear g10
  try dsimp only at h
  rcases iteSome h with ⟨hc13, h⟩ | ⟨hc13, h⟩
  · refine sCondT S rfl hc13 ?_
    refine sSeq (fun K14 hK14 => ?_)
    refine sRegion ?_
    refine sField (b := b2) (off := 0) 2 2 S (wN rfl) rfl rfl rfl rfl rfl (lb rfl) fun a S => ?_
    refine sLoad1 (p := b2) (off := 2) (T := 74) (vs := [.int .u8 p0.Kind, .bool p0.Purl, iv p0.A, iv p0.B]) 0 (iv p0.A) S (wN rfl) rfl rfl rfl rfl rfl rfl (lb rfl) fun a S => ?_
    refine sMove (iv p0.A) S (wN rfl) (.inr rfl) rfl rfl (lb rfl) fun a S => ?_
    refine leafL (leafT (hK14 _ _ ?_))
    obtain rfl := Option.some.inj h
    exact wp_ret (rBlock (rThen (sRet (iv p0.A) S (rsl1 rfl (rvT (t := 2) (v := iv p0.A) S rfl)) ⟨(), rfl, S.mem.sel [] [] (by decide) rfl rfl⟩)))
  refine sCondF S rfl hc13 ?_
  obtain ⟨t16, h, g17⟩ := bindSome h
  refine sCut (fun a w => ∃ o15, o15 = t16 ∧ St [] E [] w0 20 a w [(1, .pointer (some ⟨b2, 0, none⟩)), (12, .bool o15)] [eBox b2 74 [.int .u8 p0.Kind, .bool p0.Purl, iv p0.A, iv p0.B]] []) ?_ (fun a w hI => ?_)
  · refine sSeq (fun K18 hK18 => ?_)
    refine sRegion ?_
    refine sBin (.bool (p0.Kind == 6)) S (wN rfl) rfl rfl rfl (bEq _ _ _ _ .u8 p0.Kind 6) rfl (lb rfl) fun a S => ?_
    refine sMove (.bool (p0.Kind == 6)) S (wN rfl) (.inr rfl) rfl rfl (lb rfl) fun a S => ?_
    refine leafL (leafT (hK18 _ _ ?_))
    rcases iteSome h with ⟨hc19, h⟩ | ⟨hc19, h⟩
    · refine sCondT S rfl hc19 ?_
      exact wp_skip (leafT (⟨p0.Kind == 6, Option.some.inj h, S.fix [0] [] (by decide) rfl rfl rfl⟩))
    refine sCondF S rfl hc19 ?_
    refine sRegion ?_
    refine sBin (.bool (p0.Kind == 7)) S (wN rfl) rfl rfl rfl (bEq _ _ _ _ .u8 p0.Kind 7) rfl (lb rfl) fun a S => ?_
    refine sMove (.bool (p0.Kind == 7)) S (wN rfl) (.inr rfl) rfl rfl (lb rfl) fun a S => ?_
    exact leafL (leafT (⟨p0.Kind == 7, Option.some.inj h, S.fix [0] [] (by decide) rfl rfl rfl⟩))
  obtain ⟨o15, rfl, S⟩ := hI
  have h := g17
  clear g17
  try dsimp only at h
  rcases iteSome h with ⟨hc20, h⟩ | ⟨hc20, h⟩
  rotate_left
  · refine sCondF S rfl hc20 ?_
    refine wp_skip (leafB (leafT (hK3 _ _ ?_)))
    refine sSeq (fun K22 hK22 => ?_)
    refine sRegion ?_
    refine sMove (iv 1) S (wN rfl) (.inr rfl) rfl rfl (lb rfl) fun a S => ?_
    refine leafL (leafT (hK22 _ _ ?_))
    obtain rfl := Option.some.inj h
    exact wp_ret (sRet (iv 1) S (rsl1 rfl (rvT (t := 2) (v := iv 1) S rfl)) ⟨(), rfl, S.mem.sel [] [] (by decide) rfl rfl⟩)
  refine sCondT S rfl hc20 ?_
  refine sSeq (fun K21 hK21 => ?_)
  refine sRegion ?_
  refine sField (b := b2) (off := 0) 2 2 S (wN rfl) rfl rfl rfl rfl rfl (lb rfl) fun a S => ?_
  refine sLoad1 (p := b2) (off := 2) (T := 74) (vs := [.int .u8 p0.Kind, .bool p0.Purl, iv p0.A, iv p0.B]) 0 (iv p0.A) S (wN rfl) rfl rfl rfl rfl rfl rfl (lb rfl) fun a S => ?_
  refine sField (b := b2) (off := 0) 3 3 S (wN rfl) rfl rfl rfl rfl rfl (lb rfl) fun a S => ?_
  refine sLoad1 (p := b2) (off := 3) (T := 74) (vs := [.int .u8 p0.Kind, .bool p0.Purl, iv p0.A, iv p0.B]) 0 (iv p0.B) S (wN rfl) rfl rfl rfl rfl rfl rfl (lb rfl) fun a S => ?_
  refine sBin (iv (w64 (p0.A + p0.B))) S (wN rfl) rfl rfl rfl (bAdd _ _ _ _ p0.A p0.B) rfl (lb rfl) fun a S => ?_
  refine sMove (iv (w64 (p0.A + p0.B))) S (wN rfl) (.inr rfl) rfl rfl (lb rfl) fun a S => ?_
  refine leafL (leafT (hK21 _ _ ?_))
  obtain rfl := Option.some.inj h
  exact wp_ret (rBlock (rThen (sRet (iv (w64 (p0.A + p0.B))) S (rsl1 rfl (rvT (t := 2) (v := iv (w64 (p0.A + p0.B))) S rfl)) ⟨(), rfl, S.mem.sel [] [] (by decide) rfl rfl⟩)))

end Go.Proofs.Ytdbgkakmhlmpbaa
namespace Go.Proofs.Ytdbgkakmhlmpbaa
open Go.RowKit
set_option linter.unusedVariables false

noncomputable def F_raddleref25_Used (p0 : api_Stitch) : Option Int :=
  Option.bind (α := Bool) (
    if p0.Kind == 2 then
      some (p0.Kind == 2)
    else
      some (p0.Kind == 9)) fun o5 =>
  if o5 then
    some 0
  else
    Option.bind (α := Bool) (
      if p0.Kind == 3 then
        some (p0.Kind == 3)
      else
        if p0.Kind == 4 then
          some (p0.Kind == 4)
        else
          some (p0.Kind == 10)) fun o12 =>
    if o12 then
      some p0.A
    else
      Option.bind (α := Bool) (
        if p0.Kind == 6 then
          some (p0.Kind == 6)
        else
          some (p0.Kind == 7)) fun o21 =>
      if o21 then
        some (w64 (p0.A + p0.B))
      else
        some 1
set_option maxHeartbeats 4000000 in
set_option maxRecDepth 100000 in
theorem c_raddleref25_Used (E : Nat → Prop) (w0 : World) (p0 : api_Stitch) (v0 : Value) (r : Int) (h : F_raddleref25_Used p0 = some r) (S : St0 E [] w0 w0 [] [fRep r_api_Stitch (v0) p0]) :
    Calls Try.prog 90 #[v0] w0 (Ret (X := Unit) E [] w0 (fun _ => .int .i64 r) (fun _ => []) (fun _ => [])) := by
  unfold F_raddleref25_Used at h
  obtain rfl : v0 = .agg #[.int .u8 p0.Kind, .bool p0.Purl, iv p0.A, iv p0.B] := S.know (i := 0) (e := fRep r_api_Stitch (v0) p0) rfl
  refine sEnter (args := [.agg #[.int .u8 p0.Kind, .bool p0.Purl, iv p0.A, iv p0.B]]) 22 Try.func90 rfl rfl (by simp) S (fun a S => ?_)
  refine sSeq (fun K1 hK1 => ?_)
  refine sRegion ?_
  refine sBox (v := .agg #[.int .u8 p0.Kind, .bool p0.Purl, iv p0.A, iv p0.B]) S (wN rfl) rfl rfl [.int .u8 p0.Kind, .bool p0.Purl, iv p0.A, iv p0.B] rfl rfl (lb rfl) fun a b2 w S => ?_
  refine sMove (iv 0) S (wN rfl) (.inr rfl) rfl rfl (lb rfl) fun a S => ?_
  refine leafL (leafT (hK1 _ _ ?_))
  refine sSeq (fun K3 hK3 => ?_)
  refine sSeq (fun K4 hK4 => ?_)
  refine sRegion ?_
  refine sField (b := b2) (off := 0) 0 0 S (wN rfl) rfl rfl rfl rfl rfl (lb rfl) fun a S => ?_
  refine sLoad1 (p := b2) (off := 0) (T := 74) (vs := [.int .u8 p0.Kind, .bool p0.Purl, iv p0.A, iv p0.B]) 0 (.int .u8 p0.Kind) S (wN rfl) rfl rfl rfl rfl rfl rfl (lb rfl) fun a S => ?_
  refine leafL (leafT (hK4 _ _ ?_))
  refine wp_block ?_
  obtain ⟨t6, h, g7⟩ := bindSome h
  refine sCut (fun a w => ∃ o5, o5 = t6 ∧ St [] E [] w0 22 a w [(1, .pointer (some ⟨b2, 0, none⟩)), (4, .int .u8 p0.Kind), (5, .bool o5)] [eBox b2 74 [.int .u8 p0.Kind, .bool p0.Purl, iv p0.A, iv p0.B]] []) ?_ (fun a w hI => ?_)
  · refine sSeq (fun K8 hK8 => ?_)
    refine sRegion ?_
    refine sBin (.bool (p0.Kind == 2)) S (wN rfl) rfl rfl rfl (bEq _ _ _ _ .u8 p0.Kind 2) rfl (lb rfl) fun a S => ?_
    refine sMove (.bool (p0.Kind == 2)) S (wN rfl) (.inr rfl) rfl rfl (lb rfl) fun a S => ?_
    refine leafL (leafT (hK8 _ _ ?_))
    rcases iteSome h with ⟨hc9, h⟩ | ⟨hc9, h⟩
    · refine sCondT S rfl hc9 ?_
      exact wp_skip (leafT (⟨p0.Kind == 2, Option.some.inj h, S.fix [0] [] (by decide) rfl rfl rfl⟩))
    refine sCondF S rfl hc9 ?_
    refine sRegion ?_
    refine sBin (.bool (p0.Kind == 9)) S (wN rfl) rfl rfl rfl (bEq _ _ _ _ .u8 p0.Kind 9) rfl (lb rfl) fun a S => ?_
    refine sMove (.bool (p0.Kind == 9)) S (wN rfl) (.inr rfl) rfl rfl (lb rfl) fun a S => ?_
    exact leafL (leafT (⟨p0.Kind == 9, Option.some.inj h, S.fix [0] [] (by decide) rfl rfl rfl⟩))
  obtain ⟨o5, rfl, S⟩ := hI
  have h := g7
  clear g7
  try dsimp only at h
  rcases iteSome h with ⟨hc10, h⟩ | ⟨hc10, h⟩
  · refine sCondT S rfl hc10 ?_
    refine sSeq (fun K11 hK11 => ?_)
    refine sRegion ?_
    refine sMove (iv 0) S (wN rfl) (.inr rfl) rfl rfl (lb rfl) fun a S => ?_
    refine leafL (leafT (hK11 _ _ ?_))
    obtain rfl := Option.some.inj h
    exact wp_ret (rBlock (rThen (sRet (iv 0) S (rsl1 rfl (rvT (t := 2) (v := iv 0) S rfl)) ⟨(), rfl, S.mem.sel [] [] (by decide) rfl rfl⟩)))
  refine sCondF S rfl hc10 ?_
  obtain ⟨t13, h, g14⟩ := bindSome h
  refine sCut (fun a w => ∃ o12, o12 = t13 ∧ St [] E [] w0 22 a w [(1, .pointer (some ⟨b2, 0, none⟩)), (4, .int .u8 p0.Kind), (8, .bool o12)] [eBox b2 74 [.int .u8 p0.Kind, .bool p0.Purl, iv p0.A, iv p0.B]] []) ?_ (fun a w hI => ?_)
  · refine sSeq (fun K15 hK15 => ?_)
    refine sRegion ?_
    refine sBin (.bool (p0.Kind == 3)) S (wN rfl) rfl rfl rfl (bEq _ _ _ _ .u8 p0.Kind 3) rfl (lb rfl) fun a S => ?_
    refine sMove (.bool (p0.Kind == 3)) S (wN rfl) (.inr rfl) rfl rfl (lb rfl) fun a S => ?_
    refine leafL (leafT (hK15 _ _ ?_))
    rcases iteSome h with ⟨hc16, h⟩ | ⟨hc16, h⟩
    · refine sCondT S rfl hc16 ?_
      exact wp_skip (leafT (⟨p0.Kind == 3, Option.some.inj h, S.fix [0] [] (by decide) rfl rfl rfl⟩))
    refine sCondF S rfl hc16 ?_
    refine sSeq (fun K17 hK17 => ?_)
    refine sRegion ?_
    refine sBin (.bool (p0.Kind == 4)) S (wN rfl) rfl rfl rfl (bEq _ _ _ _ .u8 p0.Kind 4) rfl (lb rfl) fun a S => ?_
    refine sMove (.bool (p0.Kind == 4)) S (wN rfl) (.inr rfl) rfl rfl (lb rfl) fun a S => ?_
    refine leafL (leafT (hK17 _ _ ?_))
    rcases iteSome h with ⟨hc18, h⟩ | ⟨hc18, h⟩
    · refine sCondT S rfl hc18 ?_
      exact wp_skip (leafT (⟨p0.Kind == 4, Option.some.inj h, S.fix [0] [] (by decide) rfl rfl rfl⟩))
    refine sCondF S rfl hc18 ?_
    refine sRegion ?_
    refine sBin (.bool (p0.Kind == 10)) S (wN rfl) rfl rfl rfl (bEq _ _ _ _ .u8 p0.Kind 10) rfl (lb rfl) fun a S => ?_
    refine sMove (.bool (p0.Kind == 10)) S (wN rfl) (.inr rfl) rfl rfl (lb rfl) fun a S => ?_
    exact leafL (leafT (⟨p0.Kind == 10, Option.some.inj h, S.fix [0] [] (by decide) rfl rfl rfl⟩))
  obtain ⟨o12, rfl, S⟩ := hI
  have h := g14
  clear g14
  try dsimp only at h
  rcases iteSome h with ⟨hc19, h⟩ | ⟨hc19, h⟩
  · refine sCondT S rfl hc19 ?_
    refine sSeq (fun K20 hK20 => ?_)
    refine sRegion ?_
    refine sField (b := b2) (off := 0) 2 2 S (wN rfl) rfl rfl rfl rfl rfl (lb rfl) fun a S => ?_
    refine sLoad1 (p := b2) (off := 2) (T := 74) (vs := [.int .u8 p0.Kind, .bool p0.Purl, iv p0.A, iv p0.B]) 0 (iv p0.A) S (wN rfl) rfl rfl rfl rfl rfl rfl (lb rfl) fun a S => ?_
    refine sMove (iv p0.A) S (wN rfl) (.inr rfl) rfl rfl (lb rfl) fun a S => ?_
    refine leafL (leafT (hK20 _ _ ?_))
    obtain rfl := Option.some.inj h
    exact wp_ret (rBlock (rThen (sRet (iv p0.A) S (rsl1 rfl (rvT (t := 2) (v := iv p0.A) S rfl)) ⟨(), rfl, S.mem.sel [] [] (by decide) rfl rfl⟩)))
  refine sCondF S rfl hc19 ?_
  obtain ⟨t22, h, g23⟩ := bindSome h
  refine sCut (fun a w => ∃ o21, o21 = t22 ∧ St [] E [] w0 22 a w [(1, .pointer (some ⟨b2, 0, none⟩)), (14, .bool o21)] [eBox b2 74 [.int .u8 p0.Kind, .bool p0.Purl, iv p0.A, iv p0.B]] []) ?_ (fun a w hI => ?_)
  · refine sSeq (fun K24 hK24 => ?_)
    refine sRegion ?_
    refine sBin (.bool (p0.Kind == 6)) S (wN rfl) rfl rfl rfl (bEq _ _ _ _ .u8 p0.Kind 6) rfl (lb rfl) fun a S => ?_
    refine sMove (.bool (p0.Kind == 6)) S (wN rfl) (.inr rfl) rfl rfl (lb rfl) fun a S => ?_
    refine leafL (leafT (hK24 _ _ ?_))
    rcases iteSome h with ⟨hc25, h⟩ | ⟨hc25, h⟩
    · refine sCondT S rfl hc25 ?_
      exact wp_skip (leafT (⟨p0.Kind == 6, Option.some.inj h, S.fix [0] [] (by decide) rfl rfl rfl⟩))
    refine sCondF S rfl hc25 ?_
    refine sRegion ?_
    refine sBin (.bool (p0.Kind == 7)) S (wN rfl) rfl rfl rfl (bEq _ _ _ _ .u8 p0.Kind 7) rfl (lb rfl) fun a S => ?_
    refine sMove (.bool (p0.Kind == 7)) S (wN rfl) (.inr rfl) rfl rfl (lb rfl) fun a S => ?_
    exact leafL (leafT (⟨p0.Kind == 7, Option.some.inj h, S.fix [0] [] (by decide) rfl rfl rfl⟩))
  obtain ⟨o21, rfl, S⟩ := hI
  have h := g23
  clear g23
  try dsimp only at h
  rcases iteSome h with ⟨hc26, h⟩ | ⟨hc26, h⟩
  rotate_left
  · refine sCondF S rfl hc26 ?_
    refine wp_skip (leafB (leafT (hK3 _ _ ?_)))
    refine sSeq (fun K28 hK28 => ?_)
    refine sRegion ?_
    refine sMove (iv 1) S (wN rfl) (.inr rfl) rfl rfl (lb rfl) fun a S => ?_
    refine leafL (leafT (hK28 _ _ ?_))
    obtain rfl := Option.some.inj h
    exact wp_ret (sRet (iv 1) S (rsl1 rfl (rvT (t := 2) (v := iv 1) S rfl)) ⟨(), rfl, S.mem.sel [] [] (by decide) rfl rfl⟩)
  refine sCondT S rfl hc26 ?_
  refine sSeq (fun K27 hK27 => ?_)
  refine sRegion ?_
  refine sField (b := b2) (off := 0) 2 2 S (wN rfl) rfl rfl rfl rfl rfl (lb rfl) fun a S => ?_
  refine sLoad1 (p := b2) (off := 2) (T := 74) (vs := [.int .u8 p0.Kind, .bool p0.Purl, iv p0.A, iv p0.B]) 0 (iv p0.A) S (wN rfl) rfl rfl rfl rfl rfl rfl (lb rfl) fun a S => ?_
  refine sField (b := b2) (off := 0) 3 3 S (wN rfl) rfl rfl rfl rfl rfl (lb rfl) fun a S => ?_
  refine sLoad1 (p := b2) (off := 3) (T := 74) (vs := [.int .u8 p0.Kind, .bool p0.Purl, iv p0.A, iv p0.B]) 0 (iv p0.B) S (wN rfl) rfl rfl rfl rfl rfl rfl (lb rfl) fun a S => ?_
  refine sBin (iv (w64 (p0.A + p0.B))) S (wN rfl) rfl rfl rfl (bAdd _ _ _ _ p0.A p0.B) rfl (lb rfl) fun a S => ?_
  refine sMove (iv (w64 (p0.A + p0.B))) S (wN rfl) (.inr rfl) rfl rfl (lb rfl) fun a S => ?_
  refine leafL (leafT (hK27 _ _ ?_))
  obtain rfl := Option.some.inj h
  exact wp_ret (rBlock (rThen (sRet (iv (w64 (p0.A + p0.B))) S (rsl1 rfl (rvT (t := 2) (v := iv (w64 (p0.A + p0.B))) S rfl)) ⟨(), rfl, S.mem.sel [] [] (by decide) rfl rfl⟩)))

end Go.Proofs.Ytdbgkakmhlmpbaa
namespace Go.Proofs.Ytdbgkakmhlmpbaa
open Go.RowKit
set_option linter.unusedVariables false

noncomputable def raddleref25_sums_l1 (p0 : (List api_Stitch)) : (Int × Int × Int) → Option ((Int × Int × Int) ⊕ (Int × Int)) := fun s0 => match s0 with
  | (s10, s11, s12) =>
    if decide (s12 < (p0.length : Int)) then
      Option.bind (idxO p0 s12) fun x23 =>
      Option.bind (F_raddleref25_Used x23) fun r28 =>
      Option.bind (F_raddleref25_Gives x23) fun r33 =>
      some (.inl (w64 (s10 + r28), w64 (s11 + r33), w64 (s12 + 1)))
    else
      some (.inr (s10, s11))
noncomputable def F_raddleref25_sums (p0 : (List api_Stitch)) : Option (Int × Int) :=
  Option.bind (α := (Int × Int)) (
    Option.bind (whileO (raddleref25_sums_l1 p0) (0, 0, 0)) fun (e16, e17) =>
      some (e16, e17)) fun (o5, o6) =>
  some (o5, o6)
set_option maxHeartbeats 4000000 in
set_option maxRecDepth 100000 in
theorem c_raddleref25_sums (E : Nat → Prop) (w0 : World) (p0 : (List api_Stitch)) (v0 : Value) (r : (Int × Int)) (h : F_raddleref25_sums p0 = some r) (S : St0 E [] w0 w0 [] [fRep (rL r_api_Stitch) (v0) p0]) :
    Calls Try.prog 70 #[v0] w0 (Ret (X := Unit) E [] w0 (fun _ => .tuple #[.int .i64 r.1, .int .i64 r.2]) (fun _ => []) (fun _ => [])) := by
  unfold F_raddleref25_sums at h
  obtain ⟨ad1, cp2, _, rfl, _⟩ := S.know (i := 0) (e := fRep (rL r_api_Stitch) (v0) p0) rfl
  refine sEnter (args := [.slice ad1 p0.length cp2]) 29 Try.func70 rfl rfl (by simp) S (fun a S => ?_)
  refine sSeq (fun K3 hK3 => ?_)
  refine sRegion ?_
  refine sMove (iv 0) S (wN rfl) (.inr rfl) rfl rfl (lb rfl) fun a S => ?_
  refine sMove (iv 0) S (wN rfl) (.inr rfl) rfl rfl (lb rfl) fun a S => ?_
  refine leafL (leafT (hK3 _ _ ?_))
  refine sSeq (fun K4 hK4 => ?_)
  refine sRegion ?_
  refine sMove (iv 0) S (wN rfl) (.inr rfl) rfl rfl (lb rfl) fun a S => ?_
  refine sMove (iv 0) S (wN rfl) (.inr rfl) rfl rfl (lb rfl) fun a S => ?_
  refine leafL (leafT (hK4 _ _ ?_))
  obtain ⟨t7, h, g8⟩ := bindSome h
  refine sCut (fun a w => ∃ o5, ∃ o6, (o5, o6) = t7 ∧ St [] E [] w0 29 a w [(4, iv o5), (5, iv o6)] [] []) ?_ (fun a w hI => ?_)
  rotate_left
  · obtain ⟨o5, o6, rfl, S⟩ := hI
    have h := g8
    clear g8
    try dsimp only at h
    refine sSeq (fun K35 hK35 => ?_)
    refine sRegion ?_
    refine sMove (iv o5) S (wN rfl) (.inl rfl) rfl rfl (lb rfl) fun a S => ?_
    refine sMove (iv o6) S (wN rfl) (.inl rfl) rfl rfl (lb rfl) fun a S => ?_
    refine sMove (iv o5) S (wN rfl) (.inr rfl) rfl rfl (lb rfl) fun a S => ?_
    refine sMove (iv o6) S (wN rfl) (.inr rfl) rfl rfl (lb rfl) fun a S => ?_
    refine leafL (leafT (hK35 _ _ ?_))
    obtain rfl := Option.some.inj h
    exact wp_ret (sRet (.tuple #[iv o5, iv o6]) S (rsl2 rfl (rvT (t := 2) (v := iv o5) S rfl) (rvT (t := 3) (v := iv o6) S rfl)) ⟨(), rfl, S.mem.sel [] [] (by decide) rfl rfl⟩)
  refine sSeq (fun K9 hK9 => ?_)
  refine sRegion ?_
  refine sMove (iv 0) S (wN rfl) (.inr rfl) rfl rfl (lb rfl) fun a S => ?_
  refine leafL (leafT (hK9 _ _ ?_))
  refine wp_block ?_
  obtain ⟨t15, hl, g14⟩ := bindSome h
  refine sLoop hl (fun s0 a w => match s0 with | (s10, s11, s12) => St [] E [] w0 29 a w [(0, .slice ad1 p0.length cp2), (4, iv s10), (5, iv s11), (6, iv s12)] [] [fRep (rL r_api_Stitch) (.slice ad1 p0.length cp2) p0]) (S.fix [] [0] (by decide) rfl rfl rfl) ?_
  clear hl h
  intro s0 a w c0 hI h hu13
  obtain ⟨s10, s11, s12⟩ := s0
  unfold raddleref25_sums_l1 at h
  dsimp only at h hI
  have S := hI
  refine sSeq (fun K18 hK18 => ?_)
  refine sSeq (fun K19 hK19 => ?_)
  refine sRegion ?_
  refine sMove (iv s12) S (wN rfl) (.inl rfl) rfl rfl (lb rfl) fun a S => ?_
  refine sMove (.slice ad1 p0.length cp2) S (wN rfl) (.inl rfl) rfl rfl (lb rfl) fun a S => ?_
  refine sLen (ad := ad1) (m := p0.length) (c := cp2) S (wN rfl) rfl Try.underlying70 rfl rfl (lb rfl) fun a S => ?_
  refine sBin (.bool (decide (s12 < (p0.length : Int)))) S (wN rfl) rfl rfl rfl (bLt _ _ _ _ .i64 s12 (p0.length : Int)) rfl (lb rfl) fun a S => ?_
  refine leafL (leafT (hK19 _ _ ?_))
  rcases iteSome h with ⟨hc20, h⟩ | ⟨hc20, h⟩
  rotate_left
  · refine sCondF S rfl hc20 ?_
    obtain rfl := Option.some.inj h
    obtain rfl := hu13 _ rfl
    have h := g14
    clear g14
    try dsimp only at h
    exact wp_exit (xThen (xThen (xHit (leafT (⟨s10, s11, Option.some.inj h, S.fix [] [] (by decide) rfl rfl rfl⟩)))))
  refine sCondT S rfl hc20 ?_
  refine wp_skip (leafT (hK18 _ _ ?_))
  refine sSeq (fun K21 hK21 => ?_)
  refine wp_block ?_
  refine sSeq (fun K22 hK22 => ?_)
  refine sRegion ?_
  refine sMove (iv s10) S (wN rfl) (.inl rfl) rfl rfl (lb rfl) fun a S => ?_
  refine sMove (.slice ad1 p0.length cp2) S (wN rfl) (.inl rfl) rfl rfl (lb rfl) fun a S => ?_
  refine sMove (iv s12) S (wN rfl) (.inl rfl) rfl rfl (lb rfl) fun a S => ?_
  obtain ⟨x23, hx24, h⟩ := bindSome h
  obtain ⟨q25, hq26, S⟩ := pIdx (P := Try.prog) (r := r_api_Stitch) (v := .slice ad1 p0.length cp2) (xs := p0) (j := s12) 70 74 0 S Try.underlying70 rfl rfl hx24
  refine sIdxV (v := .slice ad1 p0.length cp2) (k := .i64) (j := s12) S (wN rfl) rfl rfl rfl hq26 rfl (lb rfl) fun a S => ?_
  obtain ⟨u27, S⟩ := pLoad (r := r_api_Stitch) (q := q25) (x := x23) 0 S rfl
  obtain rfl : u27 = .agg #[.int .u8 x23.Kind, .bool x23.Purl, iv x23.A, iv x23.B] := S.mem.know (i := 1) (e := fRep r_api_Stitch (u27) x23) rfl
  refine sLoadVN (vq := q25) 0 [.int .u8 x23.Kind, .bool x23.Purl, iv x23.A, iv x23.B] S (wN rfl) rfl rfl rfl rfl rfl rfl (lb rfl) fun a S => ?_
  obtain ⟨r28, hx29, h⟩ := bindSome h
  have S1 := S.mem
  refine sCallQ (X := Unit) (f := 90) (vs := [.agg #[.int .u8 x23.Kind, .bool x23.Purl, iv x23.A, iv x23.B]]) (val := fun _ => iv r28) S (wN rfl) rfl callee90 rfl (S1.quiet [1] rfl) (fun E1 w1 S1 => c_raddleref25_Used E1 w1 x23 (.agg #[.int .u8 x23.Kind, .bool x23.Purl, iv x23.A, iv x23.B]) r28 hx29 S1) rfl (lb rfl) fun _ a w S => ?_
  refine sBin (iv (w64 (s10 + r28))) S (wN rfl) rfl rfl rfl (bAdd _ _ _ _ s10 r28) rfl (lb rfl) fun a S => ?_
  refine sMove (iv (w64 (s10 + r28))) S (wN rfl) (.inr rfl) rfl rfl (lb rfl) fun a S => ?_
  refine leafL (leafT (hK22 _ _ ?_))
  refine sRegion ?_
  refine sMove (iv s11) S (wN rfl) (.inl rfl) rfl rfl (lb rfl) fun a S => ?_
  refine sMove (.slice ad1 p0.length cp2) S (wN rfl) (.inl rfl) rfl rfl (lb rfl) fun a S => ?_
  refine sMove (iv s12) S (wN rfl) (.inl rfl) rfl rfl (lb rfl) fun a S => ?_
  obtain ⟨q30, hq31, S⟩ := pIdx (P := Try.prog) (r := r_api_Stitch) (v := .slice ad1 p0.length cp2) (xs := p0) (j := s12) 70 74 3 S Try.underlying70 rfl rfl hx24
  refine sIdxV (v := .slice ad1 p0.length cp2) (k := .i64) (j := s12) S (wN rfl) rfl rfl rfl hq31 rfl (lb rfl) fun a S => ?_
  obtain ⟨u32, S⟩ := pLoad (r := r_api_Stitch) (q := q30) (x := x23) 0 S rfl
  obtain rfl : u32 = .agg #[.int .u8 x23.Kind, .bool x23.Purl, iv x23.A, iv x23.B] := S.mem.know (i := 1) (e := fRep r_api_Stitch (u32) x23) rfl
  refine sLoadVN (vq := q30) 0 [.int .u8 x23.Kind, .bool x23.Purl, iv x23.A, iv x23.B] S (wN rfl) rfl rfl rfl rfl rfl rfl (lb rfl) fun a S => ?_
  obtain ⟨r33, hx34, h⟩ := bindSome h
  have S1 := S.mem
  refine sCallQ (X := Unit) (f := 32) (vs := [.agg #[.int .u8 x23.Kind, .bool x23.Purl, iv x23.A, iv x23.B]]) (val := fun _ => iv r33) S (wN rfl) rfl callee32 rfl (S1.quiet [1] rfl) (fun E1 w1 S1 => c_raddleref25_Gives E1 w1 x23 (.agg #[.int .u8 x23.Kind, .bool x23.Purl, iv x23.A, iv x23.B]) r33 hx34 S1) rfl (lb rfl) fun _ a w S => ?_
  refine sBin (iv (w64 (s11 + r33))) S (wN rfl) rfl rfl rfl (bAdd _ _ _ _ s11 r33) rfl (lb rfl) fun a S => ?_
  refine sMove (iv (w64 (s11 + r33))) S (wN rfl) (.inr rfl) rfl rfl (lb rfl) fun a S => ?_
  refine leafL (leafB (leafT (hK21 _ _ ?_)))
  refine sRegion ?_
  refine sMove (iv s12) S (wN rfl) (.inl rfl) rfl rfl (lb rfl) fun a S => ?_
  refine sBin (iv (w64 (s12 + 1))) S (wN rfl) rfl rfl rfl (bAdd _ _ _ _ s12 1) rfl (lb rfl) fun a S => ?_
  refine sMove (iv (w64 (s12 + 1))) S (wN rfl) (.inr rfl) rfl rfl (lb rfl) fun a S => ?_
  exact leafL (leafT (⟨(w64 (s10 + r28), w64 (s11 + r33), w64 (s12 + 1)), (Option.some.inj h).symm, (S.fix [] [6] (by decide) rfl rfl rfl)⟩))

end Go.Proofs.Ytdbgkakmhlmpbaa
namespace Go.Proofs.Ytdbgkakmhlmpbaa
open Go.RowKit
set_option linter.unusedVariables false

noncomputable def F_raddleref25_Check (p0 : api_Stitch) : Option Int :=
  Option.bind (α := Bool) (
    if p0.A == 0 then
      some (p0.B == 0)
    else
      some false) fun o3 =>
  Option.bind (α := Bool) (
    Option.bind (α := Bool) (
      if p0.Kind == 1 then
        some (p0.Kind == 1)
      else
        some (p0.Kind == 8)) fun o12 =>
    if o12 then
      some o3
    else
      if p0.Kind == 2 then
        if o3 then
          some (!p0.Purl)
        else
          some false
      else
        Option.bind (α := Bool) (
          if p0.Kind == 3 then
            some (p0.Kind == 3)
          else
            if p0.Kind == 4 then
              some (p0.Kind == 4)
            else
              some (p0.Kind == 5)) fun o21 =>
        if o21 then
          if p0.B == 0 then
            if decide (2 ≤ p0.A) then
              some (decide (p0.A ≤ 4))
            else
              some false
          else
            some false
        else
          Option.bind (α := Bool) (
            if p0.Kind == 6 then
              some (p0.Kind == 6)
            else
              some (p0.Kind == 7)) fun o31 =>
          if o31 then
            if decide (1 ≤ p0.A) then
              if decide (p0.A ≤ 6) then
                if decide (1 ≤ p0.B) then
                  some (decide (p0.B ≤ 6))
                else
                  some false
              else
                some false
            else
              some false
          else
            if p0.Kind == 9 then
              if p0.B == 0 then
                if !p0.Purl then
                  if decide (1 ≤ p0.A) then
                    some (decide (p0.A ≤ 200))
                  else
                    some false
                else
                  some false
              else
                some false
            else
              if p0.Kind == 10 then
                if p0.B == 0 then
                  if decide (1 ≤ p0.A) then
                    some (decide (p0.A ≤ 200))
                  else
                    some false
                else
                  some false
              else
                some false) fun o8 =>
  if !o8 then
    some 8
  else
    some 0
set_option maxHeartbeats 4000000 in
set_option maxRecDepth 100000 in
theorem c_raddleref25_Check (E : Nat → Prop) (w0 : World) (p0 : api_Stitch) (v0 : Value) (r : Int) (h : F_raddleref25_Check p0 = some r) (S : St0 E [] w0 w0 [] [fRep r_api_Stitch (v0) p0]) :
    Calls Try.prog 88 #[v0] w0 (Ret (X := Unit) E [] w0 (fun _ => .int .i64 r) (fun _ => []) (fun _ => [])) := by
  unfold F_raddleref25_Check at h
  obtain rfl : v0 = .agg #[.int .u8 p0.Kind, .bool p0.Purl, iv p0.A, iv p0.B] := S.know (i := 0) (e := fRep r_api_Stitch (v0) p0) rfl
  refine sEnter (args := [.agg #[.int .u8 p0.Kind, .bool p0.Purl, iv p0.A, iv p0.B]]) 102 Try.func88 rfl rfl (by simp) S (fun a S => ?_)
  refine sSeq (fun K1 hK1 => ?_)
  refine sRegion ?_
  refine sBox (v := .agg #[.int .u8 p0.Kind, .bool p0.Purl, iv p0.A, iv p0.B]) S (wN rfl) rfl rfl [.int .u8 p0.Kind, .bool p0.Purl, iv p0.A, iv p0.B] rfl rfl (lb rfl) fun a b2 w S => ?_
  refine sMove (iv 0) S (wN rfl) (.inr rfl) rfl rfl (lb rfl) fun a S => ?_
  refine leafL (leafT (hK1 _ _ ?_))
  obtain ⟨t4, h, g5⟩ := bindSome h
  refine sCut (fun a w => ∃ o3, o3 = t4 ∧ St [] E [] w0 102 a w [(1, .pointer (some ⟨b2, 0, none⟩)), (3, .bool o3)] [eBox b2 74 [.int .u8 p0.Kind, .bool p0.Purl, iv p0.A, iv p0.B]] []) ?_ (fun a w hI => ?_)
  · refine sRegion ?_
    refine sField (b := b2) (off := 0) 2 2 S (wN rfl) rfl rfl rfl rfl rfl (lb rfl) fun a S => ?_
    refine sLoad1 (p := b2) (off := 2) (T := 74) (vs := [.int .u8 p0.Kind, .bool p0.Purl, iv p0.A, iv p0.B]) 0 (iv p0.A) S (wN rfl) rfl rfl rfl rfl rfl rfl (lb rfl) fun a S => ?_
    refine sBin (.bool (p0.A == 0)) S (wN rfl) rfl rfl rfl (bEq _ _ _ _ .i64 p0.A 0) rfl (lb rfl) fun a S => ?_
    refine sMove (.bool (p0.A == 0)) S (wN rfl) (.inl rfl) rfl rfl (lb rfl) fun a S => ?_
    rcases iteSome h with ⟨hc6, h⟩ | ⟨hc6, h⟩
    rotate_left
    · refine sSkip 3 true 8 9 S rfl rfl rfl hc6 rfl (lb rfl) fun a S => ?_
      refine sSkip 3 true 8 10 S rfl rfl rfl hc6 rfl (lb rfl) fun a S => ?_
      refine sSkip 3 true 8 11 S rfl rfl rfl hc6 rfl (lb rfl) fun a S => ?_
      refine sPickF (.bool false) S (wN rfl) rfl rfl hc6 rfl rfl (lb rfl) fun a S => ?_
      refine sMove (.bool false) S (wN rfl) (.inr rfl) rfl rfl (lb rfl) fun a S => ?_
      exact leafL (leafT (⟨false, Option.some.inj h, S.fix [0] [] (by decide) rfl rfl rfl⟩))
    refine sField (b := b2) (off := 0) 3 3 S (wG 3 true 8 rfl rfl rfl hc6) rfl rfl rfl rfl rfl (lb rfl) fun a S => ?_
    refine sLoad1 (p := b2) (off := 3) (T := 74) (vs := [.int .u8 p0.Kind, .bool p0.Purl, iv p0.A, iv p0.B]) 0 (iv p0.B) S (wG 3 true 8 rfl rfl rfl hc6) rfl rfl rfl rfl rfl rfl (lb rfl) fun a S => ?_
    refine sBin (.bool (p0.B == 0)) S (wG 3 true 8 rfl rfl rfl hc6) rfl rfl rfl (bEq _ _ _ _ .i64 p0.B 0) rfl (lb rfl) fun a S => ?_
    refine sPickT (.bool (p0.B == 0)) S (wN rfl) rfl rfl hc6 rfl rfl (lb rfl) fun a S => ?_
    refine sMove (.bool (p0.B == 0)) S (wN rfl) (.inr rfl) rfl rfl (lb rfl) fun a S => ?_
    exact leafL (leafT (⟨p0.B == 0, Option.some.inj h, S.fix [0] [] (by decide) rfl rfl rfl⟩))
  obtain ⟨o3, rfl, S⟩ := hI
  have h := g5
  clear g5
  try dsimp only at h
  refine sSeq (fun K7 hK7 => ?_)
  refine sRegion ?_
  refine sMove (.bool false) S (wN rfl) (.inr rfl) rfl rfl (lb rfl) fun a S => ?_
  refine leafL (leafT (hK7 _ _ ?_))
  obtain ⟨t9, h, g10⟩ := bindSome h
  refine sCut (fun a w => ∃ o8, o8 = t9 ∧ St [] E [] w0 102 a w [(4, .bool o8)] [] []) ?_ (fun a w hI => ?_)
  rotate_left
  · obtain ⟨o8, rfl, S⟩ := hI
    have h := g10
    clear g10
    try dsimp only at h
    refine sSeq (fun K49 hK49 => ?_)
    refine sSeq (fun K50 hK50 => ?_)
    refine sRegion ?_
    refine sMove (.bool o8) S (wN rfl) (.inl rfl) rfl rfl (lb rfl) fun a S => ?_
    refine sNot (b := o8) S (wN rfl) rfl rfl rfl (lb rfl) fun a S => ?_
    refine leafL (leafT (hK50 _ _ ?_))
    rcases iteSome h with ⟨hc51, h⟩ | ⟨hc51, h⟩
    · refine sCondT S rfl hc51 ?_
      refine sSeq (fun K52 hK52 => ?_)
      refine sRegion ?_
      refine sMove (iv 8) S (wN rfl) (.inr rfl) rfl rfl (lb rfl) fun a S => ?_
      refine leafL (leafT (hK52 _ _ ?_))
      obtain rfl := Option.some.inj h
      exact wp_ret (rThen (sRet (iv 8) S (rsl1 rfl (rvT (t := 2) (v := iv 8) S rfl)) ⟨(), rfl, S.mem.sel [] [] (by decide) rfl rfl⟩))
    refine sCondF S rfl hc51 ?_
    refine wp_skip (leafT (hK49 _ _ ?_))
    refine sSeq (fun K53 hK53 => ?_)
    refine sRegion ?_
    refine sMove (iv 0) S (wN rfl) (.inr rfl) rfl rfl (lb rfl) fun a S => ?_
    refine leafL (leafT (hK53 _ _ ?_))
    obtain rfl := Option.some.inj h
    exact wp_ret (sRet (iv 0) S (rsl1 rfl (rvT (t := 2) (v := iv 0) S rfl)) ⟨(), rfl, S.mem.sel [] [] (by decide) rfl rfl⟩)
  refine sSeq (fun K11 hK11 => ?_)
  refine sRegion ?_
  refine sField (b := b2) (off := 0) 0 0 S (wN rfl) rfl rfl rfl rfl rfl (lb rfl) fun a S => ?_
  refine sLoad1 (p := b2) (off := 0) (T := 74) (vs := [.int .u8 p0.Kind, .bool p0.Purl, iv p0.A, iv p0.B]) 0 (.int .u8 p0.Kind) S (wN rfl) rfl rfl rfl rfl rfl rfl (lb rfl) fun a S => ?_
  refine leafL (leafT (hK11 _ _ ?_))
  refine wp_block ?_
  obtain ⟨t13, h, g14⟩ := bindSome h
  refine sCut (fun a w => ∃ o12, o12 = t13 ∧ St [] E [] w0 102 a w [(1, .pointer (some ⟨b2, 0, none⟩)), (3, .bool o3), (4, .bool false), (14, .int .u8 p0.Kind), (15, .bool o12)] [eBox b2 74 [.int .u8 p0.Kind, .bool p0.Purl, iv p0.A, iv p0.B]] []) ?_ (fun a w hI => ?_)
  · refine sSeq (fun K15 hK15 => ?_)
    refine sRegion ?_
    refine sBin (.bool (p0.Kind == 1)) S (wN rfl) rfl rfl rfl (bEq _ _ _ _ .u8 p0.Kind 1) rfl (lb rfl) fun a S => ?_
    refine sMove (.bool (p0.Kind == 1)) S (wN rfl) (.inr rfl) rfl rfl (lb rfl) fun a S => ?_
    refine leafL (leafT (hK15 _ _ ?_))
    rcases iteSome h with ⟨hc16, h⟩ | ⟨hc16, h⟩
    · refine sCondT S rfl hc16 ?_
      exact wp_skip (leafT (⟨p0.Kind == 1, Option.some.inj h, S.fix [0] [] (by decide) rfl rfl rfl⟩))
    refine sCondF S rfl hc16 ?_
    refine sRegion ?_
    refine sBin (.bool (p0.Kind == 8)) S (wN rfl) rfl rfl rfl (bEq _ _ _ _ .u8 p0.Kind 8) rfl (lb rfl) fun a S => ?_
    refine sMove (.bool (p0.Kind == 8)) S (wN rfl) (.inr rfl) rfl rfl (lb rfl) fun a S => ?_
    exact leafL (leafT (⟨p0.Kind == 8, Option.some.inj h, S.fix [0] [] (by decide) rfl rfl rfl⟩))
  obtain ⟨o12, rfl, S⟩ := hI
  have h := g14
  clear g14
  try dsimp only at h
  rcases iteSome h with ⟨hc17, h⟩ | ⟨hc17, h⟩
  · refine sCondT S rfl hc17 ?_
    refine sRegion ?_
    refine sMove (.bool o3) S (wN rfl) (.inl rfl) rfl rfl (lb rfl) fun a S => ?_
    refine sMove (.bool o3) S (wN rfl) (.inr rfl) rfl rfl (lb rfl) fun a S => ?_
    exact leafL (leafB (leafT (⟨o3, Option.some.inj h, S.fix [] [] (by decide) rfl rfl rfl⟩)))
  refine sCondF S rfl hc17 ?_
  refine sSeq (fun K18 hK18 => ?_)
  refine sRegion ?_
  refine sBin (.bool (p0.Kind == 2)) S (wN rfl) rfl rfl rfl (bEq _ _ _ _ .u8 p0.Kind 2) rfl (lb rfl) fun a S => ?_
  refine sMove (.bool (p0.Kind == 2)) S (wN rfl) (.inr rfl) rfl rfl (lb rfl) fun a S => ?_
  refine leafL (leafT (hK18 _ _ ?_))
  rcases iteSome h with ⟨hc19, h⟩ | ⟨hc19, h⟩
  · refine sCondT S rfl hc19 ?_
    refine sRegion ?_
    refine sMove (.bool o3) S (wN rfl) (.inl rfl) rfl rfl (lb rfl) fun a S => ?_
    refine sMove (.bool o3) S (wN rfl) (.inl rfl) rfl rfl (lb rfl) fun a S => ?_
    rcases iteSome h with ⟨hc20, h⟩ | ⟨hc20, h⟩
    rotate_left
    · refine sSkip 1 true 22 23 S rfl rfl rfl hc20 rfl (lb rfl) fun a S => ?_
      refine sSkip 1 true 22 24 S rfl rfl rfl hc20 rfl (lb rfl) fun a S => ?_
      refine sSkip 1 true 22 25 S rfl rfl rfl hc20 rfl (lb rfl) fun a S => ?_
      refine sPickF (.bool false) S (wN rfl) rfl rfl hc20 rfl rfl (lb rfl) fun a S => ?_
      refine sMove (.bool false) S (wN rfl) (.inr rfl) rfl rfl (lb rfl) fun a S => ?_
      exact leafL (leafB (leafT (⟨false, Option.some.inj h, S.fix [] [] (by decide) rfl rfl rfl⟩)))
    refine sField (b := b2) (off := 0) 1 1 S (wG 1 true 22 rfl rfl rfl hc20) rfl rfl rfl rfl rfl (lb rfl) fun a S => ?_
    refine sLoad1 (p := b2) (off := 1) (T := 74) (vs := [.int .u8 p0.Kind, .bool p0.Purl, iv p0.A, iv p0.B]) 0 (.bool p0.Purl) S (wG 1 true 22 rfl rfl rfl hc20) rfl rfl rfl rfl rfl rfl (lb rfl) fun a S => ?_
    refine sNot (b := p0.Purl) S (wG 1 true 22 rfl rfl rfl hc20) rfl rfl rfl (lb rfl) fun a S => ?_
    refine sPickT (.bool (!p0.Purl)) S (wN rfl) rfl rfl hc20 rfl rfl (lb rfl) fun a S => ?_
    refine sMove (.bool (!p0.Purl)) S (wN rfl) (.inr rfl) rfl rfl (lb rfl) fun a S => ?_
    exact leafL (leafB (leafT (⟨!p0.Purl, Option.some.inj h, S.fix [] [] (by decide) rfl rfl rfl⟩)))
  refine sCondF S rfl hc19 ?_
  obtain ⟨t22, h, g23⟩ := bindSome h
  refine sCut (fun a w => ∃ o21, o21 = t22 ∧ St [] E [] w0 102 a w [(1, .pointer (some ⟨b2, 0, none⟩)), (4, .bool false), (14, .int .u8 p0.Kind), (27, .bool o21)] [eBox b2 74 [.int .u8 p0.Kind, .bool p0.Purl, iv p0.A, iv p0.B]] []) ?_ (fun a w hI => ?_)
  · refine sSeq (fun K24 hK24 => ?_)
    refine sRegion ?_
    refine sBin (.bool (p0.Kind == 3)) S (wN rfl) rfl rfl rfl (bEq _ _ _ _ .u8 p0.Kind 3) rfl (lb rfl) fun a S => ?_
    refine sMove (.bool (p0.Kind == 3)) S (wN rfl) (.inr rfl) rfl rfl (lb rfl) fun a S => ?_
    refine leafL (leafT (hK24 _ _ ?_))
    rcases iteSome h with ⟨hc25, h⟩ | ⟨hc25, h⟩
    · refine sCondT S rfl hc25 ?_
      exact wp_skip (leafT (⟨p0.Kind == 3, Option.some.inj h, S.fix [0] [] (by decide) rfl rfl rfl⟩))
    refine sCondF S rfl hc25 ?_
    refine sSeq (fun K26 hK26 => ?_)
    refine sRegion ?_
    refine sBin (.bool (p0.Kind == 4)) S (wN rfl) rfl rfl rfl (bEq _ _ _ _ .u8 p0.Kind 4) rfl (lb rfl) fun a S => ?_
    refine sMove (.bool (p0.Kind == 4)) S (wN rfl) (.inr rfl) rfl rfl (lb rfl) fun a S => ?_
    refine leafL (leafT (hK26 _ _ ?_))
    rcases iteSome h with ⟨hc27, h⟩ | ⟨hc27, h⟩
    · refine sCondT S rfl hc27 ?_
      exact wp_skip (leafT (⟨p0.Kind == 4, Option.some.inj h, S.fix [0] [] (by decide) rfl rfl rfl⟩))
    refine sCondF S rfl hc27 ?_
    refine sRegion ?_
    refine sBin (.bool (p0.Kind == 5)) S (wN rfl) rfl rfl rfl (bEq _ _ _ _ .u8 p0.Kind 5) rfl (lb rfl) fun a S => ?_
    refine sMove (.bool (p0.Kind == 5)) S (wN rfl) (.inr rfl) rfl rfl (lb rfl) fun a S => ?_
    exact leafL (leafT (⟨p0.Kind == 5, Option.some.inj h, S.fix [0] [] (by decide) rfl rfl rfl⟩))
  obtain ⟨o21, rfl, S⟩ := hI
  have h := g23
  clear g23
  try dsimp only at h
  rcases iteSome h with ⟨hc28, h⟩ | ⟨hc28, h⟩
  · refine sCondT S rfl hc28 ?_
    refine sRegion ?_
    refine sField (b := b2) (off := 0) 3 3 S (wN rfl) rfl rfl rfl rfl rfl (lb rfl) fun a S => ?_
    refine sLoad1 (p := b2) (off := 3) (T := 74) (vs := [.int .u8 p0.Kind, .bool p0.Purl, iv p0.A, iv p0.B]) 0 (iv p0.B) S (wN rfl) rfl rfl rfl rfl rfl rfl (lb rfl) fun a S => ?_
    refine sBin (.bool (p0.B == 0)) S (wN rfl) rfl rfl rfl (bEq _ _ _ _ .i64 p0.B 0) rfl (lb rfl) fun a S => ?_
    refine sMove (.bool (p0.B == 0)) S (wN rfl) (.inl rfl) rfl rfl (lb rfl) fun a S => ?_
    rcases iteSome h with ⟨hc29, h⟩ | ⟨hc29, h⟩
    rotate_left
    · refine sSkip 3 true 34 35 S rfl rfl rfl hc29 rfl (lb rfl) fun a S => ?_
      refine sSkip 3 true 34 36 S rfl rfl rfl hc29 rfl (lb rfl) fun a S => ?_
      refine sSkip 3 true 34 37 S rfl rfl rfl hc29 rfl (lb rfl) fun a S => ?_
      refine sPickF (.bool false) S (wN rfl) rfl rfl hc29 rfl rfl (lb rfl) fun a S => ?_
      refine sMove (.bool false) S (wN rfl) (.inl rfl) rfl rfl (lb rfl) fun a S => ?_
      refine sSkip 8 true 39 40 S rfl rfl rfl rfl rfl (lb rfl) fun a S => ?_
      refine sSkip 8 true 39 41 S rfl rfl rfl rfl rfl (lb rfl) fun a S => ?_
      refine sSkip 8 true 39 42 S rfl rfl rfl rfl rfl (lb rfl) fun a S => ?_
      refine sPickF (.bool false) S (wN rfl) rfl rfl rfl rfl rfl (lb rfl) fun a S => ?_
      refine sMove (.bool false) S (wN rfl) (.inr rfl) rfl rfl (lb rfl) fun a S => ?_
      exact leafL (leafB (leafT (⟨false, Option.some.inj h, S.fix [] [] (by decide) rfl rfl rfl⟩)))
    refine sField (b := b2) (off := 0) 2 2 S (wG 3 true 34 rfl rfl rfl hc29) rfl rfl rfl rfl rfl (lb rfl) fun a S => ?_
    refine sLoad1 (p := b2) (off := 2) (T := 74) (vs := [.int .u8 p0.Kind, .bool p0.Purl, iv p0.A, iv p0.B]) 0 (iv p0.A) S (wG 3 true 34 rfl rfl rfl hc29) rfl rfl rfl rfl rfl rfl (lb rfl) fun a S => ?_
    refine sBin (.bool (decide (2 ≤ p0.A))) S (wG 3 true 34 rfl rfl rfl hc29) rfl rfl rfl (bGe _ _ _ _ .i64 p0.A 2) rfl (lb rfl) fun a S => ?_
    refine sPickT (.bool (decide (2 ≤ p0.A))) S (wN rfl) rfl rfl hc29 rfl rfl (lb rfl) fun a S => ?_
    refine sMove (.bool (decide (2 ≤ p0.A))) S (wN rfl) (.inl rfl) rfl rfl (lb rfl) fun a S => ?_
    rcases iteSome h with ⟨hc30, h⟩ | ⟨hc30, h⟩
    rotate_left
    · refine sSkip 8 true 39 40 S rfl rfl rfl hc30 rfl (lb rfl) fun a S => ?_
      refine sSkip 8 true 39 41 S rfl rfl rfl hc30 rfl (lb rfl) fun a S => ?_
      refine sSkip 8 true 39 42 S rfl rfl rfl hc30 rfl (lb rfl) fun a S => ?_
      refine sPickF (.bool false) S (wN rfl) rfl rfl hc30 rfl rfl (lb rfl) fun a S => ?_
      refine sMove (.bool false) S (wN rfl) (.inr rfl) rfl rfl (lb rfl) fun a S => ?_
      exact leafL (leafB (leafT (⟨false, Option.some.inj h, S.fix [] [] (by decide) rfl rfl rfl⟩)))
    refine sField (b := b2) (off := 0) 2 2 S (wG 8 true 39 rfl rfl rfl hc30) rfl rfl rfl rfl rfl (lb rfl) fun a S => ?_
    refine sLoad1 (p := b2) (off := 2) (T := 74) (vs := [.int .u8 p0.Kind, .bool p0.Purl, iv p0.A, iv p0.B]) 0 (iv p0.A) S (wG 8 true 39 rfl rfl rfl hc30) rfl rfl rfl rfl rfl rfl (lb rfl) fun a S => ?_
    refine sBin (.bool (decide (p0.A ≤ 4))) S (wG 8 true 39 rfl rfl rfl hc30) rfl rfl rfl (bLe _ _ _ _ .i64 p0.A 4) rfl (lb rfl) fun a S => ?_
    refine sPickT (.bool (decide (p0.A ≤ 4))) S (wN rfl) rfl rfl hc30 rfl rfl (lb rfl) fun a S => ?_
    refine sMove (.bool (decide (p0.A ≤ 4))) S (wN rfl) (.inr rfl) rfl rfl (lb rfl) fun a S => ?_
    exact leafL (leafB (leafT (⟨decide (p0.A ≤ 4), Option.some.inj h, S.fix [] [] (by decide) rfl rfl rfl⟩)))
  refine sCondF S rfl hc28 ?_
  obtain ⟨t32, h, g33⟩ := bindSome h
  refine sCut (fun a w => ∃ o31, o31 = t32 ∧ St [] E [] w0 102 a w [(1, .pointer (some ⟨b2, 0, none⟩)), (4, .bool false), (14, .int .u8 p0.Kind), (44, .bool o31)] [eBox b2 74 [.int .u8 p0.Kind, .bool p0.Purl, iv p0.A, iv p0.B]] []) ?_ (fun a w hI => ?_)
  · refine sSeq (fun K34 hK34 => ?_)
    refine sRegion ?_
    refine sBin (.bool (p0.Kind == 6)) S (wN rfl) rfl rfl rfl (bEq _ _ _ _ .u8 p0.Kind 6) rfl (lb rfl) fun a S => ?_
    refine sMove (.bool (p0.Kind == 6)) S (wN rfl) (.inr rfl) rfl rfl (lb rfl) fun a S => ?_
    refine leafL (leafT (hK34 _ _ ?_))
    rcases iteSome h with ⟨hc35, h⟩ | ⟨hc35, h⟩
    · refine sCondT S rfl hc35 ?_
      exact wp_skip (leafT (⟨p0.Kind == 6, Option.some.inj h, S.fix [0] [] (by decide) rfl rfl rfl⟩))
    refine sCondF S rfl hc35 ?_
    refine sRegion ?_
    refine sBin (.bool (p0.Kind == 7)) S (wN rfl) rfl rfl rfl (bEq _ _ _ _ .u8 p0.Kind 7) rfl (lb rfl) fun a S => ?_
    refine sMove (.bool (p0.Kind == 7)) S (wN rfl) (.inr rfl) rfl rfl (lb rfl) fun a S => ?_
    exact leafL (leafT (⟨p0.Kind == 7, Option.some.inj h, S.fix [0] [] (by decide) rfl rfl rfl⟩))
  obtain ⟨o31, rfl, S⟩ := hI
  have h := g33
  clear g33
  try dsimp only at h
  rcases iteSome h with ⟨hc36, h⟩ | ⟨hc36, h⟩
  · refine sCondT S rfl hc36 ?_
    refine sRegion ?_
    refine sField (b := b2) (off := 0) 2 2 S (wN rfl) rfl rfl rfl rfl rfl (lb rfl) fun a S => ?_
    refine sLoad1 (p := b2) (off := 2) (T := 74) (vs := [.int .u8 p0.Kind, .bool p0.Purl, iv p0.A, iv p0.B]) 0 (iv p0.A) S (wN rfl) rfl rfl rfl rfl rfl rfl (lb rfl) fun a S => ?_
    refine sBin (.bool (decide (1 ≤ p0.A))) S (wN rfl) rfl rfl rfl (bGe _ _ _ _ .i64 p0.A 1) rfl (lb rfl) fun a S => ?_
    refine sMove (.bool (decide (1 ≤ p0.A))) S (wN rfl) (.inl rfl) rfl rfl (lb rfl) fun a S => ?_
    rcases iteSome h with ⟨hc37, h⟩ | ⟨hc37, h⟩
    rotate_left
    · refine sSkip 3 true 50 51 S rfl rfl rfl hc37 rfl (lb rfl) fun a S => ?_
      refine sSkip 3 true 50 52 S rfl rfl rfl hc37 rfl (lb rfl) fun a S => ?_
      refine sSkip 3 true 50 53 S rfl rfl rfl hc37 rfl (lb rfl) fun a S => ?_
      refine sPickF (.bool false) S (wN rfl) rfl rfl hc37 rfl rfl (lb rfl) fun a S => ?_
      refine sMove (.bool false) S (wN rfl) (.inl rfl) rfl rfl (lb rfl) fun a S => ?_
      refine sSkip 8 true 55 56 S rfl rfl rfl rfl rfl (lb rfl) fun a S => ?_
      refine sSkip 8 true 55 57 S rfl rfl rfl rfl rfl (lb rfl) fun a S => ?_
      refine sSkip 8 true 55 58 S rfl rfl rfl rfl rfl (lb rfl) fun a S => ?_
      refine sPickF (.bool false) S (wN rfl) rfl rfl rfl rfl rfl (lb rfl) fun a S => ?_
      refine sMove (.bool false) S (wN rfl) (.inl rfl) rfl rfl (lb rfl) fun a S => ?_
      refine sSkip 13 true 60 61 S rfl rfl rfl rfl rfl (lb rfl) fun a S => ?_
      refine sSkip 13 true 60 62 S rfl rfl rfl rfl rfl (lb rfl) fun a S => ?_
      refine sSkip 13 true 60 63 S rfl rfl rfl rfl rfl (lb rfl) fun a S => ?_
      refine sPickF (.bool false) S (wN rfl) rfl rfl rfl rfl rfl (lb rfl) fun a S => ?_
      refine sMove (.bool false) S (wN rfl) (.inr rfl) rfl rfl (lb rfl) fun a S => ?_
      exact leafL (leafB (leafT (⟨false, Option.some.inj h, S.fix [] [] (by decide) rfl rfl rfl⟩)))
    refine sField (b := b2) (off := 0) 2 2 S (wG 3 true 50 rfl rfl rfl hc37) rfl rfl rfl rfl rfl (lb rfl) fun a S => ?_
    refine sLoad1 (p := b2) (off := 2) (T := 74) (vs := [.int .u8 p0.Kind, .bool p0.Purl, iv p0.A, iv p0.B]) 0 (iv p0.A) S (wG 3 true 50 rfl rfl rfl hc37) rfl rfl rfl rfl rfl rfl (lb rfl) fun a S => ?_
    refine sBin (.bool (decide (p0.A ≤ 6))) S (wG 3 true 50 rfl rfl rfl hc37) rfl rfl rfl (bLe _ _ _ _ .i64 p0.A 6) rfl (lb rfl) fun a S => ?_
    refine sPickT (.bool (decide (p0.A ≤ 6))) S (wN rfl) rfl rfl hc37 rfl rfl (lb rfl) fun a S => ?_
    refine sMove (.bool (decide (p0.A ≤ 6))) S (wN rfl) (.inl rfl) rfl rfl (lb rfl) fun a S => ?_
    rcases iteSome h with ⟨hc38, h⟩ | ⟨hc38, h⟩
    rotate_left
    · refine sSkip 8 true 55 56 S rfl rfl rfl hc38 rfl (lb rfl) fun a S => ?_
      refine sSkip 8 true 55 57 S rfl rfl rfl hc38 rfl (lb rfl) fun a S => ?_
      refine sSkip 8 true 55 58 S rfl rfl rfl hc38 rfl (lb rfl) fun a S => ?_
      refine sPickF (.bool false) S (wN rfl) rfl rfl hc38 rfl rfl (lb rfl) fun a S => ?_
      refine sMove (.bool false) S (wN rfl) (.inl rfl) rfl rfl (lb rfl) fun a S => ?_
      refine sSkip 13 true 60 61 S rfl rfl rfl rfl rfl (lb rfl) fun a S => ?_
      refine sSkip 13 true 60 62 S rfl rfl rfl rfl rfl (lb rfl) fun a S => ?_
      refine sSkip 13 true 60 63 S rfl rfl rfl rfl rfl (lb rfl) fun a S => ?_
      refine sPickF (.bool false) S (wN rfl) rfl rfl rfl rfl rfl (lb rfl) fun a S => ?_
      refine sMove (.bool false) S (wN rfl) (.inr rfl) rfl rfl (lb rfl) fun a S => ?_
      exact leafL (leafB (leafT (⟨false, Option.some.inj h, S.fix [] [] (by decide) rfl rfl rfl⟩)))
    refine sField (b := b2) (off := 0) 3 3 S (wG 8 true 55 rfl rfl rfl hc38) rfl rfl rfl rfl rfl (lb rfl) fun a S => ?_
    refine sLoad1 (p := b2) (off := 3) (T := 74) (vs := [.int .u8 p0.Kind, .bool p0.Purl, iv p0.A, iv p0.B]) 0 (iv p0.B) S (wG 8 true 55 rfl rfl rfl hc38) rfl rfl rfl rfl rfl rfl (lb rfl) fun a S => ?_
    refine sBin (.bool (decide (1 ≤ p0.B))) S (wG 8 true 55 rfl rfl rfl hc38) rfl rfl rfl (bGe _ _ _ _ .i64 p0.B 1) rfl (lb rfl) fun a S => ?_
    refine sPickT (.bool (decide (1 ≤ p0.B))) S (wN rfl) rfl rfl hc38 rfl rfl (lb rfl) fun a S => ?_
    refine sMove (.bool (decide (1 ≤ p0.B))) S (wN rfl) (.inl rfl) rfl rfl (lb rfl) fun a S => ?_
    rcases iteSome h with ⟨hc39, h⟩ | ⟨hc39, h⟩
    rotate_left
    · refine sSkip 13 true 60 61 S rfl rfl rfl hc39 rfl (lb rfl) fun a S => ?_
      refine sSkip 13 true 60 62 S rfl rfl rfl hc39 rfl (lb rfl) fun a S => ?_
      refine sSkip 13 true 60 63 S rfl rfl rfl hc39 rfl (lb rfl) fun a S => ?_
      refine sPickF (.bool false) S (wN rfl) rfl rfl hc39 rfl rfl (lb rfl) fun a S => ?_
      refine sMove (.bool false) S (wN rfl) (.inr rfl) rfl rfl (lb rfl) fun a S => ?_
      exact leafL (leafB (leafT (⟨false, Option.some.inj h, S.fix [] [] (by decide) rfl rfl rfl⟩)))
    refine sField (b := b2) (off := 0) 3 3 S (wG 13 true 60 rfl rfl rfl hc39) rfl rfl rfl rfl rfl (lb rfl) fun a S => ?_
    refine sLoad1 (p := b2) (off := 3) (T := 74) (vs := [.int .u8 p0.Kind, .bool p0.Purl, iv p0.A, iv p0.B]) 0 (iv p0.B) S (wG 13 true 60 rfl rfl rfl hc39) rfl rfl rfl rfl rfl rfl (lb rfl) fun a S => ?_
    refine sBin (.bool (decide (p0.B ≤ 6))) S (wG 13 true 60 rfl rfl rfl hc39) rfl rfl rfl (bLe _ _ _ _ .i64 p0.B 6) rfl (lb rfl) fun a S => ?_
    refine sPickT (.bool (decide (p0.B ≤ 6))) S (wN rfl) rfl rfl hc39 rfl rfl (lb rfl) fun a S => ?_
    refine sMove (.bool (decide (p0.B ≤ 6))) S (wN rfl) (.inr rfl) rfl rfl (lb rfl) fun a S => ?_
    exact leafL (leafB (leafT (⟨decide (p0.B ≤ 6), Option.some.inj h, S.fix [] [] (by decide) rfl rfl rfl⟩)))
  refine sCondF S rfl hc36 ?_
  refine sSeq (fun K40 hK40 => ?_)
  refine sRegion ?_
  refine sBin (.bool (p0.Kind == 9)) S (wN rfl) rfl rfl rfl (bEq _ _ _ _ .u8 p0.Kind 9) rfl (lb rfl) fun a S => ?_
  refine sMove (.bool (p0.Kind == 9)) S (wN rfl) (.inr rfl) rfl rfl (lb rfl) fun a S => ?_
  refine leafL (leafT (hK40 _ _ ?_))
  rcases iteSome h with ⟨hc41, h⟩ | ⟨hc41, h⟩
  rotate_left
  · refine sCondF S rfl hc41 ?_
    refine sSeq (fun K45 hK45 => ?_)
    refine sRegion ?_
    refine sBin (.bool (p0.Kind == 10)) S (wN rfl) rfl rfl rfl (bEq _ _ _ _ .u8 p0.Kind 10) rfl (lb rfl) fun a S => ?_
    refine sMove (.bool (p0.Kind == 10)) S (wN rfl) (.inr rfl) rfl rfl (lb rfl) fun a S => ?_
    refine leafL (leafT (hK45 _ _ ?_))
    rcases iteSome h with ⟨hc46, h⟩ | ⟨hc46, h⟩
    rotate_left
    · refine sCondF S rfl hc46 ?_
      exact wp_skip (leafB (leafT (⟨false, Option.some.inj h, S.fix [] [] (by decide) rfl rfl rfl⟩)))
    refine sCondT S rfl hc46 ?_
    refine sRegion ?_
    refine sField (b := b2) (off := 0) 3 3 S (wN rfl) rfl rfl rfl rfl rfl (lb rfl) fun a S => ?_
    refine sLoad1 (p := b2) (off := 3) (T := 74) (vs := [.int .u8 p0.Kind, .bool p0.Purl, iv p0.A, iv p0.B]) 0 (iv p0.B) S (wN rfl) rfl rfl rfl rfl rfl rfl (lb rfl) fun a S => ?_
    refine sBin (.bool (p0.B == 0)) S (wN rfl) rfl rfl rfl (bEq _ _ _ _ .i64 p0.B 0) rfl (lb rfl) fun a S => ?_
    refine sMove (.bool (p0.B == 0)) S (wN rfl) (.inl rfl) rfl rfl (lb rfl) fun a S => ?_
    rcases iteSome h with ⟨hc47, h⟩ | ⟨hc47, h⟩
    rotate_left
    · refine sSkip 3 true 90 91 S rfl rfl rfl hc47 rfl (lb rfl) fun a S => ?_
      refine sSkip 3 true 90 92 S rfl rfl rfl hc47 rfl (lb rfl) fun a S => ?_
      refine sSkip 3 true 90 93 S rfl rfl rfl hc47 rfl (lb rfl) fun a S => ?_
      refine sPickF (.bool false) S (wN rfl) rfl rfl hc47 rfl rfl (lb rfl) fun a S => ?_
      refine sMove (.bool false) S (wN rfl) (.inl rfl) rfl rfl (lb rfl) fun a S => ?_
      refine sSkip 8 true 95 96 S rfl rfl rfl rfl rfl (lb rfl) fun a S => ?_
      refine sSkip 8 true 95 97 S rfl rfl rfl rfl rfl (lb rfl) fun a S => ?_
      refine sSkip 8 true 95 98 S rfl rfl rfl rfl rfl (lb rfl) fun a S => ?_
      refine sPickF (.bool false) S (wN rfl) rfl rfl rfl rfl rfl (lb rfl) fun a S => ?_
      refine sMove (.bool false) S (wN rfl) (.inr rfl) rfl rfl (lb rfl) fun a S => ?_
      exact leafL (leafB (leafT (⟨false, Option.some.inj h, S.fix [] [] (by decide) rfl rfl rfl⟩)))
    refine sField (b := b2) (off := 0) 2 2 S (wG 3 true 90 rfl rfl rfl hc47) rfl rfl rfl rfl rfl (lb rfl) fun a S => ?_
    refine sLoad1 (p := b2) (off := 2) (T := 74) (vs := [.int .u8 p0.Kind, .bool p0.Purl, iv p0.A, iv p0.B]) 0 (iv p0.A) S (wG 3 true 90 rfl rfl rfl hc47) rfl rfl rfl rfl rfl rfl (lb rfl) fun a S => ?_
    refine sBin (.bool (decide (1 ≤ p0.A))) S (wG 3 true 90 rfl rfl rfl hc47) rfl rfl rfl (bGe _ _ _ _ .i64 p0.A 1) rfl (lb rfl) fun a S => ?_
    refine sPickT (.bool (decide (1 ≤ p0.A))) S (wN rfl) rfl rfl hc47 rfl rfl (lb rfl) fun a S => ?_
    refine sMove (.bool (decide (1 ≤ p0.A))) S (wN rfl) (.inl rfl) rfl rfl (lb rfl) fun a S => ?_
    rcases iteSome h with ⟨hc48, h⟩ | ⟨hc48, h⟩
    rotate_left
    · refine sSkip 8 true 95 96 S rfl rfl rfl hc48 rfl (lb rfl) fun a S => ?_
      refine sSkip 8 true 95 97 S rfl rfl rfl hc48 rfl (lb rfl) fun a S => ?_
      refine sSkip 8 true 95 98 S rfl rfl rfl hc48 rfl (lb rfl) fun a S => ?_
      refine sPickF (.bool false) S (wN rfl) rfl rfl hc48 rfl rfl (lb rfl) fun a S => ?_
      refine sMove (.bool false) S (wN rfl) (.inr rfl) rfl rfl (lb rfl) fun a S => ?_
      exact leafL (leafB (leafT (⟨false, Option.some.inj h, S.fix [] [] (by decide) rfl rfl rfl⟩)))
    refine sField (b := b2) (off := 0) 2 2 S (wG 8 true 95 rfl rfl rfl hc48) rfl rfl rfl rfl rfl (lb rfl) fun a S => ?_
    refine sLoad1 (p := b2) (off := 2) (T := 74) (vs := [.int .u8 p0.Kind, .bool p0.Purl, iv p0.A, iv p0.B]) 0 (iv p0.A) S (wG 8 true 95 rfl rfl rfl hc48) rfl rfl rfl rfl rfl rfl (lb rfl) fun a S => ?_
    refine sBin (.bool (decide (p0.A ≤ 200))) S (wG 8 true 95 rfl rfl rfl hc48) rfl rfl rfl (bLe _ _ _ _ .i64 p0.A 200) rfl (lb rfl) fun a S => ?_
    refine sPickT (.bool (decide (p0.A ≤ 200))) S (wN rfl) rfl rfl hc48 rfl rfl (lb rfl) fun a S => ?_
    refine sMove (.bool (decide (p0.A ≤ 200))) S (wN rfl) (.inr rfl) rfl rfl (lb rfl) fun a S => ?_
    exact leafL (leafB (leafT (⟨decide (p0.A ≤ 200), Option.some.inj h, S.fix [] [] (by decide) rfl rfl rfl⟩)))
  refine sCondT S rfl hc41 ?_
  refine sRegion ?_
  refine sField (b := b2) (off := 0) 3 3 S (wN rfl) rfl rfl rfl rfl rfl (lb rfl) fun a S => ?_
  refine sLoad1 (p := b2) (off := 3) (T := 74) (vs := [.int .u8 p0.Kind, .bool p0.Purl, iv p0.A, iv p0.B]) 0 (iv p0.B) S (wN rfl) rfl rfl rfl rfl rfl rfl (lb rfl) fun a S => ?_
  refine sBin (.bool (p0.B == 0)) S (wN rfl) rfl rfl rfl (bEq _ _ _ _ .i64 p0.B 0) rfl (lb rfl) fun a S => ?_
  refine sMove (.bool (p0.B == 0)) S (wN rfl) (.inl rfl) rfl rfl (lb rfl) fun a S => ?_
  rcases iteSome h with ⟨hc42, h⟩ | ⟨hc42, h⟩
  rotate_left
  · refine sSkip 3 true 70 71 S rfl rfl rfl hc42 rfl (lb rfl) fun a S => ?_
    refine sSkip 3 true 70 72 S rfl rfl rfl hc42 rfl (lb rfl) fun a S => ?_
    refine sSkip 3 true 70 73 S rfl rfl rfl hc42 rfl (lb rfl) fun a S => ?_
    refine sPickF (.bool false) S (wN rfl) rfl rfl hc42 rfl rfl (lb rfl) fun a S => ?_
    refine sMove (.bool false) S (wN rfl) (.inl rfl) rfl rfl (lb rfl) fun a S => ?_
    refine sSkip 8 true 75 76 S rfl rfl rfl rfl rfl (lb rfl) fun a S => ?_
    refine sSkip 8 true 75 77 S rfl rfl rfl rfl rfl (lb rfl) fun a S => ?_
    refine sSkip 8 true 75 78 S rfl rfl rfl rfl rfl (lb rfl) fun a S => ?_
    refine sPickF (.bool false) S (wN rfl) rfl rfl rfl rfl rfl (lb rfl) fun a S => ?_
    refine sMove (.bool false) S (wN rfl) (.inl rfl) rfl rfl (lb rfl) fun a S => ?_
    refine sSkip 13 true 80 81 S rfl rfl rfl rfl rfl (lb rfl) fun a S => ?_
    refine sSkip 13 true 80 82 S rfl rfl rfl rfl rfl (lb rfl) fun a S => ?_
    refine sSkip 13 true 80 83 S rfl rfl rfl rfl rfl (lb rfl) fun a S => ?_
    refine sPickF (.bool false) S (wN rfl) rfl rfl rfl rfl rfl (lb rfl) fun a S => ?_
    refine sMove (.bool false) S (wN rfl) (.inr rfl) rfl rfl (lb rfl) fun a S => ?_
    exact leafL (leafB (leafT (⟨false, Option.some.inj h, S.fix [] [] (by decide) rfl rfl rfl⟩)))
  refine sField (b := b2) (off := 0) 1 1 S (wG 3 true 70 rfl rfl rfl hc42) rfl rfl rfl rfl rfl (lb rfl) fun a S => ?_
  refine sLoad1 (p := b2) (off := 1) (T := 74) (vs := [.int .u8 p0.Kind, .bool p0.Purl, iv p0.A, iv p0.B]) 0 (.bool p0.Purl) S (wG 3 true 70 rfl rfl rfl hc42) rfl rfl rfl rfl rfl rfl (lb rfl) fun a S => ?_
  refine sNot (b := p0.Purl) S (wG 3 true 70 rfl rfl rfl hc42) rfl rfl rfl (lb rfl) fun a S => ?_
  refine sPickT (.bool (!p0.Purl)) S (wN rfl) rfl rfl hc42 rfl rfl (lb rfl) fun a S => ?_
  refine sMove (.bool (!p0.Purl)) S (wN rfl) (.inl rfl) rfl rfl (lb rfl) fun a S => ?_
  rcases iteSome h with ⟨hc43, h⟩ | ⟨hc43, h⟩
  rotate_left
  · refine sSkip 8 true 75 76 S rfl rfl rfl hc43 rfl (lb rfl) fun a S => ?_
    refine sSkip 8 true 75 77 S rfl rfl rfl hc43 rfl (lb rfl) fun a S => ?_
    refine sSkip 8 true 75 78 S rfl rfl rfl hc43 rfl (lb rfl) fun a S => ?_
    refine sPickF (.bool false) S (wN rfl) rfl rfl hc43 rfl rfl (lb rfl) fun a S => ?_
    refine sMove (.bool false) S (wN rfl) (.inl rfl) rfl rfl (lb rfl) fun a S => ?_
    refine sSkip 13 true 80 81 S rfl rfl rfl rfl rfl (lb rfl) fun a S => ?_
    refine sSkip 13 true 80 82 S rfl rfl rfl rfl rfl (lb rfl) fun a S => ?_
    refine sSkip 13 true 80 83 S rfl rfl rfl rfl rfl (lb rfl) fun a S => ?_
    refine sPickF (.bool false) S (wN rfl) rfl rfl rfl rfl rfl (lb rfl) fun a S => ?_
    refine sMove (.bool false) S (wN rfl) (.inr rfl) rfl rfl (lb rfl) fun a S => ?_
    exact leafL (leafB (leafT (⟨false, Option.some.inj h, S.fix [] [] (by decide) rfl rfl rfl⟩)))
  refine sField (b := b2) (off := 0) 2 2 S (wG 8 true 75 rfl rfl rfl hc43) rfl rfl rfl rfl rfl (lb rfl) fun a S => ?_
  refine sLoad1 (p := b2) (off := 2) (T := 74) (vs := [.int .u8 p0.Kind, .bool p0.Purl, iv p0.A, iv p0.B]) 0 (iv p0.A) S (wG 8 true 75 rfl rfl rfl hc43) rfl rfl rfl rfl rfl rfl (lb rfl) fun a S => ?_
  refine sBin (.bool (decide (1 ≤ p0.A))) S (wG 8 true 75 rfl rfl rfl hc43) rfl rfl rfl (bGe _ _ _ _ .i64 p0.A 1) rfl (lb rfl) fun a S => ?_
  refine sPickT (.bool (decide (1 ≤ p0.A))) S (wN rfl) rfl rfl hc43 rfl rfl (lb rfl) fun a S => ?_
  refine sMove (.bool (decide (1 ≤ p0.A))) S (wN rfl) (.inl rfl) rfl rfl (lb rfl) fun a S => ?_
  rcases iteSome h with ⟨hc44, h⟩ | ⟨hc44, h⟩
  rotate_left
  · refine sSkip 13 true 80 81 S rfl rfl rfl hc44 rfl (lb rfl) fun a S => ?_
    refine sSkip 13 true 80 82 S rfl rfl rfl hc44 rfl (lb rfl) fun a S => ?_
    refine sSkip 13 true 80 83 S rfl rfl rfl hc44 rfl (lb rfl) fun a S => ?_
    refine sPickF (.bool false) S (wN rfl) rfl rfl hc44 rfl rfl (lb rfl) fun a S => ?_
    refine sMove (.bool false) S (wN rfl) (.inr rfl) rfl rfl (lb rfl) fun a S => ?_
    exact leafL (leafB (leafT (⟨false, Option.some.inj h, S.fix [] [] (by decide) rfl rfl rfl⟩)))
  refine sField (b := b2) (off := 0) 2 2 S (wG 13 true 80 rfl rfl rfl hc44) rfl rfl rfl rfl rfl (lb rfl) fun a S => ?_
  refine sLoad1 (p := b2) (off := 2) (T := 74) (vs := [.int .u8 p0.Kind, .bool p0.Purl, iv p0.A, iv p0.B]) 0 (iv p0.A) S (wG 13 true 80 rfl rfl rfl hc44) rfl rfl rfl rfl rfl rfl (lb rfl) fun a S => ?_
  refine sBin (.bool (decide (p0.A ≤ 200))) S (wG 13 true 80 rfl rfl rfl hc44) rfl rfl rfl (bLe _ _ _ _ .i64 p0.A 200) rfl (lb rfl) fun a S => ?_
  refine sPickT (.bool (decide (p0.A ≤ 200))) S (wN rfl) rfl rfl hc44 rfl rfl (lb rfl) fun a S => ?_
  refine sMove (.bool (decide (p0.A ≤ 200))) S (wN rfl) (.inr rfl) rfl rfl (lb rfl) fun a S => ?_
  exact leafL (leafB (leafT (⟨decide (p0.A ≤ 200), Option.some.inj h, S.fix [] [] (by decide) rfl rfl rfl⟩)))

end Go.Proofs.Ytdbgkakmhlmpbaa
namespace Go.Proofs.Ytdbgkakmhlmpbaa
open Go.RowKit
set_option linter.unusedVariables false

noncomputable def raddleref25_All_l1 (p0 : (List api_Stitch)) : Int → Option (Int ⊕ (Int ⊕ Unit)) := fun s0 => match s0 with
  | s11 =>
    if decide (s11 < (p0.length : Int)) then
      Option.bind (idxO p0 s11) fun x20 =>
      Option.bind (F_raddleref25_Check x20) fun r25 =>
      if r25 != 0 then
        some (.inr (.inl 8))
      else
        some (.inl (w64 (s11 + 1)))
    else
      some (.inr (.inr ()))
noncomputable def F_raddleref25_All (p0 : (List api_Stitch)) : Option Int :=
  if decide (200 < (p0.length : Int)) then
    some 4
  else
    Option.bind (α := Unit ⊕ Int) (
      Option.bind (whileO (raddleref25_All_l1 p0) 0) fun z0 => match z0 with
        | .inl z =>
          some (.inr z)
        | .inr _ =>
          some (.inl ())) fun z0 => match z0 with
      | .inl _ =>
        Option.bind (F_raddleref25_sums p0) fun r30 =>
        Option.bind (α := Bool) (
          if decide (200 < r30.1) then
            some true
          else
            some (decide (200 < r30.2))) fun o33 =>
        if o33 then
          some 4
        else
          some 0
      | .inr z =>
        some z
set_option maxHeartbeats 4000000 in
set_option maxRecDepth 100000 in
theorem c_raddleref25_All (E : Nat → Prop) (w0 : World) (p0 : (List api_Stitch)) (v0 : Value) (r : Int) (h : F_raddleref25_All p0 = some r) (S : St0 E [] w0 w0 [] [fRep (rL r_api_Stitch) (v0) p0]) :
    Calls Try.prog 66 #[v0] w0 (Ret (X := Unit) E [] w0 (fun _ => .int .i64 r) (fun _ => []) (fun _ => [])) := by
  unfold F_raddleref25_All at h
  obtain ⟨ad1, cp2, _, rfl, _⟩ := S.know (i := 0) (e := fRep (rL r_api_Stitch) (v0) p0) rfl
  refine sEnter (args := [.slice ad1 p0.length cp2]) 32 Try.func66 rfl rfl (by simp) S (fun a S => ?_)
  refine sSeq (fun K3 hK3 => ?_)
  refine sRegion ?_
  refine sMove (iv 0) S (wN rfl) (.inr rfl) rfl rfl (lb rfl) fun a S => ?_
  refine leafL (leafT (hK3 _ _ ?_))
  refine sSeq (fun K4 hK4 => ?_)
  refine sSeq (fun K5 hK5 => ?_)
  refine sRegion ?_
  refine sMove (.slice ad1 p0.length cp2) S (wN rfl) (.inl rfl) rfl rfl (lb rfl) fun a S => ?_
  refine sLen (ad := ad1) (m := p0.length) (c := cp2) S (wN rfl) rfl Try.underlying70 rfl rfl (lb rfl) fun a S => ?_
  refine sBin (.bool (decide (200 < (p0.length : Int)))) S (wN rfl) rfl rfl rfl (bGt _ _ _ _ .i64 (p0.length : Int) 200) rfl (lb rfl) fun a S => ?_
  refine leafL (leafT (hK5 _ _ ?_))
  rcases iteSome h with ⟨hc6, h⟩ | ⟨hc6, h⟩
  · refine sCondT S rfl hc6 ?_
    refine sSeq (fun K7 hK7 => ?_)
    refine sRegion ?_
    refine sMove (iv 4) S (wN rfl) (.inr rfl) rfl rfl (lb rfl) fun a S => ?_
    refine leafL (leafT (hK7 _ _ ?_))
    obtain rfl := Option.some.inj h
    exact wp_ret (rThen (sRet (iv 4) S (rsl1 rfl (rvT (t := 2) (v := iv 4) S rfl)) ⟨(), rfl, S.mem.sel [] [] (by decide) rfl rfl⟩))
  refine sCondF S rfl hc6 ?_
  refine wp_skip (leafT (hK4 _ _ ?_))
  obtain ⟨t8, h, g9⟩ := bindSome h
  refine sCut (fun a w => .inl () = t8 ∧ St [] E [] w0 32 a w [(0, .slice ad1 p0.length cp2)] [] [fRep (rL r_api_Stitch) (.slice ad1 p0.length cp2) p0]) ?_ (fun a w hI => ?_)
  rotate_left
  · obtain ⟨rfl, S⟩ := hI
    have h := g9
    clear g9
    try dsimp only at h
    refine sSeq (fun K29 hK29 => ?_)
    refine sRegion ?_
    refine sMove (.slice ad1 p0.length cp2) S (wN rfl) (.inl rfl) rfl rfl (lb rfl) fun a S => ?_
    obtain ⟨r30, hx31, h⟩ := bindSome h
    have S1 := S.mem
    refine sCallQ (X := Unit) (f := 70) (vs := [.slice ad1 p0.length cp2]) (val := fun _ => .tuple #[iv r30.1, iv r30.2]) S (wN rfl) rfl callee70 rfl (S1.quiet [0] rfl) (fun E1 w1 S1 => c_raddleref25_sums E1 w1 p0 (.slice ad1 p0.length cp2) r30 hx31 S1) rfl (lb rfl) fun _ a w S => ?_
    refine sMove (.tuple #[iv r30.1, iv r30.2]) S (wN rfl) (.inl rfl) rfl rfl (lb rfl) fun a S => ?_
    refine sExtract (vs := [iv r30.1, iv r30.2]) (iv r30.1) S (wN rfl) rfl rfl rfl rfl (lb rfl) fun a S => ?_
    refine sExtract (vs := [iv r30.1, iv r30.2]) (iv r30.2) S (wN rfl) rfl rfl rfl rfl (lb rfl) fun a S => ?_
    refine sMove (iv r30.1) S (wN rfl) (.inr rfl) rfl rfl (lb rfl) fun a S => ?_
    refine sMove (iv r30.2) S (wN rfl) (.inr rfl) rfl rfl (lb rfl) fun a S => ?_
    refine leafL (leafT (hK29 _ _ ?_))
    refine sSeq (fun K32 hK32 => ?_)
    obtain ⟨t34, h, g35⟩ := bindSome h
    refine sCut (fun a w => ∃ o33, o33 = t34 ∧ St [] E [] w0 32 a w [(31, .bool o33)] [] []) ?_ (fun a w hI => ?_)
    rotate_left
    · obtain ⟨o33, rfl, S⟩ := hI
      have h := g35
      clear g35
      try dsimp only at h
      rcases iteSome h with ⟨hc37, h⟩ | ⟨hc37, h⟩
      · refine sCondT S rfl hc37 ?_
        refine sSeq (fun K38 hK38 => ?_)
        refine sRegion ?_
        refine sMove (iv 4) S (wN rfl) (.inr rfl) rfl rfl (lb rfl) fun a S => ?_
        refine leafL (leafT (hK38 _ _ ?_))
        obtain rfl := Option.some.inj h
        exact wp_ret (rThen (sRet (iv 4) S (rsl1 rfl (rvT (t := 2) (v := iv 4) S rfl)) ⟨(), rfl, S.mem.sel [] [] (by decide) rfl rfl⟩))
      refine sCondF S rfl hc37 ?_
      refine wp_skip (leafT (hK32 _ _ ?_))
      refine sSeq (fun K39 hK39 => ?_)
      refine sRegion ?_
      refine sMove (iv 0) S (wN rfl) (.inr rfl) rfl rfl (lb rfl) fun a S => ?_
      refine leafL (leafT (hK39 _ _ ?_))
      obtain rfl := Option.some.inj h
      exact wp_ret (sRet (iv 0) S (rsl1 rfl (rvT (t := 2) (v := iv 0) S rfl)) ⟨(), rfl, S.mem.sel [] [] (by decide) rfl rfl⟩)
    refine sRegion ?_
    refine sMove (iv r30.1) S (wN rfl) (.inl rfl) rfl rfl (lb rfl) fun a S => ?_
    refine sBin (.bool (decide (200 < r30.1))) S (wN rfl) rfl rfl rfl (bGt _ _ _ _ .i64 r30.1 200) rfl (lb rfl) fun a S => ?_
    refine sMove (.bool (decide (200 < r30.1))) S (wN rfl) (.inl rfl) rfl rfl (lb rfl) fun a S => ?_
    rcases iteSome h with ⟨hc36, h⟩ | ⟨hc36, h⟩
    · refine sSkip 2 false 28 29 S rfl rfl rfl hc36 rfl (lb rfl) fun a S => ?_
      refine sSkip 2 false 28 30 S rfl rfl rfl hc36 rfl (lb rfl) fun a S => ?_
      refine sPickT (.bool true) S (wN rfl) rfl rfl hc36 rfl rfl (lb rfl) fun a S => ?_
      exact leafL (leafT (⟨true, Option.some.inj h, S.fix [] [] (by decide) rfl rfl rfl⟩))
    refine sMove (iv r30.2) S (wG 2 false 28 rfl rfl rfl hc36) (.inl rfl) rfl rfl (lb rfl) fun a S => ?_
    refine sBin (.bool (decide (200 < r30.2))) S (wG 2 false 28 rfl rfl rfl hc36) rfl rfl rfl (bGt _ _ _ _ .i64 r30.2 200) rfl (lb rfl) fun a S => ?_
    refine sPickF (.bool (decide (200 < r30.2))) S (wN rfl) rfl rfl hc36 rfl rfl (lb rfl) fun a S => ?_
    exact leafL (leafT (⟨decide (200 < r30.2), Option.some.inj h, S.fix [] [] (by decide) rfl rfl rfl⟩))
  refine sSeq (fun K10 hK10 => ?_)
  refine sRegion ?_
  refine sMove (iv 0) S (wN rfl) (.inr rfl) rfl rfl (lb rfl) fun a S => ?_
  refine leafL (leafT (hK10 _ _ ?_))
  refine wp_block ?_
  obtain ⟨t14, hl, g13⟩ := bindSome h
  refine sLoop hl (fun s0 a w => match s0 with | s11 => St [] E [] w0 32 a w [(0, .slice ad1 p0.length cp2), (3, iv s11)] [] [fRep (rL r_api_Stitch) (.slice ad1 p0.length cp2) p0]) (S.fix [] [0] (by decide) rfl rfl rfl) ?_
  clear hl h
  intro s11 a w c0 hI h hu12
  unfold raddleref25_All_l1 at h
  dsimp only at h hI
  have S := hI
  refine sSeq (fun K15 hK15 => ?_)
  refine sSeq (fun K16 hK16 => ?_)
  refine sRegion ?_
  refine sMove (iv s11) S (wN rfl) (.inl rfl) rfl rfl (lb rfl) fun a S => ?_
  refine sMove (.slice ad1 p0.length cp2) S (wN rfl) (.inl rfl) rfl rfl (lb rfl) fun a S => ?_
  refine sLen (ad := ad1) (m := p0.length) (c := cp2) S (wN rfl) rfl Try.underlying70 rfl rfl (lb rfl) fun a S => ?_
  refine sBin (.bool (decide (s11 < (p0.length : Int)))) S (wN rfl) rfl rfl rfl (bLt _ _ _ _ .i64 s11 (p0.length : Int)) rfl (lb rfl) fun a S => ?_
  refine leafL (leafT (hK16 _ _ ?_))
  rcases iteSome h with ⟨hc17, h⟩ | ⟨hc17, h⟩
  rotate_left
  · refine sCondF S rfl hc17 ?_
    obtain rfl := Option.some.inj h
    obtain rfl := hu12 _ rfl
    have h := g13
    clear g13
    try dsimp only at h
    exact wp_exit (xThen (xThen (xHit (leafT (⟨Option.some.inj h, S.fix [] [0] (by decide) rfl rfl rfl⟩)))))
  refine sCondT S rfl hc17 ?_
  refine wp_skip (leafT (hK15 _ _ ?_))
  refine sSeq (fun K18 hK18 => ?_)
  refine wp_block ?_
  refine sSeq (fun K19 hK19 => ?_)
  refine sRegion ?_
  refine sMove (.slice ad1 p0.length cp2) S (wN rfl) (.inl rfl) rfl rfl (lb rfl) fun a S => ?_
  refine sMove (iv s11) S (wN rfl) (.inl rfl) rfl rfl (lb rfl) fun a S => ?_
  obtain ⟨x20, hx21, h⟩ := bindSome h
  obtain ⟨q22, hq23, S⟩ := pIdx (P := Try.prog) (r := r_api_Stitch) (v := .slice ad1 p0.length cp2) (xs := p0) (j := s11) 70 74 0 S Try.underlying70 rfl rfl hx21
  refine sIdxV (v := .slice ad1 p0.length cp2) (k := .i64) (j := s11) S (wN rfl) rfl rfl rfl hq23 rfl (lb rfl) fun a S => ?_
  obtain ⟨u24, S⟩ := pLoad (r := r_api_Stitch) (q := q22) (x := x20) 0 S rfl
  obtain rfl : u24 = .agg #[.int .u8 x20.Kind, .bool x20.Purl, iv x20.A, iv x20.B] := S.mem.know (i := 1) (e := fRep r_api_Stitch (u24) x20) rfl
  refine sLoadVN (vq := q22) 0 [.int .u8 x20.Kind, .bool x20.Purl, iv x20.A, iv x20.B] S (wN rfl) rfl rfl rfl rfl rfl rfl (lb rfl) fun a S => ?_
  obtain ⟨r25, hx26, h⟩ := bindSome h
  have S1 := S.mem
  refine sCallQ (X := Unit) (f := 88) (vs := [.agg #[.int .u8 x20.Kind, .bool x20.Purl, iv x20.A, iv x20.B]]) (val := fun _ => iv r25) S (wN rfl) rfl callee88 rfl (S1.quiet [1] rfl) (fun E1 w1 S1 => c_raddleref25_Check E1 w1 x20 (.agg #[.int .u8 x20.Kind, .bool x20.Purl, iv x20.A, iv x20.B]) r25 hx26 S1) rfl (lb rfl) fun _ a w S => ?_
  refine sBin (.bool (r25 != 0)) S (wN rfl) rfl rfl rfl (bNe _ _ _ _ .i64 r25 0) rfl (lb rfl) fun a S => ?_
  refine leafL (leafT (hK19 _ _ ?_))
  rcases iteSome h with ⟨hc27, h⟩ | ⟨hc27, h⟩
  rotate_left
  · refine sCondF S rfl hc27 ?_
    refine wp_skip (leafB (leafT (hK18 _ _ ?_)))
    refine sRegion ?_
    refine sMove (iv s11) S (wN rfl) (.inl rfl) rfl rfl (lb rfl) fun a S => ?_
    refine sBin (iv (w64 (s11 + 1))) S (wN rfl) rfl rfl rfl (bAdd _ _ _ _ s11 1) rfl (lb rfl) fun a S => ?_
    refine sMove (iv (w64 (s11 + 1))) S (wN rfl) (.inr rfl) rfl rfl (lb rfl) fun a S => ?_
    exact leafL (leafT (⟨w64 (s11 + 1), (Option.some.inj h).symm, (S.fix [] [3] (by decide) rfl rfl rfl)⟩))
  refine sCondT S rfl hc27 ?_
  refine sSeq (fun K28 hK28 => ?_)
  refine sRegion ?_
  refine sMove (iv 8) S (wN rfl) (.inr rfl) rfl rfl (lb rfl) fun a S => ?_
  refine leafL (leafT (hK28 _ _ ?_))
  obtain rfl := Option.some.inj h
  obtain rfl := hu12 _ rfl
  have h := g13
  clear g13
  try dsimp only at h
  obtain rfl := Option.some.inj h
  have h := g9
  clear g9
  try dsimp only at h
  obtain rfl := Option.some.inj h
  exact wp_ret (rBlock (rThen (rThen (rBlock (rThen (sRet (iv 8) S (rsl1 rfl (rvT (t := 2) (v := iv 8) S rfl)) ⟨(), rfl, S.mem.sel [] [] (by decide) rfl rfl⟩))))))

end Go.Proofs.Ytdbgkakmhlmpbaa
namespace Go.Proofs.Ytdbgkakmhlmpbaa
open Go.RowKit
set_option linter.unusedVariables false

noncomputable def F_raddleref25_Uses (p0 : (List api_Stitch)) : Option (Int × Int) :=
  Option.bind (F_raddleref25_All p0) fun r6 =>
  if r6 != 0 then
    some (0, r6)
  else
    Option.bind (F_raddleref25_sums p0) fun r11 =>
    some (r11.1, 0)
set_option maxHeartbeats 4000000 in
set_option maxRecDepth 100000 in
theorem c_raddleref25_Uses (E : Nat → Prop) (w0 : World) (p0 : (List api_Stitch)) (v0 : Value) (r : (Int × Int)) (h : F_raddleref25_Uses p0 = some r) (S : St0 E [] w0 w0 [] [fRep (rL r_api_Stitch) (v0) p0]) :
    Calls Try.prog 50 #[v0] w0 (Ret (X := Unit) E [] w0 (fun _ => .tuple #[.int .i64 r.1, .int .i64 r.2]) (fun _ => []) (fun _ => [])) := by
  unfold F_raddleref25_Uses at h
  obtain ⟨ad1, cp2, _, rfl, _⟩ := S.know (i := 0) (e := fRep (rL r_api_Stitch) (v0) p0) rfl
  refine sEnter (args := [.slice ad1 p0.length cp2]) 17 Try.func50 rfl rfl (by simp) S (fun a S => ?_)
  refine sSeq (fun K3 hK3 => ?_)
  refine sRegion ?_
  refine sMove (iv 0) S (wN rfl) (.inr rfl) rfl rfl (lb rfl) fun a S => ?_
  refine sMove (iv 0) S (wN rfl) (.inr rfl) rfl rfl (lb rfl) fun a S => ?_
  refine leafL (leafT (hK3 _ _ ?_))
  refine sSeq (fun K4 hK4 => ?_)
  refine sSeq (fun K5 hK5 => ?_)
  refine sRegion ?_
  refine sMove (.slice ad1 p0.length cp2) S (wN rfl) (.inl rfl) rfl rfl (lb rfl) fun a S => ?_
  obtain ⟨r6, hx7, h⟩ := bindSome h
  have S1 := S.mem
  refine sCallQ (X := Unit) (f := 66) (vs := [.slice ad1 p0.length cp2]) (val := fun _ => iv r6) S (wN rfl) rfl callee66 rfl (S1.quiet [0] rfl) (fun E1 w1 S1 => c_raddleref25_All E1 w1 p0 (.slice ad1 p0.length cp2) r6 hx7 S1) rfl (lb rfl) fun _ a w S => ?_
  refine sBin (.bool (r6 != 0)) S (wN rfl) rfl rfl rfl (bNe _ _ _ _ .i64 r6 0) rfl (lb rfl) fun a S => ?_
  refine leafL (leafT (hK5 _ _ ?_))
  rcases iteSome h with ⟨hc8, h⟩ | ⟨hc8, h⟩
  · refine sCondT S rfl hc8 ?_
    refine sSeq (fun K9 hK9 => ?_)
    refine sRegion ?_
    refine sMove (.slice ad1 p0.length cp2) S (wN rfl) (.inl rfl) rfl rfl (lb rfl) fun a S => ?_
    have S1 := S.mem
    refine sCallQ (X := Unit) (f := 66) (vs := [.slice ad1 p0.length cp2]) (val := fun _ => iv r6) S (wN rfl) rfl callee66 rfl (S1.quiet [0] rfl) (fun E1 w1 S1 => c_raddleref25_All E1 w1 p0 (.slice ad1 p0.length cp2) r6 hx7 S1) rfl (lb rfl) fun _ a w S => ?_
    refine sMove (iv 0) S (wN rfl) (.inr rfl) rfl rfl (lb rfl) fun a S => ?_
    refine sMove (iv r6) S (wN rfl) (.inr rfl) rfl rfl (lb rfl) fun a S => ?_
    refine leafL (leafT (hK9 _ _ ?_))
    obtain rfl := Option.some.inj h
    exact wp_ret (rThen (sRet (.tuple #[iv 0, iv r6]) S (rsl2 rfl (rvT (t := 2) (v := iv 0) S rfl) (rvT (t := 3) (v := iv r6) S rfl)) ⟨(), rfl, S.mem.sel [] [] (by decide) rfl rfl⟩))
  refine sCondF S rfl hc8 ?_
  refine wp_skip (leafT (hK4 _ _ ?_))
  refine sSeq (fun K10 hK10 => ?_)
  refine sRegion ?_
  refine sMove (.slice ad1 p0.length cp2) S (wN rfl) (.inl rfl) rfl rfl (lb rfl) fun a S => ?_
  obtain ⟨r11, hx12, h⟩ := bindSome h
  have S1 := S.mem
  refine sCallQ (X := Unit) (f := 70) (vs := [.slice ad1 p0.length cp2]) (val := fun _ => .tuple #[iv r11.1, iv r11.2]) S (wN rfl) rfl callee70 rfl (S1.quiet [0] rfl) (fun E1 w1 S1 => c_raddleref25_sums E1 w1 p0 (.slice ad1 p0.length cp2) r11 hx12 S1) rfl (lb rfl) fun _ a w S => ?_
  refine sMove (.tuple #[iv r11.1, iv r11.2]) S (wN rfl) (.inl rfl) rfl rfl (lb rfl) fun a S => ?_
  refine sExtract (vs := [iv r11.1, iv r11.2]) (iv r11.1) S (wN rfl) rfl rfl rfl rfl (lb rfl) fun a S => ?_
  refine sExtract (vs := [iv r11.1, iv r11.2]) (iv r11.2) S (wN rfl) rfl rfl rfl rfl (lb rfl) fun a S => ?_
  refine sMove (iv r11.1) S (wN rfl) (.inr rfl) rfl rfl (lb rfl) fun a S => ?_
  refine sMove (iv r11.2) S (wN rfl) (.inr rfl) rfl rfl (lb rfl) fun a S => ?_
  refine leafL (leafT (hK10 _ _ ?_))
  refine sSeq (fun K13 hK13 => ?_)
  refine sRegion ?_
  refine sMove (iv r11.1) S (wN rfl) (.inl rfl) rfl rfl (lb rfl) fun a S => ?_
  refine sMove (iv r11.1) S (wN rfl) (.inr rfl) rfl rfl (lb rfl) fun a S => ?_
  refine sMove (iv 0) S (wN rfl) (.inr rfl) rfl rfl (lb rfl) fun a S => ?_
  refine leafL (leafT (hK13 _ _ ?_))
  obtain rfl := Option.some.inj h
  exact wp_ret (sRet (.tuple #[iv r11.1, iv 0]) S (rsl2 rfl (rvT (t := 2) (v := iv r11.1) S rfl) (rvT (t := 3) (v := iv 0) S rfl)) ⟨(), rfl, S.mem.sel [] [] (by decide) rfl rfl⟩)

end Go.Proofs.Ytdbgkakmhlmpbaa
namespace Go.Proofs.Ytdbgkakmhlmpbaa
open Go.RowKit
set_option linter.unusedVariables false

noncomputable def F_raddleref25_Makes (p0 : (List api_Stitch)) : Option (Int × Int) :=
  Option.bind (F_raddleref25_All p0) fun r6 =>
  if r6 != 0 then
    some (0, r6)
  else
    Option.bind (F_raddleref25_sums p0) fun r11 =>
    some (r11.2, 0)
set_option maxHeartbeats 4000000 in
set_option maxRecDepth 100000 in
theorem c_raddleref25_Makes (E : Nat → Prop) (w0 : World) (p0 : (List api_Stitch)) (v0 : Value) (r : (Int × Int)) (h : F_raddleref25_Makes p0 = some r) (S : St0 E [] w0 w0 [] [fRep (rL r_api_Stitch) (v0) p0]) :
    Calls Try.prog 51 #[v0] w0 (Ret (X := Unit) E [] w0 (fun _ => .tuple #[.int .i64 r.1, .int .i64 r.2]) (fun _ => []) (fun _ => [])) := by
  unfold F_raddleref25_Makes at h
  obtain ⟨ad1, cp2, _, rfl, _⟩ := S.know (i := 0) (e := fRep (rL r_api_Stitch) (v0) p0) rfl
  refine sEnter (args := [.slice ad1 p0.length cp2]) 17 Try.func51 rfl rfl (by simp) S (fun a S => ?_)
  refine sSeq (fun K3 hK3 => ?_)
  refine sRegion ?_
  refine sMove (iv 0) S (wN rfl) (.inr rfl) rfl rfl (lb rfl) fun a S => ?_
  refine sMove (iv 0) S (wN rfl) (.inr rfl) rfl rfl (lb rfl) fun a S => ?_
  refine leafL (leafT (hK3 _ _ ?_))
  refine sSeq (fun K4 hK4 => ?_)
  refine sSeq (fun K5 hK5 => ?_)
  refine sRegion ?_
  refine sMove (.slice ad1 p0.length cp2) S (wN rfl) (.inl rfl) rfl rfl (lb rfl) fun a S => ?_
  obtain ⟨r6, hx7, h⟩ := bindSome h
  have S1 := S.mem
  refine sCallQ (X := Unit) (f := 66) (vs := [.slice ad1 p0.length cp2]) (val := fun _ => iv r6) S (wN rfl) rfl callee66 rfl (S1.quiet [0] rfl) (fun E1 w1 S1 => c_raddleref25_All E1 w1 p0 (.slice ad1 p0.length cp2) r6 hx7 S1) rfl (lb rfl) fun _ a w S => ?_
  refine sBin (.bool (r6 != 0)) S (wN rfl) rfl rfl rfl (bNe _ _ _ _ .i64 r6 0) rfl (lb rfl) fun a S => ?_
  refine leafL (leafT (hK5 _ _ ?_))
  rcases iteSome h with ⟨hc8, h⟩ | ⟨hc8, h⟩
  · refine sCondT S rfl hc8 ?_
    refine sSeq (fun K9 hK9 => ?_)
    refine sRegion ?_
    refine sMove (.slice ad1 p0.length cp2) S (wN rfl) (.inl rfl) rfl rfl (lb rfl) fun a S => ?_
    have S1 := S.mem
    refine sCallQ (X := Unit) (f := 66) (vs := [.slice ad1 p0.length cp2]) (val := fun _ => iv r6) S (wN rfl) rfl callee66 rfl (S1.quiet [0] rfl) (fun E1 w1 S1 => c_raddleref25_All E1 w1 p0 (.slice ad1 p0.length cp2) r6 hx7 S1) rfl (lb rfl) fun _ a w S => ?_
    refine sMove (iv 0) S (wN rfl) (.inr rfl) rfl rfl (lb rfl) fun a S => ?_
    refine sMove (iv r6) S (wN rfl) (.inr rfl) rfl rfl (lb rfl) fun a S => ?_
    refine leafL (leafT (hK9 _ _ ?_))
    obtain rfl := Option.some.inj h
    exact wp_ret (rThen (sRet (.tuple #[iv 0, iv r6]) S (rsl2 rfl (rvT (t := 2) (v := iv 0) S rfl) (rvT (t := 3) (v := iv r6) S rfl)) ⟨(), rfl, S.mem.sel [] [] (by decide) rfl rfl⟩))
  refine sCondF S rfl hc8 ?_
  refine wp_skip (leafT (hK4 _ _ ?_))
  refine sSeq (fun K10 hK10 => ?_)
  refine sRegion ?_
  refine sMove (.slice ad1 p0.length cp2) S (wN rfl) (.inl rfl) rfl rfl (lb rfl) fun a S => ?_
  obtain ⟨r11, hx12, h⟩ := bindSome h
  have S1 := S.mem
  refine sCallQ (X := Unit) (f := 70) (vs := [.slice ad1 p0.length cp2]) (val := fun _ => .tuple #[iv r11.1, iv r11.2]) S (wN rfl) rfl callee70 rfl (S1.quiet [0] rfl) (fun E1 w1 S1 => c_raddleref25_sums E1 w1 p0 (.slice ad1 p0.length cp2) r11 hx12 S1) rfl (lb rfl) fun _ a w S => ?_
  refine sMove (.tuple #[iv r11.1, iv r11.2]) S (wN rfl) (.inl rfl) rfl rfl (lb rfl) fun a S => ?_
  refine sExtract (vs := [iv r11.1, iv r11.2]) (iv r11.1) S (wN rfl) rfl rfl rfl rfl (lb rfl) fun a S => ?_
  refine sExtract (vs := [iv r11.1, iv r11.2]) (iv r11.2) S (wN rfl) rfl rfl rfl rfl (lb rfl) fun a S => ?_
  refine sMove (iv r11.1) S (wN rfl) (.inr rfl) rfl rfl (lb rfl) fun a S => ?_
  refine sMove (iv r11.2) S (wN rfl) (.inr rfl) rfl rfl (lb rfl) fun a S => ?_
  refine leafL (leafT (hK10 _ _ ?_))
  refine sSeq (fun K13 hK13 => ?_)
  refine sRegion ?_
  refine sMove (iv r11.2) S (wN rfl) (.inl rfl) rfl rfl (lb rfl) fun a S => ?_
  refine sMove (iv r11.2) S (wN rfl) (.inr rfl) rfl rfl (lb rfl) fun a S => ?_
  refine sMove (iv 0) S (wN rfl) (.inr rfl) rfl rfl (lb rfl) fun a S => ?_
  refine leafL (leafT (hK13 _ _ ?_))
  obtain rfl := Option.some.inj h
  exact wp_ret (sRet (.tuple #[iv r11.2, iv 0]) S (rsl2 rfl (rvT (t := 2) (v := iv r11.2) S rfl) (rvT (t := 3) (v := iv 0) S rfl)) ⟨(), rfl, S.mem.sel [] [] (by decide) rfl rfl⟩)

end Go.Proofs.Ytdbgkakmhlmpbaa
namespace Go.Proofs.Ytdbgkakmhlmpbaa
open Go.RowKit
set_option linter.unusedVariables false

noncomputable def raddleref26_Check_l1 (p0 : api_Chart) : (Int × Int) → Option ((Int × Int) ⊕ (Int ⊕ Unit)) := fun s0 => match s0 with
  | (s22, s23) =>
    if decide (s23 < (p0.Rows.length : Int)) then
      Option.bind (idxO p0.Rows s23) fun x32 =>
      Option.bind (F_raddleref25_Uses x32.Cells) fun r41 =>
      if r41.2 != 0 then
        some (.inr (.inl r41.2))
      else
        if r41.1 != s22 then
          some (.inr (.inl 26))
        else
          Option.bind (F_raddleref25_Makes x32.Cells) fun r58 =>
          some (.inl (r58.1, w64 (s23 + 1)))
    else
      some (.inr (.inr ()))
noncomputable def F_raddleref26_Check (p0 : api_Chart) : Option Int :=
  if decide (100 < (p0.Rows.length : Int)) then
    some 4
  else
    Option.bind (α := Bool) (
      if decide (p0.Start < 0) then
        some true
      else
        some (decide (200 < p0.Start))) fun o12 =>
    if o12 then
      some 8
    else
      Option.bind (α := Unit ⊕ Int) (
        Option.bind (whileO (raddleref26_Check_l1 p0) (p0.Start, 0)) fun z0 => match z0 with
          | .inl z =>
            some (.inr z)
          | .inr _ =>
            some (.inl ())) fun z0 => match z0 with
        | .inl _ =>
          some 0
        | .inr z =>
          some z
set_option maxHeartbeats 4000000 in
set_option maxRecDepth 100000 in
theorem c_raddleref26_Check (E : Nat → Prop) (w0 : World) (p0 : api_Chart) (v0 : Value) (r : Int) (h : F_raddleref26_Check p0 = some r) (S : St0 E [] w0 w0 [] [fRep r_api_Chart (v0) p0]) :
    Calls Try.prog 30 #[v0] w0 (Ret (X := Unit) E [] w0 (fun _ => .int .i64 r) (fun _ => []) (fun _ => [])) := by
  unfold F_raddleref26_Check at h
  obtain ⟨u1, rfl, hu2⟩ := S.know (i := 0) (e := fRep r_api_Chart (v0) p0) rfl
  have S := S.learn (fRep (rL r_api_Row) u1 p0.Rows) hu2
  obtain ⟨ad3, cp4, _, rfl, _⟩ := hu2
  refine sEnter (args := [.agg #[iv p0.Start, .slice ad3 p0.Rows.length cp4]]) 54 Try.func30 rfl rfl (by simp) S (fun a S => ?_)
  refine sSeq (fun K5 hK5 => ?_)
  refine sRegion ?_
  refine sBox (v := .agg #[iv p0.Start, .slice ad3 p0.Rows.length cp4]) S (wN rfl) rfl rfl [iv p0.Start, .slice ad3 p0.Rows.length cp4] rfl rfl (lb rfl) fun a b6 w S => ?_
  refine sMove (iv 0) S (wN rfl) (.inr rfl) rfl rfl (lb rfl) fun a S => ?_
  refine leafL (leafT (hK5 _ _ ?_))
  refine sSeq (fun K7 hK7 => ?_)
  refine sSeq (fun K8 hK8 => ?_)
  refine sRegion ?_
  refine sField (b := b6) (off := 0) 1 1 S (wN rfl) rfl rfl rfl rfl rfl (lb rfl) fun a S => ?_
  refine sLoad1 (p := b6) (off := 1) (T := 41) (vs := [iv p0.Start, .slice ad3 p0.Rows.length cp4]) 0 (.slice ad3 p0.Rows.length cp4) S (wN rfl) rfl rfl rfl rfl rfl rfl (lb rfl) fun a S => ?_
  refine sLen (ad := ad3) (m := p0.Rows.length) (c := cp4) S (wN rfl) rfl Try.underlying39 rfl rfl (lb rfl) fun a S => ?_
  refine sBin (.bool (decide (100 < (p0.Rows.length : Int)))) S (wN rfl) rfl rfl rfl (bGt _ _ _ _ .i64 (p0.Rows.length : Int) 100) rfl (lb rfl) fun a S => ?_
  refine leafL (leafT (hK8 _ _ ?_))
  rcases iteSome h with ⟨hc9, h⟩ | ⟨hc9, h⟩
  · refine sCondT S rfl hc9 ?_
    refine sSeq (fun K10 hK10 => ?_)
    refine sRegion ?_
    refine sMove (iv 4) S (wN rfl) (.inr rfl) rfl rfl (lb rfl) fun a S => ?_
    refine leafL (leafT (hK10 _ _ ?_))
    obtain rfl := Option.some.inj h
    exact wp_ret (rThen (sRet (iv 4) S (rsl1 rfl (rvT (t := 2) (v := iv 4) S rfl)) ⟨(), rfl, S.mem.sel [] [] (by decide) rfl rfl⟩))
  refine sCondF S rfl hc9 ?_
  refine wp_skip (leafT (hK7 _ _ ?_))
  refine sSeq (fun K11 hK11 => ?_)
  obtain ⟨t13, h, g14⟩ := bindSome h
  refine sCut (fun a w => ∃ o12, o12 = t13 ∧ St [] E [] w0 54 a w [(1, .pointer (some ⟨b6, 0, none⟩)), (18, .bool o12)] [eBox b6 41 [iv p0.Start, .slice ad3 p0.Rows.length cp4]] [fRep (rL r_api_Row) (.slice ad3 p0.Rows.length cp4) p0.Rows]) ?_ (fun a w hI => ?_)
  · refine sRegion ?_
    refine sField (b := b6) (off := 0) 0 0 S (wN rfl) rfl rfl rfl rfl rfl (lb rfl) fun a S => ?_
    refine sLoad1 (p := b6) (off := 0) (T := 41) (vs := [iv p0.Start, .slice ad3 p0.Rows.length cp4]) 0 (iv p0.Start) S (wN rfl) rfl rfl rfl rfl rfl rfl (lb rfl) fun a S => ?_
    refine sBin (.bool (decide (p0.Start < 0))) S (wN rfl) rfl rfl rfl (bLt _ _ _ _ .i64 p0.Start 0) rfl (lb rfl) fun a S => ?_
    refine sMove (.bool (decide (p0.Start < 0))) S (wN rfl) (.inl rfl) rfl rfl (lb rfl) fun a S => ?_
    rcases iteSome h with ⟨hc15, h⟩ | ⟨hc15, h⟩
    · refine sSkip 3 false 14 15 S rfl rfl rfl hc15 rfl (lb rfl) fun a S => ?_
      refine sSkip 3 false 14 16 S rfl rfl rfl hc15 rfl (lb rfl) fun a S => ?_
      refine sSkip 3 false 14 17 S rfl rfl rfl hc15 rfl (lb rfl) fun a S => ?_
      refine sPickT (.bool true) S (wN rfl) rfl rfl hc15 rfl rfl (lb rfl) fun a S => ?_
      exact leafL (leafT (⟨true, Option.some.inj h, S.fix [0] [0] (by decide) rfl rfl rfl⟩))
    refine sField (b := b6) (off := 0) 0 0 S (wG 3 false 14 rfl rfl rfl hc15) rfl rfl rfl rfl rfl (lb rfl) fun a S => ?_
    refine sLoad1 (p := b6) (off := 0) (T := 41) (vs := [iv p0.Start, .slice ad3 p0.Rows.length cp4]) 0 (iv p0.Start) S (wG 3 false 14 rfl rfl rfl hc15) rfl rfl rfl rfl rfl rfl (lb rfl) fun a S => ?_
    refine sBin (.bool (decide (200 < p0.Start))) S (wG 3 false 14 rfl rfl rfl hc15) rfl rfl rfl (bGt _ _ _ _ .i64 p0.Start 200) rfl (lb rfl) fun a S => ?_
    refine sPickF (.bool (decide (200 < p0.Start))) S (wN rfl) rfl rfl hc15 rfl rfl (lb rfl) fun a S => ?_
    exact leafL (leafT (⟨decide (200 < p0.Start), Option.some.inj h, S.fix [0] [0] (by decide) rfl rfl rfl⟩))
  obtain ⟨o12, rfl, S⟩ := hI
  have h := g14
  clear g14
  try dsimp only at h
  rcases iteSome h with ⟨hc16, h⟩ | ⟨hc16, h⟩
  · refine sCondT S rfl hc16 ?_
    refine sSeq (fun K17 hK17 => ?_)
    refine sRegion ?_
    refine sMove (iv 8) S (wN rfl) (.inr rfl) rfl rfl (lb rfl) fun a S => ?_
    refine leafL (leafT (hK17 _ _ ?_))
    obtain rfl := Option.some.inj h
    exact wp_ret (rThen (sRet (iv 8) S (rsl1 rfl (rvT (t := 2) (v := iv 8) S rfl)) ⟨(), rfl, S.mem.sel [] [] (by decide) rfl rfl⟩))
  refine sCondF S rfl hc16 ?_
  refine wp_skip (leafT (hK11 _ _ ?_))
  refine sSeq (fun K18 hK18 => ?_)
  refine sRegion ?_
  refine sField (b := b6) (off := 0) 0 0 S (wN rfl) rfl rfl rfl rfl rfl (lb rfl) fun a S => ?_
  refine sLoad1 (p := b6) (off := 0) (T := 41) (vs := [iv p0.Start, .slice ad3 p0.Rows.length cp4]) 0 (iv p0.Start) S (wN rfl) rfl rfl rfl rfl rfl rfl (lb rfl) fun a S => ?_
  refine sMove (iv p0.Start) S (wN rfl) (.inr rfl) rfl rfl (lb rfl) fun a S => ?_
  refine leafL (leafT (hK18 _ _ ?_))
  obtain ⟨t19, h, g20⟩ := bindSome h
  refine sCut (fun a w => .inl () = t19 ∧ St [] E [] w0 54 a w [] [] []) ?_ (fun a w hI => ?_)
  rotate_left
  · obtain ⟨rfl, S⟩ := hI
    have h := g20
    clear g20
    try dsimp only at h
    refine sSeq (fun K60 hK60 => ?_)
    refine sRegion ?_
    refine sMove (iv 0) S (wN rfl) (.inr rfl) rfl rfl (lb rfl) fun a S => ?_
    refine leafL (leafT (hK60 _ _ ?_))
    obtain rfl := Option.some.inj h
    exact wp_ret (sRet (iv 0) S (rsl1 rfl (rvT (t := 2) (v := iv 0) S rfl)) ⟨(), rfl, S.mem.sel [] [] (by decide) rfl rfl⟩)
  refine sSeq (fun K21 hK21 => ?_)
  refine sRegion ?_
  refine sMove (iv 0) S (wN rfl) (.inr rfl) rfl rfl (lb rfl) fun a S => ?_
  refine leafL (leafT (hK21 _ _ ?_))
  refine wp_block ?_
  obtain ⟨t26, hl, g25⟩ := bindSome h
  refine sLoop hl (fun s0 a w => match s0 with | (s22, s23) => St [] E [] w0 54 a w [(1, .pointer (some ⟨b6, 0, none⟩)), (3, iv s22), (4, iv s23)] [eBox b6 41 [iv p0.Start, .slice ad3 p0.Rows.length cp4]] [fRep (rL r_api_Row) (.slice ad3 p0.Rows.length cp4) p0.Rows]) (S.fix [0] [0] (by decide) rfl rfl rfl) ?_
  clear hl h
  intro s0 a w c0 hI h hu24
  obtain ⟨s22, s23⟩ := s0
  unfold raddleref26_Check_l1 at h
  dsimp only at h hI
  have S := hI
  refine sSeq (fun K27 hK27 => ?_)
  refine sSeq (fun K28 hK28 => ?_)
  refine sRegion ?_
  refine sMove (iv s23) S (wN rfl) (.inl rfl) rfl rfl (lb rfl) fun a S => ?_
  refine sField (b := b6) (off := 0) 1 1 S (wN rfl) rfl rfl rfl rfl rfl (lb rfl) fun a S => ?_
  refine sLoad1 (p := b6) (off := 1) (T := 41) (vs := [iv p0.Start, .slice ad3 p0.Rows.length cp4]) 0 (.slice ad3 p0.Rows.length cp4) S (wN rfl) rfl rfl rfl rfl rfl rfl (lb rfl) fun a S => ?_
  refine sLen (ad := ad3) (m := p0.Rows.length) (c := cp4) S (wN rfl) rfl Try.underlying39 rfl rfl (lb rfl) fun a S => ?_
  refine sBin (.bool (decide (s23 < (p0.Rows.length : Int)))) S (wN rfl) rfl rfl rfl (bLt _ _ _ _ .i64 s23 (p0.Rows.length : Int)) rfl (lb rfl) fun a S => ?_
  refine leafL (leafT (hK28 _ _ ?_))
  rcases iteSome h with ⟨hc29, h⟩ | ⟨hc29, h⟩
  rotate_left
  · refine sCondF S rfl hc29 ?_
    obtain rfl := Option.some.inj h
    obtain rfl := hu24 _ rfl
    have h := g25
    clear g25
    try dsimp only at h
    exact wp_exit (xThen (xThen (xHit (leafT (⟨Option.some.inj h, S.fix [] [] (by decide) rfl rfl rfl⟩)))))
  refine sCondT S rfl hc29 ?_
  refine wp_skip (leafT (hK27 _ _ ?_))
  refine sSeq (fun K30 hK30 => ?_)
  refine wp_block ?_
  refine sSeq (fun K31 hK31 => ?_)
  refine sRegion ?_
  refine sField (b := b6) (off := 0) 1 1 S (wN rfl) rfl rfl rfl rfl rfl (lb rfl) fun a S => ?_
  refine sLoad1 (p := b6) (off := 1) (T := 41) (vs := [iv p0.Start, .slice ad3 p0.Rows.length cp4]) 0 (.slice ad3 p0.Rows.length cp4) S (wN rfl) rfl rfl rfl rfl rfl rfl (lb rfl) fun a S => ?_
  refine sMove (iv s23) S (wN rfl) (.inl rfl) rfl rfl (lb rfl) fun a S => ?_
  obtain ⟨x32, hx33, h⟩ := bindSome h
  obtain ⟨q34, hq35, S⟩ := pIdx (P := Try.prog) (r := r_api_Row) (v := .slice ad3 p0.Rows.length cp4) (xs := p0.Rows) (j := s23) 39 72 0 S Try.underlying39 rfl rfl hx33
  refine sIdxV (v := .slice ad3 p0.Rows.length cp4) (k := .i64) (j := s23) S (wN rfl) rfl rfl rfl hq35 rfl (lb rfl) fun a S => ?_
  obtain ⟨q36, hq37, S⟩ := pFld (P := Try.prog) (r := r_api_Row) (s2 := (rL r_api_Stitch)) (g := (·.Cells)) (q := q34) (z := x32) 72 1 0 1 S rfl rfl comp_api_Row_Cells
  refine sFldV (q := q34) S (wN rfl) rfl rfl hq37 rfl (lb rfl) fun a S => ?_
  obtain ⟨u38, S⟩ := pLoad (r := (rL r_api_Stitch)) (q := q36) (x := x32.Cells) 0 S rfl
  obtain ⟨ad39, cp40, _, rfl, _⟩ := S.mem.know (i := 1) (e := fRep (rL r_api_Stitch) (u38) x32.Cells) rfl
  refine sLoadV1 (vq := q36) 0 (.slice ad39 x32.Cells.length cp40) S (wN rfl) rfl rfl rfl rfl rfl (lb rfl) fun a S => ?_
  obtain ⟨r41, hx42, h⟩ := bindSome h
  have S1 := S.mem
  refine sCallQ (X := Unit) (f := 50) (vs := [.slice ad39 x32.Cells.length cp40]) (val := fun _ => .tuple #[iv r41.1, iv r41.2]) S (wN rfl) rfl callee50 rfl (S1.quiet [1] rfl) (fun E1 w1 S1 => c_raddleref25_Uses E1 w1 x32.Cells (.slice ad39 x32.Cells.length cp40) r41 hx42 S1) rfl (lb rfl) fun _ a w S => ?_
  refine sMove (.tuple #[iv r41.1, iv r41.2]) S (wN rfl) (.inl rfl) rfl rfl (lb rfl) fun a S => ?_
  refine sExtract (vs := [iv r41.1, iv r41.2]) (iv r41.1) S (wN rfl) rfl rfl rfl rfl (lb rfl) fun a S => ?_
  refine sExtract (vs := [iv r41.1, iv r41.2]) (iv r41.2) S (wN rfl) rfl rfl rfl rfl (lb rfl) fun a S => ?_
  refine sMove (iv r41.1) S (wN rfl) (.inr rfl) rfl rfl (lb rfl) fun a S => ?_
  refine sMove (iv r41.2) S (wN rfl) (.inr rfl) rfl rfl (lb rfl) fun a S => ?_
  refine leafL (leafT (hK31 _ _ ?_))
  refine sSeq (fun K43 hK43 => ?_)
  refine sSeq (fun K44 hK44 => ?_)
  refine sRegion ?_
  refine sMove (iv r41.2) S (wN rfl) (.inl rfl) rfl rfl (lb rfl) fun a S => ?_
  refine sBin (.bool (r41.2 != 0)) S (wN rfl) rfl rfl rfl (bNe _ _ _ _ .i64 r41.2 0) rfl (lb rfl) fun a S => ?_
  refine leafL (leafT (hK44 _ _ ?_))
  rcases iteSome h with ⟨hc45, h⟩ | ⟨hc45, h⟩
  · refine sCondT S rfl hc45 ?_
    refine sSeq (fun K46 hK46 => ?_)
    refine sRegion ?_
    refine sMove (iv r41.2) S (wN rfl) (.inl rfl) rfl rfl (lb rfl) fun a S => ?_
    refine sMove (iv r41.2) S (wN rfl) (.inr rfl) rfl rfl (lb rfl) fun a S => ?_
    refine leafL (leafT (hK46 _ _ ?_))
    obtain rfl := Option.some.inj h
    obtain rfl := hu24 _ rfl
    have h := g25
    clear g25
    try dsimp only at h
    obtain rfl := Option.some.inj h
    have h := g20
    clear g20
    try dsimp only at h
    obtain rfl := Option.some.inj h
    exact wp_ret (rThen (rBlock (rThen (rThen (rBlock (rThen (sRet (iv r41.2) S (rsl1 rfl (rvT (t := 2) (v := iv r41.2) S rfl)) ⟨(), rfl, S.mem.sel [] [] (by decide) rfl rfl⟩)))))))
  refine sCondF S rfl hc45 ?_
  refine wp_skip (leafT (hK43 _ _ ?_))
  refine sSeq (fun K47 hK47 => ?_)
  refine sSeq (fun K48 hK48 => ?_)
  refine sRegion ?_
  refine sMove (iv r41.1) S (wN rfl) (.inl rfl) rfl rfl (lb rfl) fun a S => ?_
  refine sMove (iv s22) S (wN rfl) (.inl rfl) rfl rfl (lb rfl) fun a S => ?_
  refine sBin (.bool (r41.1 != s22)) S (wN rfl) rfl rfl rfl (bNe _ _ _ _ .i64 r41.1 s22) rfl (lb rfl) fun a S => ?_
  refine leafL (leafT (hK48 _ _ ?_))
  rcases iteSome h with ⟨hc49, h⟩ | ⟨hc49, h⟩
  · refine sCondT S rfl hc49 ?_
    refine sSeq (fun K50 hK50 => ?_)
    refine sRegion ?_
    refine sMove (iv 26) S (wN rfl) (.inr rfl) rfl rfl (lb rfl) fun a S => ?_
    refine leafL (leafT (hK50 _ _ ?_))
    obtain rfl := Option.some.inj h
    obtain rfl := hu24 _ rfl
    have h := g25
    clear g25
    try dsimp only at h
    obtain rfl := Option.some.inj h
    have h := g20
    clear g20
    try dsimp only at h
    obtain rfl := Option.some.inj h
    exact wp_ret (rThen (rBlock (rThen (rThen (rBlock (rThen (sRet (iv 26) S (rsl1 rfl (rvT (t := 2) (v := iv 26) S rfl)) ⟨(), rfl, S.mem.sel [] [] (by decide) rfl rfl⟩)))))))
  refine sCondF S rfl hc49 ?_
  refine wp_skip (leafT (hK47 _ _ ?_))
  refine sRegion ?_
  refine sField (b := b6) (off := 0) 1 1 S (wN rfl) rfl rfl rfl rfl rfl (lb rfl) fun a S => ?_
  refine sLoad1 (p := b6) (off := 1) (T := 41) (vs := [iv p0.Start, .slice ad3 p0.Rows.length cp4]) 0 (.slice ad3 p0.Rows.length cp4) S (wN rfl) rfl rfl rfl rfl rfl rfl (lb rfl) fun a S => ?_
  refine sMove (iv s23) S (wN rfl) (.inl rfl) rfl rfl (lb rfl) fun a S => ?_
  obtain ⟨q51, hq52, S⟩ := pIdx (P := Try.prog) (r := r_api_Row) (v := .slice ad3 p0.Rows.length cp4) (xs := p0.Rows) (j := s23) 39 72 4 S Try.underlying39 rfl rfl hx33
  refine sIdxV (v := .slice ad3 p0.Rows.length cp4) (k := .i64) (j := s23) S (wN rfl) rfl rfl rfl hq52 rfl (lb rfl) fun a S => ?_
  obtain ⟨q53, hq54, S⟩ := pFld (P := Try.prog) (r := r_api_Row) (s2 := (rL r_api_Stitch)) (g := (·.Cells)) (q := q51) (z := x32) 72 1 0 1 S rfl rfl comp_api_Row_Cells
  refine sFldV (q := q51) S (wN rfl) rfl rfl hq54 rfl (lb rfl) fun a S => ?_
  obtain ⟨u55, S⟩ := pLoad (r := (rL r_api_Stitch)) (q := q53) (x := x32.Cells) 0 S rfl
  obtain ⟨ad56, cp57, _, rfl, _⟩ := S.mem.know (i := 1) (e := fRep (rL r_api_Stitch) (u55) x32.Cells) rfl
  refine sLoadV1 (vq := q53) 0 (.slice ad56 x32.Cells.length cp57) S (wN rfl) rfl rfl rfl rfl rfl (lb rfl) fun a S => ?_
  obtain ⟨r58, hx59, h⟩ := bindSome h
  have S1 := S.mem
  refine sCallQ (X := Unit) (f := 51) (vs := [.slice ad56 x32.Cells.length cp57]) (val := fun _ => .tuple #[iv r58.1, iv r58.2]) S (wN rfl) rfl callee51 rfl (S1.quiet [1] rfl) (fun E1 w1 S1 => c_raddleref25_Makes E1 w1 x32.Cells (.slice ad56 x32.Cells.length cp57) r58 hx59 S1) rfl (lb rfl) fun _ a w S => ?_
  refine sMove (.tuple #[iv r58.1, iv r58.2]) S (wN rfl) (.inl rfl) rfl rfl (lb rfl) fun a S => ?_
  refine sExtract (vs := [iv r58.1, iv r58.2]) (iv r58.1) S (wN rfl) rfl rfl rfl rfl (lb rfl) fun a S => ?_
  refine sExtract (vs := [iv r58.1, iv r58.2]) (iv r58.2) S (wN rfl) rfl rfl rfl rfl (lb rfl) fun a S => ?_
  refine sMove (iv r58.1) S (wN rfl) (.inr rfl) rfl rfl (lb rfl) fun a S => ?_
  refine leafL (leafB (leafT (hK30 _ _ ?_)))
  refine sRegion ?_
  refine sMove (iv s23) S (wN rfl) (.inl rfl) rfl rfl (lb rfl) fun a S => ?_
  refine sBin (iv (w64 (s23 + 1))) S (wN rfl) rfl rfl rfl (bAdd _ _ _ _ s23 1) rfl (lb rfl) fun a S => ?_
  refine sMove (iv (w64 (s23 + 1))) S (wN rfl) (.inr rfl) rfl rfl (lb rfl) fun a S => ?_
  exact leafL (leafT (⟨(r58.1, w64 (s23 + 1)), (Option.some.inj h).symm, (S.fix [0] [8] (by decide) rfl rfl rfl)⟩))

end Go.Proofs.Ytdbgkakmhlmpbaa
namespace Go.Proofs.Ytdbgkakmhlmpbaa
open Go.RowKit
set_option linter.unusedVariables false

noncomputable def raddleref25_Cut_l1 (p0 : ByteArray) (p1 : Int) : (List ByteArray × Int × Int) → Option ((List ByteArray × Int × Int) ⊕ List ByteArray) := fun s0 => match s0 with
  | (s10, s13, s14) =>
    if decide (s14 ≤ (p0.size : Int)) then
      Option.bind (α := (List ByteArray × Int)) (
        Option.bind (α := Bool) (
          if s14 == (p0.size : Int) then
            some true
          else
            Option.bind (idxS p0 s14) fun x34 =>
            some (x34 == p1)) fun o30 =>
        if o30 then
          Option.bind (sliceS p0 s13 s14) fun y38 =>
          Option.bind (appO s10 [y38]) fun l42 =>
          some (l42, w64 (s14 + 1))
        else
          some (s10, s13)) fun (o24, o27) =>
      some (.inl (o24, o27, w64 (s14 + 1)))
    else
      some (.inr s10)
noncomputable def F_raddleref25_Cut (p0 : ByteArray) (p1 : Int) : Option (List ByteArray) :=
  Option.bind (α := List ByteArray) (
    Option.bind (whileO (raddleref25_Cut_l1 p0 p1) (([] : List ByteArray), 0, 0)) fun e18 =>
      some e18) fun o4 =>
  some o4
def c_raddleref25_Cut_val (r : (List ByteArray)) (x : Value) : Value := x
def c_raddleref25_Cut_D (r : (List ByteArray)) (x : Value) : List Fact := [fRep (rL rS) x r]
set_option maxHeartbeats 4000000 in
set_option maxRecDepth 100000 in
theorem c_raddleref25_Cut (E : Nat → Prop) (w0 : World) (p0 : ByteArray) (p1 : Int) (r : (List ByteArray)) (h : F_raddleref25_Cut p0 p1 = some r) (S : St0 E [] w0 w0 [] []) :
    Calls Try.prog 46 #[.string p0, .int .u8 p1] w0 (Ret (X := Value) E [] w0 (c_raddleref25_Cut_val r) (fun _ => []) (c_raddleref25_Cut_D r)) := by
  unfold F_raddleref25_Cut at h
  refine sEnter (args := [.string p0, .int .u8 p1]) 35 Try.func46 rfl rfl (by simp) S (fun a S => ?_)
  refine sSeq (fun K1 hK1 => ?_)
  refine sRegion ?_
  refine sMove (.slice none 0 0) S (wN rfl) (.inr rfl) rfl rfl (lb rfl) fun a S => ?_
  refine leafL (leafT (hK1 _ _ ?_))
  refine sSeq (fun K2 hK2 => ?_)
  refine sRegion ?_
  refine sMove (.slice none 0 0) S (wN rfl) (.inr rfl) rfl rfl (lb rfl) fun a S => ?_
  refine leafL (leafT (hK2 _ _ ?_))
  refine sSeq (fun K3 hK3 => ?_)
  refine sRegion ?_
  refine sMove (iv 0) S (wN rfl) (.inr rfl) rfl rfl (lb rfl) fun a S => ?_
  refine leafL (leafT (hK3 _ _ ?_))
  obtain ⟨t7, h, g8⟩ := bindSome h
  refine sCut (fun a w => ∃ o4, o4 = t7 ∧ ∃ ad5, ∃ cp6, St [] E [] w0 35 a w [(5, .slice ad5 o4.length cp6)] [eRow rS 9 (.slice ad5 o4.length cp6) o4] []) ?_ (fun a w hI => ?_)
  rotate_left
  · obtain ⟨o4, rfl, ad5, cp6, S⟩ := hI
    have h := g8
    clear g8
    try dsimp only at h
    refine sSeq (fun K46 hK46 => ?_)
    refine sRegion ?_
    refine sMove (.slice ad5 o4.length cp6) S (wN rfl) (.inl rfl) rfl rfl (lb rfl) fun a S => ?_
    refine sMove (.slice ad5 o4.length cp6) S (wN rfl) (.inr rfl) rfl rfl (lb rfl) fun a S => ?_
    refine leafL (leafT (hK46 _ _ ?_))
    obtain rfl := Option.some.inj h
    have S := S.shutR (r := rS) (T := 9) (v := .slice ad5 o4.length cp6) (xs := o4) 0 rfl
    exact wp_ret (sRet (.slice ad5 o4.length cp6) S (rsl1 rfl (rvT (t := 4) (v := .slice ad5 o4.length cp6) S rfl)) ⟨(.slice ad5 o4.length cp6), rfl, S.mem.sel [] [0] (by decide) rfl rfl⟩)
  refine sSeq (fun K9 hK9 => ?_)
  refine sRegion ?_
  refine sMove (iv 0) S (wN rfl) (.inr rfl) rfl rfl (lb rfl) fun a S => ?_
  refine leafL (leafT (hK9 _ _ ?_))
  refine wp_block ?_
  have S := S.nilRow rS 9 (α := ByteArray)
  obtain ⟨t17, hl, g16⟩ := bindSome h
  refine sLoop hl (fun s0 a w => match s0 with | (s10, s13, s14) => ∃ ad11, ∃ cp12, St [] E [] w0 35 a w [(0, .string p0), (1, .int .u8 p1), (5, .slice ad11 s10.length cp12), (6, iv s13), (7, iv s14)] [eRow rS 9 (.slice ad11 s10.length cp12) s10] []) ⟨none, 0, S.fix [0] [] (by decide) rfl rfl rfl⟩ ?_
  clear hl h
  intro s0 a w c0 hI h hu15
  obtain ⟨s10, s13, s14⟩ := s0
  unfold raddleref25_Cut_l1 at h
  dsimp only at h hI
  obtain ⟨ad11, cp12, S⟩ := hI
  refine sSeq (fun K21 hK21 => ?_)
  refine sSeq (fun K22 hK22 => ?_)
  refine sRegion ?_
  refine sMove (iv s14) S (wN rfl) (.inl rfl) rfl rfl (lb rfl) fun a S => ?_
  refine sMove (.string p0) S (wN rfl) (.inl rfl) rfl rfl (lb rfl) fun a S => ?_
  refine sLenS (v := p0) S (wN rfl) rfl Try.underlying9 rfl rfl (lb rfl) fun a S => ?_
  refine sBin (.bool (decide (s14 ≤ (p0.size : Int)))) S (wN rfl) rfl rfl rfl (bLe _ _ _ _ .i64 s14 (p0.size : Int)) rfl (lb rfl) fun a S => ?_
  refine leafL (leafT (hK22 _ _ ?_))
  rcases iteSome h with ⟨hc23, h⟩ | ⟨hc23, h⟩
  rotate_left
  · refine sCondF S rfl hc23 ?_
    obtain rfl := Option.some.inj h
    obtain rfl := hu15 _ rfl
    have h := g16
    clear g16
    try dsimp only at h
    exact wp_exit (xThen (xThen (xHit (leafT (⟨s10, Option.some.inj h, ad11, cp12, S.fix [0] [] (by decide) rfl rfl rfl⟩)))))
  refine sCondT S rfl hc23 ?_
  refine wp_skip (leafT (hK21 _ _ ?_))
  obtain ⟨t28, h, g29⟩ := bindSome h
  refine sCut (fun a w => ∃ o24, ∃ o27, (o24, o27) = t28 ∧ ∃ ad25, ∃ cp26, St [] E [] w0 35 a w [(0, .string p0), (1, .int .u8 p1), (5, .slice ad25 o24.length cp26), (6, iv o27), (7, iv s14)] [eRow rS 9 (.slice ad25 o24.length cp26) o24] []) ?_ (fun a w hI => ?_)
  rotate_left
  · obtain ⟨o24, o27, rfl, ad25, cp26, S⟩ := hI
    have h := g29
    clear g29
    try dsimp only at h
    refine sRegion ?_
    refine sMove (iv s14) S (wN rfl) (.inl rfl) rfl rfl (lb rfl) fun a S => ?_
    refine sBin (iv (w64 (s14 + 1))) S (wN rfl) rfl rfl rfl (bAdd _ _ _ _ s14 1) rfl (lb rfl) fun a S => ?_
    refine sMove (iv (w64 (s14 + 1))) S (wN rfl) (.inr rfl) rfl rfl (lb rfl) fun a S => ?_
    exact leafL (leafT (⟨(o24, o27, w64 (s14 + 1)), (Option.some.inj h).symm, ⟨ad25, cp26, S.fix [0] [] (by decide) rfl rfl rfl⟩⟩))
  refine wp_block ?_
  obtain ⟨t31, h, g32⟩ := bindSome h
  refine sCut (fun a w => ∃ o30, o30 = t31 ∧ St [] E [] w0 35 a w [(0, .string p0), (1, .int .u8 p1), (5, .slice ad11 s10.length cp12), (6, iv s13), (7, iv s14), (24, .bool o30)] [eRow rS 9 (.slice ad11 s10.length cp12) s10] []) ?_ (fun a w hI => ?_)
  · refine sRegion ?_
    refine sMove (iv s14) S (wN rfl) (.inl rfl) rfl rfl (lb rfl) fun a S => ?_
    refine sMove (.string p0) S (wN rfl) (.inl rfl) rfl rfl (lb rfl) fun a S => ?_
    refine sLenS (v := p0) S (wN rfl) rfl Try.underlying9 rfl rfl (lb rfl) fun a S => ?_
    refine sBin (.bool (s14 == (p0.size : Int))) S (wN rfl) rfl rfl rfl (bEq _ _ _ _ .i64 s14 (p0.size : Int)) rfl (lb rfl) fun a S => ?_
    refine sMove (.bool (s14 == (p0.size : Int))) S (wN rfl) (.inl rfl) rfl rfl (lb rfl) fun a S => ?_
    rcases iteSome h with ⟨hc33, h⟩ | ⟨hc33, h⟩
    · refine sSkip 4 false 18 19 S rfl rfl rfl hc33 rfl (lb rfl) fun a S => ?_
      refine sSkip 4 false 18 20 S rfl rfl rfl hc33 rfl (lb rfl) fun a S => ?_
      refine sSkip 4 false 18 21 S rfl rfl rfl hc33 rfl (lb rfl) fun a S => ?_
      refine sSkip 4 false 18 22 S rfl rfl rfl hc33 rfl (lb rfl) fun a S => ?_
      refine sSkip 4 false 18 23 S rfl rfl rfl hc33 rfl (lb rfl) fun a S => ?_
      refine sPickT (.bool true) S (wN rfl) rfl rfl hc33 rfl rfl (lb rfl) fun a S => ?_
      exact leafL (leafT (⟨true, Option.some.inj h, S.fix [0] [] (by decide) rfl rfl rfl⟩))
    refine sMove (.string p0) S (wG 4 false 18 rfl rfl rfl hc33) (.inl rfl) rfl rfl (lb rfl) fun a S => ?_
    refine sMove (iv s14) S (wG 4 false 18 rfl rfl rfl hc33) (.inl rfl) rfl rfl (lb rfl) fun a S => ?_
    obtain ⟨x34, hx35, h⟩ := bindSome h
    refine sIndexS (v := p0) (j := s14) (k := .i64) S (wG 4 false 18 rfl rfl rfl hc33) rfl Try.underlying9 rfl rfl hx35 rfl (lb rfl) fun a S => ?_
    refine sMove (.int .u8 p1) S (wG 4 false 18 rfl rfl rfl hc33) (.inl rfl) rfl rfl (lb rfl) fun a S => ?_
    refine sBin (.bool (x34 == p1)) S (wG 4 false 18 rfl rfl rfl hc33) rfl rfl rfl (bEq _ _ _ _ .u8 x34 p1) rfl (lb rfl) fun a S => ?_
    refine sPickF (.bool (x34 == p1)) S (wN rfl) rfl rfl hc33 rfl rfl (lb rfl) fun a S => ?_
    exact leafL (leafT (⟨x34 == p1, Option.some.inj h, S.fix [0] [] (by decide) rfl rfl rfl⟩))
  obtain ⟨o30, rfl, S⟩ := hI
  have h := g32
  clear g32
  try dsimp only at h
  rcases iteSome h with ⟨hc36, h⟩ | ⟨hc36, h⟩
  rotate_left
  · refine sCondF S rfl hc36 ?_
    exact wp_skip (leafB (leafT (⟨s10, s13, Option.some.inj h, ad11, cp12, S.fix [0] [] (by decide) rfl rfl rfl⟩)))
  refine sCondT S rfl hc36 ?_
  refine sSeq (fun K37 hK37 => ?_)
  refine sRegion ?_
  refine sMove (.slice ad11 s10.length cp12) S (wN rfl) (.inl rfl) rfl rfl (lb rfl) fun a S => ?_
  refine sMove (.string p0) S (wN rfl) (.inl rfl) rfl rfl (lb rfl) fun a S => ?_
  refine sMove (iv s13) S (wN rfl) (.inl rfl) rfl rfl (lb rfl) fun a S => ?_
  refine sMove (iv s14) S (wN rfl) (.inl rfl) rfl rfl (lb rfl) fun a S => ?_
  obtain ⟨y38, hx39, h⟩ := bindSome h
  refine sSliceS (v := p0) (u := y38) (vlo := (some (.int .i64 s13))) (vhi := (some (.int .i64 s14))) (lo' := s13) (hi' := s14) S (wN rfl) rfl Try.underlying9 rfl rfl rfl (.inl rfl) (.inl rfl) hx39 rfl (lb rfl) fun a S => ?_
  refine sLit (r := rS) (T := 9) (xs := [y38]) [(0, .string y38)] 1 [.string y38] [.string y38] (.string (⟨#[]⟩ : ByteArray)) 16 S (wN rfl) rfl rfl Try.underlying94 rfl (by decide) (by decide) (by kernel_rfl) rfl (fun E1 w1 hE => All.cons rfl (All.nil _ _ _)) rfl rfl (lb rfl) fun a w ad40 cp41 S => ?_
  obtain ⟨l42, hx43, h⟩ := bindSome h
  refine sApp (r := rS) (T := 9) (xs := s10) (ys := [y38]) (v := .slice ad11 s10.length cp12) (u := .slice ad40 [y38].length cp41) 1 (.string (⟨#[]⟩ : ByteArray)) 16 S (wN rfl) rfl Try.underlying94 rfl rfl (by decide) rfl rfl rfl (src_R (T := 9) 0 S.mem rfl) hx43 rfl (lb rfl) fun a w ad44 cp45 S => ?_
  refine sMove (.slice ad44 l42.length cp45) S (wN rfl) (.inr rfl) rfl rfl (lb rfl) fun a S => ?_
  refine leafL (leafT (hK37 _ _ ?_))
  refine sRegion ?_
  refine sMove (iv s14) S (wN rfl) (.inl rfl) rfl rfl (lb rfl) fun a S => ?_
  refine sBin (iv (w64 (s14 + 1))) S (wN rfl) rfl rfl rfl (bAdd _ _ _ _ s14 1) rfl (lb rfl) fun a S => ?_
  refine sMove (iv (w64 (s14 + 1))) S (wN rfl) (.inr rfl) rfl rfl (lb rfl) fun a S => ?_
  exact leafL (leafB (leafT (⟨l42, w64 (s14 + 1), Option.some.inj h, ad44, cp45, S.fix [0] [] (by decide) rfl rfl rfl⟩)))

end Go.Proofs.Ytdbgkakmhlmpbaa
namespace Go.Proofs.Ytdbgkakmhlmpbaa
open Go.RowKit
set_option linter.unusedVariables false

noncomputable def raddleref25_Number_l1 (p0 : ByteArray) : (Int × Int) → Option ((Int × Int) ⊕ ((Int × Bool) ⊕ Int)) := fun s0 => match s0 with
  | (s18, s19) =>
    if decide (s19 < (p0.size : Int)) then
      Option.bind (α := Bool) (
        Option.bind (idxS p0 s19) fun x32 =>
        if decide (x32 < 48) then
          some true
        else
          some (decide (57 < x32))) fun o29 =>
      if o29 then
        some (.inr (.inl (0, false)))
      else
        Option.bind (idxS p0 s19) fun x37 =>
        some (.inl (w64 ((w64 (10 * s18)) + (IntKind.i64.wrap (IntKind.u8.wrap (x37 - 48)))), w64 (s19 + 1)))
    else
      some (.inr (.inr s18))
noncomputable def F_raddleref25_Number (p0 : ByteArray) : Option (Int × Bool) :=
  Option.bind (α := Bool) (
    if (p0.size : Int) == 0 then
      some true
    else
      if decide (4 < (p0.size : Int)) then
        some true
      else
        if decide (1 < (p0.size : Int)) then
          Option.bind (idxS p0 0) fun x9 =>
          some (x9 == 48)
        else
          some false) fun o3 =>
  if o3 then
    some (0, false)
  else
    Option.bind (α := Int ⊕ (Int × Bool)) (
      Option.bind (whileO (raddleref25_Number_l1 p0) (0, 0)) fun z0 => match z0 with
        | .inl z =>
          some (.inr z)
        | .inr e23 =>
          some (.inl e23)) fun z0 => match z0 with
      | .inl o14 =>
        some (o14, true)
      | .inr z =>
        some z
set_option maxHeartbeats 4000000 in
set_option maxRecDepth 100000 in
theorem c_raddleref25_Number (E : Nat → Prop) (w0 : World) (p0 : ByteArray) (r : (Int × Bool)) (h : F_raddleref25_Number p0 = some r) (S : St0 E [] w0 w0 [] []) :
    Calls Try.prog 47 #[.string p0] w0 (Ret (X := Unit) E [] w0 (fun _ => .tuple #[.int .i64 r.1, .bool r.2]) (fun _ => []) (fun _ => [])) := by
  unfold F_raddleref25_Number at h
  refine sEnter (args := [.string p0]) 49 Try.func47 rfl rfl (by simp) S (fun a S => ?_)
  refine sSeq (fun K1 hK1 => ?_)
  refine sRegion ?_
  refine sMove (iv 0) S (wN rfl) (.inr rfl) rfl rfl (lb rfl) fun a S => ?_
  refine sMove (.bool false) S (wN rfl) (.inr rfl) rfl rfl (lb rfl) fun a S => ?_
  refine leafL (leafT (hK1 _ _ ?_))
  refine sSeq (fun K2 hK2 => ?_)
  obtain ⟨t4, h, g5⟩ := bindSome h
  refine sCut (fun a w => ∃ o3, o3 = t4 ∧ St [] E [] w0 49 a w [(0, .string p0), (23, .bool o3)] [] []) ?_ (fun a w hI => ?_)
  · refine sRegion ?_
    refine sMove (.string p0) S (wN rfl) (.inl rfl) rfl rfl (lb rfl) fun a S => ?_
    refine sLenS (v := p0) S (wN rfl) rfl Try.underlying9 rfl rfl (lb rfl) fun a S => ?_
    refine sBin (.bool ((p0.size : Int) == 0)) S (wN rfl) rfl rfl rfl (bEq _ _ _ _ .i64 (p0.size : Int) 0) rfl (lb rfl) fun a S => ?_
    refine sMove (.bool ((p0.size : Int) == 0)) S (wN rfl) (.inl rfl) rfl rfl (lb rfl) fun a S => ?_
    rcases iteSome h with ⟨hc6, h⟩ | ⟨hc6, h⟩
    · refine sSkip 3 false 9 10 S rfl rfl rfl hc6 rfl (lb rfl) fun a S => ?_
      refine sSkip 3 false 9 11 S rfl rfl rfl hc6 rfl (lb rfl) fun a S => ?_
      refine sSkip 3 false 9 12 S rfl rfl rfl hc6 rfl (lb rfl) fun a S => ?_
      refine sPickT (.bool true) S (wN rfl) rfl rfl hc6 rfl rfl (lb rfl) fun a S => ?_
      refine sMove (.bool true) S (wN rfl) (.inl rfl) rfl rfl (lb rfl) fun a S => ?_
      refine sSkip 8 false 14 15 S rfl rfl rfl rfl rfl (lb rfl) fun a S => ?_
      refine sSkip 8 false 14 16 S rfl rfl rfl rfl rfl (lb rfl) fun a S => ?_
      refine sSkip 8 false 14 17 S rfl rfl rfl rfl rfl (lb rfl) fun a S => ?_
      refine sSkip 8 false 14 18 S rfl rfl rfl rfl rfl (lb rfl) fun a S => ?_
      refine sSkipU 12 true 18 19 S rfl rfl rfl rfl (lb rfl) fun a S => ?_
      refine sSkipU 12 true 18 20 S rfl rfl rfl rfl (lb rfl) fun a S => ?_
      refine sSkipU 12 true 18 21 S rfl rfl rfl rfl (lb rfl) fun a S => ?_
      refine sSkip 8 false 14 22 S rfl rfl rfl rfl rfl (lb rfl) fun a S => ?_
      refine sPickT (.bool true) S (wN rfl) rfl rfl rfl rfl rfl (lb rfl) fun a S => ?_
      exact leafL (leafT (⟨true, Option.some.inj h, S.fix [] [] (by decide) rfl rfl rfl⟩))
    refine sMove (.string p0) S (wG 3 false 9 rfl rfl rfl hc6) (.inl rfl) rfl rfl (lb rfl) fun a S => ?_
    refine sLenS (v := p0) S (wG 3 false 9 rfl rfl rfl hc6) rfl Try.underlying9 rfl rfl (lb rfl) fun a S => ?_
    refine sBin (.bool (decide (4 < (p0.size : Int)))) S (wG 3 false 9 rfl rfl rfl hc6) rfl rfl rfl (bGt _ _ _ _ .i64 (p0.size : Int) 4) rfl (lb rfl) fun a S => ?_
    refine sPickF (.bool (decide (4 < (p0.size : Int)))) S (wN rfl) rfl rfl hc6 rfl rfl (lb rfl) fun a S => ?_
    refine sMove (.bool (decide (4 < (p0.size : Int)))) S (wN rfl) (.inl rfl) rfl rfl (lb rfl) fun a S => ?_
    rcases iteSome h with ⟨hc7, h⟩ | ⟨hc7, h⟩
    · refine sSkip 8 false 14 15 S rfl rfl rfl hc7 rfl (lb rfl) fun a S => ?_
      refine sSkip 8 false 14 16 S rfl rfl rfl hc7 rfl (lb rfl) fun a S => ?_
      refine sSkip 8 false 14 17 S rfl rfl rfl hc7 rfl (lb rfl) fun a S => ?_
      refine sSkip 8 false 14 18 S rfl rfl rfl hc7 rfl (lb rfl) fun a S => ?_
      refine sSkipU 12 true 18 19 S rfl rfl rfl rfl (lb rfl) fun a S => ?_
      refine sSkipU 12 true 18 20 S rfl rfl rfl rfl (lb rfl) fun a S => ?_
      refine sSkipU 12 true 18 21 S rfl rfl rfl rfl (lb rfl) fun a S => ?_
      refine sSkip 8 false 14 22 S rfl rfl rfl hc7 rfl (lb rfl) fun a S => ?_
      refine sPickT (.bool true) S (wN rfl) rfl rfl hc7 rfl rfl (lb rfl) fun a S => ?_
      exact leafL (leafT (⟨true, Option.some.inj h, S.fix [] [] (by decide) rfl rfl rfl⟩))
    refine sMove (.string p0) S (wG 8 false 14 rfl rfl rfl hc7) (.inl rfl) rfl rfl (lb rfl) fun a S => ?_
    refine sLenS (v := p0) S (wG 8 false 14 rfl rfl rfl hc7) rfl Try.underlying9 rfl rfl (lb rfl) fun a S => ?_
    refine sBin (.bool (decide (1 < (p0.size : Int)))) S (wG 8 false 14 rfl rfl rfl hc7) rfl rfl rfl (bGt _ _ _ _ .i64 (p0.size : Int) 1) rfl (lb rfl) fun a S => ?_
    refine sMove (.bool (decide (1 < (p0.size : Int)))) S (wG 8 false 14 rfl rfl rfl hc7) (.inl rfl) rfl rfl (lb rfl) fun a S => ?_
    rcases iteSome h with ⟨hc8, h⟩ | ⟨hc8, h⟩
    rotate_left
    · refine sSkip 12 true 18 19 S rfl rfl rfl hc8 rfl (lb rfl) fun a S => ?_
      refine sSkip 12 true 18 20 S rfl rfl rfl hc8 rfl (lb rfl) fun a S => ?_
      refine sSkip 12 true 18 21 S rfl rfl rfl hc8 rfl (lb rfl) fun a S => ?_
      refine sPickF (.bool false) S (wG 8 false 14 rfl rfl rfl hc7) rfl rfl hc8 rfl rfl (lb rfl) fun a S => ?_
      refine sPickF (.bool false) S (wN rfl) rfl rfl hc7 rfl rfl (lb rfl) fun a S => ?_
      exact leafL (leafT (⟨false, Option.some.inj h, S.fix [] [] (by decide) rfl rfl rfl⟩))
    refine sMove (.string p0) S (wG 12 true 18 rfl rfl rfl hc8) (.inl rfl) rfl rfl (lb rfl) fun a S => ?_
    obtain ⟨x9, hx10, h⟩ := bindSome h
    refine sIndexS (v := p0) (j := 0) (k := .i64) S (wG 12 true 18 rfl rfl rfl hc8) rfl Try.underlying9 rfl rfl hx10 rfl (lb rfl) fun a S => ?_
    refine sBin (.bool (x9 == 48)) S (wG 12 true 18 rfl rfl rfl hc8) rfl rfl rfl (bEq _ _ _ _ .u8 x9 48) rfl (lb rfl) fun a S => ?_
    refine sPickT (.bool (x9 == 48)) S (wG 8 false 14 rfl rfl rfl hc7) rfl rfl hc8 rfl rfl (lb rfl) fun a S => ?_
    refine sPickF (.bool (x9 == 48)) S (wN rfl) rfl rfl hc7 rfl rfl (lb rfl) fun a S => ?_
    exact leafL (leafT (⟨x9 == 48, Option.some.inj h, S.fix [] [] (by decide) rfl rfl rfl⟩))
  obtain ⟨o3, rfl, S⟩ := hI
  have h := g5
  clear g5
  try dsimp only at h
  rcases iteSome h with ⟨hc11, h⟩ | ⟨hc11, h⟩
  · refine sCondT S rfl hc11 ?_
    refine sSeq (fun K12 hK12 => ?_)
    refine sRegion ?_
    refine sMove (iv 0) S (wN rfl) (.inr rfl) rfl rfl (lb rfl) fun a S => ?_
    refine sMove (.bool false) S (wN rfl) (.inr rfl) rfl rfl (lb rfl) fun a S => ?_
    refine leafL (leafT (hK12 _ _ ?_))
    obtain rfl := Option.some.inj h
    exact wp_ret (rThen (sRet (.tuple #[iv 0, .bool false]) S (rsl2 rfl (rvT (t := 2) (v := iv 0) S rfl) (rvT (t := 3) (v := .bool false) S rfl)) ⟨(), rfl, S.mem.sel [] [] (by decide) rfl rfl⟩))
  refine sCondF S rfl hc11 ?_
  refine wp_skip (leafT (hK2 _ _ ?_))
  refine sSeq (fun K13 hK13 => ?_)
  refine sRegion ?_
  refine sMove (iv 0) S (wN rfl) (.inr rfl) rfl rfl (lb rfl) fun a S => ?_
  refine leafL (leafT (hK13 _ _ ?_))
  obtain ⟨t15, h, g16⟩ := bindSome h
  refine sCut (fun a w => ∃ o14, .inl o14 = t15 ∧ St [] E [] w0 49 a w [(4, iv o14)] [] []) ?_ (fun a w hI => ?_)
  rotate_left
  · obtain ⟨o14, rfl, S⟩ := hI
    have h := g16
    clear g16
    try dsimp only at h
    refine sSeq (fun K39 hK39 => ?_)
    refine sRegion ?_
    refine sMove (iv o14) S (wN rfl) (.inl rfl) rfl rfl (lb rfl) fun a S => ?_
    refine sMove (iv o14) S (wN rfl) (.inr rfl) rfl rfl (lb rfl) fun a S => ?_
    refine sMove (.bool true) S (wN rfl) (.inr rfl) rfl rfl (lb rfl) fun a S => ?_
    refine leafL (leafT (hK39 _ _ ?_))
    obtain rfl := Option.some.inj h
    exact wp_ret (sRet (.tuple #[iv o14, .bool true]) S (rsl2 rfl (rvT (t := 2) (v := iv o14) S rfl) (rvT (t := 3) (v := .bool true) S rfl)) ⟨(), rfl, S.mem.sel [] [] (by decide) rfl rfl⟩)
  refine sSeq (fun K17 hK17 => ?_)
  refine sRegion ?_
  refine sMove (iv 0) S (wN rfl) (.inr rfl) rfl rfl (lb rfl) fun a S => ?_
  refine leafL (leafT (hK17 _ _ ?_))
  refine wp_block ?_
  obtain ⟨t22, hl, g21⟩ := bindSome h
  refine sLoop hl (fun s0 a w => match s0 with | (s18, s19) => St [] E [] w0 49 a w [(0, .string p0), (4, iv s18), (5, iv s19)] [] []) (S.fix [] [] (by decide) rfl rfl rfl) ?_
  clear hl h
  intro s0 a w c0 hI h hu20
  obtain ⟨s18, s19⟩ := s0
  unfold raddleref25_Number_l1 at h
  dsimp only at h hI
  have S := hI
  refine sSeq (fun K24 hK24 => ?_)
  refine sSeq (fun K25 hK25 => ?_)
  refine sRegion ?_
  refine sMove (iv s19) S (wN rfl) (.inl rfl) rfl rfl (lb rfl) fun a S => ?_
  refine sMove (.string p0) S (wN rfl) (.inl rfl) rfl rfl (lb rfl) fun a S => ?_
  refine sLenS (v := p0) S (wN rfl) rfl Try.underlying9 rfl rfl (lb rfl) fun a S => ?_
  refine sBin (.bool (decide (s19 < (p0.size : Int)))) S (wN rfl) rfl rfl rfl (bLt _ _ _ _ .i64 s19 (p0.size : Int)) rfl (lb rfl) fun a S => ?_
  refine leafL (leafT (hK25 _ _ ?_))
  rcases iteSome h with ⟨hc26, h⟩ | ⟨hc26, h⟩
  rotate_left
  · refine sCondF S rfl hc26 ?_
    obtain rfl := Option.some.inj h
    obtain rfl := hu20 _ rfl
    have h := g21
    clear g21
    try dsimp only at h
    exact wp_exit (xThen (xThen (xHit (leafT (⟨s18, Option.some.inj h, S.fix [] [] (by decide) rfl rfl rfl⟩)))))
  refine sCondT S rfl hc26 ?_
  refine wp_skip (leafT (hK24 _ _ ?_))
  refine sSeq (fun K27 hK27 => ?_)
  refine wp_block ?_
  refine sSeq (fun K28 hK28 => ?_)
  obtain ⟨t30, h, g31⟩ := bindSome h
  refine sCut (fun a w => ∃ o29, o29 = t30 ∧ St [] E [] w0 49 a w [(0, .string p0), (4, iv s18), (5, iv s19), (39, .bool o29)] [] []) ?_ (fun a w hI => ?_)
  · refine sRegion ?_
    refine sMove (.string p0) S (wN rfl) (.inl rfl) rfl rfl (lb rfl) fun a S => ?_
    refine sMove (iv s19) S (wN rfl) (.inl rfl) rfl rfl (lb rfl) fun a S => ?_
    obtain ⟨x32, hx33, h⟩ := bindSome h
    refine sIndexS (v := p0) (j := s19) (k := .i64) S (wN rfl) rfl Try.underlying9 rfl rfl hx33 rfl (lb rfl) fun a S => ?_
    refine sBin (.bool (decide (x32 < 48))) S (wN rfl) rfl rfl rfl (bLt _ _ _ _ .u8 x32 48) rfl (lb rfl) fun a S => ?_
    refine sMove (.bool (decide (x32 < 48))) S (wN rfl) (.inl rfl) rfl rfl (lb rfl) fun a S => ?_
    rcases iteSome h with ⟨hc34, h⟩ | ⟨hc34, h⟩
    · refine sSkip 4 false 34 35 S rfl rfl rfl hc34 rfl (lb rfl) fun a S => ?_
      refine sSkip 4 false 34 36 S rfl rfl rfl hc34 rfl (lb rfl) fun a S => ?_
      refine sSkip 4 false 34 37 S rfl rfl rfl hc34 rfl (lb rfl) fun a S => ?_
      refine sSkip 4 false 34 38 S rfl rfl rfl hc34 rfl (lb rfl) fun a S => ?_
      refine sPickT (.bool true) S (wN rfl) rfl rfl hc34 rfl rfl (lb rfl) fun a S => ?_
      exact leafL (leafT (⟨true, Option.some.inj h, S.fix [] [] (by decide) rfl rfl rfl⟩))
    refine sMove (.string p0) S (wG 4 false 34 rfl rfl rfl hc34) (.inl rfl) rfl rfl (lb rfl) fun a S => ?_
    refine sMove (iv s19) S (wG 4 false 34 rfl rfl rfl hc34) (.inl rfl) rfl rfl (lb rfl) fun a S => ?_
    refine sIndexS (v := p0) (j := s19) (k := .i64) S (wG 4 false 34 rfl rfl rfl hc34) rfl Try.underlying9 rfl rfl hx33 rfl (lb rfl) fun a S => ?_
    refine sBin (.bool (decide (57 < x32))) S (wG 4 false 34 rfl rfl rfl hc34) rfl rfl rfl (bGt _ _ _ _ .u8 x32 57) rfl (lb rfl) fun a S => ?_
    refine sPickF (.bool (decide (57 < x32))) S (wN rfl) rfl rfl hc34 rfl rfl (lb rfl) fun a S => ?_
    exact leafL (leafT (⟨decide (57 < x32), Option.some.inj h, S.fix [] [] (by decide) rfl rfl rfl⟩))
  obtain ⟨o29, rfl, S⟩ := hI
  have h := g31
  clear g31
  try dsimp only at h
  rcases iteSome h with ⟨hc35, h⟩ | ⟨hc35, h⟩
  · refine sCondT S rfl hc35 ?_
    refine sSeq (fun K36 hK36 => ?_)
    refine sRegion ?_
    refine sMove (iv 0) S (wN rfl) (.inr rfl) rfl rfl (lb rfl) fun a S => ?_
    refine sMove (.bool false) S (wN rfl) (.inr rfl) rfl rfl (lb rfl) fun a S => ?_
    refine leafL (leafT (hK36 _ _ ?_))
    obtain rfl := Option.some.inj h
    obtain rfl := hu20 _ rfl
    have h := g21
    clear g21
    try dsimp only at h
    obtain rfl := Option.some.inj h
    have h := g16
    clear g16
    try dsimp only at h
    obtain rfl := Option.some.inj h
    exact wp_ret (rThen (rBlock (rThen (rThen (rBlock (rThen (sRet (.tuple #[iv 0, .bool false]) S (rsl2 rfl (rvT (t := 2) (v := iv 0) S rfl) (rvT (t := 3) (v := .bool false) S rfl)) ⟨(), rfl, S.mem.sel [] [] (by decide) rfl rfl⟩)))))))
  refine sCondF S rfl hc35 ?_
  refine wp_skip (leafT (hK28 _ _ ?_))
  refine sRegion ?_
  refine sMove (iv s18) S (wN rfl) (.inl rfl) rfl rfl (lb rfl) fun a S => ?_
  refine sBin (iv (w64 (10 * s18))) S (wN rfl) rfl rfl rfl (bMul _ _ _ _ 10 s18) rfl (lb rfl) fun a S => ?_
  refine sMove (.string p0) S (wN rfl) (.inl rfl) rfl rfl (lb rfl) fun a S => ?_
  refine sMove (iv s19) S (wN rfl) (.inl rfl) rfl rfl (lb rfl) fun a S => ?_
  obtain ⟨x37, hx38, h⟩ := bindSome h
  refine sIndexS (v := p0) (j := s19) (k := .i64) S (wN rfl) rfl Try.underlying9 rfl rfl hx38 rfl (lb rfl) fun a S => ?_
  refine sBin (.int .u8 (IntKind.u8.wrap (x37 - 48))) S (wN rfl) rfl rfl rfl (bSubK _ _ _ _ .u8 x37 48) rfl (lb rfl) fun a S => ?_
  refine sConv (k := .u8) (k2 := .i64) (b := IntKind.u8.wrap (x37 - 48)) S (wN rfl) rfl Try.underlying5 Try.underlying3 rfl rfl (lb rfl) fun a S => ?_
  refine sBin (iv (w64 ((w64 (10 * s18)) + (IntKind.i64.wrap (IntKind.u8.wrap (x37 - 48)))))) S (wN rfl) rfl rfl rfl (bAdd _ _ _ _ (w64 (10 * s18)) (IntKind.i64.wrap (IntKind.u8.wrap (x37 - 48)))) rfl (lb rfl) fun a S => ?_
  refine sMove (iv (w64 ((w64 (10 * s18)) + (IntKind.i64.wrap (IntKind.u8.wrap (x37 - 48)))))) S (wN rfl) (.inr rfl) rfl rfl (lb rfl) fun a S => ?_
  refine leafL (leafB (leafT (hK27 _ _ ?_)))
  refine sRegion ?_
  refine sMove (iv s19) S (wN rfl) (.inl rfl) rfl rfl (lb rfl) fun a S => ?_
  refine sBin (iv (w64 (s19 + 1))) S (wN rfl) rfl rfl rfl (bAdd _ _ _ _ s19 1) rfl (lb rfl) fun a S => ?_
  refine sMove (iv (w64 (s19 + 1))) S (wN rfl) (.inr rfl) rfl rfl (lb rfl) fun a S => ?_
  exact leafL (leafT (⟨(w64 ((w64 (10 * s18)) + (IntKind.i64.wrap (IntKind.u8.wrap (x37 - 48)))), w64 (s19 + 1)), (Option.some.inj h).symm, (S.fix [] [] (by decide) rfl rfl rfl)⟩))

end Go.Proofs.Ytdbgkakmhlmpbaa
namespace Go.Proofs.Ytdbgkakmhlmpbaa
open Go.RowKit
set_option linter.unusedVariables false

noncomputable def raddleref25_kind_l1 (p0 : Int) : Int → Option (Int ⊕ (Int ⊕ Unit)) := fun s0 => match s0 with
  | s9 =>
    if decide (s9 < ((⟨#[102, 108, 109, 120, 121, 115, 111]⟩ : ByteArray).size : Int)) then
      Option.bind (idxS (⟨#[102, 108, 109, 120, 121, 115, 111]⟩ : ByteArray) s9) fun x18 =>
      if x18 == p0 then
        Option.bind (idxO ([3, 4, 5, 6, 7, 8, 10] : List Int) s9) fun x22 =>
        some (.inr (.inl x22))
      else
        some (.inl (w64 (s9 + 1)))
    else
      some (.inr (.inr ()))
noncomputable def F_raddleref25_kind (p0 : Int) : Option Int :=
  Option.bind (α := Unit ⊕ Int) (
    Option.bind (whileO (raddleref25_kind_l1 p0) 0) fun z0 => match z0 with
      | .inl z =>
        some (.inr z)
      | .inr _ =>
        some (.inl ())) fun z0 => match z0 with
    | .inl _ =>
      some 0
    | .inr z =>
      some z
set_option maxHeartbeats 4000000 in
set_option maxRecDepth 100000 in
theorem c_raddleref25_kind (E : Nat → Prop) (w0 : World) (p0 : Int) (r : Int) (h : F_raddleref25_kind p0 = some r) (S : St0 E [] w0 w0 [] []) :
    Calls Try.prog 87 #[.int .u8 p0] w0 (Ret (X := Unit) E [] w0 (fun _ => .int .u8 r) (fun _ => []) (fun _ => [])) := by
  unfold F_raddleref25_kind at h
  refine sEnter (args := [.int .u8 p0]) 22 Try.func87 rfl rfl (by simp) S (fun a S => ?_)
  refine sSeq (fun K1 hK1 => ?_)
  refine sRegion ?_
  refine sMove (.int .u8 0) S (wN rfl) (.inr rfl) rfl rfl (lb rfl) fun a S => ?_
  refine leafL (leafT (hK1 _ _ ?_))
  refine sSeq (fun K2 hK2 => ?_)
  refine sRegion ?_
  refine sMove (.string (⟨#[102, 108, 109, 120, 121, 115, 111]⟩ : ByteArray)) S (wN rfl) (.inr rfl) rfl rfl (lb rfl) fun a S => ?_
  refine leafL (leafT (hK2 _ _ ?_))
  refine sSeq (fun K3 hK3 => ?_)
  refine sRegion ?_
  refine sLit (r := (rI .u8)) (T := 5) (xs := ([3, 4, 5, 6, 7, 8, 10] : List Int)) [(0, .int .u8 3), (1, .int .u8 4), (2, .int .u8 5), (3, .int .u8 6), (4, .int .u8 7), (5, .int .u8 8), (6, .int .u8 10)] 7 [.int .u8 3, .int .u8 4, .int .u8 5, .int .u8 6, .int .u8 7, .int .u8 8, .int .u8 10] [.int .u8 3, .int .u8 4, .int .u8 5, .int .u8 6, .int .u8 7, .int .u8 8, .int .u8 10] (.int .u8 0) 1 S (wN rfl) rfl rfl Try.underlying153 rfl (by decide) (by decide) (by kernel_rfl) rfl (fun E1 w1 hE => All.cons rfl (All.cons rfl (All.cons rfl (All.cons rfl (All.cons rfl (All.cons rfl (All.cons rfl (All.nil _ _ _)))))))) rfl rfl (lb rfl) fun a w ad4 cp5 S => ?_
  refine sMove (.slice ad4 ([3, 4, 5, 6, 7, 8, 10] : List Int).length cp5) S (wN rfl) (.inr rfl) rfl rfl (lb rfl) fun a S => ?_
  refine leafL (leafT (hK3 _ _ ?_))
  obtain ⟨t6, h, g7⟩ := bindSome h
  refine sCut (fun a w => .inl () = t6 ∧ St [] E [] w0 22 a w [] [] []) ?_ (fun a w hI => ?_)
  rotate_left
  · obtain ⟨rfl, S⟩ := hI
    have h := g7
    clear g7
    try dsimp only at h
    refine sSeq (fun K27 hK27 => ?_)
    refine sRegion ?_
    refine sMove (.int .u8 0) S (wN rfl) (.inr rfl) rfl rfl (lb rfl) fun a S => ?_
    refine leafL (leafT (hK27 _ _ ?_))
    obtain rfl := Option.some.inj h
    exact wp_ret (sRet (.int .u8 0) S (rsl1 rfl (rvT (t := 2) (v := .int .u8 0) S rfl)) ⟨(), rfl, S.mem.sel [] [] (by decide) rfl rfl⟩)
  refine sSeq (fun K8 hK8 => ?_)
  refine sRegion ?_
  refine sMove (iv 0) S (wN rfl) (.inr rfl) rfl rfl (lb rfl) fun a S => ?_
  refine leafL (leafT (hK8 _ _ ?_))
  refine wp_block ?_
  obtain ⟨t12, hl, g11⟩ := bindSome h
  refine sLoop hl (fun s0 a w => match s0 with | s9 => St [] E [] w0 22 a w [(0, .int .u8 p0), (3, .string (⟨#[102, 108, 109, 120, 121, 115, 111]⟩ : ByteArray)), (4, .slice ad4 ([3, 4, 5, 6, 7, 8, 10] : List Int).length cp5), (5, iv s9)] [eRow (rI .u8) 5 (.slice ad4 ([3, 4, 5, 6, 7, 8, 10] : List Int).length cp5) ([3, 4, 5, 6, 7, 8, 10] : List Int)] []) (S.fix [0] [] (by decide) rfl rfl rfl) ?_
  clear hl h
  intro s9 a w c0 hI h hu10
  unfold raddleref25_kind_l1 at h
  dsimp only at h hI
  have S := hI
  refine sSeq (fun K13 hK13 => ?_)
  refine sSeq (fun K14 hK14 => ?_)
  refine sRegion ?_
  refine sMove (iv s9) S (wN rfl) (.inl rfl) rfl rfl (lb rfl) fun a S => ?_
  refine sMove (.string (⟨#[102, 108, 109, 120, 121, 115, 111]⟩ : ByteArray)) S (wN rfl) (.inl rfl) rfl rfl (lb rfl) fun a S => ?_
  refine sLenS (v := (⟨#[102, 108, 109, 120, 121, 115, 111]⟩ : ByteArray)) S (wN rfl) rfl Try.underlying9 rfl rfl (lb rfl) fun a S => ?_
  refine sBin (.bool (decide (s9 < ((⟨#[102, 108, 109, 120, 121, 115, 111]⟩ : ByteArray).size : Int)))) S (wN rfl) rfl rfl rfl (bLt _ _ _ _ .i64 s9 ((⟨#[102, 108, 109, 120, 121, 115, 111]⟩ : ByteArray).size : Int)) rfl (lb rfl) fun a S => ?_
  refine leafL (leafT (hK14 _ _ ?_))
  rcases iteSome h with ⟨hc15, h⟩ | ⟨hc15, h⟩
  rotate_left
  · refine sCondF S rfl hc15 ?_
    obtain rfl := Option.some.inj h
    obtain rfl := hu10 _ rfl
    have h := g11
    clear g11
    try dsimp only at h
    exact wp_exit (xThen (xThen (xHit (leafT (⟨Option.some.inj h, S.fix [] [] (by decide) rfl rfl rfl⟩)))))
  refine sCondT S rfl hc15 ?_
  refine wp_skip (leafT (hK13 _ _ ?_))
  refine sSeq (fun K16 hK16 => ?_)
  refine wp_block ?_
  refine sSeq (fun K17 hK17 => ?_)
  refine sRegion ?_
  refine sMove (.string (⟨#[102, 108, 109, 120, 121, 115, 111]⟩ : ByteArray)) S (wN rfl) (.inl rfl) rfl rfl (lb rfl) fun a S => ?_
  refine sMove (iv s9) S (wN rfl) (.inl rfl) rfl rfl (lb rfl) fun a S => ?_
  obtain ⟨x18, hx19, h⟩ := bindSome h
  refine sIndexS (v := (⟨#[102, 108, 109, 120, 121, 115, 111]⟩ : ByteArray)) (j := s9) (k := .i64) S (wN rfl) rfl Try.underlying9 rfl rfl hx19 rfl (lb rfl) fun a S => ?_
  refine sMove (.int .u8 p0) S (wN rfl) (.inl rfl) rfl rfl (lb rfl) fun a S => ?_
  refine sBin (.bool (x18 == p0)) S (wN rfl) rfl rfl rfl (bEq _ _ _ _ .u8 x18 p0) rfl (lb rfl) fun a S => ?_
  refine leafL (leafT (hK17 _ _ ?_))
  rcases iteSome h with ⟨hc20, h⟩ | ⟨hc20, h⟩
  rotate_left
  · refine sCondF S rfl hc20 ?_
    refine wp_skip (leafB (leafT (hK16 _ _ ?_)))
    refine sRegion ?_
    refine sMove (iv s9) S (wN rfl) (.inl rfl) rfl rfl (lb rfl) fun a S => ?_
    refine sBin (iv (w64 (s9 + 1))) S (wN rfl) rfl rfl rfl (bAdd _ _ _ _ s9 1) rfl (lb rfl) fun a S => ?_
    refine sMove (iv (w64 (s9 + 1))) S (wN rfl) (.inr rfl) rfl rfl (lb rfl) fun a S => ?_
    exact leafL (leafT (⟨w64 (s9 + 1), (Option.some.inj h).symm, (S.fix [0] [] (by decide) rfl rfl rfl)⟩))
  refine sCondT S rfl hc20 ?_
  refine sSeq (fun K21 hK21 => ?_)
  refine sRegion ?_
  refine sMove (.slice ad4 ([3, 4, 5, 6, 7, 8, 10] : List Int).length cp5) S (wN rfl) (.inl rfl) rfl rfl (lb rfl) fun a S => ?_
  refine sMove (iv s9) S (wN rfl) (.inl rfl) rfl rfl (lb rfl) fun a S => ?_
  obtain ⟨x22, hx23, h⟩ := bindSome h
  obtain ⟨q24, hq25, hp26⟩ := pIdxR (P := Try.prog) (r := (rI .u8)) (T := 5) (v := .slice ad4 ([3, 4, 5, 6, 7, 8, 10] : List Int).length cp5) (xs := ([3, 4, 5, 6, 7, 8, 10] : List Int)) (j := s9) 153 5 0 S Try.underlying153 rfl rfl hx23
  refine sIdxV (v := .slice ad4 ([3, 4, 5, 6, 7, 8, 10] : List Int).length cp5) (k := .i64) (j := s9) S (wN rfl) rfl rfl rfl hq25 rfl (lb rfl) fun a S => ?_
  refine sLoadR (r := (rI .u8)) (T := 5) (xs := ([3, 4, 5, 6, 7, 8, 10] : List Int)) (x := x22) (v := .slice ad4 ([3, 4, 5, 6, 7, 8, 10] : List Int).length cp5) (vq := q24) (j := s9) 0 (.int .u8 x22) S hp26 (wN rfl) rfl rfl rfl hx23 (fun _ _ _ h => h) (scal_I _) rfl rfl (lb rfl) fun a S => ?_
  refine sMove (.int .u8 x22) S (wN rfl) (.inr rfl) rfl rfl (lb rfl) fun a S => ?_
  refine leafL (leafT (hK21 _ _ ?_))
  obtain rfl := Option.some.inj h
  obtain rfl := hu10 _ rfl
  have h := g11
  clear g11
  try dsimp only at h
  obtain rfl := Option.some.inj h
  have h := g7
  clear g7
  try dsimp only at h
  obtain rfl := Option.some.inj h
  exact wp_ret (rBlock (rThen (rThen (rBlock (rThen (sRet (.int .u8 x22) S (rsl1 rfl (rvT (t := 2) (v := .int .u8 x22) S rfl)) ⟨(), rfl, S.mem.sel [] [] (by decide) rfl rfl⟩))))))

end Go.Proofs.Ytdbgkakmhlmpbaa
