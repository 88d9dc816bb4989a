/- Several texts in one: G6 -/
import Derived.WalkKit
import Derived.Maps.AppendAt
import Derived.Deep.AppendLies
import Derived.KernelRfl
import Derived.Laws.OwnMore
import Derived.Great.BuildSlice
import Derived.Orders
import Derived.Laws.StructEq
import Derived.ChangeKeysEq
import Derived.Defers
import Derived.Laws.BytesString
import Derived.RangeFuncNested
import Derived.RangeFuncBound
import Derived.RangeFuncCalls
import Derived.RangeFuncLeaves
import Derived.OrdersIn
import Derived.LoopNIn
import Derived.Test.YtdbgkakmhlmpbaaProg
import Derived.ProofKit
import Derived.OpenShut
import Derived.ChangeOld
import Derived.Deep.Slices
import Derived.Lib.SmallJoins
import Derived.JoinedOf
import Derived.JoinedAt
import Derived.Below
import Derived.Test.YtdbgkakmhlmpbaaRows
import Derived.Test.YtdbgkakmhlmpbaaMCostNames6
namespace Go.Proofs.Ytdbgkakmhlmpbaa
open Go.RowKit
set_option linter.unusedVariables false

def anc_raddlelaw45_CostNames_0 : List (List Nat) := [[], [], [], [], [], [], [0, 3, 4, 5], [0, 1, 3, 4, 5, 6], [0, 1, 2, 3, 4, 5, 6, 7]]
def anc_raddlelaw45_CostNames_1 : List (List Nat) := [[], [], [0, 1], [0, 1, 2], [0, 1, 2, 3], [0, 1, 2, 3], [], [0, 1, 2, 3, 4, 6], [0, 1, 2, 3, 4, 5, 6, 7]]
noncomputable def raddlelaw45_CostNames_l1  : (Int × Int × Int × Int × Int × Int × Int × Int × Int × Int × Int × Int) → Option ((Int × Int × Int × Int × Int × Int × Int × Int × Int × Int × Int × Int) ⊕ (Int × Int × Int × Int × Int × Int × Int × Int × Int × Int × Int)) := fun s0 => match s0 with
  | (s18, s19, s20, s21, s22, s23, s24, s25, s26, s27, s28, s29) =>
    if decide (s18 < 11) then
      Option.bind (idxO ([s19, s20, s21, s22, s23, s24, s25, s26, s27, s28, s29] : List Int) s18) fun x48 =>
      some (.inl (w64 (s18 + 1), (if s18 = 0 then 1 else s19), (if s18 = 1 then 1 else s20), (if s18 = 2 then 1 else s21), (if s18 = 3 then 1 else s22), (if s18 = 4 then 1 else s23), (if s18 = 5 then 1 else s24), (if s18 = 6 then 1 else s25), (if s18 = 7 then 1 else s26), (if s18 = 8 then 1 else s27), (if s18 = 9 then 1 else s28), (if s18 = 10 then 1 else s29)))
    else
      some (.inr (s19, s20, s21, s22, s23, s24, s25, s26, s27, s28, s29))
noncomputable def F_raddlelaw45_CostNames  : Option Bool :=
  Option.bind (α := (Int × Int × Int × Int × Int × Int × Int × Int × Int × Int × Int)) (
    Option.bind (whileO (raddlelaw45_CostNames_l1) (1, 0, 0, 0, 0, 0, 0, 0, 0, 0, 0, 0)) fun (e33, e34, e35, e36, e37, e38, e39, e40, e41, e42, e43) =>
      some (e33, e34, e35, e36, e37, e38, e39, e40, e41, e42, e43)) fun (o4, o5, o6, o7, o8, o9, o10, o11, o12, o13, o14) =>
  Option.bind (F_raddleref26_Parse (⟨#[115, 116, 97, 114, 116, 32, 52, 10, 102, 114, 111, 110, 116, 32, 111, 110, 51, 32, 107, 109, 51, 32, 107, 120, 49, 47, 50, 10, 98, 97, 99, 107, 32, 112, 111, 52, 32, 112, 115, 32, 112, 52, 10, 102, 114, 111, 110, 116, 32, 107, 102, 50, 32, 107, 32, 107, 108, 50, 10]⟩ : ByteArray)) fun r52 =>
  Option.bind (F_cost_Need r52.1 (api_Rates.mk (o4, o5, o6, o7, o8, o9, o10, o11, o12, o13, o14) (0, 0, 0, 0, 0, 0, 0, 0, 0, 0, 0) 0)) fun r61 =>
  Option.bind (F_cost_Count r52.1) fun r66 =>
  Option.bind (F_raddlelaw45_rates) fun r71 =>
  Option.bind (F_cost_Need (api_Chart.mk 5 ([] : (List api_Row))) r71) fun r74 =>
  Option.bind (F_cost_Total ([] : (List api_Chart)) r71) fun r80 =>
  Option.bind (α := Unit) (
    some ()) fun _ =>
  Option.bind (α := Bool) (
    Option.bind (F_cost_Check (api_Rates.mk (0, 0, 0, 0, 0, 0, 0, 0, 0, 0, 0) (0, 0, 0, 0, 0, 0, 0, 0, 0, 0, 0) 0)) fun r111 =>
    if r111 == 0 then
      Option.bind (F_cost_Check (api_Rates.mk (o4, o5, o6, o7, o8, o9, o10, o11, o12, o13, o14) (0, 0, 0, 0, 0, 0, 0, 0, 0, 0, 0) 0)) fun r114 =>
      if r114 == 0 then
        Option.bind (F_cost_Check (api_Rates.mk (o4, o5, o6, o7, o8, o9, o10, o11, o12, o13, o14) (0, 0, 0, (-1), 0, 0, 0, 0, 0, 0, 0) 0)) fun r117 =>
        if r117 == 8 then
          Option.bind (F_cost_Check (api_Rates.mk (o4, o5, o6, o7, o8, o9, o10, o11, o12, o13, o14) (0, 0, 0, 0, 0, 0, 0, 0, 0, 0, 0) 1000001)) fun r120 =>
          if r120 == 8 then
            Option.bind (F_cost_Check (api_Rates.mk (1, o5, o6, o7, o8, o9, o10, o11, o12, o13, o14) (0, 0, 0, 0, 0, 0, 0, 0, 0, 0, 0) 0)) fun r123 =>
            some (r123 == 8)
          else
            some false
        else
          some false
      else
        some false
    else
      none) fun o108 =>
  Option.bind (F_cost_Need (api_Chart.mk 3 r52.1.Rows) (api_Rates.mk (o4, o5, o6, o7, o8, o9, o10, o11, o12, o13, o14) (0, 0, 0, (-1), 0, 0, 0, 0, 0, 0, 0) 0)) fun r126 =>
  Option.bind (F_cost_Need r52.1 (api_Rates.mk (o4, o5, o6, o7, o8, o9, o10, o11, o12, o13, o14) (0, 0, 0, (-1), 0, 0, 0, 0, 0, 0, 0) 0)) fun r131 =>
  Option.bind (α := Int) (
    Option.bind (makeO 21 (api_Chart.mk 0 ([] : (List api_Row)))) fun m140 =>
    Option.bind (F_cost_Total m140 (api_Rates.mk (o4, o5, o6, o7, o8, o9, o10, o11, o12, o13, o14) (0, 0, 0, (-1), 0, 0, 0, 0, 0, 0, 0) 0)) fun r142 =>
    some r142.2) fun o135 =>
  Option.bind (F_cost_Total ([] : (List api_Chart)) (api_Rates.mk (o4, o5, o6, o7, o8, o9, o10, o11, o12, o13, o14) (0, 0, 0, (-1), 0, 0, 0, 0, 0, 0, 0) 0)) fun r157 =>
  Option.bind (F_cost_Weight (api_Bill.mk 0 (-1)) (api_Count.mk 0 (api_Ratio.mk 0 0))) fun r162 =>
  Option.bind (F_cost_Weight (api_Bill.mk 0 0) (api_Count.mk 0 (api_Ratio.mk 0 0))) fun r167 =>
  Option.bind (F_raddlelaw45_tex 50) fun r172 =>
  Option.bind (F_cost_Weight (api_Bill.mk 1000000001 0) r172) fun r175 =>
  Option.bind (F_cost_Price (api_Bill.mk (-1) 0) r172 0 (-1)) fun r181 =>
  Option.bind (F_cost_Price (api_Bill.mk 1 0) r172 0 1) fun r185 =>
  Option.bind (F_cost_Price (api_Bill.mk 1 0) r172 1 1000001) fun r189 =>
  Option.bind (F_cost_Price (api_Bill.mk 0 0) r172 1 1000000) fun r193 =>
  Option.bind (α := Bool) (
    if r126.2 == 26 then
      if r131.2 == 8 then
        if o135 == 4 then
          if r157.2 == 8 then
            if r162.2 == 2 then
              if r167.2 == 8 then
                if r175.2 == 2 then
                  if r181.2.2 == 2 then
                    if r185.2.2 == 2 then
                      some (r189.2.2 == 2)
                    else
                      none
                  else
                    none
                else
                  none
              else
                none
            else
              none
          else
            some false
        else
          some false
      else
        some false
    else
      some false) fun o195 =>
  Option.bind (α := Bool) (
    if r52.2 == 0 then
      if r61.2 == 0 then
        if r61.1.Length == 18 then
          if r66.2 == 0 then
            if r66.1.2.1 == 5 then
              if r66.1.2.2.2.2.2.2.2.2.2.2 == 1 then
                if r74.2 == 0 then
                  if ((r74.1.Length == 0) && ((r74.1.Time == 0) && true)) then
                    if r80.2 == 0 then
                      if ((r80.1.Length == 0) && ((r80.1.Time == 0) && true)) then
                        if o108 then
                          if o195 then
                            if r193.2.2 == 0 then
                              if r193.1 == 0 then
                                if r193.2.1 == 0 then
                                  Option.bind (F_raddlelaw45_alive) fun r225 =>
                                  some r225
                                else
                                  none
                              else
                                none
                            else
                              none
                          else
                            some false
                        else
                          some false
                      else
                        none
                    else
                      none
                  else
                    none
                else
                  none
              else
                none
            else
              none
          else
            none
        else
          some false
      else
        some false
    else
      none) fun o207 =>
  some o207
set_option maxHeartbeats 4000000 in
set_option maxRecDepth 100000 in
theorem c_raddlelaw45_CostNames (E : Nat → Prop) (w0 : World)  (r : Bool) (h : F_raddlelaw45_CostNames  = some r) (S : St0 E [] w0 w0 [] []) :
    Calls Try.prog 6 #[] w0 (Ret (X := Unit) E [] w0 (fun _ => .bool r) (fun _ => []) (fun _ => [])) := by
  unfold F_raddlelaw45_CostNames at h
  refine sEnter (args := []) 283 Try.func6 rfl rfl (by simp) S (fun a S => ?_)
  refine sSeq (fun K1 hK1 => ?_)
  refine sRegion ?_
  refine sMove (.bool false) S (wN rfl) (.inr rfl) rfl rfl (lb rfl) fun a S => ?_
  refine leafL (leafT (hK1 _ _ ?_))
  refine sSeq (fun K2 hK2 => ?_)
  refine sRegion ?_
  refine sAlloc (gv_api_Rates (api_Rates.mk (0, 0, 0, 0, 0, 0, 0, 0, 0, 0, 0) (0, 0, 0, 0, 0, 0, 0, 0, 0, 0, 0) 0)) S (wN rfl) rfl rfl (gl_api_Rates (api_Rates.mk (0, 0, 0, 0, 0, 0, 0, 0, 0, 0, 0) (0, 0, 0, 0, 0, 0, 0, 0, 0, 0, 0) 0)) rfl rfl (lb rfl) fun a b3 w S => ?_
  refine leafL (leafT (hK2 _ _ ?_))
  obtain ⟨t15, h, g16⟩ := bindSome h
  refine sCut (fun a w => ∃ o4, ∃ o5, ∃ o6, ∃ o7, ∃ o8, ∃ o9, ∃ o10, ∃ o11, ∃ o12, ∃ o13, ∃ o14, (o4, o5, o6, o7, o8, o9, o10, o11, o12, o13, o14) = t15 ∧ St [] E [] w0 283 a w [(1, .pointer (some ⟨b3, 0, none⟩))] [eBox b3 44 (gl_api_Rates (api_Rates.mk (o4, o5, o6, o7, o8, o9, o10, o11, o12, o13, o14) (0, 0, 0, 0, 0, 0, 0, 0, 0, 0, 0) 0))] []) ?_ (fun a w hI => ?_)
  · refine sSeq (fun K17 hK17 => ?_)
    refine sRegion ?_
    refine sMove (iv 1) S (wN rfl) (.inr rfl) rfl rfl (lb rfl) fun a S => ?_
    refine leafL (leafT (hK17 _ _ ?_))
    refine wp_block ?_
    obtain ⟨t32, hl, g31⟩ := bindSome h
    refine sLoop hl (fun s0 a w => match s0 with | (s18, s19, s20, s21, s22, s23, s24, s25, s26, s27, s28, s29) => St [] E [] w0 283 a w [(1, .pointer (some ⟨b3, 0, none⟩)), (2, iv s18)] [eBox b3 44 (gl_api_Rates (api_Rates.mk (s19, s20, s21, s22, s23, s24, s25, s26, s27, s28, s29) (0, 0, 0, 0, 0, 0, 0, 0, 0, 0, 0) 0))] []) (S.fix [0] [] (by decide) rfl rfl rfl) ?_
    clear hl h
    intro s0 a w c0 hI h hu30
    obtain ⟨s18, s19, s20, s21, s22, s23, s24, s25, s26, s27, s28, s29⟩ := s0
    unfold raddlelaw45_CostNames_l1 at h
    dsimp only at h hI
    have S := hI
    refine sSeq (fun K44 hK44 => ?_)
    refine sSeq (fun K45 hK45 => ?_)
    refine sRegion ?_
    refine sMove (iv s18) S (wN rfl) (.inl rfl) rfl rfl (lb rfl) fun a S => ?_
    refine sBin (.bool (decide (s18 < 11))) S (wN rfl) rfl rfl rfl (bLt _ _ _ _ .i64 s18 11) rfl (lb rfl) fun a S => ?_
    refine leafL (leafT (hK45 _ _ ?_))
    rcases iteSome h with ⟨hc46, h⟩ | ⟨hc46, h⟩
    rotate_left
    · refine sCondF S rfl hc46 ?_
      obtain rfl := Option.some.inj h
      obtain rfl := hu30 _ rfl
      have h := g31
      clear g31
      try dsimp only at h
      exact wp_exit (xThen (xThen (xHit (leafT (⟨s19, s20, s21, s22, s23, s24, s25, s26, s27, s28, s29, Option.some.inj h, S.fix [0] [] (by decide) rfl rfl rfl⟩)))))
    refine sCondT S rfl hc46 ?_
    refine wp_skip (leafT (hK44 _ _ ?_))
    refine sSeq (fun K47 hK47 => ?_)
    refine wp_block ?_
    refine sRegion ?_
    refine sMove (iv s18) S (wN rfl) (.inl rfl) rfl rfl (lb rfl) fun a S => ?_
    refine sField (b := b3) (off := 0) 0 0 S (wN rfl) rfl rfl rfl rfl rfl (lb rfl) fun a S => ?_
    obtain ⟨x48, hx49, h⟩ := bindSome h
    refine sIdxV (v := .pointer (some ⟨b3, 0, none⟩)) (k := .i64) (j := s18) (q := .pointer (some ⟨b3, 0 + (s18).toNat * 1, none⟩)) S (wN rfl) rfl rfl rfl (idxV_arr (m := 11) (sz := 1) Try.underlying42 rfl (idxO_rng (m := 11) hx49 rfl).1 (idxO_rng (m := 11) hx49 rfl).2 0) rfl (lb rfl) fun a S => ?_
    refine sStore (p := b3) (off := 0 + (s18).toNat * 1) (T := 44) (vs := [iv s19, iv s20, iv s21, iv s22, iv s23, iv s24, iv s25, iv s26, iv s27, iv s28, iv s29, iv 0, iv 0, iv 0, iv 0, iv 0, iv 0, iv 0, iv 0, iv 0, iv 0, iv 0, iv 0]) (v := iv 1) 0 [iv 1] S (wN rfl) rfl rfl rfl rfl rfl rfl rfl (by have hq := idxO_rng (m := 11) hx49 rfl; simp; omega) rfl fun a w S => ?_
    have ho50 : over [iv s19, iv s20, iv s21, iv s22, iv s23, iv s24, iv s25, iv s26, iv s27, iv s28, iv s29, iv 0, iv 0, iv 0, iv 0, iv 0, iv 0, iv 0, iv 0, iv 0, iv 0, iv 0, iv 0] (0 + (s18).toNat * 1) [iv 1] = [iv (if s18 = 0 then 1 else s19), iv (if s18 = 1 then 1 else s20), iv (if s18 = 2 then 1 else s21), iv (if s18 = 3 then 1 else s22), iv (if s18 = 4 then 1 else s23), iv (if s18 = 5 then 1 else s24), iv (if s18 = 6 then 1 else s25), iv (if s18 = 7 then 1 else s26), iv (if s18 = 8 then 1 else s27), iv (if s18 = 9 then 1 else s28), iv (if s18 = 10 then 1 else s29), iv 0, iv 0, iv 0, iv 0, iv 0, iv 0, iv 0, iv 0, iv 0, iv 0, iv 0, iv 0] := over_at (g := (fun z => .int .i64 z)) (xs := ([s19, s20, s21, s22, s23, s24, s25, s26, s27, s28, s29] : List Int)) (y := 1) [] [iv 0, iv 0, iv 0, iv 0, iv 0, iv 0, iv 0, iv 0, iv 0, iv 0, iv 0, iv 0] 0 hx49 rfl rfl rfl rfl
    rw [ho50] at S
    refine leafL (leafB (leafT (hK47 _ _ ?_)))
    refine sRegion ?_
    refine sMove (iv s18) S (wN rfl) (.inl rfl) rfl rfl (lb rfl) fun a S => ?_
    refine sBin (iv (w64 (s18 + 1))) S (wN rfl) rfl rfl rfl (bAdd _ _ _ _ s18 1) rfl (lb rfl) fun a S => ?_
    refine sMove (iv (w64 (s18 + 1))) S (wN rfl) (.inr rfl) rfl rfl (lb rfl) fun a S => ?_
    exact leafL (leafT (⟨(w64 (s18 + 1), (if s18 = 0 then 1 else s19), (if s18 = 1 then 1 else s20), (if s18 = 2 then 1 else s21), (if s18 = 3 then 1 else s22), (if s18 = 4 then 1 else s23), (if s18 = 5 then 1 else s24), (if s18 = 6 then 1 else s25), (if s18 = 7 then 1 else s26), (if s18 = 8 then 1 else s27), (if s18 = 9 then 1 else s28), (if s18 = 10 then 1 else s29)), (Option.some.inj h).symm, (S.fix [0] [] (by decide) rfl rfl rfl)⟩))
  obtain ⟨o4, o5, o6, o7, o8, o9, o10, o11, o12, o13, o14, rfl, S⟩ := hI
  have h := g16
  clear g16
  try dsimp only at h
  refine sSeq (fun K51 hK51 => ?_)
  refine sRegion ?_
  obtain ⟨r52, hx53, h⟩ := bindSome h
  have hv_r52 : r52 = ((api_Chart.mk 4 [(api_Row.mk false [(api_Stitch.mk 9 false 3 0), (api_Stitch.mk 5 false 3 0), (api_Stitch.mk 6 false 1 2)]), (api_Row.mk true [(api_Stitch.mk 10 true 4 0), (api_Stitch.mk 8 true 0 0), (api_Stitch.mk 1 true 0 0), (api_Stitch.mk 1 true 0 0), (api_Stitch.mk 1 true 0 0), (api_Stitch.mk 1 true 0 0)]), (api_Row.mk false [(api_Stitch.mk 3 false 2 0), (api_Stitch.mk 1 false 0 0), (api_Stitch.mk 4 false 2 0)])]), 0) := Option.some.inj (hx53.symm.trans (by exact kc_raddlelaw45_CostNames_0))
  refine sCall (X := Value) (f := 27) (vs := [.string (⟨#[115, 116, 97, 114, 116, 32, 52, 10, 102, 114, 111, 110, 116, 32, 111, 110, 51, 32, 107, 109, 51, 32, 107, 120, 49, 47, 50, 10, 98, 97, 99, 107, 32, 112, 111, 52, 32, 112, 115, 32, 112, 52, 10, 102, 114, 111, 110, 116, 32, 107, 102, 50, 32, 107, 32, 107, 108, 50, 10]⟩ : ByteArray)]) (val := c_raddleref26_Parse_val r52) (B' := fun _ => []) (D' := c_raddleref26_Parse_D r52) [] [eBox b3 44 (gl_api_Rates (api_Rates.mk (o4, o5, o6, o7, o8, o9, o10, o11, o12, o13, o14) (0, 0, 0, 0, 0, 0, 0, 0, 0, 0, 0) 0))] [] [0] [] S (wN rfl) rfl callee27 rfl (by decide) rfl rfl (fun E1 w1 S1 => c_raddleref26_Parse E1 w1 (⟨#[115, 116, 97, 114, 116, 32, 52, 10, 102, 114, 111, 110, 116, 32, 111, 110, 51, 32, 107, 109, 51, 32, 107, 120, 49, 47, 50, 10, 98, 97, 99, 107, 32, 112, 111, 52, 32, 112, 115, 32, 112, 52, 10, 102, 114, 111, 110, 116, 32, 107, 102, 50, 32, 107, 32, 107, 108, 50, 10]⟩ : ByteArray) r52 hx53 S1) rfl (lb rfl) fun u54 a w S => ?_
  obtain ⟨u55, rfl, hu56⟩ := S.mem.know (i := 0) (e := fRep r_api_Chart (u54) r52.1) rfl
  have S := S.learn (fRep (rL r_api_Row) u55 r52.1.Rows) hu56
  obtain ⟨ad57, cp58, _, rfl, _⟩ := hu56
  refine sMove (.tuple #[.agg #[iv r52.1.Start, .slice ad57 r52.1.Rows.length cp58], iv r52.2]) S (wN rfl) (.inl rfl) rfl rfl (lb rfl) fun a S => ?_
  refine sExtract (vs := [.agg #[iv r52.1.Start, .slice ad57 r52.1.Rows.length cp58], iv r52.2]) (.agg #[iv r52.1.Start, .slice ad57 r52.1.Rows.length cp58]) S (wN rfl) rfl rfl rfl rfl (lb rfl) fun a S => ?_
  refine sExtract (vs := [.agg #[iv r52.1.Start, .slice ad57 r52.1.Rows.length cp58], iv r52.2]) (iv r52.2) S (wN rfl) rfl rfl rfl rfl (lb rfl) fun a S => ?_
  refine sAlloc (.agg #[iv 0, .slice none 0 0]) S (wN rfl) rfl rfl [iv 0, .slice none 0 0] rfl rfl (lb rfl) fun a b59 w S => ?_
  refine sStore (p := b59) (off := 0) (T := 41) (vs := [iv 0, .slice none 0 0]) (v := .agg #[iv r52.1.Start, .slice ad57 r52.1.Rows.length cp58]) 0 [iv r52.1.Start, .slice ad57 r52.1.Rows.length cp58] S (wN rfl) rfl rfl rfl rfl rfl rfl rfl (by simp) rfl fun a w S => ?_
  refine sMove (iv r52.2) S (wN rfl) (.inr rfl) rfl rfl (lb rfl) fun a S => ?_
  refine leafL (leafT (hK51 _ _ ?_))
  refine sSeq (fun K60 hK60 => ?_)
  refine sRegion ?_
  refine sLoadN (p := b59) (off := 0) (T := 41) (vs := [iv r52.1.Start, .slice ad57 r52.1.Rows.length cp58]) 0 [iv r52.1.Start, .slice ad57 r52.1.Rows.length cp58] S (wN rfl) rfl rfl rfl rfl rfl rfl rfl (lb rfl) fun a S => ?_
  refine sLoadN (p := b3) (off := 0) (T := 44) (vs := (gl_api_Rates (api_Rates.mk (o4, o5, o6, o7, o8, o9, o10, o11, o12, o13, o14) (0, 0, 0, 0, 0, 0, 0, 0, 0, 0, 0) 0))) 1 (gl_api_Rates (api_Rates.mk (o4, o5, o6, o7, o8, o9, o10, o11, o12, o13, o14) (0, 0, 0, 0, 0, 0, 0, 0, 0, 0, 0) 0)) S (wN rfl) rfl rfl rfl rfl rfl rfl rfl (lb rfl) fun a S => ?_
  obtain ⟨r61, hx62, h⟩ := bindSome h
  have S := S.learn (fRep r_api_Rates (gv_api_Rates (api_Rates.mk (o4, o5, o6, o7, o8, o9, o10, o11, o12, o13, o14) (0, 0, 0, 0, 0, 0, 0, 0, 0, 0, 0) 0)) (api_Rates.mk (o4, o5, o6, o7, o8, o9, o10, o11, o12, o13, o14) (0, 0, 0, 0, 0, 0, 0, 0, 0, 0, 0) 0)) rfl
  refine sCall (X := Value) (f := 18) (vs := [.agg #[iv r52.1.Start, .slice ad57 r52.1.Rows.length cp58], gv_api_Rates (api_Rates.mk (o4, o5, o6, o7, o8, o9, o10, o11, o12, o13, o14) (0, 0, 0, 0, 0, 0, 0, 0, 0, 0, 0) 0)]) (val := c_cost_Need_val r61) (B' := fun _ => []) (D' := c_cost_Need_D r61) [] [eBox b59 41 [iv r52.1.Start, .slice ad57 r52.1.Rows.length cp58], eBox b3 44 (gl_api_Rates (api_Rates.mk (o4, o5, o6, o7, o8, o9, o10, o11, o12, o13, o14) (0, 0, 0, 0, 0, 0, 0, 0, 0, 0, 0) 0))] [fRep r_api_Chart (.agg #[iv r52.1.Start, .slice ad57 r52.1.Rows.length cp58]) r52.1, fRep r_api_Rates (gv_api_Rates (api_Rates.mk (o4, o5, o6, o7, o8, o9, o10, o11, o12, o13, o14) (0, 0, 0, 0, 0, 0, 0, 0, 0, 0, 0) 0)) (api_Rates.mk (o4, o5, o6, o7, o8, o9, o10, o11, o12, o13, o14) (0, 0, 0, 0, 0, 0, 0, 0, 0, 0, 0) 0)] [0, 1] [2, 0] S (wN rfl) rfl callee18 rfl (by decide) rfl rfl (fun E1 w1 S1 => c_cost_Need E1 w1 r52.1 (.agg #[iv r52.1.Start, .slice ad57 r52.1.Rows.length cp58]) (api_Rates.mk (o4, o5, o6, o7, o8, o9, o10, o11, o12, o13, o14) (0, 0, 0, 0, 0, 0, 0, 0, 0, 0, 0) 0) (gv_api_Rates (api_Rates.mk (o4, o5, o6, o7, o8, o9, o10, o11, o12, o13, o14) (0, 0, 0, 0, 0, 0, 0, 0, 0, 0, 0) 0)) r61 hx62 S1) rfl (lb rfl) fun u63 a w S => ?_
  obtain rfl : u63 = .agg #[iv r61.1.Length, iv r61.1.Time] := S.mem.know (i := 0) (e := fRep r_api_Bill (u63) r61.1) rfl
  refine sMove (.tuple #[.agg #[iv r61.1.Length, iv r61.1.Time], iv r61.2]) S (wN rfl) (.inl rfl) rfl rfl (lb rfl) fun a S => ?_
  refine sExtract (vs := [.agg #[iv r61.1.Length, iv r61.1.Time], iv r61.2]) (.agg #[iv r61.1.Length, iv r61.1.Time]) S (wN rfl) rfl rfl rfl rfl (lb rfl) fun a S => ?_
  refine sExtract (vs := [.agg #[iv r61.1.Length, iv r61.1.Time], iv r61.2]) (iv r61.2) S (wN rfl) rfl rfl rfl rfl (lb rfl) fun a S => ?_
  refine sAlloc (.agg #[iv 0, iv 0]) S (wN rfl) rfl rfl [iv 0, iv 0] rfl rfl (lb rfl) fun a b64 w S => ?_
  refine sStore (p := b64) (off := 0) (T := 23) (vs := [iv 0, iv 0]) (v := .agg #[iv r61.1.Length, iv r61.1.Time]) 0 [iv r61.1.Length, iv r61.1.Time] S (wN rfl) rfl rfl rfl rfl rfl rfl rfl (by simp) rfl fun a w S => ?_
  refine sMove (iv r61.2) S (wN rfl) (.inr rfl) rfl rfl (lb rfl) fun a S => ?_
  refine leafL (leafT (hK60 _ _ ?_))
  refine sSeq (fun K65 hK65 => ?_)
  refine sRegion ?_
  refine sLoadN (p := b59) (off := 0) (T := 41) (vs := [iv r52.1.Start, .slice ad57 r52.1.Rows.length cp58]) 1 [iv r52.1.Start, .slice ad57 r52.1.Rows.length cp58] S (wN rfl) rfl rfl rfl rfl rfl rfl rfl (lb rfl) fun a S => ?_
  obtain ⟨r66, hx67, h⟩ := bindSome h
  have hv_r66 : r66 = ((0, (5, (0, (1, (1, (1, (1, (0, (1, (1, 1)))))))))), 0) := Option.some.inj (hx67.symm.trans (by rw [hv_r52]; exact kc_raddlelaw45_CostNames_1))
  refine sCall (X := Value) (f := 16) (vs := [.agg #[iv r52.1.Start, .slice ad57 r52.1.Rows.length cp58]]) (val := c_cost_Count_val r66) (B' := fun _ => []) (D' := c_cost_Count_D r66) [] [eBox b64 23 [iv r61.1.Length, iv r61.1.Time], eBox b59 41 [iv r52.1.Start, .slice ad57 r52.1.Rows.length cp58], eBox b3 44 (gl_api_Rates (api_Rates.mk (o4, o5, o6, o7, o8, o9, o10, o11, o12, o13, o14) (0, 0, 0, 0, 0, 0, 0, 0, 0, 0, 0) 0))] [fRep r_api_Chart (.agg #[iv r52.1.Start, .slice ad57 r52.1.Rows.length cp58]) r52.1] [0, 1, 2] [3] S (wN rfl) rfl callee16 rfl (by decide) rfl rfl (fun E1 w1 S1 => c_cost_Count E1 w1 r52.1 (.agg #[iv r52.1.Start, .slice ad57 r52.1.Rows.length cp58]) r66 hx67 S1) rfl (lb rfl) fun u68 a w S => ?_
  obtain rfl : u68 = gv_A11_Int r66.1 := S.mem.know (i := 0) (e := fRep r_A11_Int (u68) r66.1) rfl
  refine sMove (.tuple #[gv_A11_Int r66.1, iv r66.2]) S (wN rfl) (.inl rfl) rfl rfl (lb rfl) fun a S => ?_
  refine sExtract (vs := [gv_A11_Int r66.1, iv r66.2]) (gv_A11_Int r66.1) S (wN rfl) rfl rfl rfl rfl (lb rfl) fun a S => ?_
  refine sExtract (vs := [gv_A11_Int r66.1, iv r66.2]) (iv r66.2) S (wN rfl) rfl rfl rfl rfl (lb rfl) fun a S => ?_
  refine sAlloc (gv_A11_Int (0, 0, 0, 0, 0, 0, 0, 0, 0, 0, 0)) S (wN rfl) rfl rfl (gl_A11_Int (0, 0, 0, 0, 0, 0, 0, 0, 0, 0, 0)) rfl rfl (lb rfl) fun a b69 w S => ?_
  refine sStore (p := b69) (off := 0) (T := 42) (vs := [iv 0, iv 0, iv 0, iv 0, iv 0, iv 0, iv 0, iv 0, iv 0, iv 0, iv 0]) (v := gv_A11_Int r66.1) 0 [iv r66.1.1, iv r66.1.2.1, iv r66.1.2.2.1, iv r66.1.2.2.2.1, iv r66.1.2.2.2.2.1, iv r66.1.2.2.2.2.2.1, iv r66.1.2.2.2.2.2.2.1, iv r66.1.2.2.2.2.2.2.2.1, iv r66.1.2.2.2.2.2.2.2.2.1, iv r66.1.2.2.2.2.2.2.2.2.2.1, iv r66.1.2.2.2.2.2.2.2.2.2.2] S (wN rfl) rfl rfl rfl rfl rfl rfl rfl (by simp) rfl fun a w S => ?_
  refine sMove (iv r66.2) S (wN rfl) (.inr rfl) rfl rfl (lb rfl) fun a S => ?_
  refine leafL (leafT (hK65 _ _ ?_))
  refine sSeq (fun K70 hK70 => ?_)
  refine sRegion ?_
  refine sBuild [(0, iv 5)] [iv 5, .slice none 0 0] S (wN rfl) rfl rfl rfl rfl (lb rfl) fun a S => ?_
  obtain ⟨r71, hx72, h⟩ := bindSome h
  have hv_r71 : r71 = (api_Rates.mk (0, (100, (150, (0, (90, (0, (0, (0, (0, (0, 0)))))))))) (0, (1000, (500, (0, (1500, (0, (0, (0, (0, (0, 0)))))))))) 2000) := Option.some.inj (hx72.symm.trans (by exact kc_raddlelaw45_CostNames_2))
  refine sCall (X := Value) (f := 28) (vs := []) (val := c_raddlelaw45_rates_val r71) (B' := fun _ => []) (D' := c_raddlelaw45_rates_D r71) [] [eBox b69 42 (gl_A11_Int r66.1), eBox b64 23 [iv r61.1.Length, iv r61.1.Time], eBox b59 41 [iv r52.1.Start, .slice ad57 r52.1.Rows.length cp58], eBox b3 44 (gl_api_Rates (api_Rates.mk (o4, o5, o6, o7, o8, o9, o10, o11, o12, o13, o14) (0, 0, 0, 0, 0, 0, 0, 0, 0, 0, 0) 0))] [] [0, 1, 2, 3] [] S (wN rfl) rfl callee28 rfl (by decide) rfl rfl (fun E1 w1 S1 => c_raddlelaw45_rates E1 w1  r71 hx72 S1) rfl (lb rfl) fun u73 a w S => ?_
  obtain rfl : u73 = gv_api_Rates r71 := S.mem.know (i := 0) (e := fRep r_api_Rates (u73) r71) rfl
  obtain ⟨r74, hx75, h⟩ := bindSome h
  have hv_r74 : r74 = ((api_Bill.mk 0 0), 0) := Option.some.inj (hx75.symm.trans (by rw [hv_r71]; exact kc_raddlelaw45_CostNames_3))
  have S := S.learn (fRep (rL r_api_Row) (.slice none 0 0) ([] : (List api_Row))) (rL_nil _ _ _)
  have S := S.learn (fRep r_api_Chart (.agg #[iv 5, .slice none 0 0]) (api_Chart.mk 5 ([] : (List api_Row)))) ⟨_, rfl, S.mem.know (i := 0) (e := fRep (rL r_api_Row) (.slice none 0 0) ([] : (List api_Row))) rfl⟩
  refine sCall (X := Value) (f := 18) (vs := [.agg #[iv 5, .slice none 0 0], gv_api_Rates r71]) (val := c_cost_Need_val r74) (B' := fun _ => []) (D' := c_cost_Need_D r74) [] [eBox b69 42 (gl_A11_Int r66.1), eBox b64 23 [iv r61.1.Length, iv r61.1.Time], eBox b59 41 [iv r52.1.Start, .slice ad57 r52.1.Rows.length cp58], eBox b3 44 (gl_api_Rates (api_Rates.mk (o4, o5, o6, o7, o8, o9, o10, o11, o12, o13, o14) (0, 0, 0, 0, 0, 0, 0, 0, 0, 0, 0) 0))] [fRep r_api_Chart (.agg #[iv 5, .slice none 0 0]) (api_Chart.mk 5 ([] : (List api_Row))), fRep r_api_Rates (gv_api_Rates r71) r71] [0, 1, 2, 3] [0, 2] S (wN rfl) rfl callee18 rfl (by decide) rfl rfl (fun E1 w1 S1 => c_cost_Need E1 w1 (api_Chart.mk 5 ([] : (List api_Row))) (.agg #[iv 5, .slice none 0 0]) r71 (gv_api_Rates r71) r74 hx75 S1) rfl (lb rfl) fun u76 a w S => ?_
  obtain rfl : u76 = .agg #[iv r74.1.Length, iv r74.1.Time] := S.mem.know (i := 0) (e := fRep r_api_Bill (u76) r74.1) rfl
  refine sMove (.tuple #[.agg #[iv r74.1.Length, iv r74.1.Time], iv r74.2]) S (wN rfl) (.inl rfl) rfl rfl (lb rfl) fun a S => ?_
  refine sExtract (vs := [.agg #[iv r74.1.Length, iv r74.1.Time], iv r74.2]) (.agg #[iv r74.1.Length, iv r74.1.Time]) S (wN rfl) rfl rfl rfl rfl (lb rfl) fun a S => ?_
  refine sExtract (vs := [.agg #[iv r74.1.Length, iv r74.1.Time], iv r74.2]) (iv r74.2) S (wN rfl) rfl rfl rfl rfl (lb rfl) fun a S => ?_
  refine sAlloc (.agg #[iv 0, iv 0]) S (wN rfl) rfl rfl [iv 0, iv 0] rfl rfl (lb rfl) fun a b77 w S => ?_
  refine sStore (p := b77) (off := 0) (T := 23) (vs := [iv 0, iv 0]) (v := .agg #[iv r74.1.Length, iv r74.1.Time]) 0 [iv r74.1.Length, iv r74.1.Time] S (wN rfl) rfl rfl rfl rfl rfl rfl rfl (by simp) rfl fun a w S => ?_
  refine sMove (iv r74.2) S (wN rfl) (.inr rfl) rfl rfl (lb rfl) fun a S => ?_
  refine leafL (leafT (hK70 _ _ ?_))
  refine sSeq (fun K78 hK78 => ?_)
  refine sRegion ?_
  refine sCall (X := Value) (f := 28) (vs := []) (val := c_raddlelaw45_rates_val r71) (B' := fun _ => []) (D' := c_raddlelaw45_rates_D r71) [] [eBox b77 23 [iv r74.1.Length, iv r74.1.Time], eBox b69 42 (gl_A11_Int r66.1), eBox b64 23 [iv r61.1.Length, iv r61.1.Time], eBox b59 41 [iv r52.1.Start, .slice ad57 r52.1.Rows.length cp58], eBox b3 44 (gl_api_Rates (api_Rates.mk (o4, o5, o6, o7, o8, o9, o10, o11, o12, o13, o14) (0, 0, 0, 0, 0, 0, 0, 0, 0, 0, 0) 0))] [] [0, 1, 2, 3, 4] [] S (wN rfl) rfl callee28 rfl (by decide) rfl rfl (fun E1 w1 S1 => c_raddlelaw45_rates E1 w1  r71 hx72 S1) rfl (lb rfl) fun u79 a w S => ?_
  obtain rfl : u79 = gv_api_Rates r71 := S.mem.know (i := 0) (e := fRep r_api_Rates (u79) r71) rfl
  obtain ⟨r80, hx81, h⟩ := bindSome h
  have hv_r80 : r80 = ((api_Bill.mk 0 0), 0) := Option.some.inj (hx81.symm.trans (by rw [hv_r71]; exact kc_raddlelaw45_CostNames_4))
  have S := S.learn (fRep (rL r_api_Chart) (.slice none 0 0) ([] : (List api_Chart))) (rL_nil _ _ _)
  refine sCall (X := Value) (f := 20) (vs := [.slice none 0 0, gv_api_Rates r71]) (val := c_cost_Total_val r80) (B' := fun _ => []) (D' := c_cost_Total_D r80) [] [eBox b77 23 [iv r74.1.Length, iv r74.1.Time], eBox b69 42 (gl_A11_Int r66.1), eBox b64 23 [iv r61.1.Length, iv r61.1.Time], eBox b59 41 [iv r52.1.Start, .slice ad57 r52.1.Rows.length cp58], eBox b3 44 (gl_api_Rates (api_Rates.mk (o4, o5, o6, o7, o8, o9, o10, o11, o12, o13, o14) (0, 0, 0, 0, 0, 0, 0, 0, 0, 0, 0) 0))] [fRep (rL r_api_Chart) (.slice none 0 0) ([] : (List api_Chart)), fRep r_api_Rates (gv_api_Rates r71) r71] [0, 1, 2, 3, 4] [0, 1] S (wN rfl) rfl callee20 rfl (by decide) rfl rfl (fun E1 w1 S1 => c_cost_Total E1 w1 ([] : (List api_Chart)) (.slice none 0 0) r71 (gv_api_Rates r71) r80 hx81 S1) rfl (lb rfl) fun u82 a w S => ?_
  obtain rfl : u82 = .agg #[iv r80.1.Length, iv r80.1.Time] := S.mem.know (i := 0) (e := fRep r_api_Bill (u82) r80.1) rfl
  refine sMove (.tuple #[.agg #[iv r80.1.Length, iv r80.1.Time], iv r80.2]) S (wN rfl) (.inl rfl) rfl rfl (lb rfl) fun a S => ?_
  refine sExtract (vs := [.agg #[iv r80.1.Length, iv r80.1.Time], iv r80.2]) (.agg #[iv r80.1.Length, iv r80.1.Time]) S (wN rfl) rfl rfl rfl rfl (lb rfl) fun a S => ?_
  refine sExtract (vs := [.agg #[iv r80.1.Length, iv r80.1.Time], iv r80.2]) (iv r80.2) S (wN rfl) rfl rfl rfl rfl (lb rfl) fun a S => ?_
  refine sAlloc (.agg #[iv 0, iv 0]) S (wN rfl) rfl rfl [iv 0, iv 0] rfl rfl (lb rfl) fun a b83 w S => ?_
  refine sStore (p := b83) (off := 0) (T := 23) (vs := [iv 0, iv 0]) (v := .agg #[iv r80.1.Length, iv r80.1.Time]) 0 [iv r80.1.Length, iv r80.1.Time] S (wN rfl) rfl rfl rfl rfl rfl rfl rfl (by simp) rfl fun a w S => ?_
  refine sMove (iv r80.2) S (wN rfl) (.inr rfl) rfl rfl (lb rfl) fun a S => ?_
  refine leafL (leafT (hK78 _ _ ?_))
  obtain ⟨t87, h, g88⟩ := bindSome h
  refine sCut (fun a w => () = t87 ∧ ∃ b84, ∃ b85, ∃ b86, St [] E [] w0 283 a w [(1, .pointer (some ⟨b3, 0, none⟩)), (3, .pointer (some ⟨b59, 0, none⟩)), (4, iv r52.2), (5, .pointer (some ⟨b64, 0, none⟩)), (6, iv r61.2), (7, .pointer (some ⟨b69, 0, none⟩)), (8, iv r66.2), (9, .pointer (some ⟨b77, 0, none⟩)), (10, iv r74.2), (11, .pointer (some ⟨b83, 0, none⟩)), (12, iv r80.2), (13, .pointer (some ⟨b84, 0, none⟩)), (14, .pointer (some ⟨b85, 0, none⟩)), (15, .pointer (some ⟨b86, 0, none⟩))] [eBox b3 44 (gl_api_Rates (api_Rates.mk (o4, o5, o6, o7, o8, o9, o10, o11, o12, o13, o14) (0, 0, 0, 0, 0, 0, 0, 0, 0, 0, 0) 0)), eBox b59 41 [iv r52.1.Start, .slice ad57 r52.1.Rows.length cp58], eBox b64 23 [iv r61.1.Length, iv r61.1.Time], eBox b69 42 (gl_A11_Int r66.1), eBox b77 23 [iv r74.1.Length, iv r74.1.Time], eBox b83 23 [iv r80.1.Length, iv r80.1.Time], eBox b84 44 (gl_api_Rates (api_Rates.mk (o4, o5, o6, o7, o8, o9, o10, o11, o12, o13, o14) (0, 0, 0, 0, 0, 0, 0, 0, 0, 0, 0) 0)), eBox b85 44 (gl_api_Rates (api_Rates.mk (o4, o5, o6, o7, o8, o9, o10, o11, o12, o13, o14) (0, 0, 0, 0, 0, 0, 0, 0, 0, 0, 0) 0)), eBox b86 44 (gl_api_Rates (api_Rates.mk (o4, o5, o6, o7, o8, o9, o10, o11, o12, o13, o14) (0, 0, 0, 0, 0, 0, 0, 0, 0, 0, 0) 0))] [fRep (rL r_api_Row) (.slice ad57 r52.1.Rows.length cp58) r52.1.Rows]) ?_ (fun a w hI => ?_)
  · refine sDraw (nf := [3, 4, 5, 6, 7, 8]) (W := [(0, 77, gv_api_Rates (api_Rates.mk (o4, o5, o6, o7, o8, o9, o10, o11, o12, o13, o14) (0, 0, 0, 0, 0, 0, 0, 0, 0, 0, 0) 0)), (1, 78, gv_api_Rates (api_Rates.mk (o4, o5, o6, o7, o8, o9, o10, o11, o12, o13, o14) (0, 0, 0, 0, 0, 0, 0, 0, 0, 0, 0) 0)), (2, 79, gv_api_Rates (api_Rates.mk (o4, o5, o6, o7, o8, o9, o10, o11, o12, o13, o14) (0, 0, 0, 0, 0, 0, 0, 0, 0, 0, 0) 0))]) rfl S ?_
    refine node_by (A := anc_raddlelaw45_CostNames_0) (nf := [3, 4, 5, 6, 7, 8]) (Y := []) (W := [(0, 77, gv_api_Rates (api_Rates.mk (o4, o5, o6, o7, o8, o9, o10, o11, o12, o13, o14) (0, 0, 0, 0, 0, 0, 0, 0, 0, 0, 0) 0)), (1, 78, gv_api_Rates (api_Rates.mk (o4, o5, o6, o7, o8, o9, o10, o11, o12, o13, o14) (0, 0, 0, 0, 0, 0, 0, 0, 0, 0, 0) 0)), (2, 79, gv_api_Rates (api_Rates.mk (o4, o5, o6, o7, o8, o9, o10, o11, o12, o13, o14) (0, 0, 0, 0, 0, 0, 0, 0, 0, 0, 0) 0))]) 9 (by kernel_rfl) (by kernel_rfl) (by kernel_rfl) (by kernel_rfl) (by kernel_rfl) [0, 1, 2] (by kernel_rfl) (by decide) (by decide) (aF 0 8 (by decide) ?_ (aF 1 7 (by decide) ?_ (aF 2 6 (by decide) ?_ (aN 3 5 (by decide) ?_ (aN 4 4 (by decide) ?_ (aN 5 3 (by decide) ?_ (aB 6 2 3 (by decide) (aB 7 1 3 (by decide) (aB 8 0 3 (by decide) (trivial)))))))))) [] (fun q hq => by cases hq) (fun hY => absurd (hY 3 (by decide)) (by decide))
    · refine fI 77 (gv_api_Rates (api_Rates.mk (o4, o5, o6, o7, o8, o9, o10, o11, o12, o13, o14) (0, 0, 0, 0, 0, 0, 0, 0, 0, 0, 0) 0)) [(1, .pointer (some ⟨b3, 0, none⟩))] 0 [none] rfl rfl rfl rfl rfl rfl fun G a w S => ?_
      refine sLoadN (p := b3) (off := 0) (T := 44) (vs := (gl_api_Rates (api_Rates.mk (o4, o5, o6, o7, o8, o9, o10, o11, o12, o13, o14) (0, 0, 0, 0, 0, 0, 0, 0, 0, 0, 0) 0))) 5 (gl_api_Rates (api_Rates.mk (o4, o5, o6, o7, o8, o9, o10, o11, o12, o13, o14) (0, 0, 0, 0, 0, 0, 0, 0, 0, 0, 0) 0)) S (wN rfl) rfl rfl rfl rfl rfl rfl rfl (lb rfl) fun a S => ?_
      exact leafL ⟨rfl, S⟩
    · refine fI 78 (gv_api_Rates (api_Rates.mk (o4, o5, o6, o7, o8, o9, o10, o11, o12, o13, o14) (0, 0, 0, 0, 0, 0, 0, 0, 0, 0, 0) 0)) [(1, .pointer (some ⟨b3, 0, none⟩))] 1 [none] rfl rfl rfl rfl rfl rfl fun G a w S => ?_
      refine sLoadN (p := b3) (off := 0) (T := 44) (vs := (gl_api_Rates (api_Rates.mk (o4, o5, o6, o7, o8, o9, o10, o11, o12, o13, o14) (0, 0, 0, 0, 0, 0, 0, 0, 0, 0, 0) 0))) 5 (gl_api_Rates (api_Rates.mk (o4, o5, o6, o7, o8, o9, o10, o11, o12, o13, o14) (0, 0, 0, 0, 0, 0, 0, 0, 0, 0, 0) 0)) S (wN rfl) rfl rfl rfl rfl rfl rfl rfl (lb rfl) fun a S => ?_
      exact leafL ⟨rfl, S⟩
    · refine fI 79 (gv_api_Rates (api_Rates.mk (o4, o5, o6, o7, o8, o9, o10, o11, o12, o13, o14) (0, 0, 0, 0, 0, 0, 0, 0, 0, 0, 0) 0)) [(1, .pointer (some ⟨b3, 0, none⟩))] 2 [none] rfl rfl rfl rfl rfl rfl fun G a w S => ?_
      refine sLoadN (p := b3) (off := 0) (T := 44) (vs := (gl_api_Rates (api_Rates.mk (o4, o5, o6, o7, o8, o9, o10, o11, o12, o13, o14) (0, 0, 0, 0, 0, 0, 0, 0, 0, 0, 0) 0))) 5 (gl_api_Rates (api_Rates.mk (o4, o5, o6, o7, o8, o9, o10, o11, o12, o13, o14) (0, 0, 0, 0, 0, 0, 0, 0, 0, 0, 0) 0)) S (wN rfl) rfl rfl rfl rfl rfl rfl rfl (lb rfl) fun a S => ?_
      exact leafL ⟨rfl, S⟩
    · refine ⟨_, [], rfl, (srcs_of [] rfl rfl rfl), fun G a w S => ?_⟩
      refine sAlloc (gv_api_Rates (api_Rates.mk (0, 0, 0, 0, 0, 0, 0, 0, 0, 0, 0) (0, 0, 0, 0, 0, 0, 0, 0, 0, 0, 0) 0)) S (wN rfl) rfl rfl (gl_api_Rates (api_Rates.mk (0, 0, 0, 0, 0, 0, 0, 0, 0, 0, 0) (0, 0, 0, 0, 0, 0, 0, 0, 0, 0, 0) 0)) rfl rfl (lb rfl) fun a b92 w S => ?_
      refine leafL ⟨rfl, _, _, .inl ⟨13, (.pointer (some ⟨b92, 0, none⟩)), [], rfl, S, hz_of rfl, ?_⟩⟩
      refine node_by (A := anc_raddlelaw45_CostNames_0) (nf := [3, 4, 5, 6, 7, 8]) (Y := [3]) 9 (by kernel_rfl) (by kernel_rfl) (by kernel_rfl) (by kernel_rfl) (by kernel_rfl) [3, 0, 1, 2] (by kernel_rfl) (by decide) (by decide) (aF 0 8 (by decide) ?_ (aF 1 7 (by decide) ?_ (aF 2 6 (by decide) ?_ (aY 3 5 (by decide) (aN 4 4 (by decide) ?_ (aN 5 3 (by decide) ?_ (aB 6 2 4 (by decide) (aB 7 1 4 (by decide) (aB 8 0 4 (by decide) (trivial)))))))))) [] (fun q hq => by cases hq) (fun hY => absurd (hY 4 (by decide)) (by decide))
      · refine fI 77 (gv_api_Rates (api_Rates.mk (o4, o5, o6, o7, o8, o9, o10, o11, o12, o13, o14) (0, 0, 0, 0, 0, 0, 0, 0, 0, 0, 0) 0)) [(1, .pointer (some ⟨b3, 0, none⟩))] 1 [none] rfl rfl rfl rfl rfl rfl fun G a w S => ?_
        refine sLoadN (p := b3) (off := 0) (T := 44) (vs := (gl_api_Rates (api_Rates.mk (o4, o5, o6, o7, o8, o9, o10, o11, o12, o13, o14) (0, 0, 0, 0, 0, 0, 0, 0, 0, 0, 0) 0))) 6 (gl_api_Rates (api_Rates.mk (o4, o5, o6, o7, o8, o9, o10, o11, o12, o13, o14) (0, 0, 0, 0, 0, 0, 0, 0, 0, 0, 0) 0)) S (wN rfl) rfl rfl rfl rfl rfl rfl rfl (lb rfl) fun a S => ?_
        exact leafL ⟨rfl, S⟩
      · refine fI 78 (gv_api_Rates (api_Rates.mk (o4, o5, o6, o7, o8, o9, o10, o11, o12, o13, o14) (0, 0, 0, 0, 0, 0, 0, 0, 0, 0, 0) 0)) [(1, .pointer (some ⟨b3, 0, none⟩))] 2 [none] rfl rfl rfl rfl rfl rfl fun G a w S => ?_
        refine sLoadN (p := b3) (off := 0) (T := 44) (vs := (gl_api_Rates (api_Rates.mk (o4, o5, o6, o7, o8, o9, o10, o11, o12, o13, o14) (0, 0, 0, 0, 0, 0, 0, 0, 0, 0, 0) 0))) 6 (gl_api_Rates (api_Rates.mk (o4, o5, o6, o7, o8, o9, o10, o11, o12, o13, o14) (0, 0, 0, 0, 0, 0, 0, 0, 0, 0, 0) 0)) S (wN rfl) rfl rfl rfl rfl rfl rfl rfl (lb rfl) fun a S => ?_
        exact leafL ⟨rfl, S⟩
      · refine fI 79 (gv_api_Rates (api_Rates.mk (o4, o5, o6, o7, o8, o9, o10, o11, o12, o13, o14) (0, 0, 0, 0, 0, 0, 0, 0, 0, 0, 0) 0)) [(1, .pointer (some ⟨b3, 0, none⟩))] 3 [none] rfl rfl rfl rfl rfl rfl fun G a w S => ?_
        refine sLoadN (p := b3) (off := 0) (T := 44) (vs := (gl_api_Rates (api_Rates.mk (o4, o5, o6, o7, o8, o9, o10, o11, o12, o13, o14) (0, 0, 0, 0, 0, 0, 0, 0, 0, 0, 0) 0))) 6 (gl_api_Rates (api_Rates.mk (o4, o5, o6, o7, o8, o9, o10, o11, o12, o13, o14) (0, 0, 0, 0, 0, 0, 0, 0, 0, 0, 0) 0)) S (wN rfl) rfl rfl rfl rfl rfl rfl rfl (lb rfl) fun a S => ?_
        exact leafL ⟨rfl, S⟩
      · refine ⟨_, [], rfl, (srcs_of [] rfl rfl rfl), fun G a w S => ?_⟩
        refine sAlloc (gv_api_Rates (api_Rates.mk (0, 0, 0, 0, 0, 0, 0, 0, 0, 0, 0) (0, 0, 0, 0, 0, 0, 0, 0, 0, 0, 0) 0)) S (wN rfl) rfl rfl (gl_api_Rates (api_Rates.mk (0, 0, 0, 0, 0, 0, 0, 0, 0, 0, 0) (0, 0, 0, 0, 0, 0, 0, 0, 0, 0, 0) 0)) rfl rfl (lb rfl) fun a b93 w S => ?_
        refine leafL ⟨rfl, _, _, .inl ⟨14, (.pointer (some ⟨b93, 0, none⟩)), [], rfl, S, hz_of rfl, ?_⟩⟩
        refine node_by (A := anc_raddlelaw45_CostNames_0) (nf := [3, 4, 5, 6, 7, 8]) (Y := [4, 3]) 9 (by kernel_rfl) (by kernel_rfl) (by kernel_rfl) (by kernel_rfl) (by kernel_rfl) [4, 3, 0, 1, 2] (by kernel_rfl) (by decide) (by decide) (aF 0 8 (by decide) ?_ (aF 1 7 (by decide) ?_ (aF 2 6 (by decide) ?_ (aY 3 5 (by decide) (aY 4 4 (by decide) (aN 5 3 (by decide) ?_ (aB 6 2 5 (by decide) (aB 7 1 5 (by decide) (aB 8 0 5 (by decide) (trivial)))))))))) [] (fun q hq => by cases hq) (fun hY => absurd (hY 5 (by decide)) (by decide))
        · refine fI 77 (gv_api_Rates (api_Rates.mk (o4, o5, o6, o7, o8, o9, o10, o11, o12, o13, o14) (0, 0, 0, 0, 0, 0, 0, 0, 0, 0, 0) 0)) [(1, .pointer (some ⟨b3, 0, none⟩))] 2 [none] rfl rfl rfl rfl rfl rfl fun G a w S => ?_
          refine sLoadN (p := b3) (off := 0) (T := 44) (vs := (gl_api_Rates (api_Rates.mk (o4, o5, o6, o7, o8, o9, o10, o11, o12, o13, o14) (0, 0, 0, 0, 0, 0, 0, 0, 0, 0, 0) 0))) 7 (gl_api_Rates (api_Rates.mk (o4, o5, o6, o7, o8, o9, o10, o11, o12, o13, o14) (0, 0, 0, 0, 0, 0, 0, 0, 0, 0, 0) 0)) S (wN rfl) rfl rfl rfl rfl rfl rfl rfl (lb rfl) fun a S => ?_
          exact leafL ⟨rfl, S⟩
        · refine fI 78 (gv_api_Rates (api_Rates.mk (o4, o5, o6, o7, o8, o9, o10, o11, o12, o13, o14) (0, 0, 0, 0, 0, 0, 0, 0, 0, 0, 0) 0)) [(1, .pointer (some ⟨b3, 0, none⟩))] 3 [none] rfl rfl rfl rfl rfl rfl fun G a w S => ?_
          refine sLoadN (p := b3) (off := 0) (T := 44) (vs := (gl_api_Rates (api_Rates.mk (o4, o5, o6, o7, o8, o9, o10, o11, o12, o13, o14) (0, 0, 0, 0, 0, 0, 0, 0, 0, 0, 0) 0))) 7 (gl_api_Rates (api_Rates.mk (o4, o5, o6, o7, o8, o9, o10, o11, o12, o13, o14) (0, 0, 0, 0, 0, 0, 0, 0, 0, 0, 0) 0)) S (wN rfl) rfl rfl rfl rfl rfl rfl rfl (lb rfl) fun a S => ?_
          exact leafL ⟨rfl, S⟩
        · refine fI 79 (gv_api_Rates (api_Rates.mk (o4, o5, o6, o7, o8, o9, o10, o11, o12, o13, o14) (0, 0, 0, 0, 0, 0, 0, 0, 0, 0, 0) 0)) [(1, .pointer (some ⟨b3, 0, none⟩))] 4 [none] rfl rfl rfl rfl rfl rfl fun G a w S => ?_
          refine sLoadN (p := b3) (off := 0) (T := 44) (vs := (gl_api_Rates (api_Rates.mk (o4, o5, o6, o7, o8, o9, o10, o11, o12, o13, o14) (0, 0, 0, 0, 0, 0, 0, 0, 0, 0, 0) 0))) 7 (gl_api_Rates (api_Rates.mk (o4, o5, o6, o7, o8, o9, o10, o11, o12, o13, o14) (0, 0, 0, 0, 0, 0, 0, 0, 0, 0, 0) 0)) S (wN rfl) rfl rfl rfl rfl rfl rfl rfl (lb rfl) fun a S => ?_
          exact leafL ⟨rfl, S⟩
        refine ⟨_, [], rfl, (srcs_of [] rfl rfl rfl), fun G a w S => ?_⟩
        refine sAlloc (gv_api_Rates (api_Rates.mk (0, 0, 0, 0, 0, 0, 0, 0, 0, 0, 0) (0, 0, 0, 0, 0, 0, 0, 0, 0, 0, 0) 0)) S (wN rfl) rfl rfl (gl_api_Rates (api_Rates.mk (0, 0, 0, 0, 0, 0, 0, 0, 0, 0, 0) (0, 0, 0, 0, 0, 0, 0, 0, 0, 0, 0) 0)) rfl rfl (lb rfl) fun a b94 w S => ?_
        refine leafL ⟨rfl, _, _, .inl ⟨15, (.pointer (some ⟨b94, 0, none⟩)), [], rfl, S, hz_of rfl, ?_⟩⟩
        refine node_by (A := anc_raddlelaw45_CostNames_0) (nf := [3, 4, 5, 6, 7, 8]) (Y := [5, 4, 3]) 9 (by kernel_rfl) (by kernel_rfl) (by kernel_rfl) (by kernel_rfl) (by kernel_rfl) [5, 4, 3, 0, 1, 2] (by kernel_rfl) (by decide) (by decide) (aF 0 8 (by decide) ?_ (aF 1 7 (by decide) ?_ (aF 2 6 (by decide) ?_ (aY 3 5 (by decide) (aY 4 4 (by decide) (aY 5 3 (by decide) (aN 6 2 (by decide) ?_ (aB 7 1 6 (by decide) (aB 8 0 6 (by decide) (trivial)))))))))) [] (fun q hq => by cases hq) (fun hY => absurd (hY 6 (by decide)) (by decide))
        · refine fI 77 (gv_api_Rates (api_Rates.mk (o4, o5, o6, o7, o8, o9, o10, o11, o12, o13, o14) (0, 0, 0, 0, 0, 0, 0, 0, 0, 0, 0) 0)) [(1, .pointer (some ⟨b3, 0, none⟩))] 3 [none] rfl rfl rfl rfl rfl rfl fun G a w S => ?_
          refine sLoadN (p := b3) (off := 0) (T := 44) (vs := (gl_api_Rates (api_Rates.mk (o4, o5, o6, o7, o8, o9, o10, o11, o12, o13, o14) (0, 0, 0, 0, 0, 0, 0, 0, 0, 0, 0) 0))) 8 (gl_api_Rates (api_Rates.mk (o4, o5, o6, o7, o8, o9, o10, o11, o12, o13, o14) (0, 0, 0, 0, 0, 0, 0, 0, 0, 0, 0) 0)) S (wN rfl) rfl rfl rfl rfl rfl rfl rfl (lb rfl) fun a S => ?_
          exact leafL ⟨rfl, S⟩
        · refine fI 78 (gv_api_Rates (api_Rates.mk (o4, o5, o6, o7, o8, o9, o10, o11, o12, o13, o14) (0, 0, 0, 0, 0, 0, 0, 0, 0, 0, 0) 0)) [(1, .pointer (some ⟨b3, 0, none⟩))] 4 [none] rfl rfl rfl rfl rfl rfl fun G a w S => ?_
          refine sLoadN (p := b3) (off := 0) (T := 44) (vs := (gl_api_Rates (api_Rates.mk (o4, o5, o6, o7, o8, o9, o10, o11, o12, o13, o14) (0, 0, 0, 0, 0, 0, 0, 0, 0, 0, 0) 0))) 8 (gl_api_Rates (api_Rates.mk (o4, o5, o6, o7, o8, o9, o10, o11, o12, o13, o14) (0, 0, 0, 0, 0, 0, 0, 0, 0, 0, 0) 0)) S (wN rfl) rfl rfl rfl rfl rfl rfl rfl (lb rfl) fun a S => ?_
          exact leafL ⟨rfl, S⟩
        · refine fI 79 (gv_api_Rates (api_Rates.mk (o4, o5, o6, o7, o8, o9, o10, o11, o12, o13, o14) (0, 0, 0, 0, 0, 0, 0, 0, 0, 0, 0) 0)) [(1, .pointer (some ⟨b3, 0, none⟩))] 5 [none] rfl rfl rfl rfl rfl rfl fun G a w S => ?_
          refine sLoadN (p := b3) (off := 0) (T := 44) (vs := (gl_api_Rates (api_Rates.mk (o4, o5, o6, o7, o8, o9, o10, o11, o12, o13, o14) (0, 0, 0, 0, 0, 0, 0, 0, 0, 0, 0) 0))) 8 (gl_api_Rates (api_Rates.mk (o4, o5, o6, o7, o8, o9, o10, o11, o12, o13, o14) (0, 0, 0, 0, 0, 0, 0, 0, 0, 0, 0) 0)) S (wN rfl) rfl rfl rfl rfl rfl rfl rfl (lb rfl) fun a S => ?_
          exact leafL ⟨rfl, S⟩
        refine ⟨_, [(13, .pointer (some ⟨b92, 0, none⟩)), (77, gv_api_Rates (api_Rates.mk (o4, o5, o6, o7, o8, o9, o10, o11, o12, o13, o14) (0, 0, 0, 0, 0, 0, 0, 0, 0, 0, 0) 0))], rfl, (srcs_of [some 2, some 3] rfl rfl rfl), fun G a w S => ?_⟩
        refine sStore (p := b92) (off := 0) (T := 44) (vs := [iv 0, iv 0, iv 0, iv 0, iv 0, iv 0, iv 0, iv 0, iv 0, iv 0, iv 0, iv 0, iv 0, iv 0, iv 0, iv 0, iv 0, iv 0, iv 0, iv 0, iv 0, iv 0, iv 0]) (v := gv_api_Rates (api_Rates.mk (o4, o5, o6, o7, o8, o9, o10, o11, o12, o13, o14) (0, 0, 0, 0, 0, 0, 0, 0, 0, 0, 0) 0)) 2 [iv o4, iv o5, iv o6, iv o7, iv o8, iv o9, iv o10, iv o11, iv o12, iv o13, iv o14, iv 0, iv 0, iv 0, iv 0, iv 0, iv 0, iv 0, iv 0, iv 0, iv 0, iv 0, iv 0] S (wN rfl) rfl rfl rfl rfl rfl rfl rfl (by simp) rfl fun a w S => ?_
        refine leafL ⟨rfl, _, _, .inr ⟨[], rfl, S, hz_of rfl, ?_⟩⟩
        refine node_by (A := anc_raddlelaw45_CostNames_0) (nf := [3, 4, 5, 6, 7, 8]) (Y := [6, 5, 4, 3]) 9 (by kernel_rfl) (by kernel_rfl) (by kernel_rfl) (by kernel_rfl) (by kernel_rfl) [5, 4, 3, 0, 1, 2] (by kernel_rfl) (by decide) (by decide) (aD 0 8 6 (by decide) (aF 1 7 (by decide) ?_ (aF 2 6 (by decide) ?_ (aY 3 5 (by decide) (aY 4 4 (by decide) (aY 5 3 (by decide) (aY 6 2 (by decide) (aN 7 1 (by decide) ?_ (aB 8 0 7 (by decide) (trivial)))))))))) [] (fun q hq => by cases hq) (fun hY => absurd (hY 7 (by decide)) (by decide))
        · refine fI 78 (gv_api_Rates (api_Rates.mk (o4, o5, o6, o7, o8, o9, o10, o11, o12, o13, o14) (0, 0, 0, 0, 0, 0, 0, 0, 0, 0, 0) 0)) [(1, .pointer (some ⟨b3, 0, none⟩))] 4 [none] rfl rfl rfl rfl rfl rfl fun G a w S => ?_
          refine sLoadN (p := b3) (off := 0) (T := 44) (vs := (gl_api_Rates (api_Rates.mk (o4, o5, o6, o7, o8, o9, o10, o11, o12, o13, o14) (0, 0, 0, 0, 0, 0, 0, 0, 0, 0, 0) 0))) 8 (gl_api_Rates (api_Rates.mk (o4, o5, o6, o7, o8, o9, o10, o11, o12, o13, o14) (0, 0, 0, 0, 0, 0, 0, 0, 0, 0, 0) 0)) S (wN rfl) rfl rfl rfl rfl rfl rfl rfl (lb rfl) fun a S => ?_
          exact leafL ⟨rfl, S⟩
        · refine fI 79 (gv_api_Rates (api_Rates.mk (o4, o5, o6, o7, o8, o9, o10, o11, o12, o13, o14) (0, 0, 0, 0, 0, 0, 0, 0, 0, 0, 0) 0)) [(1, .pointer (some ⟨b3, 0, none⟩))] 5 [none] rfl rfl rfl rfl rfl rfl fun G a w S => ?_
          refine sLoadN (p := b3) (off := 0) (T := 44) (vs := (gl_api_Rates (api_Rates.mk (o4, o5, o6, o7, o8, o9, o10, o11, o12, o13, o14) (0, 0, 0, 0, 0, 0, 0, 0, 0, 0, 0) 0))) 8 (gl_api_Rates (api_Rates.mk (o4, o5, o6, o7, o8, o9, o10, o11, o12, o13, o14) (0, 0, 0, 0, 0, 0, 0, 0, 0, 0, 0) 0)) S (wN rfl) rfl rfl rfl rfl rfl rfl rfl (lb rfl) fun a S => ?_
          exact leafL ⟨rfl, S⟩
        refine ⟨_, [(14, .pointer (some ⟨b93, 0, none⟩)), (78, gv_api_Rates (api_Rates.mk (o4, o5, o6, o7, o8, o9, o10, o11, o12, o13, o14) (0, 0, 0, 0, 0, 0, 0, 0, 0, 0, 0) 0))], rfl, (srcs_of [some 1, some 4] rfl rfl rfl), fun G a w S => ?_⟩
        refine sStore (p := b93) (off := 0) (T := 44) (vs := [iv 0, iv 0, iv 0, iv 0, iv 0, iv 0, iv 0, iv 0, iv 0, iv 0, iv 0, iv 0, iv 0, iv 0, iv 0, iv 0, iv 0, iv 0, iv 0, iv 0, iv 0, iv 0, iv 0]) (v := gv_api_Rates (api_Rates.mk (o4, o5, o6, o7, o8, o9, o10, o11, o12, o13, o14) (0, 0, 0, 0, 0, 0, 0, 0, 0, 0, 0) 0)) 2 [iv o4, iv o5, iv o6, iv o7, iv o8, iv o9, iv o10, iv o11, iv o12, iv o13, iv o14, iv 0, iv 0, iv 0, iv 0, iv 0, iv 0, iv 0, iv 0, iv 0, iv 0, iv 0, iv 0] S (wN rfl) rfl rfl rfl rfl rfl rfl rfl (by simp) rfl fun a w S => ?_
        refine leafL ⟨rfl, _, _, .inr ⟨[], rfl, S, hz_of rfl, ?_⟩⟩
        refine node_by (A := anc_raddlelaw45_CostNames_0) (nf := [3, 4, 5, 6, 7, 8]) (Y := [7, 6, 5, 4, 3]) 9 (by kernel_rfl) (by kernel_rfl) (by kernel_rfl) (by kernel_rfl) (by kernel_rfl) [5, 4, 3, 0, 1, 2] (by kernel_rfl) (by decide) (by decide) (aD 0 8 7 (by decide) (aD 1 7 7 (by decide) (aF 2 6 (by decide) ?_ (aY 3 5 (by decide) (aY 4 4 (by decide) (aY 5 3 (by decide) (aY 6 2 (by decide) (aY 7 1 (by decide) (aN 8 0 (by decide) ?_ (trivial)))))))))) [] (fun q hq => by cases hq) (fun hY => absurd (hY 8 (by decide)) (by decide))
        · refine fI 79 (gv_api_Rates (api_Rates.mk (o4, o5, o6, o7, o8, o9, o10, o11, o12, o13, o14) (0, 0, 0, 0, 0, 0, 0, 0, 0, 0, 0) 0)) [(1, .pointer (some ⟨b3, 0, none⟩))] 5 [none] rfl rfl rfl rfl rfl rfl fun G a w S => ?_
          refine sLoadN (p := b3) (off := 0) (T := 44) (vs := (gl_api_Rates (api_Rates.mk (o4, o5, o6, o7, o8, o9, o10, o11, o12, o13, o14) (0, 0, 0, 0, 0, 0, 0, 0, 0, 0, 0) 0))) 8 (gl_api_Rates (api_Rates.mk (o4, o5, o6, o7, o8, o9, o10, o11, o12, o13, o14) (0, 0, 0, 0, 0, 0, 0, 0, 0, 0, 0) 0)) S (wN rfl) rfl rfl rfl rfl rfl rfl rfl (lb rfl) fun a S => ?_
          exact leafL ⟨rfl, S⟩
        refine ⟨_, [(15, .pointer (some ⟨b94, 0, none⟩)), (79, gv_api_Rates (api_Rates.mk (o4, o5, o6, o7, o8, o9, o10, o11, o12, o13, o14) (0, 0, 0, 0, 0, 0, 0, 0, 0, 0, 0) 0))], rfl, (srcs_of [some 0, some 5] rfl rfl rfl), fun G a w S => ?_⟩
        refine sStore (p := b94) (off := 0) (T := 44) (vs := [iv 0, iv 0, iv 0, iv 0, iv 0, iv 0, iv 0, iv 0, iv 0, iv 0, iv 0, iv 0, iv 0, iv 0, iv 0, iv 0, iv 0, iv 0, iv 0, iv 0, iv 0, iv 0, iv 0]) (v := gv_api_Rates (api_Rates.mk (o4, o5, o6, o7, o8, o9, o10, o11, o12, o13, o14) (0, 0, 0, 0, 0, 0, 0, 0, 0, 0, 0) 0)) 2 [iv o4, iv o5, iv o6, iv o7, iv o8, iv o9, iv o10, iv o11, iv o12, iv o13, iv o14, iv 0, iv 0, iv 0, iv 0, iv 0, iv 0, iv 0, iv 0, iv 0, iv 0, iv 0, iv 0] S (wN rfl) rfl rfl rfl rfl rfl rfl rfl (by simp) rfl fun a w S => ?_
        refine leafL ⟨rfl, _, _, .inr ⟨[], rfl, S, hz_of rfl, ?_⟩⟩
        refine node_by (A := anc_raddlelaw45_CostNames_0) (nf := [3, 4, 5, 6, 7, 8]) (Y := [8, 7, 6, 5, 4, 3]) 9 (by kernel_rfl) (by kernel_rfl) (by kernel_rfl) (by kernel_rfl) (by kernel_rfl) [5, 4, 3, 0, 1, 2] (by kernel_rfl) (by decide) (by decide) (aD 0 8 8 (by decide) (aD 1 7 8 (by decide) (aD 2 6 8 (by decide) (aY 3 5 (by decide) (aY 4 4 (by decide) (aY 5 3 (by decide) (aY 6 2 (by decide) (aY 7 1 (by decide) (aY 8 0 (by decide) (trivial)))))))))) [(1, .pointer (some ⟨b3, 0, none⟩)), (3, .pointer (some ⟨b59, 0, none⟩)), (4, iv r52.2), (5, .pointer (some ⟨b64, 0, none⟩)), (6, iv r61.2), (7, .pointer (some ⟨b69, 0, none⟩)), (8, iv r66.2), (9, .pointer (some ⟨b77, 0, none⟩)), (10, iv r74.2), (11, .pointer (some ⟨b83, 0, none⟩)), (12, iv r80.2), (13, .pointer (some ⟨b92, 0, none⟩)), (14, .pointer (some ⟨b93, 0, none⟩)), (15, .pointer (some ⟨b94, 0, none⟩))] (fin_of [none, none, none, none, none, none, none, none, none, none, none, some 2, some 1, some 0] rfl (by kernel_rfl) (by kernel_rfl)) (fun _ a w S => ?_)
        exact leafT (⟨Option.some.inj h, b92, b93, b94, S.fix [8, 7, 6, 5, 4, 3, 2, 1, 0] [10] (by decide) rfl rfl rfl⟩)
      refine ⟨_, [], rfl, (srcs_of [] rfl rfl rfl), fun G a w S => ?_⟩
      refine sAlloc (gv_api_Rates (api_Rates.mk (0, 0, 0, 0, 0, 0, 0, 0, 0, 0, 0) (0, 0, 0, 0, 0, 0, 0, 0, 0, 0, 0) 0)) S (wN rfl) rfl rfl (gl_api_Rates (api_Rates.mk (0, 0, 0, 0, 0, 0, 0, 0, 0, 0, 0) (0, 0, 0, 0, 0, 0, 0, 0, 0, 0, 0) 0)) rfl rfl (lb rfl) fun a b95 w S => ?_
      refine leafL ⟨rfl, _, _, .inl ⟨15, (.pointer (some ⟨b95, 0, none⟩)), [], rfl, S, hz_of rfl, ?_⟩⟩
      refine node_by (A := anc_raddlelaw45_CostNames_0) (nf := [3, 4, 5, 6, 7, 8]) (Y := [5, 3]) 9 (by kernel_rfl) (by kernel_rfl) (by kernel_rfl) (by kernel_rfl) (by kernel_rfl) [5, 3, 0, 1, 2] (by kernel_rfl) (by decide) (by decide) (aF 0 8 (by decide) ?_ (aF 1 7 (by decide) ?_ (aF 2 6 (by decide) ?_ (aY 3 5 (by decide) (aN 4 4 (by decide) ?_ (aY 5 3 (by decide) (aB 6 2 4 (by decide) (aB 7 1 4 (by decide) (aB 8 0 4 (by decide) (trivial)))))))))) [] (fun q hq => by cases hq) (fun hY => absurd (hY 4 (by decide)) (by decide))
      · refine fI 77 (gv_api_Rates (api_Rates.mk (o4, o5, o6, o7, o8, o9, o10, o11, o12, o13, o14) (0, 0, 0, 0, 0, 0, 0, 0, 0, 0, 0) 0)) [(1, .pointer (some ⟨b3, 0, none⟩))] 2 [none] rfl rfl rfl rfl rfl rfl fun G a w S => ?_
        refine sLoadN (p := b3) (off := 0) (T := 44) (vs := (gl_api_Rates (api_Rates.mk (o4, o5, o6, o7, o8, o9, o10, o11, o12, o13, o14) (0, 0, 0, 0, 0, 0, 0, 0, 0, 0, 0) 0))) 7 (gl_api_Rates (api_Rates.mk (o4, o5, o6, o7, o8, o9, o10, o11, o12, o13, o14) (0, 0, 0, 0, 0, 0, 0, 0, 0, 0, 0) 0)) S (wN rfl) rfl rfl rfl rfl rfl rfl rfl (lb rfl) fun a S => ?_
        exact leafL ⟨rfl, S⟩
      · refine fI 78 (gv_api_Rates (api_Rates.mk (o4, o5, o6, o7, o8, o9, o10, o11, o12, o13, o14) (0, 0, 0, 0, 0, 0, 0, 0, 0, 0, 0) 0)) [(1, .pointer (some ⟨b3, 0, none⟩))] 3 [none] rfl rfl rfl rfl rfl rfl fun G a w S => ?_
        refine sLoadN (p := b3) (off := 0) (T := 44) (vs := (gl_api_Rates (api_Rates.mk (o4, o5, o6, o7, o8, o9, o10, o11, o12, o13, o14) (0, 0, 0, 0, 0, 0, 0, 0, 0, 0, 0) 0))) 7 (gl_api_Rates (api_Rates.mk (o4, o5, o6, o7, o8, o9, o10, o11, o12, o13, o14) (0, 0, 0, 0, 0, 0, 0, 0, 0, 0, 0) 0)) S (wN rfl) rfl rfl rfl rfl rfl rfl rfl (lb rfl) fun a S => ?_
        exact leafL ⟨rfl, S⟩
      · refine fI 79 (gv_api_Rates (api_Rates.mk (o4, o5, o6, o7, o8, o9, o10, o11, o12, o13, o14) (0, 0, 0, 0, 0, 0, 0, 0, 0, 0, 0) 0)) [(1, .pointer (some ⟨b3, 0, none⟩))] 4 [none] rfl rfl rfl rfl rfl rfl fun G a w S => ?_
        refine sLoadN (p := b3) (off := 0) (T := 44) (vs := (gl_api_Rates (api_Rates.mk (o4, o5, o6, o7, o8, o9, o10, o11, o12, o13, o14) (0, 0, 0, 0, 0, 0, 0, 0, 0, 0, 0) 0))) 7 (gl_api_Rates (api_Rates.mk (o4, o5, o6, o7, o8, o9, o10, o11, o12, o13, o14) (0, 0, 0, 0, 0, 0, 0, 0, 0, 0, 0) 0)) S (wN rfl) rfl rfl rfl rfl rfl rfl rfl (lb rfl) fun a S => ?_
        exact leafL ⟨rfl, S⟩
      refine ⟨_, [], rfl, (srcs_of [] rfl rfl rfl), fun G a w S => ?_⟩
      refine sAlloc (gv_api_Rates (api_Rates.mk (0, 0, 0, 0, 0, 0, 0, 0, 0, 0, 0) (0, 0, 0, 0, 0, 0, 0, 0, 0, 0, 0) 0)) S (wN rfl) rfl rfl (gl_api_Rates (api_Rates.mk (0, 0, 0, 0, 0, 0, 0, 0, 0, 0, 0) (0, 0, 0, 0, 0, 0, 0, 0, 0, 0, 0) 0)) rfl rfl (lb rfl) fun a b96 w S => ?_
      refine leafL ⟨rfl, _, _, .inl ⟨14, (.pointer (some ⟨b96, 0, none⟩)), [], rfl, S, hz_of rfl, ?_⟩⟩
      refine node_by (A := anc_raddlelaw45_CostNames_0) (nf := [3, 4, 5, 6, 7, 8]) (Y := [4, 5, 3]) 9 (by kernel_rfl) (by kernel_rfl) (by kernel_rfl) (by kernel_rfl) (by kernel_rfl) [4, 5, 3, 0, 1, 2] (by kernel_rfl) (by decide) (by decide) (aF 0 8 (by decide) ?_ (aF 1 7 (by decide) ?_ (aF 2 6 (by decide) ?_ (aY 3 5 (by decide) (aY 4 4 (by decide) (aY 5 3 (by decide) (aN 6 2 (by decide) ?_ (aB 7 1 6 (by decide) (aB 8 0 6 (by decide) (trivial)))))))))) [] (fun q hq => by cases hq) (fun hY => absurd (hY 6 (by decide)) (by decide))
      · refine fI 77 (gv_api_Rates (api_Rates.mk (o4, o5, o6, o7, o8, o9, o10, o11, o12, o13, o14) (0, 0, 0, 0, 0, 0, 0, 0, 0, 0, 0) 0)) [(1, .pointer (some ⟨b3, 0, none⟩))] 3 [none] rfl rfl rfl rfl rfl rfl fun G a w S => ?_
        refine sLoadN (p := b3) (off := 0) (T := 44) (vs := (gl_api_Rates (api_Rates.mk (o4, o5, o6, o7, o8, o9, o10, o11, o12, o13, o14) (0, 0, 0, 0, 0, 0, 0, 0, 0, 0, 0) 0))) 8 (gl_api_Rates (api_Rates.mk (o4, o5, o6, o7, o8, o9, o10, o11, o12, o13, o14) (0, 0, 0, 0, 0, 0, 0, 0, 0, 0, 0) 0)) S (wN rfl) rfl rfl rfl rfl rfl rfl rfl (lb rfl) fun a S => ?_
        exact leafL ⟨rfl, S⟩
      · refine fI 78 (gv_api_Rates (api_Rates.mk (o4, o5, o6, o7, o8, o9, o10, o11, o12, o13, o14) (0, 0, 0, 0, 0, 0, 0, 0, 0, 0, 0) 0)) [(1, .pointer (some ⟨b3, 0, none⟩))] 4 [none] rfl rfl rfl rfl rfl rfl fun G a w S => ?_
        refine sLoadN (p := b3) (off := 0) (T := 44) (vs := (gl_api_Rates (api_Rates.mk (o4, o5, o6, o7, o8, o9, o10, o11, o12, o13, o14) (0, 0, 0, 0, 0, 0, 0, 0, 0, 0, 0) 0))) 8 (gl_api_Rates (api_Rates.mk (o4, o5, o6, o7, o8, o9, o10, o11, o12, o13, o14) (0, 0, 0, 0, 0, 0, 0, 0, 0, 0, 0) 0)) S (wN rfl) rfl rfl rfl rfl rfl rfl rfl (lb rfl) fun a S => ?_
        exact leafL ⟨rfl, S⟩
      · refine fI 79 (gv_api_Rates (api_Rates.mk (o4, o5, o6, o7, o8, o9, o10, o11, o12, o13, o14) (0, 0, 0, 0, 0, 0, 0, 0, 0, 0, 0) 0)) [(1, .pointer (some ⟨b3, 0, none⟩))] 5 [none] rfl rfl rfl rfl rfl rfl fun G a w S => ?_
        refine sLoadN (p := b3) (off := 0) (T := 44) (vs := (gl_api_Rates (api_Rates.mk (o4, o5, o6, o7, o8, o9, o10, o11, o12, o13, o14) (0, 0, 0, 0, 0, 0, 0, 0, 0, 0, 0) 0))) 8 (gl_api_Rates (api_Rates.mk (o4, o5, o6, o7, o8, o9, o10, o11, o12, o13, o14) (0, 0, 0, 0, 0, 0, 0, 0, 0, 0, 0) 0)) S (wN rfl) rfl rfl rfl rfl rfl rfl rfl (lb rfl) fun a S => ?_
        exact leafL ⟨rfl, S⟩
      refine ⟨_, [(13, .pointer (some ⟨b92, 0, none⟩)), (77, gv_api_Rates (api_Rates.mk (o4, o5, o6, o7, o8, o9, o10, o11, o12, o13, o14) (0, 0, 0, 0, 0, 0, 0, 0, 0, 0, 0) 0))], rfl, (srcs_of [some 2, some 3] rfl rfl rfl), fun G a w S => ?_⟩
      refine sStore (p := b92) (off := 0) (T := 44) (vs := [iv 0, iv 0, iv 0, iv 0, iv 0, iv 0, iv 0, iv 0, iv 0, iv 0, iv 0, iv 0, iv 0, iv 0, iv 0, iv 0, iv 0, iv 0, iv 0, iv 0, iv 0, iv 0, iv 0]) (v := gv_api_Rates (api_Rates.mk (o4, o5, o6, o7, o8, o9, o10, o11, o12, o13, o14) (0, 0, 0, 0, 0, 0, 0, 0, 0, 0, 0) 0)) 2 [iv o4, iv o5, iv o6, iv o7, iv o8, iv o9, iv o10, iv o11, iv o12, iv o13, iv o14, iv 0, iv 0, iv 0, iv 0, iv 0, iv 0, iv 0, iv 0, iv 0, iv 0, iv 0, iv 0] S (wN rfl) rfl rfl rfl rfl rfl rfl rfl (by simp) rfl fun a w S => ?_
      refine leafL ⟨rfl, _, _, .inr ⟨[], rfl, S, hz_of rfl, ?_⟩⟩
      refine node_by (A := anc_raddlelaw45_CostNames_0) (nf := [3, 4, 5, 6, 7, 8]) (Y := [6, 4, 5, 3]) 9 (by kernel_rfl) (by kernel_rfl) (by kernel_rfl) (by kernel_rfl) (by kernel_rfl) [4, 5, 3, 0, 1, 2] (by kernel_rfl) (by decide) (by decide) (aD 0 8 6 (by decide) (aF 1 7 (by decide) ?_ (aF 2 6 (by decide) ?_ (aY 3 5 (by decide) (aY 4 4 (by decide) (aY 5 3 (by decide) (aY 6 2 (by decide) (aN 7 1 (by decide) ?_ (aB 8 0 7 (by decide) (trivial)))))))))) [] (fun q hq => by cases hq) (fun hY => absurd (hY 7 (by decide)) (by decide))
      · refine fI 78 (gv_api_Rates (api_Rates.mk (o4, o5, o6, o7, o8, o9, o10, o11, o12, o13, o14) (0, 0, 0, 0, 0, 0, 0, 0, 0, 0, 0) 0)) [(1, .pointer (some ⟨b3, 0, none⟩))] 4 [none] rfl rfl rfl rfl rfl rfl fun G a w S => ?_
        refine sLoadN (p := b3) (off := 0) (T := 44) (vs := (gl_api_Rates (api_Rates.mk (o4, o5, o6, o7, o8, o9, o10, o11, o12, o13, o14) (0, 0, 0, 0, 0, 0, 0, 0, 0, 0, 0) 0))) 8 (gl_api_Rates (api_Rates.mk (o4, o5, o6, o7, o8, o9, o10, o11, o12, o13, o14) (0, 0, 0, 0, 0, 0, 0, 0, 0, 0, 0) 0)) S (wN rfl) rfl rfl rfl rfl rfl rfl rfl (lb rfl) fun a S => ?_
        exact leafL ⟨rfl, S⟩
      · refine fI 79 (gv_api_Rates (api_Rates.mk (o4, o5, o6, o7, o8, o9, o10, o11, o12, o13, o14) (0, 0, 0, 0, 0, 0, 0, 0, 0, 0, 0) 0)) [(1, .pointer (some ⟨b3, 0, none⟩))] 5 [none] rfl rfl rfl rfl rfl rfl fun G a w S => ?_
        refine sLoadN (p := b3) (off := 0) (T := 44) (vs := (gl_api_Rates (api_Rates.mk (o4, o5, o6, o7, o8, o9, o10, o11, o12, o13, o14) (0, 0, 0, 0, 0, 0, 0, 0, 0, 0, 0) 0))) 8 (gl_api_Rates (api_Rates.mk (o4, o5, o6, o7, o8, o9, o10, o11, o12, o13, o14) (0, 0, 0, 0, 0, 0, 0, 0, 0, 0, 0) 0)) S (wN rfl) rfl rfl rfl rfl rfl rfl rfl (lb rfl) fun a S => ?_
        exact leafL ⟨rfl, S⟩
      refine ⟨_, [(14, .pointer (some ⟨b96, 0, none⟩)), (78, gv_api_Rates (api_Rates.mk (o4, o5, o6, o7, o8, o9, o10, o11, o12, o13, o14) (0, 0, 0, 0, 0, 0, 0, 0, 0, 0, 0) 0))], rfl, (srcs_of [some 0, some 4] rfl rfl rfl), fun G a w S => ?_⟩
      refine sStore (p := b96) (off := 0) (T := 44) (vs := [iv 0, iv 0, iv 0, iv 0, iv 0, iv 0, iv 0, iv 0, iv 0, iv 0, iv 0, iv 0, iv 0, iv 0, iv 0, iv 0, iv 0, iv 0, iv 0, iv 0, iv 0, iv 0, iv 0]) (v := gv_api_Rates (api_Rates.mk (o4, o5, o6, o7, o8, o9, o10, o11, o12, o13, o14) (0, 0, 0, 0, 0, 0, 0, 0, 0, 0, 0) 0)) 1 [iv o4, iv o5, iv o6, iv o7, iv o8, iv o9, iv o10, iv o11, iv o12, iv o13, iv o14, iv 0, iv 0, iv 0, iv 0, iv 0, iv 0, iv 0, iv 0, iv 0, iv 0, iv 0, iv 0] S (wN rfl) rfl rfl rfl rfl rfl rfl rfl (by simp) rfl fun a w S => ?_
      refine leafL ⟨rfl, _, _, .inr ⟨[], rfl, S, hz_of rfl, ?_⟩⟩
      refine node_by (A := anc_raddlelaw45_CostNames_0) (nf := [3, 4, 5, 6, 7, 8]) (Y := [7, 6, 4, 5, 3]) 9 (by kernel_rfl) (by kernel_rfl) (by kernel_rfl) (by kernel_rfl) (by kernel_rfl) [4, 5, 3, 0, 1, 2] (by kernel_rfl) (by decide) (by decide) (aD 0 8 7 (by decide) (aD 1 7 7 (by decide) (aF 2 6 (by decide) ?_ (aY 3 5 (by decide) (aY 4 4 (by decide) (aY 5 3 (by decide) (aY 6 2 (by decide) (aY 7 1 (by decide) (aN 8 0 (by decide) ?_ (trivial)))))))))) [] (fun q hq => by cases hq) (fun hY => absurd (hY 8 (by decide)) (by decide))
      · refine fI 79 (gv_api_Rates (api_Rates.mk (o4, o5, o6, o7, o8, o9, o10, o11, o12, o13, o14) (0, 0, 0, 0, 0, 0, 0, 0, 0, 0, 0) 0)) [(1, .pointer (some ⟨b3, 0, none⟩))] 5 [none] rfl rfl rfl rfl rfl rfl fun G a w S => ?_
        refine sLoadN (p := b3) (off := 0) (T := 44) (vs := (gl_api_Rates (api_Rates.mk (o4, o5, o6, o7, o8, o9, o10, o11, o12, o13, o14) (0, 0, 0, 0, 0, 0, 0, 0, 0, 0, 0) 0))) 8 (gl_api_Rates (api_Rates.mk (o4, o5, o6, o7, o8, o9, o10, o11, o12, o13, o14) (0, 0, 0, 0, 0, 0, 0, 0, 0, 0, 0) 0)) S (wN rfl) rfl rfl rfl rfl rfl rfl rfl (lb rfl) fun a S => ?_
        exact leafL ⟨rfl, S⟩
      refine ⟨_, [(15, .pointer (some ⟨b95, 0, none⟩)), (79, gv_api_Rates (api_Rates.mk (o4, o5, o6, o7, o8, o9, o10, o11, o12, o13, o14) (0, 0, 0, 0, 0, 0, 0, 0, 0, 0, 0) 0))], rfl, (srcs_of [some 1, some 5] rfl rfl rfl), fun G a w S => ?_⟩
      refine sStore (p := b95) (off := 0) (T := 44) (vs := [iv 0, iv 0, iv 0, iv 0, iv 0, iv 0, iv 0, iv 0, iv 0, iv 0, iv 0, iv 0, iv 0, iv 0, iv 0, iv 0, iv 0, iv 0, iv 0, iv 0, iv 0, iv 0, iv 0]) (v := gv_api_Rates (api_Rates.mk (o4, o5, o6, o7, o8, o9, o10, o11, o12, o13, o14) (0, 0, 0, 0, 0, 0, 0, 0, 0, 0, 0) 0)) 2 [iv o4, iv o5, iv o6, iv o7, iv o8, iv o9, iv o10, iv o11, iv o12, iv o13, iv o14, iv 0, iv 0, iv 0, iv 0, iv 0, iv 0, iv 0, iv 0, iv 0, iv 0, iv 0, iv 0] S (wN rfl) rfl rfl rfl rfl rfl rfl rfl (by simp) rfl fun a w S => ?_
      refine leafL ⟨rfl, _, _, .inr ⟨[], rfl, S, hz_of rfl, ?_⟩⟩
      refine node_by (A := anc_raddlelaw45_CostNames_0) (nf := [3, 4, 5, 6, 7, 8]) (Y := [8, 7, 6, 4, 5, 3]) 9 (by kernel_rfl) (by kernel_rfl) (by kernel_rfl) (by kernel_rfl) (by kernel_rfl) [4, 5, 3, 0, 1, 2] (by kernel_rfl) (by decide) (by decide) (aD 0 8 8 (by decide) (aD 1 7 8 (by decide) (aD 2 6 8 (by decide) (aY 3 5 (by decide) (aY 4 4 (by decide) (aY 5 3 (by decide) (aY 6 2 (by decide) (aY 7 1 (by decide) (aY 8 0 (by decide) (trivial)))))))))) [(1, .pointer (some ⟨b3, 0, none⟩)), (3, .pointer (some ⟨b59, 0, none⟩)), (4, iv r52.2), (5, .pointer (some ⟨b64, 0, none⟩)), (6, iv r61.2), (7, .pointer (some ⟨b69, 0, none⟩)), (8, iv r66.2), (9, .pointer (some ⟨b77, 0, none⟩)), (10, iv r74.2), (11, .pointer (some ⟨b83, 0, none⟩)), (12, iv r80.2), (13, .pointer (some ⟨b92, 0, none⟩)), (14, .pointer (some ⟨b96, 0, none⟩)), (15, .pointer (some ⟨b95, 0, none⟩))] (fin_of [none, none, none, none, none, none, none, none, none, none, none, some 2, some 0, some 1] rfl (by kernel_rfl) (by kernel_rfl)) (fun _ a w S => ?_)
      exact leafT (⟨Option.some.inj h, b92, b96, b95, S.fix [8, 7, 6, 5, 4, 3, 2, 1, 0] [10] (by decide) rfl rfl rfl⟩)
    · refine ⟨_, [], rfl, (srcs_of [] rfl rfl rfl), fun G a w S => ?_⟩
      refine sAlloc (gv_api_Rates (api_Rates.mk (0, 0, 0, 0, 0, 0, 0, 0, 0, 0, 0) (0, 0, 0, 0, 0, 0, 0, 0, 0, 0, 0) 0)) S (wN rfl) rfl rfl (gl_api_Rates (api_Rates.mk (0, 0, 0, 0, 0, 0, 0, 0, 0, 0, 0) (0, 0, 0, 0, 0, 0, 0, 0, 0, 0, 0) 0)) rfl rfl (lb rfl) fun a b97 w S => ?_
      refine leafL ⟨rfl, _, _, .inl ⟨14, (.pointer (some ⟨b97, 0, none⟩)), [], rfl, S, hz_of rfl, ?_⟩⟩
      refine node_by (A := anc_raddlelaw45_CostNames_0) (nf := [3, 4, 5, 6, 7, 8]) (Y := [4]) 9 (by kernel_rfl) (by kernel_rfl) (by kernel_rfl) (by kernel_rfl) (by kernel_rfl) [4, 0, 1, 2] (by kernel_rfl) (by decide) (by decide) (aF 0 8 (by decide) ?_ (aF 1 7 (by decide) ?_ (aF 2 6 (by decide) ?_ (aN 3 5 (by decide) ?_ (aY 4 4 (by decide) (aN 5 3 (by decide) ?_ (aB 6 2 3 (by decide) (aB 7 1 3 (by decide) (aB 8 0 3 (by decide) (trivial)))))))))) [] (fun q hq => by cases hq) (fun hY => absurd (hY 3 (by decide)) (by decide))
      · refine fI 77 (gv_api_Rates (api_Rates.mk (o4, o5, o6, o7, o8, o9, o10, o11, o12, o13, o14) (0, 0, 0, 0, 0, 0, 0, 0, 0, 0, 0) 0)) [(1, .pointer (some ⟨b3, 0, none⟩))] 1 [none] rfl rfl rfl rfl rfl rfl fun G a w S => ?_
        refine sLoadN (p := b3) (off := 0) (T := 44) (vs := (gl_api_Rates (api_Rates.mk (o4, o5, o6, o7, o8, o9, o10, o11, o12, o13, o14) (0, 0, 0, 0, 0, 0, 0, 0, 0, 0, 0) 0))) 6 (gl_api_Rates (api_Rates.mk (o4, o5, o6, o7, o8, o9, o10, o11, o12, o13, o14) (0, 0, 0, 0, 0, 0, 0, 0, 0, 0, 0) 0)) S (wN rfl) rfl rfl rfl rfl rfl rfl rfl (lb rfl) fun a S => ?_
        exact leafL ⟨rfl, S⟩
      · refine fI 78 (gv_api_Rates (api_Rates.mk (o4, o5, o6, o7, o8, o9, o10, o11, o12, o13, o14) (0, 0, 0, 0, 0, 0, 0, 0, 0, 0, 0) 0)) [(1, .pointer (some ⟨b3, 0, none⟩))] 2 [none] rfl rfl rfl rfl rfl rfl fun G a w S => ?_
        refine sLoadN (p := b3) (off := 0) (T := 44) (vs := (gl_api_Rates (api_Rates.mk (o4, o5, o6, o7, o8, o9, o10, o11, o12, o13, o14) (0, 0, 0, 0, 0, 0, 0, 0, 0, 0, 0) 0))) 6 (gl_api_Rates (api_Rates.mk (o4, o5, o6, o7, o8, o9, o10, o11, o12, o13, o14) (0, 0, 0, 0, 0, 0, 0, 0, 0, 0, 0) 0)) S (wN rfl) rfl rfl rfl rfl rfl rfl rfl (lb rfl) fun a S => ?_
        exact leafL ⟨rfl, S⟩
      · refine fI 79 (gv_api_Rates (api_Rates.mk (o4, o5, o6, o7, o8, o9, o10, o11, o12, o13, o14) (0, 0, 0, 0, 0, 0, 0, 0, 0, 0, 0) 0)) [(1, .pointer (some ⟨b3, 0, none⟩))] 3 [none] rfl rfl rfl rfl rfl rfl fun G a w S => ?_
        refine sLoadN (p := b3) (off := 0) (T := 44) (vs := (gl_api_Rates (api_Rates.mk (o4, o5, o6, o7, o8, o9, o10, o11, o12, o13, o14) (0, 0, 0, 0, 0, 0, 0, 0, 0, 0, 0) 0))) 6 (gl_api_Rates (api_Rates.mk (o4, o5, o6, o7, o8, o9, o10, o11, o12, o13, o14) (0, 0, 0, 0, 0, 0, 0, 0, 0, 0, 0) 0)) S (wN rfl) rfl rfl rfl rfl rfl rfl rfl (lb rfl) fun a S => ?_
        exact leafL ⟨rfl, S⟩
      · refine ⟨_, [], rfl, (srcs_of [] rfl rfl rfl), fun G a w S => ?_⟩
        refine sAlloc (gv_api_Rates (api_Rates.mk (0, 0, 0, 0, 0, 0, 0, 0, 0, 0, 0) (0, 0, 0, 0, 0, 0, 0, 0, 0, 0, 0) 0)) S (wN rfl) rfl rfl (gl_api_Rates (api_Rates.mk (0, 0, 0, 0, 0, 0, 0, 0, 0, 0, 0) (0, 0, 0, 0, 0, 0, 0, 0, 0, 0, 0) 0)) rfl rfl (lb rfl) fun a b98 w S => ?_
        refine leafL ⟨rfl, _, _, .inl ⟨13, (.pointer (some ⟨b98, 0, none⟩)), [], rfl, S, hz_of rfl, ?_⟩⟩
        refine node_by (A := anc_raddlelaw45_CostNames_0) (nf := [3, 4, 5, 6, 7, 8]) (Y := [3, 4]) 9 (by kernel_rfl) (by kernel_rfl) (by kernel_rfl) (by kernel_rfl) (by kernel_rfl) [3, 4, 0, 1, 2] (by kernel_rfl) (by decide) (by decide) (aF 0 8 (by decide) ?_ (aF 1 7 (by decide) ?_ (aF 2 6 (by decide) ?_ (aY 3 5 (by decide) (aY 4 4 (by decide) (aN 5 3 (by decide) ?_ (aB 6 2 5 (by decide) (aB 7 1 5 (by decide) (aB 8 0 5 (by decide) (trivial)))))))))) [] (fun q hq => by cases hq) (fun hY => absurd (hY 5 (by decide)) (by decide))
        · refine fI 77 (gv_api_Rates (api_Rates.mk (o4, o5, o6, o7, o8, o9, o10, o11, o12, o13, o14) (0, 0, 0, 0, 0, 0, 0, 0, 0, 0, 0) 0)) [(1, .pointer (some ⟨b3, 0, none⟩))] 2 [none] rfl rfl rfl rfl rfl rfl fun G a w S => ?_
          refine sLoadN (p := b3) (off := 0) (T := 44) (vs := (gl_api_Rates (api_Rates.mk (o4, o5, o6, o7, o8, o9, o10, o11, o12, o13, o14) (0, 0, 0, 0, 0, 0, 0, 0, 0, 0, 0) 0))) 7 (gl_api_Rates (api_Rates.mk (o4, o5, o6, o7, o8, o9, o10, o11, o12, o13, o14) (0, 0, 0, 0, 0, 0, 0, 0, 0, 0, 0) 0)) S (wN rfl) rfl rfl rfl rfl rfl rfl rfl (lb rfl) fun a S => ?_
          exact leafL ⟨rfl, S⟩
        · refine fI 78 (gv_api_Rates (api_Rates.mk (o4, o5, o6, o7, o8, o9, o10, o11, o12, o13, o14) (0, 0, 0, 0, 0, 0, 0, 0, 0, 0, 0) 0)) [(1, .pointer (some ⟨b3, 0, none⟩))] 3 [none] rfl rfl rfl rfl rfl rfl fun G a w S => ?_
          refine sLoadN (p := b3) (off := 0) (T := 44) (vs := (gl_api_Rates (api_Rates.mk (o4, o5, o6, o7, o8, o9, o10, o11, o12, o13, o14) (0, 0, 0, 0, 0, 0, 0, 0, 0, 0, 0) 0))) 7 (gl_api_Rates (api_Rates.mk (o4, o5, o6, o7, o8, o9, o10, o11, o12, o13, o14) (0, 0, 0, 0, 0, 0, 0, 0, 0, 0, 0) 0)) S (wN rfl) rfl rfl rfl rfl rfl rfl rfl (lb rfl) fun a S => ?_
          exact leafL ⟨rfl, S⟩
        · refine fI 79 (gv_api_Rates (api_Rates.mk (o4, o5, o6, o7, o8, o9, o10, o11, o12, o13, o14) (0, 0, 0, 0, 0, 0, 0, 0, 0, 0, 0) 0)) [(1, .pointer (some ⟨b3, 0, none⟩))] 4 [none] rfl rfl rfl rfl rfl rfl fun G a w S => ?_
          refine sLoadN (p := b3) (off := 0) (T := 44) (vs := (gl_api_Rates (api_Rates.mk (o4, o5, o6, o7, o8, o9, o10, o11, o12, o13, o14) (0, 0, 0, 0, 0, 0, 0, 0, 0, 0, 0) 0))) 7 (gl_api_Rates (api_Rates.mk (o4, o5, o6, o7, o8, o9, o10, o11, o12, o13, o14) (0, 0, 0, 0, 0, 0, 0, 0, 0, 0, 0) 0)) S (wN rfl) rfl rfl rfl rfl rfl rfl rfl (lb rfl) fun a S => ?_
          exact leafL ⟨rfl, S⟩
        refine ⟨_, [], rfl, (srcs_of [] rfl rfl rfl), fun G a w S => ?_⟩
        refine sAlloc (gv_api_Rates (api_Rates.mk (0, 0, 0, 0, 0, 0, 0, 0, 0, 0, 0) (0, 0, 0, 0, 0, 0, 0, 0, 0, 0, 0) 0)) S (wN rfl) rfl rfl (gl_api_Rates (api_Rates.mk (0, 0, 0, 0, 0, 0, 0, 0, 0, 0, 0) (0, 0, 0, 0, 0, 0, 0, 0, 0, 0, 0) 0)) rfl rfl (lb rfl) fun a b99 w S => ?_
        refine leafL ⟨rfl, _, _, .inl ⟨15, (.pointer (some ⟨b99, 0, none⟩)), [], rfl, S, hz_of rfl, ?_⟩⟩
        refine node_by (A := anc_raddlelaw45_CostNames_0) (nf := [3, 4, 5, 6, 7, 8]) (Y := [5, 3, 4]) 9 (by kernel_rfl) (by kernel_rfl) (by kernel_rfl) (by kernel_rfl) (by kernel_rfl) [5, 3, 4, 0, 1, 2] (by kernel_rfl) (by decide) (by decide) (aF 0 8 (by decide) ?_ (aF 1 7 (by decide) ?_ (aF 2 6 (by decide) ?_ (aY 3 5 (by decide) (aY 4 4 (by decide) (aY 5 3 (by decide) (aN 6 2 (by decide) ?_ (aB 7 1 6 (by decide) (aB 8 0 6 (by decide) (trivial)))))))))) [] (fun q hq => by cases hq) (fun hY => absurd (hY 6 (by decide)) (by decide))
        · refine fI 77 (gv_api_Rates (api_Rates.mk (o4, o5, o6, o7, o8, o9, o10, o11, o12, o13, o14) (0, 0, 0, 0, 0, 0, 0, 0, 0, 0, 0) 0)) [(1, .pointer (some ⟨b3, 0, none⟩))] 3 [none] rfl rfl rfl rfl rfl rfl fun G a w S => ?_
          refine sLoadN (p := b3) (off := 0) (T := 44) (vs := (gl_api_Rates (api_Rates.mk (o4, o5, o6, o7, o8, o9, o10, o11, o12, o13, o14) (0, 0, 0, 0, 0, 0, 0, 0, 0, 0, 0) 0))) 8 (gl_api_Rates (api_Rates.mk (o4, o5, o6, o7, o8, o9, o10, o11, o12, o13, o14) (0, 0, 0, 0, 0, 0, 0, 0, 0, 0, 0) 0)) S (wN rfl) rfl rfl rfl rfl rfl rfl rfl (lb rfl) fun a S => ?_
          exact leafL ⟨rfl, S⟩
        · refine fI 78 (gv_api_Rates (api_Rates.mk (o4, o5, o6, o7, o8, o9, o10, o11, o12, o13, o14) (0, 0, 0, 0, 0, 0, 0, 0, 0, 0, 0) 0)) [(1, .pointer (some ⟨b3, 0, none⟩))] 4 [none] rfl rfl rfl rfl rfl rfl fun G a w S => ?_
          refine sLoadN (p := b3) (off := 0) (T := 44) (vs := (gl_api_Rates (api_Rates.mk (o4, o5, o6, o7, o8, o9, o10, o11, o12, o13, o14) (0, 0, 0, 0, 0, 0, 0, 0, 0, 0, 0) 0))) 8 (gl_api_Rates (api_Rates.mk (o4, o5, o6, o7, o8, o9, o10, o11, o12, o13, o14) (0, 0, 0, 0, 0, 0, 0, 0, 0, 0, 0) 0)) S (wN rfl) rfl rfl rfl rfl rfl rfl rfl (lb rfl) fun a S => ?_
          exact leafL ⟨rfl, S⟩
        · refine fI 79 (gv_api_Rates (api_Rates.mk (o4, o5, o6, o7, o8, o9, o10, o11, o12, o13, o14) (0, 0, 0, 0, 0, 0, 0, 0, 0, 0, 0) 0)) [(1, .pointer (some ⟨b3, 0, none⟩))] 5 [none] rfl rfl rfl rfl rfl rfl fun G a w S => ?_
          refine sLoadN (p := b3) (off := 0) (T := 44) (vs := (gl_api_Rates (api_Rates.mk (o4, o5, o6, o7, o8, o9, o10, o11, o12, o13, o14) (0, 0, 0, 0, 0, 0, 0, 0, 0, 0, 0) 0))) 8 (gl_api_Rates (api_Rates.mk (o4, o5, o6, o7, o8, o9, o10, o11, o12, o13, o14) (0, 0, 0, 0, 0, 0, 0, 0, 0, 0, 0) 0)) S (wN rfl) rfl rfl rfl rfl rfl rfl rfl (lb rfl) fun a S => ?_
          exact leafL ⟨rfl, S⟩
        refine ⟨_, [(13, .pointer (some ⟨b98, 0, none⟩)), (77, gv_api_Rates (api_Rates.mk (o4, o5, o6, o7, o8, o9, o10, o11, o12, o13, o14) (0, 0, 0, 0, 0, 0, 0, 0, 0, 0, 0) 0))], rfl, (srcs_of [some 1, some 3] rfl rfl rfl), fun G a w S => ?_⟩
        refine sStore (p := b98) (off := 0) (T := 44) (vs := [iv 0, iv 0, iv 0, iv 0, iv 0, iv 0, iv 0, iv 0, iv 0, iv 0, iv 0, iv 0, iv 0, iv 0, iv 0, iv 0, iv 0, iv 0, iv 0, iv 0, iv 0, iv 0, iv 0]) (v := gv_api_Rates (api_Rates.mk (o4, o5, o6, o7, o8, o9, o10, o11, o12, o13, o14) (0, 0, 0, 0, 0, 0, 0, 0, 0, 0, 0) 0)) 1 [iv o4, iv o5, iv o6, iv o7, iv o8, iv o9, iv o10, iv o11, iv o12, iv o13, iv o14, iv 0, iv 0, iv 0, iv 0, iv 0, iv 0, iv 0, iv 0, iv 0, iv 0, iv 0, iv 0] S (wN rfl) rfl rfl rfl rfl rfl rfl rfl (by simp) rfl fun a w S => ?_
        refine leafL ⟨rfl, _, _, .inr ⟨[], rfl, S, hz_of rfl, ?_⟩⟩
        refine node_by (A := anc_raddlelaw45_CostNames_0) (nf := [3, 4, 5, 6, 7, 8]) (Y := [6, 5, 3, 4]) 9 (by kernel_rfl) (by kernel_rfl) (by kernel_rfl) (by kernel_rfl) (by kernel_rfl) [5, 3, 4, 0, 1, 2] (by kernel_rfl) (by decide) (by decide) (aD 0 8 6 (by decide) (aF 1 7 (by decide) ?_ (aF 2 6 (by decide) ?_ (aY 3 5 (by decide) (aY 4 4 (by decide) (aY 5 3 (by decide) (aY 6 2 (by decide) (aN 7 1 (by decide) ?_ (aB 8 0 7 (by decide) (trivial)))))))))) [] (fun q hq => by cases hq) (fun hY => absurd (hY 7 (by decide)) (by decide))
        · refine fI 78 (gv_api_Rates (api_Rates.mk (o4, o5, o6, o7, o8, o9, o10, o11, o12, o13, o14) (0, 0, 0, 0, 0, 0, 0, 0, 0, 0, 0) 0)) [(1, .pointer (some ⟨b3, 0, none⟩))] 4 [none] rfl rfl rfl rfl rfl rfl fun G a w S => ?_
          refine sLoadN (p := b3) (off := 0) (T := 44) (vs := (gl_api_Rates (api_Rates.mk (o4, o5, o6, o7, o8, o9, o10, o11, o12, o13, o14) (0, 0, 0, 0, 0, 0, 0, 0, 0, 0, 0) 0))) 8 (gl_api_Rates (api_Rates.mk (o4, o5, o6, o7, o8, o9, o10, o11, o12, o13, o14) (0, 0, 0, 0, 0, 0, 0, 0, 0, 0, 0) 0)) S (wN rfl) rfl rfl rfl rfl rfl rfl rfl (lb rfl) fun a S => ?_
          exact leafL ⟨rfl, S⟩
        · refine fI 79 (gv_api_Rates (api_Rates.mk (o4, o5, o6, o7, o8, o9, o10, o11, o12, o13, o14) (0, 0, 0, 0, 0, 0, 0, 0, 0, 0, 0) 0)) [(1, .pointer (some ⟨b3, 0, none⟩))] 5 [none] rfl rfl rfl rfl rfl rfl fun G a w S => ?_
          refine sLoadN (p := b3) (off := 0) (T := 44) (vs := (gl_api_Rates (api_Rates.mk (o4, o5, o6, o7, o8, o9, o10, o11, o12, o13, o14) (0, 0, 0, 0, 0, 0, 0, 0, 0, 0, 0) 0))) 8 (gl_api_Rates (api_Rates.mk (o4, o5, o6, o7, o8, o9, o10, o11, o12, o13, o14) (0, 0, 0, 0, 0, 0, 0, 0, 0, 0, 0) 0)) S (wN rfl) rfl rfl rfl rfl rfl rfl rfl (lb rfl) fun a S => ?_
          exact leafL ⟨rfl, S⟩
        refine ⟨_, [(14, .pointer (some ⟨b97, 0, none⟩)), (78, gv_api_Rates (api_Rates.mk (o4, o5, o6, o7, o8, o9, o10, o11, o12, o13, o14) (0, 0, 0, 0, 0, 0, 0, 0, 0, 0, 0) 0))], rfl, (srcs_of [some 2, some 4] rfl rfl rfl), fun G a w S => ?_⟩
        refine sStore (p := b97) (off := 0) (T := 44) (vs := [iv 0, iv 0, iv 0, iv 0, iv 0, iv 0, iv 0, iv 0, iv 0, iv 0, iv 0, iv 0, iv 0, iv 0, iv 0, iv 0, iv 0, iv 0, iv 0, iv 0, iv 0, iv 0, iv 0]) (v := gv_api_Rates (api_Rates.mk (o4, o5, o6, o7, o8, o9, o10, o11, o12, o13, o14) (0, 0, 0, 0, 0, 0, 0, 0, 0, 0, 0) 0)) 2 [iv o4, iv o5, iv o6, iv o7, iv o8, iv o9, iv o10, iv o11, iv o12, iv o13, iv o14, iv 0, iv 0, iv 0, iv 0, iv 0, iv 0, iv 0, iv 0, iv 0, iv 0, iv 0, iv 0] S (wN rfl) rfl rfl rfl rfl rfl rfl rfl (by simp) rfl fun a w S => ?_
        refine leafL ⟨rfl, _, _, .inr ⟨[], rfl, S, hz_of rfl, ?_⟩⟩
        refine node_by (A := anc_raddlelaw45_CostNames_0) (nf := [3, 4, 5, 6, 7, 8]) (Y := [7, 6, 5, 3, 4]) 9 (by kernel_rfl) (by kernel_rfl) (by kernel_rfl) (by kernel_rfl) (by kernel_rfl) [5, 3, 4, 0, 1, 2] (by kernel_rfl) (by decide) (by decide) (aD 0 8 7 (by decide) (aD 1 7 7 (by decide) (aF 2 6 (by decide) ?_ (aY 3 5 (by decide) (aY 4 4 (by decide) (aY 5 3 (by decide) (aY 6 2 (by decide) (aY 7 1 (by decide) (aN 8 0 (by decide) ?_ (trivial)))))))))) [] (fun q hq => by cases hq) (fun hY => absurd (hY 8 (by decide)) (by decide))
        · refine fI 79 (gv_api_Rates (api_Rates.mk (o4, o5, o6, o7, o8, o9, o10, o11, o12, o13, o14) (0, 0, 0, 0, 0, 0, 0, 0, 0, 0, 0) 0)) [(1, .pointer (some ⟨b3, 0, none⟩))] 5 [none] rfl rfl rfl rfl rfl rfl fun G a w S => ?_
          refine sLoadN (p := b3) (off := 0) (T := 44) (vs := (gl_api_Rates (api_Rates.mk (o4, o5, o6, o7, o8, o9, o10, o11, o12, o13, o14) (0, 0, 0, 0, 0, 0, 0, 0, 0, 0, 0) 0))) 8 (gl_api_Rates (api_Rates.mk (o4, o5, o6, o7, o8, o9, o10, o11, o12, o13, o14) (0, 0, 0, 0, 0, 0, 0, 0, 0, 0, 0) 0)) S (wN rfl) rfl rfl rfl rfl rfl rfl rfl (lb rfl) fun a S => ?_
          exact leafL ⟨rfl, S⟩
        refine ⟨_, [(15, .pointer (some ⟨b99, 0, none⟩)), (79, gv_api_Rates (api_Rates.mk (o4, o5, o6, o7, o8, o9, o10, o11, o12, o13, o14) (0, 0, 0, 0, 0, 0, 0, 0, 0, 0, 0) 0))], rfl, (srcs_of [some 0, some 5] rfl rfl rfl), fun G a w S => ?_⟩
        refine sStore (p := b99) (off := 0) (T := 44) (vs := [iv 0, iv 0, iv 0, iv 0, iv 0, iv 0, iv 0, iv 0, iv 0, iv 0, iv 0, iv 0, iv 0, iv 0, iv 0, iv 0, iv 0, iv 0, iv 0, iv 0, iv 0, iv 0, iv 0]) (v := gv_api_Rates (api_Rates.mk (o4, o5, o6, o7, o8, o9, o10, o11, o12, o13, o14) (0, 0, 0, 0, 0, 0, 0, 0, 0, 0, 0) 0)) 2 [iv o4, iv o5, iv o6, iv o7, iv o8, iv o9, iv o10, iv o11, iv o12, iv o13, iv o14, iv 0, iv 0, iv 0, iv 0, iv 0, iv 0, iv 0, iv 0, iv 0, iv 0, iv 0, iv 0] S (wN rfl) rfl rfl rfl rfl rfl rfl rfl (by simp) rfl fun a w S => ?_
        refine leafL ⟨rfl, _, _, .inr ⟨[], rfl, S, hz_of rfl, ?_⟩⟩
        refine node_by (A := anc_raddlelaw45_CostNames_0) (nf := [3, 4, 5, 6, 7, 8]) (Y := [8, 7, 6, 5, 3, 4]) 9 (by kernel_rfl) (by kernel_rfl) (by kernel_rfl) (by kernel_rfl) (by kernel_rfl) [5, 3, 4, 0, 1, 2] (by kernel_rfl) (by decide) (by decide) (aD 0 8 8 (by decide) (aD 1 7 8 (by decide) (aD 2 6 8 (by decide) (aY 3 5 (by decide) (aY 4 4 (by decide) (aY 5 3 (by decide) (aY 6 2 (by decide) (aY 7 1 (by decide) (aY 8 0 (by decide) (trivial)))))))))) [(1, .pointer (some ⟨b3, 0, none⟩)), (3, .pointer (some ⟨b59, 0, none⟩)), (4, iv r52.2), (5, .pointer (some ⟨b64, 0, none⟩)), (6, iv r61.2), (7, .pointer (some ⟨b69, 0, none⟩)), (8, iv r66.2), (9, .pointer (some ⟨b77, 0, none⟩)), (10, iv r74.2), (11, .pointer (some ⟨b83, 0, none⟩)), (12, iv r80.2), (13, .pointer (some ⟨b98, 0, none⟩)), (14, .pointer (some ⟨b97, 0, none⟩)), (15, .pointer (some ⟨b99, 0, none⟩))] (fin_of [none, none, none, none, none, none, none, none, none, none, none, some 1, some 2, some 0] rfl (by kernel_rfl) (by kernel_rfl)) (fun _ a w S => ?_)
        exact leafT (⟨Option.some.inj h, b98, b97, b99, S.fix [8, 7, 6, 5, 4, 3, 2, 1, 0] [10] (by decide) rfl rfl rfl⟩)
      refine ⟨_, [], rfl, (srcs_of [] rfl rfl rfl), fun G a w S => ?_⟩
      refine sAlloc (gv_api_Rates (api_Rates.mk (0, 0, 0, 0, 0, 0, 0, 0, 0, 0, 0) (0, 0, 0, 0, 0, 0, 0, 0, 0, 0, 0) 0)) S (wN rfl) rfl rfl (gl_api_Rates (api_Rates.mk (0, 0, 0, 0, 0, 0, 0, 0, 0, 0, 0) (0, 0, 0, 0, 0, 0, 0, 0, 0, 0, 0) 0)) rfl rfl (lb rfl) fun a b100 w S => ?_
      refine leafL ⟨rfl, _, _, .inl ⟨15, (.pointer (some ⟨b100, 0, none⟩)), [], rfl, S, hz_of rfl, ?_⟩⟩
      refine node_by (A := anc_raddlelaw45_CostNames_0) (nf := [3, 4, 5, 6, 7, 8]) (Y := [5, 4]) 9 (by kernel_rfl) (by kernel_rfl) (by kernel_rfl) (by kernel_rfl) (by kernel_rfl) [5, 4, 0, 1, 2] (by kernel_rfl) (by decide) (by decide) (aF 0 8 (by decide) ?_ (aF 1 7 (by decide) ?_ (aF 2 6 (by decide) ?_ (aN 3 5 (by decide) ?_ (aY 4 4 (by decide) (aY 5 3 (by decide) (aB 6 2 3 (by decide) (aB 7 1 3 (by decide) (aB 8 0 3 (by decide) (trivial)))))))))) [] (fun q hq => by cases hq) (fun hY => absurd (hY 3 (by decide)) (by decide))
      · refine fI 77 (gv_api_Rates (api_Rates.mk (o4, o5, o6, o7, o8, o9, o10, o11, o12, o13, o14) (0, 0, 0, 0, 0, 0, 0, 0, 0, 0, 0) 0)) [(1, .pointer (some ⟨b3, 0, none⟩))] 2 [none] rfl rfl rfl rfl rfl rfl fun G a w S => ?_
        refine sLoadN (p := b3) (off := 0) (T := 44) (vs := (gl_api_Rates (api_Rates.mk (o4, o5, o6, o7, o8, o9, o10, o11, o12, o13, o14) (0, 0, 0, 0, 0, 0, 0, 0, 0, 0, 0) 0))) 7 (gl_api_Rates (api_Rates.mk (o4, o5, o6, o7, o8, o9, o10, o11, o12, o13, o14) (0, 0, 0, 0, 0, 0, 0, 0, 0, 0, 0) 0)) S (wN rfl) rfl rfl rfl rfl rfl rfl rfl (lb rfl) fun a S => ?_
        exact leafL ⟨rfl, S⟩
      · refine fI 78 (gv_api_Rates (api_Rates.mk (o4, o5, o6, o7, o8, o9, o10, o11, o12, o13, o14) (0, 0, 0, 0, 0, 0, 0, 0, 0, 0, 0) 0)) [(1, .pointer (some ⟨b3, 0, none⟩))] 3 [none] rfl rfl rfl rfl rfl rfl fun G a w S => ?_
        refine sLoadN (p := b3) (off := 0) (T := 44) (vs := (gl_api_Rates (api_Rates.mk (o4, o5, o6, o7, o8, o9, o10, o11, o12, o13, o14) (0, 0, 0, 0, 0, 0, 0, 0, 0, 0, 0) 0))) 7 (gl_api_Rates (api_Rates.mk (o4, o5, o6, o7, o8, o9, o10, o11, o12, o13, o14) (0, 0, 0, 0, 0, 0, 0, 0, 0, 0, 0) 0)) S (wN rfl) rfl rfl rfl rfl rfl rfl rfl (lb rfl) fun a S => ?_
        exact leafL ⟨rfl, S⟩
      · refine fI 79 (gv_api_Rates (api_Rates.mk (o4, o5, o6, o7, o8, o9, o10, o11, o12, o13, o14) (0, 0, 0, 0, 0, 0, 0, 0, 0, 0, 0) 0)) [(1, .pointer (some ⟨b3, 0, none⟩))] 4 [none] rfl rfl rfl rfl rfl rfl fun G a w S => ?_
        refine sLoadN (p := b3) (off := 0) (T := 44) (vs := (gl_api_Rates (api_Rates.mk (o4, o5, o6, o7, o8, o9, o10, o11, o12, o13, o14) (0, 0, 0, 0, 0, 0, 0, 0, 0, 0, 0) 0))) 7 (gl_api_Rates (api_Rates.mk (o4, o5, o6, o7, o8, o9, o10, o11, o12, o13, o14) (0, 0, 0, 0, 0, 0, 0, 0, 0, 0, 0) 0)) S (wN rfl) rfl rfl rfl rfl rfl rfl rfl (lb rfl) fun a S => ?_
        exact leafL ⟨rfl, S⟩
      refine ⟨_, [], rfl, (srcs_of [] rfl rfl rfl), fun G a w S => ?_⟩
      refine sAlloc (gv_api_Rates (api_Rates.mk (0, 0, 0, 0, 0, 0, 0, 0, 0, 0, 0) (0, 0, 0, 0, 0, 0, 0, 0, 0, 0, 0) 0)) S (wN rfl) rfl rfl (gl_api_Rates (api_Rates.mk (0, 0, 0, 0, 0, 0, 0, 0, 0, 0, 0) (0, 0, 0, 0, 0, 0, 0, 0, 0, 0, 0) 0)) rfl rfl (lb rfl) fun a b101 w S => ?_
      refine leafL ⟨rfl, _, _, .inl ⟨13, (.pointer (some ⟨b101, 0, none⟩)), [], rfl, S, hz_of rfl, ?_⟩⟩
      refine node_by (A := anc_raddlelaw45_CostNames_0) (nf := [3, 4, 5, 6, 7, 8]) (Y := [3, 5, 4]) 9 (by kernel_rfl) (by kernel_rfl) (by kernel_rfl) (by kernel_rfl) (by kernel_rfl) [3, 5, 4, 0, 1, 2] (by kernel_rfl) (by decide) (by decide) (aF 0 8 (by decide) ?_ (aF 1 7 (by decide) ?_ (aF 2 6 (by decide) ?_ (aY 3 5 (by decide) (aY 4 4 (by decide) (aY 5 3 (by decide) (aN 6 2 (by decide) ?_ (aB 7 1 6 (by decide) (aB 8 0 6 (by decide) (trivial)))))))))) [] (fun q hq => by cases hq) (fun hY => absurd (hY 6 (by decide)) (by decide))
      · refine fI 77 (gv_api_Rates (api_Rates.mk (o4, o5, o6, o7, o8, o9, o10, o11, o12, o13, o14) (0, 0, 0, 0, 0, 0, 0, 0, 0, 0, 0) 0)) [(1, .pointer (some ⟨b3, 0, none⟩))] 3 [none] rfl rfl rfl rfl rfl rfl fun G a w S => ?_
        refine sLoadN (p := b3) (off := 0) (T := 44) (vs := (gl_api_Rates (api_Rates.mk (o4, o5, o6, o7, o8, o9, o10, o11, o12, o13, o14) (0, 0, 0, 0, 0, 0, 0, 0, 0, 0, 0) 0))) 8 (gl_api_Rates (api_Rates.mk (o4, o5, o6, o7, o8, o9, o10, o11, o12, o13, o14) (0, 0, 0, 0, 0, 0, 0, 0, 0, 0, 0) 0)) S (wN rfl) rfl rfl rfl rfl rfl rfl rfl (lb rfl) fun a S => ?_
        exact leafL ⟨rfl, S⟩
      · refine fI 78 (gv_api_Rates (api_Rates.mk (o4, o5, o6, o7, o8, o9, o10, o11, o12, o13, o14) (0, 0, 0, 0, 0, 0, 0, 0, 0, 0, 0) 0)) [(1, .pointer (some ⟨b3, 0, none⟩))] 4 [none] rfl rfl rfl rfl rfl rfl fun G a w S => ?_
        refine sLoadN (p := b3) (off := 0) (T := 44) (vs := (gl_api_Rates (api_Rates.mk (o4, o5, o6, o7, o8, o9, o10, o11, o12, o13, o14) (0, 0, 0, 0, 0, 0, 0, 0, 0, 0, 0) 0))) 8 (gl_api_Rates (api_Rates.mk (o4, o5, o6, o7, o8, o9, o10, o11, o12, o13, o14) (0, 0, 0, 0, 0, 0, 0, 0, 0, 0, 0) 0)) S (wN rfl) rfl rfl rfl rfl rfl rfl rfl (lb rfl) fun a S => ?_
        exact leafL ⟨rfl, S⟩
      · refine fI 79 (gv_api_Rates (api_Rates.mk (o4, o5, o6, o7, o8, o9, o10, o11, o12, o13, o14) (0, 0, 0, 0, 0, 0, 0, 0, 0, 0, 0) 0)) [(1, .pointer (some ⟨b3, 0, none⟩))] 5 [none] rfl rfl rfl rfl rfl rfl fun G a w S => ?_
        refine sLoadN (p := b3) (off := 0) (T := 44) (vs := (gl_api_Rates (api_Rates.mk (o4, o5, o6, o7, o8, o9, o10, o11, o12, o13, o14) (0, 0, 0, 0, 0, 0, 0, 0, 0, 0, 0) 0))) 8 (gl_api_Rates (api_Rates.mk (o4, o5, o6, o7, o8, o9, o10, o11, o12, o13, o14) (0, 0, 0, 0, 0, 0, 0, 0, 0, 0, 0) 0)) S (wN rfl) rfl rfl rfl rfl rfl rfl rfl (lb rfl) fun a S => ?_
        exact leafL ⟨rfl, S⟩
      refine ⟨_, [(13, .pointer (some ⟨b101, 0, none⟩)), (77, gv_api_Rates (api_Rates.mk (o4, o5, o6, o7, o8, o9, o10, o11, o12, o13, o14) (0, 0, 0, 0, 0, 0, 0, 0, 0, 0, 0) 0))], rfl, (srcs_of [some 0, some 3] rfl rfl rfl), fun G a w S => ?_⟩
      refine sStore (p := b101) (off := 0) (T := 44) (vs := [iv 0, iv 0, iv 0, iv 0, iv 0, iv 0, iv 0, iv 0, iv 0, iv 0, iv 0, iv 0, iv 0, iv 0, iv 0, iv 0, iv 0, iv 0, iv 0, iv 0, iv 0, iv 0, iv 0]) (v := gv_api_Rates (api_Rates.mk (o4, o5, o6, o7, o8, o9, o10, o11, o12, o13, o14) (0, 0, 0, 0, 0, 0, 0, 0, 0, 0, 0) 0)) 0 [iv o4, iv o5, iv o6, iv o7, iv o8, iv o9, iv o10, iv o11, iv o12, iv o13, iv o14, iv 0, iv 0, iv 0, iv 0, iv 0, iv 0, iv 0, iv 0, iv 0, iv 0, iv 0, iv 0] S (wN rfl) rfl rfl rfl rfl rfl rfl rfl (by simp) rfl fun a w S => ?_
      refine leafL ⟨rfl, _, _, .inr ⟨[], rfl, S, hz_of rfl, ?_⟩⟩
      refine node_by (A := anc_raddlelaw45_CostNames_0) (nf := [3, 4, 5, 6, 7, 8]) (Y := [6, 3, 5, 4]) 9 (by kernel_rfl) (by kernel_rfl) (by kernel_rfl) (by kernel_rfl) (by kernel_rfl) [3, 5, 4, 0, 1, 2] (by kernel_rfl) (by decide) (by decide) (aD 0 8 6 (by decide) (aF 1 7 (by decide) ?_ (aF 2 6 (by decide) ?_ (aY 3 5 (by decide) (aY 4 4 (by decide) (aY 5 3 (by decide) (aY 6 2 (by decide) (aN 7 1 (by decide) ?_ (aB 8 0 7 (by decide) (trivial)))))))))) [] (fun q hq => by cases hq) (fun hY => absurd (hY 7 (by decide)) (by decide))
      · refine fI 78 (gv_api_Rates (api_Rates.mk (o4, o5, o6, o7, o8, o9, o10, o11, o12, o13, o14) (0, 0, 0, 0, 0, 0, 0, 0, 0, 0, 0) 0)) [(1, .pointer (some ⟨b3, 0, none⟩))] 4 [none] rfl rfl rfl rfl rfl rfl fun G a w S => ?_
        refine sLoadN (p := b3) (off := 0) (T := 44) (vs := (gl_api_Rates (api_Rates.mk (o4, o5, o6, o7, o8, o9, o10, o11, o12, o13, o14) (0, 0, 0, 0, 0, 0, 0, 0, 0, 0, 0) 0))) 8 (gl_api_Rates (api_Rates.mk (o4, o5, o6, o7, o8, o9, o10, o11, o12, o13, o14) (0, 0, 0, 0, 0, 0, 0, 0, 0, 0, 0) 0)) S (wN rfl) rfl rfl rfl rfl rfl rfl rfl (lb rfl) fun a S => ?_
        exact leafL ⟨rfl, S⟩
      · refine fI 79 (gv_api_Rates (api_Rates.mk (o4, o5, o6, o7, o8, o9, o10, o11, o12, o13, o14) (0, 0, 0, 0, 0, 0, 0, 0, 0, 0, 0) 0)) [(1, .pointer (some ⟨b3, 0, none⟩))] 5 [none] rfl rfl rfl rfl rfl rfl fun G a w S => ?_
        refine sLoadN (p := b3) (off := 0) (T := 44) (vs := (gl_api_Rates (api_Rates.mk (o4, o5, o6, o7, o8, o9, o10, o11, o12, o13, o14) (0, 0, 0, 0, 0, 0, 0, 0, 0, 0, 0) 0))) 8 (gl_api_Rates (api_Rates.mk (o4, o5, o6, o7, o8, o9, o10, o11, o12, o13, o14) (0, 0, 0, 0, 0, 0, 0, 0, 0, 0, 0) 0)) S (wN rfl) rfl rfl rfl rfl rfl rfl rfl (lb rfl) fun a S => ?_
        exact leafL ⟨rfl, S⟩
      refine ⟨_, [(14, .pointer (some ⟨b97, 0, none⟩)), (78, gv_api_Rates (api_Rates.mk (o4, o5, o6, o7, o8, o9, o10, o11, o12, o13, o14) (0, 0, 0, 0, 0, 0, 0, 0, 0, 0, 0) 0))], rfl, (srcs_of [some 2, some 4] rfl rfl rfl), fun G a w S => ?_⟩
      refine sStore (p := b97) (off := 0) (T := 44) (vs := [iv 0, iv 0, iv 0, iv 0, iv 0, iv 0, iv 0, iv 0, iv 0, iv 0, iv 0, iv 0, iv 0, iv 0, iv 0, iv 0, iv 0, iv 0, iv 0, iv 0, iv 0, iv 0, iv 0]) (v := gv_api_Rates (api_Rates.mk (o4, o5, o6, o7, o8, o9, o10, o11, o12, o13, o14) (0, 0, 0, 0, 0, 0, 0, 0, 0, 0, 0) 0)) 2 [iv o4, iv o5, iv o6, iv o7, iv o8, iv o9, iv o10, iv o11, iv o12, iv o13, iv o14, iv 0, iv 0, iv 0, iv 0, iv 0, iv 0, iv 0, iv 0, iv 0, iv 0, iv 0, iv 0] S (wN rfl) rfl rfl rfl rfl rfl rfl rfl (by simp) rfl fun a w S => ?_
      refine leafL ⟨rfl, _, _, .inr ⟨[], rfl, S, hz_of rfl, ?_⟩⟩
      refine node_by (A := anc_raddlelaw45_CostNames_0) (nf := [3, 4, 5, 6, 7, 8]) (Y := [7, 6, 3, 5, 4]) 9 (by kernel_rfl) (by kernel_rfl) (by kernel_rfl) (by kernel_rfl) (by kernel_rfl) [3, 5, 4, 0, 1, 2] (by kernel_rfl) (by decide) (by decide) (aD 0 8 7 (by decide) (aD 1 7 7 (by decide) (aF 2 6 (by decide) ?_ (aY 3 5 (by decide) (aY 4 4 (by decide) (aY 5 3 (by decide) (aY 6 2 (by decide) (aY 7 1 (by decide) (aN 8 0 (by decide) ?_ (trivial)))))))))) [] (fun q hq => by cases hq) (fun hY => absurd (hY 8 (by decide)) (by decide))
      · refine fI 79 (gv_api_Rates (api_Rates.mk (o4, o5, o6, o7, o8, o9, o10, o11, o12, o13, o14) (0, 0, 0, 0, 0, 0, 0, 0, 0, 0, 0) 0)) [(1, .pointer (some ⟨b3, 0, none⟩))] 5 [none] rfl rfl rfl rfl rfl rfl fun G a w S => ?_
        refine sLoadN (p := b3) (off := 0) (T := 44) (vs := (gl_api_Rates (api_Rates.mk (o4, o5, o6, o7, o8, o9, o10, o11, o12, o13, o14) (0, 0, 0, 0, 0, 0, 0, 0, 0, 0, 0) 0))) 8 (gl_api_Rates (api_Rates.mk (o4, o5, o6, o7, o8, o9, o10, o11, o12, o13, o14) (0, 0, 0, 0, 0, 0, 0, 0, 0, 0, 0) 0)) S (wN rfl) rfl rfl rfl rfl rfl rfl rfl (lb rfl) fun a S => ?_
        exact leafL ⟨rfl, S⟩
      refine ⟨_, [(15, .pointer (some ⟨b100, 0, none⟩)), (79, gv_api_Rates (api_Rates.mk (o4, o5, o6, o7, o8, o9, o10, o11, o12, o13, o14) (0, 0, 0, 0, 0, 0, 0, 0, 0, 0, 0) 0))], rfl, (srcs_of [some 1, some 5] rfl rfl rfl), fun G a w S => ?_⟩
      refine sStore (p := b100) (off := 0) (T := 44) (vs := [iv 0, iv 0, iv 0, iv 0, iv 0, iv 0, iv 0, iv 0, iv 0, iv 0, iv 0, iv 0, iv 0, iv 0, iv 0, iv 0, iv 0, iv 0, iv 0, iv 0, iv 0, iv 0, iv 0]) (v := gv_api_Rates (api_Rates.mk (o4, o5, o6, o7, o8, o9, o10, o11, o12, o13, o14) (0, 0, 0, 0, 0, 0, 0, 0, 0, 0, 0) 0)) 2 [iv o4, iv o5, iv o6, iv o7, iv o8, iv o9, iv o10, iv o11, iv o12, iv o13, iv o14, iv 0, iv 0, iv 0, iv 0, iv 0, iv 0, iv 0, iv 0, iv 0, iv 0, iv 0, iv 0] S (wN rfl) rfl rfl rfl rfl rfl rfl rfl (by simp) rfl fun a w S => ?_
      refine leafL ⟨rfl, _, _, .inr ⟨[], rfl, S, hz_of rfl, ?_⟩⟩
      refine node_by (A := anc_raddlelaw45_CostNames_0) (nf := [3, 4, 5, 6, 7, 8]) (Y := [8, 7, 6, 3, 5, 4]) 9 (by kernel_rfl) (by kernel_rfl) (by kernel_rfl) (by kernel_rfl) (by kernel_rfl) [3, 5, 4, 0, 1, 2] (by kernel_rfl) (by decide) (by decide) (aD 0 8 8 (by decide) (aD 1 7 8 (by decide) (aD 2 6 8 (by decide) (aY 3 5 (by decide) (aY 4 4 (by decide) (aY 5 3 (by decide) (aY 6 2 (by decide) (aY 7 1 (by decide) (aY 8 0 (by decide) (trivial)))))))))) [(1, .pointer (some ⟨b3, 0, none⟩)), (3, .pointer (some ⟨b59, 0, none⟩)), (4, iv r52.2), (5, .pointer (some ⟨b64, 0, none⟩)), (6, iv r61.2), (7, .pointer (some ⟨b69, 0, none⟩)), (8, iv r66.2), (9, .pointer (some ⟨b77, 0, none⟩)), (10, iv r74.2), (11, .pointer (some ⟨b83, 0, none⟩)), (12, iv r80.2), (13, .pointer (some ⟨b101, 0, none⟩)), (14, .pointer (some ⟨b97, 0, none⟩)), (15, .pointer (some ⟨b100, 0, none⟩))] (fin_of [none, none, none, none, none, none, none, none, none, none, none, some 0, some 2, some 1] rfl (by kernel_rfl) (by kernel_rfl)) (fun _ a w S => ?_)
      exact leafT (⟨Option.some.inj h, b101, b97, b100, S.fix [8, 7, 6, 5, 4, 3, 2, 1, 0] [10] (by decide) rfl rfl rfl⟩)
    refine ⟨_, [], rfl, (srcs_of [] rfl rfl rfl), fun G a w S => ?_⟩
    refine sAlloc (gv_api_Rates (api_Rates.mk (0, 0, 0, 0, 0, 0, 0, 0, 0, 0, 0) (0, 0, 0, 0, 0, 0, 0, 0, 0, 0, 0) 0)) S (wN rfl) rfl rfl (gl_api_Rates (api_Rates.mk (0, 0, 0, 0, 0, 0, 0, 0, 0, 0, 0) (0, 0, 0, 0, 0, 0, 0, 0, 0, 0, 0) 0)) rfl rfl (lb rfl) fun a b102 w S => ?_
    refine leafL ⟨rfl, _, _, .inl ⟨15, (.pointer (some ⟨b102, 0, none⟩)), [], rfl, S, hz_of rfl, ?_⟩⟩
    refine node_by (A := anc_raddlelaw45_CostNames_0) (nf := [3, 4, 5, 6, 7, 8]) (Y := [5]) 9 (by kernel_rfl) (by kernel_rfl) (by kernel_rfl) (by kernel_rfl) (by kernel_rfl) [5, 0, 1, 2] (by kernel_rfl) (by decide) (by decide) (aF 0 8 (by decide) ?_ (aF 1 7 (by decide) ?_ (aF 2 6 (by decide) ?_ (aN 3 5 (by decide) ?_ (aN 4 4 (by decide) ?_ (aY 5 3 (by decide) (aB 6 2 3 (by decide) (aB 7 1 3 (by decide) (aB 8 0 3 (by decide) (trivial)))))))))) [] (fun q hq => by cases hq) (fun hY => absurd (hY 3 (by decide)) (by decide))
    · refine fI 77 (gv_api_Rates (api_Rates.mk (o4, o5, o6, o7, o8, o9, o10, o11, o12, o13, o14) (0, 0, 0, 0, 0, 0, 0, 0, 0, 0, 0) 0)) [(1, .pointer (some ⟨b3, 0, none⟩))] 1 [none] rfl rfl rfl rfl rfl rfl fun G a w S => ?_
      refine sLoadN (p := b3) (off := 0) (T := 44) (vs := (gl_api_Rates (api_Rates.mk (o4, o5, o6, o7, o8, o9, o10, o11, o12, o13, o14) (0, 0, 0, 0, 0, 0, 0, 0, 0, 0, 0) 0))) 6 (gl_api_Rates (api_Rates.mk (o4, o5, o6, o7, o8, o9, o10, o11, o12, o13, o14) (0, 0, 0, 0, 0, 0, 0, 0, 0, 0, 0) 0)) S (wN rfl) rfl rfl rfl rfl rfl rfl rfl (lb rfl) fun a S => ?_
      exact leafL ⟨rfl, S⟩
    · refine fI 78 (gv_api_Rates (api_Rates.mk (o4, o5, o6, o7, o8, o9, o10, o11, o12, o13, o14) (0, 0, 0, 0, 0, 0, 0, 0, 0, 0, 0) 0)) [(1, .pointer (some ⟨b3, 0, none⟩))] 2 [none] rfl rfl rfl rfl rfl rfl fun G a w S => ?_
      refine sLoadN (p := b3) (off := 0) (T := 44) (vs := (gl_api_Rates (api_Rates.mk (o4, o5, o6, o7, o8, o9, o10, o11, o12, o13, o14) (0, 0, 0, 0, 0, 0, 0, 0, 0, 0, 0) 0))) 6 (gl_api_Rates (api_Rates.mk (o4, o5, o6, o7, o8, o9, o10, o11, o12, o13, o14) (0, 0, 0, 0, 0, 0, 0, 0, 0, 0, 0) 0)) S (wN rfl) rfl rfl rfl rfl rfl rfl rfl (lb rfl) fun a S => ?_
      exact leafL ⟨rfl, S⟩
    · refine fI 79 (gv_api_Rates (api_Rates.mk (o4, o5, o6, o7, o8, o9, o10, o11, o12, o13, o14) (0, 0, 0, 0, 0, 0, 0, 0, 0, 0, 0) 0)) [(1, .pointer (some ⟨b3, 0, none⟩))] 3 [none] rfl rfl rfl rfl rfl rfl fun G a w S => ?_
      refine sLoadN (p := b3) (off := 0) (T := 44) (vs := (gl_api_Rates (api_Rates.mk (o4, o5, o6, o7, o8, o9, o10, o11, o12, o13, o14) (0, 0, 0, 0, 0, 0, 0, 0, 0, 0, 0) 0))) 6 (gl_api_Rates (api_Rates.mk (o4, o5, o6, o7, o8, o9, o10, o11, o12, o13, o14) (0, 0, 0, 0, 0, 0, 0, 0, 0, 0, 0) 0)) S (wN rfl) rfl rfl rfl rfl rfl rfl rfl (lb rfl) fun a S => ?_
      exact leafL ⟨rfl, S⟩
    · refine ⟨_, [], rfl, (srcs_of [] rfl rfl rfl), fun G a w S => ?_⟩
      refine sAlloc (gv_api_Rates (api_Rates.mk (0, 0, 0, 0, 0, 0, 0, 0, 0, 0, 0) (0, 0, 0, 0, 0, 0, 0, 0, 0, 0, 0) 0)) S (wN rfl) rfl rfl (gl_api_Rates (api_Rates.mk (0, 0, 0, 0, 0, 0, 0, 0, 0, 0, 0) (0, 0, 0, 0, 0, 0, 0, 0, 0, 0, 0) 0)) rfl rfl (lb rfl) fun a b103 w S => ?_
      refine leafL ⟨rfl, _, _, .inl ⟨13, (.pointer (some ⟨b103, 0, none⟩)), [], rfl, S, hz_of rfl, ?_⟩⟩
      refine node_by (A := anc_raddlelaw45_CostNames_0) (nf := [3, 4, 5, 6, 7, 8]) (Y := [3, 5]) 9 (by kernel_rfl) (by kernel_rfl) (by kernel_rfl) (by kernel_rfl) (by kernel_rfl) [3, 5, 0, 1, 2] (by kernel_rfl) (by decide) (by decide) (aF 0 8 (by decide) ?_ (aF 1 7 (by decide) ?_ (aF 2 6 (by decide) ?_ (aY 3 5 (by decide) (aN 4 4 (by decide) ?_ (aY 5 3 (by decide) (aB 6 2 4 (by decide) (aB 7 1 4 (by decide) (aB 8 0 4 (by decide) (trivial)))))))))) [] (fun q hq => by cases hq) (fun hY => absurd (hY 4 (by decide)) (by decide))
      · refine fI 77 (gv_api_Rates (api_Rates.mk (o4, o5, o6, o7, o8, o9, o10, o11, o12, o13, o14) (0, 0, 0, 0, 0, 0, 0, 0, 0, 0, 0) 0)) [(1, .pointer (some ⟨b3, 0, none⟩))] 2 [none] rfl rfl rfl rfl rfl rfl fun G a w S => ?_
        refine sLoadN (p := b3) (off := 0) (T := 44) (vs := (gl_api_Rates (api_Rates.mk (o4, o5, o6, o7, o8, o9, o10, o11, o12, o13, o14) (0, 0, 0, 0, 0, 0, 0, 0, 0, 0, 0) 0))) 7 (gl_api_Rates (api_Rates.mk (o4, o5, o6, o7, o8, o9, o10, o11, o12, o13, o14) (0, 0, 0, 0, 0, 0, 0, 0, 0, 0, 0) 0)) S (wN rfl) rfl rfl rfl rfl rfl rfl rfl (lb rfl) fun a S => ?_
        exact leafL ⟨rfl, S⟩
      · refine fI 78 (gv_api_Rates (api_Rates.mk (o4, o5, o6, o7, o8, o9, o10, o11, o12, o13, o14) (0, 0, 0, 0, 0, 0, 0, 0, 0, 0, 0) 0)) [(1, .pointer (some ⟨b3, 0, none⟩))] 3 [none] rfl rfl rfl rfl rfl rfl fun G a w S => ?_
        refine sLoadN (p := b3) (off := 0) (T := 44) (vs := (gl_api_Rates (api_Rates.mk (o4, o5, o6, o7, o8, o9, o10, o11, o12, o13, o14) (0, 0, 0, 0, 0, 0, 0, 0, 0, 0, 0) 0))) 7 (gl_api_Rates (api_Rates.mk (o4, o5, o6, o7, o8, o9, o10, o11, o12, o13, o14) (0, 0, 0, 0, 0, 0, 0, 0, 0, 0, 0) 0)) S (wN rfl) rfl rfl rfl rfl rfl rfl rfl (lb rfl) fun a S => ?_
        exact leafL ⟨rfl, S⟩
      · refine fI 79 (gv_api_Rates (api_Rates.mk (o4, o5, o6, o7, o8, o9, o10, o11, o12, o13, o14) (0, 0, 0, 0, 0, 0, 0, 0, 0, 0, 0) 0)) [(1, .pointer (some ⟨b3, 0, none⟩))] 4 [none] rfl rfl rfl rfl rfl rfl fun G a w S => ?_
        refine sLoadN (p := b3) (off := 0) (T := 44) (vs := (gl_api_Rates (api_Rates.mk (o4, o5, o6, o7, o8, o9, o10, o11, o12, o13, o14) (0, 0, 0, 0, 0, 0, 0, 0, 0, 0, 0) 0))) 7 (gl_api_Rates (api_Rates.mk (o4, o5, o6, o7, o8, o9, o10, o11, o12, o13, o14) (0, 0, 0, 0, 0, 0, 0, 0, 0, 0, 0) 0)) S (wN rfl) rfl rfl rfl rfl rfl rfl rfl (lb rfl) fun a S => ?_
        exact leafL ⟨rfl, S⟩
      refine ⟨_, [], rfl, (srcs_of [] rfl rfl rfl), fun G a w S => ?_⟩
      refine sAlloc (gv_api_Rates (api_Rates.mk (0, 0, 0, 0, 0, 0, 0, 0, 0, 0, 0) (0, 0, 0, 0, 0, 0, 0, 0, 0, 0, 0) 0)) S (wN rfl) rfl rfl (gl_api_Rates (api_Rates.mk (0, 0, 0, 0, 0, 0, 0, 0, 0, 0, 0) (0, 0, 0, 0, 0, 0, 0, 0, 0, 0, 0) 0)) rfl rfl (lb rfl) fun a b104 w S => ?_
      refine leafL ⟨rfl, _, _, .inl ⟨14, (.pointer (some ⟨b104, 0, none⟩)), [], rfl, S, hz_of rfl, ?_⟩⟩
      refine node_by (A := anc_raddlelaw45_CostNames_0) (nf := [3, 4, 5, 6, 7, 8]) (Y := [4, 3, 5]) 9 (by kernel_rfl) (by kernel_rfl) (by kernel_rfl) (by kernel_rfl) (by kernel_rfl) [4, 3, 5, 0, 1, 2] (by kernel_rfl) (by decide) (by decide) (aF 0 8 (by decide) ?_ (aF 1 7 (by decide) ?_ (aF 2 6 (by decide) ?_ (aY 3 5 (by decide) (aY 4 4 (by decide) (aY 5 3 (by decide) (aN 6 2 (by decide) ?_ (aB 7 1 6 (by decide) (aB 8 0 6 (by decide) (trivial)))))))))) [] (fun q hq => by cases hq) (fun hY => absurd (hY 6 (by decide)) (by decide))
      · refine fI 77 (gv_api_Rates (api_Rates.mk (o4, o5, o6, o7, o8, o9, o10, o11, o12, o13, o14) (0, 0, 0, 0, 0, 0, 0, 0, 0, 0, 0) 0)) [(1, .pointer (some ⟨b3, 0, none⟩))] 3 [none] rfl rfl rfl rfl rfl rfl fun G a w S => ?_
        refine sLoadN (p := b3) (off := 0) (T := 44) (vs := (gl_api_Rates (api_Rates.mk (o4, o5, o6, o7, o8, o9, o10, o11, o12, o13, o14) (0, 0, 0, 0, 0, 0, 0, 0, 0, 0, 0) 0))) 8 (gl_api_Rates (api_Rates.mk (o4, o5, o6, o7, o8, o9, o10, o11, o12, o13, o14) (0, 0, 0, 0, 0, 0, 0, 0, 0, 0, 0) 0)) S (wN rfl) rfl rfl rfl rfl rfl rfl rfl (lb rfl) fun a S => ?_
        exact leafL ⟨rfl, S⟩
      · refine fI 78 (gv_api_Rates (api_Rates.mk (o4, o5, o6, o7, o8, o9, o10, o11, o12, o13, o14) (0, 0, 0, 0, 0, 0, 0, 0, 0, 0, 0) 0)) [(1, .pointer (some ⟨b3, 0, none⟩))] 4 [none] rfl rfl rfl rfl rfl rfl fun G a w S => ?_
        refine sLoadN (p := b3) (off := 0) (T := 44) (vs := (gl_api_Rates (api_Rates.mk (o4, o5, o6, o7, o8, o9, o10, o11, o12, o13, o14) (0, 0, 0, 0, 0, 0, 0, 0, 0, 0, 0) 0))) 8 (gl_api_Rates (api_Rates.mk (o4, o5, o6, o7, o8, o9, o10, o11, o12, o13, o14) (0, 0, 0, 0, 0, 0, 0, 0, 0, 0, 0) 0)) S (wN rfl) rfl rfl rfl rfl rfl rfl rfl (lb rfl) fun a S => ?_
        exact leafL ⟨rfl, S⟩
      · refine fI 79 (gv_api_Rates (api_Rates.mk (o4, o5, o6, o7, o8, o9, o10, o11, o12, o13, o14) (0, 0, 0, 0, 0, 0, 0, 0, 0, 0, 0) 0)) [(1, .pointer (some ⟨b3, 0, none⟩))] 5 [none] rfl rfl rfl rfl rfl rfl fun G a w S => ?_
        refine sLoadN (p := b3) (off := 0) (T := 44) (vs := (gl_api_Rates (api_Rates.mk (o4, o5, o6, o7, o8, o9, o10, o11, o12, o13, o14) (0, 0, 0, 0, 0, 0, 0, 0, 0, 0, 0) 0))) 8 (gl_api_Rates (api_Rates.mk (o4, o5, o6, o7, o8, o9, o10, o11, o12, o13, o14) (0, 0, 0, 0, 0, 0, 0, 0, 0, 0, 0) 0)) S (wN rfl) rfl rfl rfl rfl rfl rfl rfl (lb rfl) fun a S => ?_
        exact leafL ⟨rfl, S⟩
      refine ⟨_, [(13, .pointer (some ⟨b103, 0, none⟩)), (77, gv_api_Rates (api_Rates.mk (o4, o5, o6, o7, o8, o9, o10, o11, o12, o13, o14) (0, 0, 0, 0, 0, 0, 0, 0, 0, 0, 0) 0))], rfl, (srcs_of [some 1, some 3] rfl rfl rfl), fun G a w S => ?_⟩
      refine sStore (p := b103) (off := 0) (T := 44) (vs := [iv 0, iv 0, iv 0, iv 0, iv 0, iv 0, iv 0, iv 0, iv 0, iv 0, iv 0, iv 0, iv 0, iv 0, iv 0, iv 0, iv 0, iv 0, iv 0, iv 0, iv 0, iv 0, iv 0]) (v := gv_api_Rates (api_Rates.mk (o4, o5, o6, o7, o8, o9, o10, o11, o12, o13, o14) (0, 0, 0, 0, 0, 0, 0, 0, 0, 0, 0) 0)) 1 [iv o4, iv o5, iv o6, iv o7, iv o8, iv o9, iv o10, iv o11, iv o12, iv o13, iv o14, iv 0, iv 0, iv 0, iv 0, iv 0, iv 0, iv 0, iv 0, iv 0, iv 0, iv 0, iv 0] S (wN rfl) rfl rfl rfl rfl rfl rfl rfl (by simp) rfl fun a w S => ?_
      refine leafL ⟨rfl, _, _, .inr ⟨[], rfl, S, hz_of rfl, ?_⟩⟩
      refine node_by (A := anc_raddlelaw45_CostNames_0) (nf := [3, 4, 5, 6, 7, 8]) (Y := [6, 4, 3, 5]) 9 (by kernel_rfl) (by kernel_rfl) (by kernel_rfl) (by kernel_rfl) (by kernel_rfl) [4, 3, 5, 0, 1, 2] (by kernel_rfl) (by decide) (by decide) (aD 0 8 6 (by decide) (aF 1 7 (by decide) ?_ (aF 2 6 (by decide) ?_ (aY 3 5 (by decide) (aY 4 4 (by decide) (aY 5 3 (by decide) (aY 6 2 (by decide) (aN 7 1 (by decide) ?_ (aB 8 0 7 (by decide) (trivial)))))))))) [] (fun q hq => by cases hq) (fun hY => absurd (hY 7 (by decide)) (by decide))
      · refine fI 78 (gv_api_Rates (api_Rates.mk (o4, o5, o6, o7, o8, o9, o10, o11, o12, o13, o14) (0, 0, 0, 0, 0, 0, 0, 0, 0, 0, 0) 0)) [(1, .pointer (some ⟨b3, 0, none⟩))] 4 [none] rfl rfl rfl rfl rfl rfl fun G a w S => ?_
        refine sLoadN (p := b3) (off := 0) (T := 44) (vs := (gl_api_Rates (api_Rates.mk (o4, o5, o6, o7, o8, o9, o10, o11, o12, o13, o14) (0, 0, 0, 0, 0, 0, 0, 0, 0, 0, 0) 0))) 8 (gl_api_Rates (api_Rates.mk (o4, o5, o6, o7, o8, o9, o10, o11, o12, o13, o14) (0, 0, 0, 0, 0, 0, 0, 0, 0, 0, 0) 0)) S (wN rfl) rfl rfl rfl rfl rfl rfl rfl (lb rfl) fun a S => ?_
        exact leafL ⟨rfl, S⟩
      · refine fI 79 (gv_api_Rates (api_Rates.mk (o4, o5, o6, o7, o8, o9, o10, o11, o12, o13, o14) (0, 0, 0, 0, 0, 0, 0, 0, 0, 0, 0) 0)) [(1, .pointer (some ⟨b3, 0, none⟩))] 5 [none] rfl rfl rfl rfl rfl rfl fun G a w S => ?_
        refine sLoadN (p := b3) (off := 0) (T := 44) (vs := (gl_api_Rates (api_Rates.mk (o4, o5, o6, o7, o8, o9, o10, o11, o12, o13, o14) (0, 0, 0, 0, 0, 0, 0, 0, 0, 0, 0) 0))) 8 (gl_api_Rates (api_Rates.mk (o4, o5, o6, o7, o8, o9, o10, o11, o12, o13, o14) (0, 0, 0, 0, 0, 0, 0, 0, 0, 0, 0) 0)) S (wN rfl) rfl rfl rfl rfl rfl rfl rfl (lb rfl) fun a S => ?_
        exact leafL ⟨rfl, S⟩
      refine ⟨_, [(14, .pointer (some ⟨b104, 0, none⟩)), (78, gv_api_Rates (api_Rates.mk (o4, o5, o6, o7, o8, o9, o10, o11, o12, o13, o14) (0, 0, 0, 0, 0, 0, 0, 0, 0, 0, 0) 0))], rfl, (srcs_of [some 0, some 4] rfl rfl rfl), fun G a w S => ?_⟩
      refine sStore (p := b104) (off := 0) (T := 44) (vs := [iv 0, iv 0, iv 0, iv 0, iv 0, iv 0, iv 0, iv 0, iv 0, iv 0, iv 0, iv 0, iv 0, iv 0, iv 0, iv 0, iv 0, iv 0, iv 0, iv 0, iv 0, iv 0, iv 0]) (v := gv_api_Rates (api_Rates.mk (o4, o5, o6, o7, o8, o9, o10, o11, o12, o13, o14) (0, 0, 0, 0, 0, 0, 0, 0, 0, 0, 0) 0)) 1 [iv o4, iv o5, iv o6, iv o7, iv o8, iv o9, iv o10, iv o11, iv o12, iv o13, iv o14, iv 0, iv 0, iv 0, iv 0, iv 0, iv 0, iv 0, iv 0, iv 0, iv 0, iv 0, iv 0] S (wN rfl) rfl rfl rfl rfl rfl rfl rfl (by simp) rfl fun a w S => ?_
      refine leafL ⟨rfl, _, _, .inr ⟨[], rfl, S, hz_of rfl, ?_⟩⟩
      refine node_by (A := anc_raddlelaw45_CostNames_0) (nf := [3, 4, 5, 6, 7, 8]) (Y := [7, 6, 4, 3, 5]) 9 (by kernel_rfl) (by kernel_rfl) (by kernel_rfl) (by kernel_rfl) (by kernel_rfl) [4, 3, 5, 0, 1, 2] (by kernel_rfl) (by decide) (by decide) (aD 0 8 7 (by decide) (aD 1 7 7 (by decide) (aF 2 6 (by decide) ?_ (aY 3 5 (by decide) (aY 4 4 (by decide) (aY 5 3 (by decide) (aY 6 2 (by decide) (aY 7 1 (by decide) (aN 8 0 (by decide) ?_ (trivial)))))))))) [] (fun q hq => by cases hq) (fun hY => absurd (hY 8 (by decide)) (by decide))
      · refine fI 79 (gv_api_Rates (api_Rates.mk (o4, o5, o6, o7, o8, o9, o10, o11, o12, o13, o14) (0, 0, 0, 0, 0, 0, 0, 0, 0, 0, 0) 0)) [(1, .pointer (some ⟨b3, 0, none⟩))] 5 [none] rfl rfl rfl rfl rfl rfl fun G a w S => ?_
        refine sLoadN (p := b3) (off := 0) (T := 44) (vs := (gl_api_Rates (api_Rates.mk (o4, o5, o6, o7, o8, o9, o10, o11, o12, o13, o14) (0, 0, 0, 0, 0, 0, 0, 0, 0, 0, 0) 0))) 8 (gl_api_Rates (api_Rates.mk (o4, o5, o6, o7, o8, o9, o10, o11, o12, o13, o14) (0, 0, 0, 0, 0, 0, 0, 0, 0, 0, 0) 0)) S (wN rfl) rfl rfl rfl rfl rfl rfl rfl (lb rfl) fun a S => ?_
        exact leafL ⟨rfl, S⟩
      refine ⟨_, [(15, .pointer (some ⟨b102, 0, none⟩)), (79, gv_api_Rates (api_Rates.mk (o4, o5, o6, o7, o8, o9, o10, o11, o12, o13, o14) (0, 0, 0, 0, 0, 0, 0, 0, 0, 0, 0) 0))], rfl, (srcs_of [some 2, some 5] rfl rfl rfl), fun G a w S => ?_⟩
      refine sStore (p := b102) (off := 0) (T := 44) (vs := [iv 0, iv 0, iv 0, iv 0, iv 0, iv 0, iv 0, iv 0, iv 0, iv 0, iv 0, iv 0, iv 0, iv 0, iv 0, iv 0, iv 0, iv 0, iv 0, iv 0, iv 0, iv 0, iv 0]) (v := gv_api_Rates (api_Rates.mk (o4, o5, o6, o7, o8, o9, o10, o11, o12, o13, o14) (0, 0, 0, 0, 0, 0, 0, 0, 0, 0, 0) 0)) 2 [iv o4, iv o5, iv o6, iv o7, iv o8, iv o9, iv o10, iv o11, iv o12, iv o13, iv o14, iv 0, iv 0, iv 0, iv 0, iv 0, iv 0, iv 0, iv 0, iv 0, iv 0, iv 0, iv 0] S (wN rfl) rfl rfl rfl rfl rfl rfl rfl (by simp) rfl fun a w S => ?_
      refine leafL ⟨rfl, _, _, .inr ⟨[], rfl, S, hz_of rfl, ?_⟩⟩
      refine node_by (A := anc_raddlelaw45_CostNames_0) (nf := [3, 4, 5, 6, 7, 8]) (Y := [8, 7, 6, 4, 3, 5]) 9 (by kernel_rfl) (by kernel_rfl) (by kernel_rfl) (by kernel_rfl) (by kernel_rfl) [4, 3, 5, 0, 1, 2] (by kernel_rfl) (by decide) (by decide) (aD 0 8 8 (by decide) (aD 1 7 8 (by decide) (aD 2 6 8 (by decide) (aY 3 5 (by decide) (aY 4 4 (by decide) (aY 5 3 (by decide) (aY 6 2 (by decide) (aY 7 1 (by decide) (aY 8 0 (by decide) (trivial)))))))))) [(1, .pointer (some ⟨b3, 0, none⟩)), (3, .pointer (some ⟨b59, 0, none⟩)), (4, iv r52.2), (5, .pointer (some ⟨b64, 0, none⟩)), (6, iv r61.2), (7, .pointer (some ⟨b69, 0, none⟩)), (8, iv r66.2), (9, .pointer (some ⟨b77, 0, none⟩)), (10, iv r74.2), (11, .pointer (some ⟨b83, 0, none⟩)), (12, iv r80.2), (13, .pointer (some ⟨b103, 0, none⟩)), (14, .pointer (some ⟨b104, 0, none⟩)), (15, .pointer (some ⟨b102, 0, none⟩))] (fin_of [none, none, none, none, none, none, none, none, none, none, none, some 1, some 0, some 2] rfl (by kernel_rfl) (by kernel_rfl)) (fun _ a w S => ?_)
      exact leafT (⟨Option.some.inj h, b103, b104, b102, S.fix [8, 7, 6, 5, 4, 3, 2, 1, 0] [10] (by decide) rfl rfl rfl⟩)
    refine ⟨_, [], rfl, (srcs_of [] rfl rfl rfl), fun G a w S => ?_⟩
    refine sAlloc (gv_api_Rates (api_Rates.mk (0, 0, 0, 0, 0, 0, 0, 0, 0, 0, 0) (0, 0, 0, 0, 0, 0, 0, 0, 0, 0, 0) 0)) S (wN rfl) rfl rfl (gl_api_Rates (api_Rates.mk (0, 0, 0, 0, 0, 0, 0, 0, 0, 0, 0) (0, 0, 0, 0, 0, 0, 0, 0, 0, 0, 0) 0)) rfl rfl (lb rfl) fun a b105 w S => ?_
    refine leafL ⟨rfl, _, _, .inl ⟨14, (.pointer (some ⟨b105, 0, none⟩)), [], rfl, S, hz_of rfl, ?_⟩⟩
    refine node_by (A := anc_raddlelaw45_CostNames_0) (nf := [3, 4, 5, 6, 7, 8]) (Y := [4, 5]) 9 (by kernel_rfl) (by kernel_rfl) (by kernel_rfl) (by kernel_rfl) (by kernel_rfl) [4, 5, 0, 1, 2] (by kernel_rfl) (by decide) (by decide) (aF 0 8 (by decide) ?_ (aF 1 7 (by decide) ?_ (aF 2 6 (by decide) ?_ (aN 3 5 (by decide) ?_ (aY 4 4 (by decide) (aY 5 3 (by decide) (aB 6 2 3 (by decide) (aB 7 1 3 (by decide) (aB 8 0 3 (by decide) (trivial)))))))))) [] (fun q hq => by cases hq) (fun hY => absurd (hY 3 (by decide)) (by decide))
    · refine fI 77 (gv_api_Rates (api_Rates.mk (o4, o5, o6, o7, o8, o9, o10, o11, o12, o13, o14) (0, 0, 0, 0, 0, 0, 0, 0, 0, 0, 0) 0)) [(1, .pointer (some ⟨b3, 0, none⟩))] 2 [none] rfl rfl rfl rfl rfl rfl fun G a w S => ?_
      refine sLoadN (p := b3) (off := 0) (T := 44) (vs := (gl_api_Rates (api_Rates.mk (o4, o5, o6, o7, o8, o9, o10, o11, o12, o13, o14) (0, 0, 0, 0, 0, 0, 0, 0, 0, 0, 0) 0))) 7 (gl_api_Rates (api_Rates.mk (o4, o5, o6, o7, o8, o9, o10, o11, o12, o13, o14) (0, 0, 0, 0, 0, 0, 0, 0, 0, 0, 0) 0)) S (wN rfl) rfl rfl rfl rfl rfl rfl rfl (lb rfl) fun a S => ?_
      exact leafL ⟨rfl, S⟩
    · refine fI 78 (gv_api_Rates (api_Rates.mk (o4, o5, o6, o7, o8, o9, o10, o11, o12, o13, o14) (0, 0, 0, 0, 0, 0, 0, 0, 0, 0, 0) 0)) [(1, .pointer (some ⟨b3, 0, none⟩))] 3 [none] rfl rfl rfl rfl rfl rfl fun G a w S => ?_
      refine sLoadN (p := b3) (off := 0) (T := 44) (vs := (gl_api_Rates (api_Rates.mk (o4, o5, o6, o7, o8, o9, o10, o11, o12, o13, o14) (0, 0, 0, 0, 0, 0, 0, 0, 0, 0, 0) 0))) 7 (gl_api_Rates (api_Rates.mk (o4, o5, o6, o7, o8, o9, o10, o11, o12, o13, o14) (0, 0, 0, 0, 0, 0, 0, 0, 0, 0, 0) 0)) S (wN rfl) rfl rfl rfl rfl rfl rfl rfl (lb rfl) fun a S => ?_
      exact leafL ⟨rfl, S⟩
    · refine fI 79 (gv_api_Rates (api_Rates.mk (o4, o5, o6, o7, o8, o9, o10, o11, o12, o13, o14) (0, 0, 0, 0, 0, 0, 0, 0, 0, 0, 0) 0)) [(1, .pointer (some ⟨b3, 0, none⟩))] 4 [none] rfl rfl rfl rfl rfl rfl fun G a w S => ?_
      refine sLoadN (p := b3) (off := 0) (T := 44) (vs := (gl_api_Rates (api_Rates.mk (o4, o5, o6, o7, o8, o9, o10, o11, o12, o13, o14) (0, 0, 0, 0, 0, 0, 0, 0, 0, 0, 0) 0))) 7 (gl_api_Rates (api_Rates.mk (o4, o5, o6, o7, o8, o9, o10, o11, o12, o13, o14) (0, 0, 0, 0, 0, 0, 0, 0, 0, 0, 0) 0)) S (wN rfl) rfl rfl rfl rfl rfl rfl rfl (lb rfl) fun a S => ?_
      exact leafL ⟨rfl, S⟩
    refine ⟨_, [], rfl, (srcs_of [] rfl rfl rfl), fun G a w S => ?_⟩
    refine sAlloc (gv_api_Rates (api_Rates.mk (0, 0, 0, 0, 0, 0, 0, 0, 0, 0, 0) (0, 0, 0, 0, 0, 0, 0, 0, 0, 0, 0) 0)) S (wN rfl) rfl rfl (gl_api_Rates (api_Rates.mk (0, 0, 0, 0, 0, 0, 0, 0, 0, 0, 0) (0, 0, 0, 0, 0, 0, 0, 0, 0, 0, 0) 0)) rfl rfl (lb rfl) fun a b106 w S => ?_
    refine leafL ⟨rfl, _, _, .inl ⟨13, (.pointer (some ⟨b106, 0, none⟩)), [], rfl, S, hz_of rfl, ?_⟩⟩
    refine node_by (A := anc_raddlelaw45_CostNames_0) (nf := [3, 4, 5, 6, 7, 8]) (Y := [3, 4, 5]) 9 (by kernel_rfl) (by kernel_rfl) (by kernel_rfl) (by kernel_rfl) (by kernel_rfl) [3, 4, 5, 0, 1, 2] (by kernel_rfl) (by decide) (by decide) (aF 0 8 (by decide) ?_ (aF 1 7 (by decide) ?_ (aF 2 6 (by decide) ?_ (aY 3 5 (by decide) (aY 4 4 (by decide) (aY 5 3 (by decide) (aN 6 2 (by decide) ?_ (aB 7 1 6 (by decide) (aB 8 0 6 (by decide) (trivial)))))))))) [] (fun q hq => by cases hq) (fun hY => absurd (hY 6 (by decide)) (by decide))
    · refine fI 77 (gv_api_Rates (api_Rates.mk (o4, o5, o6, o7, o8, o9, o10, o11, o12, o13, o14) (0, 0, 0, 0, 0, 0, 0, 0, 0, 0, 0) 0)) [(1, .pointer (some ⟨b3, 0, none⟩))] 3 [none] rfl rfl rfl rfl rfl rfl fun G a w S => ?_
      refine sLoadN (p := b3) (off := 0) (T := 44) (vs := (gl_api_Rates (api_Rates.mk (o4, o5, o6, o7, o8, o9, o10, o11, o12, o13, o14) (0, 0, 0, 0, 0, 0, 0, 0, 0, 0, 0) 0))) 8 (gl_api_Rates (api_Rates.mk (o4, o5, o6, o7, o8, o9, o10, o11, o12, o13, o14) (0, 0, 0, 0, 0, 0, 0, 0, 0, 0, 0) 0)) S (wN rfl) rfl rfl rfl rfl rfl rfl rfl (lb rfl) fun a S => ?_
      exact leafL ⟨rfl, S⟩
    · refine fI 78 (gv_api_Rates (api_Rates.mk (o4, o5, o6, o7, o8, o9, o10, o11, o12, o13, o14) (0, 0, 0, 0, 0, 0, 0, 0, 0, 0, 0) 0)) [(1, .pointer (some ⟨b3, 0, none⟩))] 4 [none] rfl rfl rfl rfl rfl rfl fun G a w S => ?_
      refine sLoadN (p := b3) (off := 0) (T := 44) (vs := (gl_api_Rates (api_Rates.mk (o4, o5, o6, o7, o8, o9, o10, o11, o12, o13, o14) (0, 0, 0, 0, 0, 0, 0, 0, 0, 0, 0) 0))) 8 (gl_api_Rates (api_Rates.mk (o4, o5, o6, o7, o8, o9, o10, o11, o12, o13, o14) (0, 0, 0, 0, 0, 0, 0, 0, 0, 0, 0) 0)) S (wN rfl) rfl rfl rfl rfl rfl rfl rfl (lb rfl) fun a S => ?_
      exact leafL ⟨rfl, S⟩
    · refine fI 79 (gv_api_Rates (api_Rates.mk (o4, o5, o6, o7, o8, o9, o10, o11, o12, o13, o14) (0, 0, 0, 0, 0, 0, 0, 0, 0, 0, 0) 0)) [(1, .pointer (some ⟨b3, 0, none⟩))] 5 [none] rfl rfl rfl rfl rfl rfl fun G a w S => ?_
      refine sLoadN (p := b3) (off := 0) (T := 44) (vs := (gl_api_Rates (api_Rates.mk (o4, o5, o6, o7, o8, o9, o10, o11, o12, o13, o14) (0, 0, 0, 0, 0, 0, 0, 0, 0, 0, 0) 0))) 8 (gl_api_Rates (api_Rates.mk (o4, o5, o6, o7, o8, o9, o10, o11, o12, o13, o14) (0, 0, 0, 0, 0, 0, 0, 0, 0, 0, 0) 0)) S (wN rfl) rfl rfl rfl rfl rfl rfl rfl (lb rfl) fun a S => ?_
      exact leafL ⟨rfl, S⟩
    refine ⟨_, [(13, .pointer (some ⟨b106, 0, none⟩)), (77, gv_api_Rates (api_Rates.mk (o4, o5, o6, o7, o8, o9, o10, o11, o12, o13, o14) (0, 0, 0, 0, 0, 0, 0, 0, 0, 0, 0) 0))], rfl, (srcs_of [some 0, some 3] rfl rfl rfl), fun G a w S => ?_⟩
    refine sStore (p := b106) (off := 0) (T := 44) (vs := [iv 0, iv 0, iv 0, iv 0, iv 0, iv 0, iv 0, iv 0, iv 0, iv 0, iv 0, iv 0, iv 0, iv 0, iv 0, iv 0, iv 0, iv 0, iv 0, iv 0, iv 0, iv 0, iv 0]) (v := gv_api_Rates (api_Rates.mk (o4, o5, o6, o7, o8, o9, o10, o11, o12, o13, o14) (0, 0, 0, 0, 0, 0, 0, 0, 0, 0, 0) 0)) 0 [iv o4, iv o5, iv o6, iv o7, iv o8, iv o9, iv o10, iv o11, iv o12, iv o13, iv o14, iv 0, iv 0, iv 0, iv 0, iv 0, iv 0, iv 0, iv 0, iv 0, iv 0, iv 0, iv 0] S (wN rfl) rfl rfl rfl rfl rfl rfl rfl (by simp) rfl fun a w S => ?_
    refine leafL ⟨rfl, _, _, .inr ⟨[], rfl, S, hz_of rfl, ?_⟩⟩
    refine node_by (A := anc_raddlelaw45_CostNames_0) (nf := [3, 4, 5, 6, 7, 8]) (Y := [6, 3, 4, 5]) 9 (by kernel_rfl) (by kernel_rfl) (by kernel_rfl) (by kernel_rfl) (by kernel_rfl) [3, 4, 5, 0, 1, 2] (by kernel_rfl) (by decide) (by decide) (aD 0 8 6 (by decide) (aF 1 7 (by decide) ?_ (aF 2 6 (by decide) ?_ (aY 3 5 (by decide) (aY 4 4 (by decide) (aY 5 3 (by decide) (aY 6 2 (by decide) (aN 7 1 (by decide) ?_ (aB 8 0 7 (by decide) (trivial)))))))))) [] (fun q hq => by cases hq) (fun hY => absurd (hY 7 (by decide)) (by decide))
    · refine fI 78 (gv_api_Rates (api_Rates.mk (o4, o5, o6, o7, o8, o9, o10, o11, o12, o13, o14) (0, 0, 0, 0, 0, 0, 0, 0, 0, 0, 0) 0)) [(1, .pointer (some ⟨b3, 0, none⟩))] 4 [none] rfl rfl rfl rfl rfl rfl fun G a w S => ?_
      refine sLoadN (p := b3) (off := 0) (T := 44) (vs := (gl_api_Rates (api_Rates.mk (o4, o5, o6, o7, o8, o9, o10, o11, o12, o13, o14) (0, 0, 0, 0, 0, 0, 0, 0, 0, 0, 0) 0))) 8 (gl_api_Rates (api_Rates.mk (o4, o5, o6, o7, o8, o9, o10, o11, o12, o13, o14) (0, 0, 0, 0, 0, 0, 0, 0, 0, 0, 0) 0)) S (wN rfl) rfl rfl rfl rfl rfl rfl rfl (lb rfl) fun a S => ?_
      exact leafL ⟨rfl, S⟩
    · refine fI 79 (gv_api_Rates (api_Rates.mk (o4, o5, o6, o7, o8, o9, o10, o11, o12, o13, o14) (0, 0, 0, 0, 0, 0, 0, 0, 0, 0, 0) 0)) [(1, .pointer (some ⟨b3, 0, none⟩))] 5 [none] rfl rfl rfl rfl rfl rfl fun G a w S => ?_
      refine sLoadN (p := b3) (off := 0) (T := 44) (vs := (gl_api_Rates (api_Rates.mk (o4, o5, o6, o7, o8, o9, o10, o11, o12, o13, o14) (0, 0, 0, 0, 0, 0, 0, 0, 0, 0, 0) 0))) 8 (gl_api_Rates (api_Rates.mk (o4, o5, o6, o7, o8, o9, o10, o11, o12, o13, o14) (0, 0, 0, 0, 0, 0, 0, 0, 0, 0, 0) 0)) S (wN rfl) rfl rfl rfl rfl rfl rfl rfl (lb rfl) fun a S => ?_
      exact leafL ⟨rfl, S⟩
    refine ⟨_, [(14, .pointer (some ⟨b105, 0, none⟩)), (78, gv_api_Rates (api_Rates.mk (o4, o5, o6, o7, o8, o9, o10, o11, o12, o13, o14) (0, 0, 0, 0, 0, 0, 0, 0, 0, 0, 0) 0))], rfl, (srcs_of [some 1, some 4] rfl rfl rfl), fun G a w S => ?_⟩
    refine sStore (p := b105) (off := 0) (T := 44) (vs := [iv 0, iv 0, iv 0, iv 0, iv 0, iv 0, iv 0, iv 0, iv 0, iv 0, iv 0, iv 0, iv 0, iv 0, iv 0, iv 0, iv 0, iv 0, iv 0, iv 0, iv 0, iv 0, iv 0]) (v := gv_api_Rates (api_Rates.mk (o4, o5, o6, o7, o8, o9, o10, o11, o12, o13, o14) (0, 0, 0, 0, 0, 0, 0, 0, 0, 0, 0) 0)) 1 [iv o4, iv o5, iv o6, iv o7, iv o8, iv o9, iv o10, iv o11, iv o12, iv o13, iv o14, iv 0, iv 0, iv 0, iv 0, iv 0, iv 0, iv 0, iv 0, iv 0, iv 0, iv 0, iv 0] S (wN rfl) rfl rfl rfl rfl rfl rfl rfl (by simp) rfl fun a w S => ?_
    refine leafL ⟨rfl, _, _, .inr ⟨[], rfl, S, hz_of rfl, ?_⟩⟩
    refine node_by (A := anc_raddlelaw45_CostNames_0) (nf := [3, 4, 5, 6, 7, 8]) (Y := [7, 6, 3, 4, 5]) 9 (by kernel_rfl) (by kernel_rfl) (by kernel_rfl) (by kernel_rfl) (by kernel_rfl) [3, 4, 5, 0, 1, 2] (by kernel_rfl) (by decide) (by decide) (aD 0 8 7 (by decide) (aD 1 7 7 (by decide) (aF 2 6 (by decide) ?_ (aY 3 5 (by decide) (aY 4 4 (by decide) (aY 5 3 (by decide) (aY 6 2 (by decide) (aY 7 1 (by decide) (aN 8 0 (by decide) ?_ (trivial)))))))))) [] (fun q hq => by cases hq) (fun hY => absurd (hY 8 (by decide)) (by decide))
    · refine fI 79 (gv_api_Rates (api_Rates.mk (o4, o5, o6, o7, o8, o9, o10, o11, o12, o13, o14) (0, 0, 0, 0, 0, 0, 0, 0, 0, 0, 0) 0)) [(1, .pointer (some ⟨b3, 0, none⟩))] 5 [none] rfl rfl rfl rfl rfl rfl fun G a w S => ?_
      refine sLoadN (p := b3) (off := 0) (T := 44) (vs := (gl_api_Rates (api_Rates.mk (o4, o5, o6, o7, o8, o9, o10, o11, o12, o13, o14) (0, 0, 0, 0, 0, 0, 0, 0, 0, 0, 0) 0))) 8 (gl_api_Rates (api_Rates.mk (o4, o5, o6, o7, o8, o9, o10, o11, o12, o13, o14) (0, 0, 0, 0, 0, 0, 0, 0, 0, 0, 0) 0)) S (wN rfl) rfl rfl rfl rfl rfl rfl rfl (lb rfl) fun a S => ?_
      exact leafL ⟨rfl, S⟩
    refine ⟨_, [(15, .pointer (some ⟨b102, 0, none⟩)), (79, gv_api_Rates (api_Rates.mk (o4, o5, o6, o7, o8, o9, o10, o11, o12, o13, o14) (0, 0, 0, 0, 0, 0, 0, 0, 0, 0, 0) 0))], rfl, (srcs_of [some 2, some 5] rfl rfl rfl), fun G a w S => ?_⟩
    refine sStore (p := b102) (off := 0) (T := 44) (vs := [iv 0, iv 0, iv 0, iv 0, iv 0, iv 0, iv 0, iv 0, iv 0, iv 0, iv 0, iv 0, iv 0, iv 0, iv 0, iv 0, iv 0, iv 0, iv 0, iv 0, iv 0, iv 0, iv 0]) (v := gv_api_Rates (api_Rates.mk (o4, o5, o6, o7, o8, o9, o10, o11, o12, o13, o14) (0, 0, 0, 0, 0, 0, 0, 0, 0, 0, 0) 0)) 2 [iv o4, iv o5, iv o6, iv o7, iv o8, iv o9, iv o10, iv o11, iv o12, iv o13, iv o14, iv 0, iv 0, iv 0, iv 0, iv 0, iv 0, iv 0, iv 0, iv 0, iv 0, iv 0, iv 0] S (wN rfl) rfl rfl rfl rfl rfl rfl rfl (by simp) rfl fun a w S => ?_
    refine leafL ⟨rfl, _, _, .inr ⟨[], rfl, S, hz_of rfl, ?_⟩⟩
    refine node_by (A := anc_raddlelaw45_CostNames_0) (nf := [3, 4, 5, 6, 7, 8]) (Y := [8, 7, 6, 3, 4, 5]) 9 (by kernel_rfl) (by kernel_rfl) (by kernel_rfl) (by kernel_rfl) (by kernel_rfl) [3, 4, 5, 0, 1, 2] (by kernel_rfl) (by decide) (by decide) (aD 0 8 8 (by decide) (aD 1 7 8 (by decide) (aD 2 6 8 (by decide) (aY 3 5 (by decide) (aY 4 4 (by decide) (aY 5 3 (by decide) (aY 6 2 (by decide) (aY 7 1 (by decide) (aY 8 0 (by decide) (trivial)))))))))) [(1, .pointer (some ⟨b3, 0, none⟩)), (3, .pointer (some ⟨b59, 0, none⟩)), (4, iv r52.2), (5, .pointer (some ⟨b64, 0, none⟩)), (6, iv r61.2), (7, .pointer (some ⟨b69, 0, none⟩)), (8, iv r66.2), (9, .pointer (some ⟨b77, 0, none⟩)), (10, iv r74.2), (11, .pointer (some ⟨b83, 0, none⟩)), (12, iv r80.2), (13, .pointer (some ⟨b106, 0, none⟩)), (14, .pointer (some ⟨b105, 0, none⟩)), (15, .pointer (some ⟨b102, 0, none⟩))] (fin_of [none, none, none, none, none, none, none, none, none, none, none, some 0, some 1, some 2] rfl (by kernel_rfl) (by kernel_rfl)) (fun _ a w S => ?_)
    exact leafT (⟨Option.some.inj h, b106, b105, b102, S.fix [8, 7, 6, 5, 4, 3, 2, 1, 0] [10] (by decide) rfl rfl rfl⟩)
  obtain ⟨rfl, b84, b85, b86, S⟩ := hI
  have h := g88
  clear g88
  try dsimp only at h
  refine sSeq (fun K107 hK107 => ?_)
  refine sRegion ?_
  refine sField (b := b84) (off := 0) 11 11 S (wN rfl) rfl rfl rfl rfl rfl (lb rfl) fun a S => ?_
  refine sIdxV (v := .pointer (some ⟨b84, 11, none⟩)) (k := .i64) (j := 3) (q := .pointer (some ⟨b84, 14, none⟩)) S (wN rfl) rfl rfl rfl (idxV_arr (m := 11) (sz := 1) Try.underlying42 rfl (by decide) (by decide) 11) rfl (lb rfl) fun a S => ?_
  refine sStore (p := b84) (off := 14) (T := 44) (vs := [iv o4, iv o5, iv o6, iv o7, iv o8, iv o9, iv o10, iv o11, iv o12, iv o13, iv o14, iv 0, iv 0, iv 0, iv 0, iv 0, iv 0, iv 0, iv 0, iv 0, iv 0, iv 0, iv 0]) (v := iv (-1)) 6 [iv (-1)] S (wN rfl) rfl rfl rfl rfl rfl rfl rfl (by simp) rfl fun a w S => ?_
  refine sField (b := b85) (off := 0) 22 22 S (wN rfl) rfl rfl rfl rfl rfl (lb rfl) fun a S => ?_
  refine sStore (p := b85) (off := 22) (T := 44) (vs := [iv o4, iv o5, iv o6, iv o7, iv o8, iv o9, iv o10, iv o11, iv o12, iv o13, iv o14, iv 0, iv 0, iv 0, iv 0, iv 0, iv 0, iv 0, iv 0, iv 0, iv 0, iv 0, iv 0]) (v := iv 1000001) 7 [iv 1000001] S (wN rfl) rfl rfl rfl rfl rfl rfl rfl (by simp) rfl fun a w S => ?_
  refine sField (b := b86) (off := 0) 0 0 S (wN rfl) rfl rfl rfl rfl rfl (lb rfl) fun a S => ?_
  refine sIdxV (v := .pointer (some ⟨b86, 0, none⟩)) (k := .i64) (j := 0) (q := .pointer (some ⟨b86, 0, none⟩)) S (wN rfl) rfl rfl rfl (idxV_arr (m := 11) (sz := 1) Try.underlying42 rfl (by decide) (by decide) 0) rfl (lb rfl) fun a S => ?_
  refine sStore (p := b86) (off := 0) (T := 44) (vs := [iv o4, iv o5, iv o6, iv o7, iv o8, iv o9, iv o10, iv o11, iv o12, iv o13, iv o14, iv 0, iv 0, iv 0, iv 0, iv 0, iv 0, iv 0, iv 0, iv 0, iv 0, iv 0, iv 0]) (v := iv 1) 8 [iv 1] S (wN rfl) rfl rfl rfl rfl rfl rfl rfl (by simp) rfl fun a w S => ?_
  refine leafL (leafT (hK107 _ _ ?_))
  obtain ⟨t109, h, g110⟩ := bindSome h
  refine sCut (fun a w => ∃ o108, o108 = t109 ∧ St [] E [] w0 283 a w [(3, .pointer (some ⟨b59, 0, none⟩)), (4, iv r52.2), (5, .pointer (some ⟨b64, 0, none⟩)), (6, iv r61.2), (7, .pointer (some ⟨b69, 0, none⟩)), (8, iv r66.2), (9, .pointer (some ⟨b77, 0, none⟩)), (10, iv r74.2), (11, .pointer (some ⟨b83, 0, none⟩)), (12, iv r80.2), (13, .pointer (some ⟨b84, 0, none⟩)), (16, .bool o108)] [eBox b59 41 [iv r52.1.Start, .slice ad57 r52.1.Rows.length cp58], eBox b64 23 [iv r61.1.Length, iv r61.1.Time], eBox b69 42 (gl_A11_Int r66.1), eBox b77 23 [iv r74.1.Length, iv r74.1.Time], eBox b83 23 [iv r80.1.Length, iv r80.1.Time], eBox b84 44 (gl_api_Rates (api_Rates.mk (o4, o5, o6, o7, o8, o9, o10, o11, o12, o13, o14) (0, 0, 0, (-1), 0, 0, 0, 0, 0, 0, 0) 0))] [fRep (rL r_api_Row) (.slice ad57 r52.1.Rows.length cp58) r52.1.Rows]) ?_ (fun a w hI => ?_)
  · refine sRegion ?_
    refine sBuild [] (gl_api_Rates (api_Rates.mk (0, 0, 0, 0, 0, 0, 0, 0, 0, 0, 0) (0, 0, 0, 0, 0, 0, 0, 0, 0, 0, 0) 0)) S (wN rfl) rfl rfl rfl rfl (lb rfl) fun a S => ?_
    obtain ⟨r111, hx112, h⟩ := bindSome h
    have hv_r111 : r111 = 0 := Option.some.inj (hx112.symm.trans (by exact kc_raddlelaw45_CostNames_5))
    have S1 := S.mem
    have S1 := S1.learn (fRep r_api_Rates (gv_api_Rates (api_Rates.mk (0, 0, 0, 0, 0, 0, 0, 0, 0, 0, 0) (0, 0, 0, 0, 0, 0, 0, 0, 0, 0, 0) 0)) (api_Rates.mk (0, 0, 0, 0, 0, 0, 0, 0, 0, 0, 0) (0, 0, 0, 0, 0, 0, 0, 0, 0, 0, 0) 0)) rfl
    refine sCallQ (X := Unit) (f := 22) (vs := [gv_api_Rates (api_Rates.mk (0, 0, 0, 0, 0, 0, 0, 0, 0, 0, 0) (0, 0, 0, 0, 0, 0, 0, 0, 0, 0, 0) 0)]) (val := fun _ => iv r111) S (wN rfl) rfl callee22 rfl (S1.quiet [0] rfl) (fun E1 w1 S1 => c_cost_Check E1 w1 (api_Rates.mk (0, 0, 0, 0, 0, 0, 0, 0, 0, 0, 0) (0, 0, 0, 0, 0, 0, 0, 0, 0, 0, 0) 0) (gv_api_Rates (api_Rates.mk (0, 0, 0, 0, 0, 0, 0, 0, 0, 0, 0) (0, 0, 0, 0, 0, 0, 0, 0, 0, 0, 0) 0)) r111 hx112 S1) rfl (lb rfl) fun _ a w S => ?_
    refine sBin (.bool (r111 == 0)) S (wN rfl) rfl rfl rfl (bEq _ _ _ _ .i64 r111 0) rfl (lb rfl) fun a S => ?_
    refine sMove (.bool (r111 == 0)) S (wN rfl) (.inl rfl) rfl rfl (lb rfl) fun a S => ?_
    rcases iteSome h with ⟨hc113, h⟩ | ⟨hc113, h⟩
    rotate_left
    · exact absurd hc113 (by rw [hv_r111]; decide)
    refine sLoadN (p := b3) (off := 0) (T := 44) (vs := (gl_api_Rates (api_Rates.mk (o4, o5, o6, o7, o8, o9, o10, o11, o12, o13, o14) (0, 0, 0, 0, 0, 0, 0, 0, 0, 0, 0) 0))) 3 (gl_api_Rates (api_Rates.mk (o4, o5, o6, o7, o8, o9, o10, o11, o12, o13, o14) (0, 0, 0, 0, 0, 0, 0, 0, 0, 0, 0) 0)) S (wG 3 true 88 rfl rfl rfl hc113) rfl rfl rfl rfl rfl rfl rfl (lb rfl) fun a S => ?_
    obtain ⟨r114, hx115, h⟩ := bindSome h
    have S1 := S.mem
    have S1 := S1.learn (fRep r_api_Rates (gv_api_Rates (api_Rates.mk (o4, o5, o6, o7, o8, o9, o10, o11, o12, o13, o14) (0, 0, 0, 0, 0, 0, 0, 0, 0, 0, 0) 0)) (api_Rates.mk (o4, o5, o6, o7, o8, o9, o10, o11, o12, o13, o14) (0, 0, 0, 0, 0, 0, 0, 0, 0, 0, 0) 0)) rfl
    refine sCallQ (X := Unit) (f := 22) (vs := [gv_api_Rates (api_Rates.mk (o4, o5, o6, o7, o8, o9, o10, o11, o12, o13, o14) (0, 0, 0, 0, 0, 0, 0, 0, 0, 0, 0) 0)]) (val := fun _ => iv r114) S (wG 3 true 88 rfl rfl rfl hc113) rfl callee22 rfl (S1.quiet [0] rfl) (fun E1 w1 S1 => c_cost_Check E1 w1 (api_Rates.mk (o4, o5, o6, o7, o8, o9, o10, o11, o12, o13, o14) (0, 0, 0, 0, 0, 0, 0, 0, 0, 0, 0) 0) (gv_api_Rates (api_Rates.mk (o4, o5, o6, o7, o8, o9, o10, o11, o12, o13, o14) (0, 0, 0, 0, 0, 0, 0, 0, 0, 0, 0) 0)) r114 hx115 S1) rfl (lb rfl) fun _ a w S => ?_
    refine sBin (.bool (r114 == 0)) S (wG 3 true 88 rfl rfl rfl hc113) rfl rfl rfl (bEq _ _ _ _ .i64 r114 0) rfl (lb rfl) fun a S => ?_
    refine sPickT (.bool (r114 == 0)) S (wN rfl) rfl rfl hc113 rfl rfl (lb rfl) fun a S => ?_
    refine sMove (.bool (r114 == 0)) S (wN rfl) (.inl rfl) rfl rfl (lb rfl) fun a S => ?_
    rcases iteSome h with ⟨hc116, h⟩ | ⟨hc116, h⟩
    rotate_left
    · refine sSkip 8 true 93 94 S rfl rfl rfl hc116 rfl (lb rfl) fun a S => ?_
      refine sSkip 8 true 93 95 S rfl rfl rfl hc116 rfl (lb rfl) fun a S => ?_
      refine sSkip 8 true 93 96 S rfl rfl rfl hc116 rfl (lb rfl) fun a S => ?_
      refine sPickF (.bool false) S (wN rfl) rfl rfl hc116 rfl rfl (lb rfl) fun a S => ?_
      refine sMove (.bool false) S (wN rfl) (.inl rfl) rfl rfl (lb rfl) fun a S => ?_
      refine sSkip 13 true 98 99 S rfl rfl rfl rfl rfl (lb rfl) fun a S => ?_
      refine sSkip 13 true 98 100 S rfl rfl rfl rfl rfl (lb rfl) fun a S => ?_
      refine sSkip 13 true 98 101 S rfl rfl rfl rfl rfl (lb rfl) fun a S => ?_
      refine sPickF (.bool false) S (wN rfl) rfl rfl rfl rfl rfl (lb rfl) fun a S => ?_
      refine sMove (.bool false) S (wN rfl) (.inl rfl) rfl rfl (lb rfl) fun a S => ?_
      refine sSkip 18 true 103 104 S rfl rfl rfl rfl rfl (lb rfl) fun a S => ?_
      refine sSkip 18 true 103 105 S rfl rfl rfl rfl rfl (lb rfl) fun a S => ?_
      refine sSkip 18 true 103 106 S rfl rfl rfl rfl rfl (lb rfl) fun a S => ?_
      refine sPickF (.bool false) S (wN rfl) rfl rfl rfl rfl rfl (lb rfl) fun a S => ?_
      refine sMove (.bool false) S (wN rfl) (.inr rfl) rfl rfl (lb rfl) fun a S => ?_
      exact leafL (leafT (⟨false, Option.some.inj h, S.fix [4, 5, 6, 7, 8, 2] [0] (by decide) rfl rfl rfl⟩))
    refine sLoadN (p := b84) (off := 0) (T := 44) (vs := (gl_api_Rates (api_Rates.mk (o4, o5, o6, o7, o8, o9, o10, o11, o12, o13, o14) (0, 0, 0, (-1), 0, 0, 0, 0, 0, 0, 0) 0))) 2 (gl_api_Rates (api_Rates.mk (o4, o5, o6, o7, o8, o9, o10, o11, o12, o13, o14) (0, 0, 0, (-1), 0, 0, 0, 0, 0, 0, 0) 0)) S (wG 8 true 93 rfl rfl rfl hc116) rfl rfl rfl rfl rfl rfl rfl (lb rfl) fun a S => ?_
    obtain ⟨r117, hx118, h⟩ := bindSome h
    have S1 := S.mem
    have S1 := S1.learn (fRep r_api_Rates (gv_api_Rates (api_Rates.mk (o4, o5, o6, o7, o8, o9, o10, o11, o12, o13, o14) (0, 0, 0, (-1), 0, 0, 0, 0, 0, 0, 0) 0)) (api_Rates.mk (o4, o5, o6, o7, o8, o9, o10, o11, o12, o13, o14) (0, 0, 0, (-1), 0, 0, 0, 0, 0, 0, 0) 0)) rfl
    refine sCallQ (X := Unit) (f := 22) (vs := [gv_api_Rates (api_Rates.mk (o4, o5, o6, o7, o8, o9, o10, o11, o12, o13, o14) (0, 0, 0, (-1), 0, 0, 0, 0, 0, 0, 0) 0)]) (val := fun _ => iv r117) S (wG 8 true 93 rfl rfl rfl hc116) rfl callee22 rfl (S1.quiet [0] rfl) (fun E1 w1 S1 => c_cost_Check E1 w1 (api_Rates.mk (o4, o5, o6, o7, o8, o9, o10, o11, o12, o13, o14) (0, 0, 0, (-1), 0, 0, 0, 0, 0, 0, 0) 0) (gv_api_Rates (api_Rates.mk (o4, o5, o6, o7, o8, o9, o10, o11, o12, o13, o14) (0, 0, 0, (-1), 0, 0, 0, 0, 0, 0, 0) 0)) r117 hx118 S1) rfl (lb rfl) fun _ a w S => ?_
    refine sBin (.bool (r117 == 8)) S (wG 8 true 93 rfl rfl rfl hc116) rfl rfl rfl (bEq _ _ _ _ .i64 r117 8) rfl (lb rfl) fun a S => ?_
    refine sPickT (.bool (r117 == 8)) S (wN rfl) rfl rfl hc116 rfl rfl (lb rfl) fun a S => ?_
    refine sMove (.bool (r117 == 8)) S (wN rfl) (.inl rfl) rfl rfl (lb rfl) fun a S => ?_
    rcases iteSome h with ⟨hc119, h⟩ | ⟨hc119, h⟩
    rotate_left
    · refine sSkip 13 true 98 99 S rfl rfl rfl hc119 rfl (lb rfl) fun a S => ?_
      refine sSkip 13 true 98 100 S rfl rfl rfl hc119 rfl (lb rfl) fun a S => ?_
      refine sSkip 13 true 98 101 S rfl rfl rfl hc119 rfl (lb rfl) fun a S => ?_
      refine sPickF (.bool false) S (wN rfl) rfl rfl hc119 rfl rfl (lb rfl) fun a S => ?_
      refine sMove (.bool false) S (wN rfl) (.inl rfl) rfl rfl (lb rfl) fun a S => ?_
      refine sSkip 18 true 103 104 S rfl rfl rfl rfl rfl (lb rfl) fun a S => ?_
      refine sSkip 18 true 103 105 S rfl rfl rfl rfl rfl (lb rfl) fun a S => ?_
      refine sSkip 18 true 103 106 S rfl rfl rfl rfl rfl (lb rfl) fun a S => ?_
      refine sPickF (.bool false) S (wN rfl) rfl rfl rfl rfl rfl (lb rfl) fun a S => ?_
      refine sMove (.bool false) S (wN rfl) (.inr rfl) rfl rfl (lb rfl) fun a S => ?_
      exact leafL (leafT (⟨false, Option.some.inj h, S.fix [4, 5, 6, 7, 8, 2] [0] (by decide) rfl rfl rfl⟩))
    refine sLoadN (p := b85) (off := 0) (T := 44) (vs := (gl_api_Rates (api_Rates.mk (o4, o5, o6, o7, o8, o9, o10, o11, o12, o13, o14) (0, 0, 0, 0, 0, 0, 0, 0, 0, 0, 0) 1000001))) 1 (gl_api_Rates (api_Rates.mk (o4, o5, o6, o7, o8, o9, o10, o11, o12, o13, o14) (0, 0, 0, 0, 0, 0, 0, 0, 0, 0, 0) 1000001)) S (wG 13 true 98 rfl rfl rfl hc119) rfl rfl rfl rfl rfl rfl rfl (lb rfl) fun a S => ?_
    obtain ⟨r120, hx121, h⟩ := bindSome h
    have S1 := S.mem
    have S1 := S1.learn (fRep r_api_Rates (gv_api_Rates (api_Rates.mk (o4, o5, o6, o7, o8, o9, o10, o11, o12, o13, o14) (0, 0, 0, 0, 0, 0, 0, 0, 0, 0, 0) 1000001)) (api_Rates.mk (o4, o5, o6, o7, o8, o9, o10, o11, o12, o13, o14) (0, 0, 0, 0, 0, 0, 0, 0, 0, 0, 0) 1000001)) rfl
    refine sCallQ (X := Unit) (f := 22) (vs := [gv_api_Rates (api_Rates.mk (o4, o5, o6, o7, o8, o9, o10, o11, o12, o13, o14) (0, 0, 0, 0, 0, 0, 0, 0, 0, 0, 0) 1000001)]) (val := fun _ => iv r120) S (wG 13 true 98 rfl rfl rfl hc119) rfl callee22 rfl (S1.quiet [0] rfl) (fun E1 w1 S1 => c_cost_Check E1 w1 (api_Rates.mk (o4, o5, o6, o7, o8, o9, o10, o11, o12, o13, o14) (0, 0, 0, 0, 0, 0, 0, 0, 0, 0, 0) 1000001) (gv_api_Rates (api_Rates.mk (o4, o5, o6, o7, o8, o9, o10, o11, o12, o13, o14) (0, 0, 0, 0, 0, 0, 0, 0, 0, 0, 0) 1000001)) r120 hx121 S1) rfl (lb rfl) fun _ a w S => ?_
    refine sBin (.bool (r120 == 8)) S (wG 13 true 98 rfl rfl rfl hc119) rfl rfl rfl (bEq _ _ _ _ .i64 r120 8) rfl (lb rfl) fun a S => ?_
    refine sPickT (.bool (r120 == 8)) S (wN rfl) rfl rfl hc119 rfl rfl (lb rfl) fun a S => ?_
    refine sMove (.bool (r120 == 8)) S (wN rfl) (.inl rfl) rfl rfl (lb rfl) fun a S => ?_
    rcases iteSome h with ⟨hc122, h⟩ | ⟨hc122, h⟩
    rotate_left
    · refine sSkip 18 true 103 104 S rfl rfl rfl hc122 rfl (lb rfl) fun a S => ?_
      refine sSkip 18 true 103 105 S rfl rfl rfl hc122 rfl (lb rfl) fun a S => ?_
      refine sSkip 18 true 103 106 S rfl rfl rfl hc122 rfl (lb rfl) fun a S => ?_
      refine sPickF (.bool false) S (wN rfl) rfl rfl hc122 rfl rfl (lb rfl) fun a S => ?_
      refine sMove (.bool false) S (wN rfl) (.inr rfl) rfl rfl (lb rfl) fun a S => ?_
      exact leafL (leafT (⟨false, Option.some.inj h, S.fix [4, 5, 6, 7, 8, 2] [0] (by decide) rfl rfl rfl⟩))
    refine sLoadN (p := b86) (off := 0) (T := 44) (vs := (gl_api_Rates (api_Rates.mk (1, o5, o6, o7, o8, o9, o10, o11, o12, o13, o14) (0, 0, 0, 0, 0, 0, 0, 0, 0, 0, 0) 0))) 0 (gl_api_Rates (api_Rates.mk (1, o5, o6, o7, o8, o9, o10, o11, o12, o13, o14) (0, 0, 0, 0, 0, 0, 0, 0, 0, 0, 0) 0)) S (wG 18 true 103 rfl rfl rfl hc122) rfl rfl rfl rfl rfl rfl rfl (lb rfl) fun a S => ?_
    obtain ⟨r123, hx124, h⟩ := bindSome h
    have S1 := S.mem
    have S1 := S1.learn (fRep r_api_Rates (gv_api_Rates (api_Rates.mk (1, o5, o6, o7, o8, o9, o10, o11, o12, o13, o14) (0, 0, 0, 0, 0, 0, 0, 0, 0, 0, 0) 0)) (api_Rates.mk (1, o5, o6, o7, o8, o9, o10, o11, o12, o13, o14) (0, 0, 0, 0, 0, 0, 0, 0, 0, 0, 0) 0)) rfl
    refine sCallQ (X := Unit) (f := 22) (vs := [gv_api_Rates (api_Rates.mk (1, o5, o6, o7, o8, o9, o10, o11, o12, o13, o14) (0, 0, 0, 0, 0, 0, 0, 0, 0, 0, 0) 0)]) (val := fun _ => iv r123) S (wG 18 true 103 rfl rfl rfl hc122) rfl callee22 rfl (S1.quiet [0] rfl) (fun E1 w1 S1 => c_cost_Check E1 w1 (api_Rates.mk (1, o5, o6, o7, o8, o9, o10, o11, o12, o13, o14) (0, 0, 0, 0, 0, 0, 0, 0, 0, 0, 0) 0) (gv_api_Rates (api_Rates.mk (1, o5, o6, o7, o8, o9, o10, o11, o12, o13, o14) (0, 0, 0, 0, 0, 0, 0, 0, 0, 0, 0) 0)) r123 hx124 S1) rfl (lb rfl) fun _ a w S => ?_
    refine sBin (.bool (r123 == 8)) S (wG 18 true 103 rfl rfl rfl hc122) rfl rfl rfl (bEq _ _ _ _ .i64 r123 8) rfl (lb rfl) fun a S => ?_
    refine sPickT (.bool (r123 == 8)) S (wN rfl) rfl rfl hc122 rfl rfl (lb rfl) fun a S => ?_
    refine sMove (.bool (r123 == 8)) S (wN rfl) (.inr rfl) rfl rfl (lb rfl) fun a S => ?_
    exact leafL (leafT (⟨r123 == 8, Option.some.inj h, S.fix [4, 5, 6, 7, 8, 2] [0] (by decide) rfl rfl rfl⟩))
  obtain ⟨o108, rfl, S⟩ := hI
  have h := g110
  clear g110
  try dsimp only at h
  refine sSeq (fun K125 hK125 => ?_)
  refine sRegion ?_
  refine sField (b := b59) (off := 0) 1 1 S (wN rfl) rfl rfl rfl rfl rfl (lb rfl) fun a S => ?_
  refine sLoad1 (p := b59) (off := 1) (T := 41) (vs := [iv r52.1.Start, .slice ad57 r52.1.Rows.length cp58]) 0 (.slice ad57 r52.1.Rows.length cp58) S (wN rfl) rfl rfl rfl rfl rfl rfl (lb rfl) fun a S => ?_
  refine sBuild [(0, iv 3), (1, .slice ad57 r52.1.Rows.length cp58)] [iv 3, .slice ad57 r52.1.Rows.length cp58] S (wN rfl) rfl rfl rfl rfl (lb rfl) fun a S => ?_
  refine sLoadN (p := b84) (off := 0) (T := 44) (vs := (gl_api_Rates (api_Rates.mk (o4, o5, o6, o7, o8, o9, o10, o11, o12, o13, o14) (0, 0, 0, (-1), 0, 0, 0, 0, 0, 0, 0) 0))) 5 (gl_api_Rates (api_Rates.mk (o4, o5, o6, o7, o8, o9, o10, o11, o12, o13, o14) (0, 0, 0, (-1), 0, 0, 0, 0, 0, 0, 0) 0)) S (wN rfl) rfl rfl rfl rfl rfl rfl rfl (lb rfl) fun a S => ?_
  obtain ⟨r126, hx127, h⟩ := bindSome h
  have S := S.learn (fRep r_api_Chart (.agg #[iv 3, .slice ad57 r52.1.Rows.length cp58]) (api_Chart.mk 3 r52.1.Rows)) ⟨_, rfl, S.mem.know (i := 0) (e := fRep (rL r_api_Row) (.slice ad57 r52.1.Rows.length cp58) r52.1.Rows) rfl⟩
  have S := S.learn (fRep r_api_Rates (gv_api_Rates (api_Rates.mk (o4, o5, o6, o7, o8, o9, o10, o11, o12, o13, o14) (0, 0, 0, (-1), 0, 0, 0, 0, 0, 0, 0) 0)) (api_Rates.mk (o4, o5, o6, o7, o8, o9, o10, o11, o12, o13, o14) (0, 0, 0, (-1), 0, 0, 0, 0, 0, 0, 0) 0)) rfl
  refine sCall (X := Value) (f := 18) (vs := [.agg #[iv 3, .slice ad57 r52.1.Rows.length cp58], gv_api_Rates (api_Rates.mk (o4, o5, o6, o7, o8, o9, o10, o11, o12, o13, o14) (0, 0, 0, (-1), 0, 0, 0, 0, 0, 0, 0) 0)]) (val := c_cost_Need_val r126) (B' := fun _ => []) (D' := c_cost_Need_D r126) [] [eBox b59 41 [iv r52.1.Start, .slice ad57 r52.1.Rows.length cp58], eBox b64 23 [iv r61.1.Length, iv r61.1.Time], eBox b69 42 (gl_A11_Int r66.1), eBox b77 23 [iv r74.1.Length, iv r74.1.Time], eBox b83 23 [iv r80.1.Length, iv r80.1.Time], eBox b84 44 (gl_api_Rates (api_Rates.mk (o4, o5, o6, o7, o8, o9, o10, o11, o12, o13, o14) (0, 0, 0, (-1), 0, 0, 0, 0, 0, 0, 0) 0))] [fRep r_api_Chart (.agg #[iv 3, .slice ad57 r52.1.Rows.length cp58]) (api_Chart.mk 3 r52.1.Rows), fRep r_api_Rates (gv_api_Rates (api_Rates.mk (o4, o5, o6, o7, o8, o9, o10, o11, o12, o13, o14) (0, 0, 0, (-1), 0, 0, 0, 0, 0, 0, 0) 0)) (api_Rates.mk (o4, o5, o6, o7, o8, o9, o10, o11, o12, o13, o14) (0, 0, 0, (-1), 0, 0, 0, 0, 0, 0, 0) 0)] [0, 1, 2, 3, 4, 5] [1, 0] S (wN rfl) rfl callee18 rfl (by decide) rfl rfl (fun E1 w1 S1 => c_cost_Need E1 w1 (api_Chart.mk 3 r52.1.Rows) (.agg #[iv 3, .slice ad57 r52.1.Rows.length cp58]) (api_Rates.mk (o4, o5, o6, o7, o8, o9, o10, o11, o12, o13, o14) (0, 0, 0, (-1), 0, 0, 0, 0, 0, 0, 0) 0) (gv_api_Rates (api_Rates.mk (o4, o5, o6, o7, o8, o9, o10, o11, o12, o13, o14) (0, 0, 0, (-1), 0, 0, 0, 0, 0, 0, 0) 0)) r126 hx127 S1) rfl (lb rfl) fun u128 a w S => ?_
  obtain rfl : u128 = .agg #[iv r126.1.Length, iv r126.1.Time] := S.mem.know (i := 0) (e := fRep r_api_Bill (u128) r126.1) rfl
  refine sMove (.tuple #[.agg #[iv r126.1.Length, iv r126.1.Time], iv r126.2]) S (wN rfl) (.inl rfl) rfl rfl (lb rfl) fun a S => ?_
  refine sExtract (vs := [.agg #[iv r126.1.Length, iv r126.1.Time], iv r126.2]) (.agg #[iv r126.1.Length, iv r126.1.Time]) S (wN rfl) rfl rfl rfl rfl (lb rfl) fun a S => ?_
  refine sExtract (vs := [.agg #[iv r126.1.Length, iv r126.1.Time], iv r126.2]) (iv r126.2) S (wN rfl) rfl rfl rfl rfl (lb rfl) fun a S => ?_
  refine sAlloc (.agg #[iv 0, iv 0]) S (wN rfl) rfl rfl [iv 0, iv 0] rfl rfl (lb rfl) fun a b129 w S => ?_
  refine sStore (p := b129) (off := 0) (T := 23) (vs := [iv 0, iv 0]) (v := .agg #[iv r126.1.Length, iv r126.1.Time]) 0 [iv r126.1.Length, iv r126.1.Time] S (wN rfl) rfl rfl rfl rfl rfl rfl rfl (by simp) rfl fun a w S => ?_
  refine sMove (iv r126.2) S (wN rfl) (.inr rfl) rfl rfl (lb rfl) fun a S => ?_
  refine leafL (leafT (hK125 _ _ ?_))
  refine sSeq (fun K130 hK130 => ?_)
  refine sRegion ?_
  refine sLoadN (p := b59) (off := 0) (T := 41) (vs := [iv r52.1.Start, .slice ad57 r52.1.Rows.length cp58]) 1 [iv r52.1.Start, .slice ad57 r52.1.Rows.length cp58] S (wN rfl) rfl rfl rfl rfl rfl rfl rfl (lb rfl) fun a S => ?_
  refine sLoadN (p := b84) (off := 0) (T := 44) (vs := (gl_api_Rates (api_Rates.mk (o4, o5, o6, o7, o8, o9, o10, o11, o12, o13, o14) (0, 0, 0, (-1), 0, 0, 0, 0, 0, 0, 0) 0))) 6 (gl_api_Rates (api_Rates.mk (o4, o5, o6, o7, o8, o9, o10, o11, o12, o13, o14) (0, 0, 0, (-1), 0, 0, 0, 0, 0, 0, 0) 0)) S (wN rfl) rfl rfl rfl rfl rfl rfl rfl (lb rfl) fun a S => ?_
  obtain ⟨r131, hx132, h⟩ := bindSome h
  have S := S.learn (fRep r_api_Chart (.agg #[iv r52.1.Start, .slice ad57 r52.1.Rows.length cp58]) r52.1) ⟨_, rfl, S.mem.know (i := 3) (e := fRep (rL r_api_Row) (.slice ad57 r52.1.Rows.length cp58) r52.1.Rows) rfl⟩
  refine sCall (X := Value) (f := 18) (vs := [.agg #[iv r52.1.Start, .slice ad57 r52.1.Rows.length cp58], gv_api_Rates (api_Rates.mk (o4, o5, o6, o7, o8, o9, o10, o11, o12, o13, o14) (0, 0, 0, (-1), 0, 0, 0, 0, 0, 0, 0) 0)]) (val := c_cost_Need_val r131) (B' := fun _ => []) (D' := c_cost_Need_D r131) [] [eBox b129 23 [iv r126.1.Length, iv r126.1.Time], eBox b59 41 [iv r52.1.Start, .slice ad57 r52.1.Rows.length cp58], eBox b64 23 [iv r61.1.Length, iv r61.1.Time], eBox b69 42 (gl_A11_Int r66.1), eBox b77 23 [iv r74.1.Length, iv r74.1.Time], eBox b83 23 [iv r80.1.Length, iv r80.1.Time], eBox b84 44 (gl_api_Rates (api_Rates.mk (o4, o5, o6, o7, o8, o9, o10, o11, o12, o13, o14) (0, 0, 0, (-1), 0, 0, 0, 0, 0, 0, 0) 0))] [fRep r_api_Chart (.agg #[iv r52.1.Start, .slice ad57 r52.1.Rows.length cp58]) r52.1, fRep r_api_Rates (gv_api_Rates (api_Rates.mk (o4, o5, o6, o7, o8, o9, o10, o11, o12, o13, o14) (0, 0, 0, (-1), 0, 0, 0, 0, 0, 0, 0) 0)) (api_Rates.mk (o4, o5, o6, o7, o8, o9, o10, o11, o12, o13, o14) (0, 0, 0, (-1), 0, 0, 0, 0, 0, 0, 0) 0)] [0, 1, 2, 3, 4, 5, 6] [0, 2] S (wN rfl) rfl callee18 rfl (by decide) rfl rfl (fun E1 w1 S1 => c_cost_Need E1 w1 r52.1 (.agg #[iv r52.1.Start, .slice ad57 r52.1.Rows.length cp58]) (api_Rates.mk (o4, o5, o6, o7, o8, o9, o10, o11, o12, o13, o14) (0, 0, 0, (-1), 0, 0, 0, 0, 0, 0, 0) 0) (gv_api_Rates (api_Rates.mk (o4, o5, o6, o7, o8, o9, o10, o11, o12, o13, o14) (0, 0, 0, (-1), 0, 0, 0, 0, 0, 0, 0) 0)) r131 hx132 S1) rfl (lb rfl) fun u133 a w S => ?_
  obtain rfl : u133 = .agg #[iv r131.1.Length, iv r131.1.Time] := S.mem.know (i := 0) (e := fRep r_api_Bill (u133) r131.1) rfl
  refine sMove (.tuple #[.agg #[iv r131.1.Length, iv r131.1.Time], iv r131.2]) S (wN rfl) (.inl rfl) rfl rfl (lb rfl) fun a S => ?_
  refine sExtract (vs := [.agg #[iv r131.1.Length, iv r131.1.Time], iv r131.2]) (.agg #[iv r131.1.Length, iv r131.1.Time]) S (wN rfl) rfl rfl rfl rfl (lb rfl) fun a S => ?_
  refine sExtract (vs := [.agg #[iv r131.1.Length, iv r131.1.Time], iv r131.2]) (iv r131.2) S (wN rfl) rfl rfl rfl rfl (lb rfl) fun a S => ?_
  refine sAlloc (.agg #[iv 0, iv 0]) S (wN rfl) rfl rfl [iv 0, iv 0] rfl rfl (lb rfl) fun a b134 w S => ?_
  refine sStore (p := b134) (off := 0) (T := 23) (vs := [iv 0, iv 0]) (v := .agg #[iv r131.1.Length, iv r131.1.Time]) 0 [iv r131.1.Length, iv r131.1.Time] S (wN rfl) rfl rfl rfl rfl rfl rfl rfl (by simp) rfl fun a w S => ?_
  refine sMove (iv r131.2) S (wN rfl) (.inr rfl) rfl rfl (lb rfl) fun a S => ?_
  refine leafL (leafT (hK130 _ _ ?_))
  obtain ⟨t136, h, g137⟩ := bindSome h
  refine sCut (fun a w => ∃ o135, o135 = t136 ∧ St [] E [] w0 283 a w [(4, iv r52.2), (5, .pointer (some ⟨b64, 0, none⟩)), (6, iv r61.2), (7, .pointer (some ⟨b69, 0, none⟩)), (8, iv r66.2), (9, .pointer (some ⟨b77, 0, none⟩)), (10, iv r74.2), (11, .pointer (some ⟨b83, 0, none⟩)), (12, iv r80.2), (13, .pointer (some ⟨b84, 0, none⟩)), (16, .bool o108), (18, iv r126.2), (20, iv r131.2), (22, iv o135)] [eBox b64 23 [iv r61.1.Length, iv r61.1.Time], eBox b69 42 (gl_A11_Int r66.1), eBox b77 23 [iv r74.1.Length, iv r74.1.Time], eBox b83 23 [iv r80.1.Length, iv r80.1.Time], eBox b84 44 (gl_api_Rates (api_Rates.mk (o4, o5, o6, o7, o8, o9, o10, o11, o12, o13, o14) (0, 0, 0, (-1), 0, 0, 0, 0, 0, 0, 0) 0))] []) ?_ (fun a w hI => ?_)
  · obtain ⟨m140, hx141, h⟩ := bindSome h
    have hv_m140 : m140 = [(api_Chart.mk 0 []), (api_Chart.mk 0 []), (api_Chart.mk 0 []), (api_Chart.mk 0 []), (api_Chart.mk 0 []), (api_Chart.mk 0 []), (api_Chart.mk 0 []), (api_Chart.mk 0 []), (api_Chart.mk 0 []), (api_Chart.mk 0 []), (api_Chart.mk 0 []), (api_Chart.mk 0 []), (api_Chart.mk 0 []), (api_Chart.mk 0 []), (api_Chart.mk 0 []), (api_Chart.mk 0 []), (api_Chart.mk 0 []), (api_Chart.mk 0 []), (api_Chart.mk 0 []), (api_Chart.mk 0 []), (api_Chart.mk 0 [])] := Option.some.inj (hx141.symm.trans (by kernel_rfl))
    obtain ⟨r142, hx143, h⟩ := bindSome h
    refine sDraw (nf := [0, 2, 6, 7]) (W := [(1, 124, gv_api_Rates (api_Rates.mk (o4, o5, o6, o7, o8, o9, o10, o11, o12, o13, o14) (0, 0, 0, (-1), 0, 0, 0, 0, 0, 0, 0) 0))]) rfl S ?_
    refine node_by (A := anc_raddlelaw45_CostNames_1) (nf := [0, 2, 6, 7]) (Y := []) (W := [(1, 124, gv_api_Rates (api_Rates.mk (o4, o5, o6, o7, o8, o9, o10, o11, o12, o13, o14) (0, 0, 0, (-1), 0, 0, 0, 0, 0, 0, 0) 0))]) 9 (by kernel_rfl) (by kernel_rfl) (by kernel_rfl) (by kernel_rfl) (by kernel_rfl) [1] (by kernel_rfl) (by decide) (by decide) (aN 0 8 (by decide) ?_ (aF 1 7 (by decide) ?_ (aB 2 6 0 (by decide) (aE 3 5 0 (by decide) (aE 4 4 0 (by decide) (aE 5 3 0 (by decide) (aN 6 2 (by decide) ?_ (aB 7 1 0 (by decide) (aE 8 0 0 (by decide) (trivial)))))))))) [] (fun q hq => by cases hq) (fun hY => absurd (hY 0 (by decide)) (by decide))
    · refine ⟨_, [], rfl, (srcs_of [] rfl rfl rfl), fun G a w S => ?_⟩
      refine sMakeG (r := r_api_Chart) (m := 21) (xs := m140) (.agg #[iv 0, .slice none 0 0]) (api_Chart.mk 0 ([] : (List api_Row))) 32 S (wN rfl) rfl Try.underlying38 rfl (by decide) (fun E w => ⟨_, rfl, rL_nil _ E w⟩) rfl rfl hx141 rfl (lb rfl) fun a w ad146 cp147 S => ?_
      refine leafL ⟨rfl, _, _, .inl ⟨123, (.slice ad146 m140.length cp147), [], rfl, S, hz_of rfl, ?_⟩⟩
      refine node_by (A := anc_raddlelaw45_CostNames_1) (nf := [0, 2, 6, 7]) (Y := [0]) 9 (by kernel_rfl) (by kernel_rfl) (by kernel_rfl) (by kernel_rfl) (by kernel_rfl) [0, 1] (by kernel_rfl) (by decide) (by decide) (aY 0 8 (by decide) (aF 1 7 (by decide) ?_ (aN 2 6 (by decide) ?_ (aE 3 5 2 (by decide) (aE 4 4 2 (by decide) (aE 5 3 2 (by decide) (aN 6 2 (by decide) ?_ (aB 7 1 2 (by decide) (aE 8 0 2 (by decide) (trivial)))))))))) [] (fun q hq => by cases hq) (fun hY => absurd (hY 2 (by decide)) (by decide))
      · refine fI 124 (gv_api_Rates (api_Rates.mk (o4, o5, o6, o7, o8, o9, o10, o11, o12, o13, o14) (0, 0, 0, (-1), 0, 0, 0, 0, 0, 0, 0) 0)) [(13, .pointer (some ⟨b84, 0, none⟩))] 1 [none] rfl rfl rfl rfl rfl rfl fun G a w S => ?_
        refine sLoadN (p := b84) (off := 0) (T := 44) (vs := (gl_api_Rates (api_Rates.mk (o4, o5, o6, o7, o8, o9, o10, o11, o12, o13, o14) (0, 0, 0, (-1), 0, 0, 0, 0, 0, 0, 0) 0))) 8 (gl_api_Rates (api_Rates.mk (o4, o5, o6, o7, o8, o9, o10, o11, o12, o13, o14) (0, 0, 0, (-1), 0, 0, 0, 0, 0, 0, 0) 0)) S (wN rfl) rfl rfl rfl rfl rfl rfl rfl (lb rfl) fun a S => ?_
        exact leafL ⟨rfl, S⟩
      · refine ⟨_, [(123, .slice ad146 m140.length cp147), (124, gv_api_Rates (api_Rates.mk (o4, o5, o6, o7, o8, o9, o10, o11, o12, o13, o14) (0, 0, 0, (-1), 0, 0, 0, 0, 0, 0, 0) 0))], rfl, (srcs_of [some 0, some 1] rfl rfl rfl), fun G a w S => ?_⟩
        have S := S.shutR (r := r_api_Chart) (T := 41) (v := .slice ad146 m140.length cp147) (xs := m140) 0 rfl
        refine sCall (X := Value) (f := 20) (vs := [.slice ad146 m140.length cp147, gv_api_Rates (api_Rates.mk (o4, o5, o6, o7, o8, o9, o10, o11, o12, o13, o14) (0, 0, 0, (-1), 0, 0, 0, 0, 0, 0, 0) 0)]) (val := c_cost_Total_val r142) (B' := fun _ => []) (D' := c_cost_Total_D r142) [] [eBox b134 23 [iv r131.1.Length, iv r131.1.Time], eBox b129 23 [iv r126.1.Length, iv r126.1.Time], eBox b59 41 [iv r52.1.Start, .slice ad57 r52.1.Rows.length cp58], eBox b64 23 [iv r61.1.Length, iv r61.1.Time], eBox b69 42 (gl_A11_Int r66.1), eBox b77 23 [iv r74.1.Length, iv r74.1.Time], eBox b83 23 [iv r80.1.Length, iv r80.1.Time], eBox b84 44 (gl_api_Rates (api_Rates.mk (o4, o5, o6, o7, o8, o9, o10, o11, o12, o13, o14) (0, 0, 0, (-1), 0, 0, 0, 0, 0, 0, 0) 0))] [fRep (rL r_api_Chart) (.slice ad146 m140.length cp147) m140, fRep r_api_Rates (gv_api_Rates (api_Rates.mk (o4, o5, o6, o7, o8, o9, o10, o11, o12, o13, o14) (0, 0, 0, (-1), 0, 0, 0, 0, 0, 0, 0) 0)) (api_Rates.mk (o4, o5, o6, o7, o8, o9, o10, o11, o12, o13, o14) (0, 0, 0, (-1), 0, 0, 0, 0, 0, 0, 0) 0)] [0, 1, 2, 3, 4, 5, 6, 7] [0, 4] S (wN rfl) rfl callee20 rfl (by decide) rfl rfl (fun E1 w1 S1 => c_cost_Total E1 w1 m140 (.slice ad146 m140.length cp147) (api_Rates.mk (o4, o5, o6, o7, o8, o9, o10, o11, o12, o13, o14) (0, 0, 0, (-1), 0, 0, 0, 0, 0, 0, 0) 0) (gv_api_Rates (api_Rates.mk (o4, o5, o6, o7, o8, o9, o10, o11, o12, o13, o14) (0, 0, 0, (-1), 0, 0, 0, 0, 0, 0, 0) 0)) r142 hx143 S1) rfl (lb rfl) fun u148 a w S => ?_
        obtain rfl : u148 = .agg #[iv r142.1.Length, iv r142.1.Time] := S.mem.know (i := 0) (e := fRep r_api_Bill (u148) r142.1) rfl
        refine leafL ⟨rfl, _, _, .inl ⟨125, (.tuple #[.agg #[iv r142.1.Length, iv r142.1.Time], iv r142.2]), [(3, 122, .tuple #[.agg #[iv r142.1.Length, iv r142.1.Time], iv r142.2]), (4, 126, .agg #[iv r142.1.Length, iv r142.1.Time]), (5, 127, iv r142.2)], rfl, S, hz_of rfl, ?_⟩⟩
        refine node_by (A := anc_raddlelaw45_CostNames_1) (nf := [0, 2, 6, 7]) (Y := [2, 0]) 9 (by kernel_rfl) (by kernel_rfl) (by kernel_rfl) (by kernel_rfl) (by kernel_rfl) [3, 4, 5, 2, 0, 1] (by kernel_rfl) (by decide) (by decide) (aY 0 8 (by decide) (aD 1 7 2 (by decide) (aY 2 6 (by decide) (aF 3 5 (by decide) ?_ (aF 4 4 (by decide) ?_ (aF 5 3 (by decide) ?_ (aN 6 2 (by decide) ?_ (aB 7 1 6 (by decide) (aE 8 0 6 (by decide) (trivial)))))))))) [] (fun q hq => by cases hq) (fun hY => absurd (hY 6 (by decide)) (by decide))
        · refine fI 122 (.tuple #[.agg #[iv r142.1.Length, iv r142.1.Time], iv r142.2]) [(125, .tuple #[.agg #[iv r142.1.Length, iv r142.1.Time], iv r142.2])] 0 [some 3] rfl rfl rfl rfl rfl rfl fun G a w S => ?_
          refine sMove (.tuple #[.agg #[iv r142.1.Length, iv r142.1.Time], iv r142.2]) S (wN rfl) (.inl rfl) rfl rfl (lb rfl) fun a S => ?_
          exact leafL ⟨rfl, S⟩
        · refine fI 126 (.agg #[iv r142.1.Length, iv r142.1.Time]) [(122, .tuple #[.agg #[iv r142.1.Length, iv r142.1.Time], iv r142.2])] 1 [some 0] rfl rfl rfl rfl rfl rfl fun G a w S => ?_
          refine sExtract (vs := [.agg #[iv r142.1.Length, iv r142.1.Time], iv r142.2]) (.agg #[iv r142.1.Length, iv r142.1.Time]) S (wN rfl) rfl rfl rfl rfl (lb rfl) fun a S => ?_
          exact leafL ⟨rfl, S⟩
        · refine fI 127 (iv r142.2) [(122, .tuple #[.agg #[iv r142.1.Length, iv r142.1.Time], iv r142.2])] 2 [some 0] rfl rfl rfl rfl rfl rfl fun G a w S => ?_
          refine sExtract (vs := [.agg #[iv r142.1.Length, iv r142.1.Time], iv r142.2]) (iv r142.2) S (wN rfl) rfl rfl rfl rfl (lb rfl) fun a S => ?_
          exact leafL ⟨rfl, S⟩
        refine ⟨_, [], rfl, (srcs_of [] rfl rfl rfl), fun G a w S => ?_⟩
        refine sAlloc (.agg #[iv 0, iv 0]) S (wN rfl) rfl rfl [iv 0, iv 0] rfl rfl (lb rfl) fun a b149 w S => ?_
        refine leafL ⟨rfl, _, _, .inl ⟨21, (.pointer (some ⟨b149, 0, none⟩)), [], rfl, S, hz_of rfl, ?_⟩⟩
        refine node_by (A := anc_raddlelaw45_CostNames_1) (nf := [0, 2, 6, 7]) (Y := [6, 2, 0]) 9 (by kernel_rfl) (by kernel_rfl) (by kernel_rfl) (by kernel_rfl) (by kernel_rfl) [6, 3, 4, 5, 2, 0, 1] (by kernel_rfl) (by decide) (by decide) (aY 0 8 (by decide) (aD 1 7 2 (by decide) (aY 2 6 (by decide) (aF 3 5 (by decide) ?_ (aF 4 4 (by decide) ?_ (aF 5 3 (by decide) ?_ (aY 6 2 (by decide) (aN 7 1 (by decide) ?_ (aE 8 0 7 (by decide) (trivial)))))))))) [] (fun q hq => by cases hq) (fun hY => absurd (hY 7 (by decide)) (by decide))
        · refine fI 122 (.tuple #[.agg #[iv r142.1.Length, iv r142.1.Time], iv r142.2]) [(125, .tuple #[.agg #[iv r142.1.Length, iv r142.1.Time], iv r142.2])] 1 [some 4] rfl rfl rfl rfl rfl rfl fun G a w S => ?_
          refine sMove (.tuple #[.agg #[iv r142.1.Length, iv r142.1.Time], iv r142.2]) S (wN rfl) (.inl rfl) rfl rfl (lb rfl) fun a S => ?_
          exact leafL ⟨rfl, S⟩
        · refine fI 126 (.agg #[iv r142.1.Length, iv r142.1.Time]) [(122, .tuple #[.agg #[iv r142.1.Length, iv r142.1.Time], iv r142.2])] 2 [some 1] rfl rfl rfl rfl rfl rfl fun G a w S => ?_
          refine sExtract (vs := [.agg #[iv r142.1.Length, iv r142.1.Time], iv r142.2]) (.agg #[iv r142.1.Length, iv r142.1.Time]) S (wN rfl) rfl rfl rfl rfl (lb rfl) fun a S => ?_
          exact leafL ⟨rfl, S⟩
        · refine fI 127 (iv r142.2) [(122, .tuple #[.agg #[iv r142.1.Length, iv r142.1.Time], iv r142.2])] 3 [some 1] rfl rfl rfl rfl rfl rfl fun G a w S => ?_
          refine sExtract (vs := [.agg #[iv r142.1.Length, iv r142.1.Time], iv r142.2]) (iv r142.2) S (wN rfl) rfl rfl rfl rfl (lb rfl) fun a S => ?_
          exact leafL ⟨rfl, S⟩
        refine ⟨_, [(21, .pointer (some ⟨b149, 0, none⟩)), (126, .agg #[iv r142.1.Length, iv r142.1.Time])], rfl, (srcs_of [some 0, some 2] rfl rfl rfl), fun G a w S => ?_⟩
        refine sStore (p := b149) (off := 0) (T := 23) (vs := [iv 0, iv 0]) (v := .agg #[iv r142.1.Length, iv r142.1.Time]) 0 [iv r142.1.Length, iv r142.1.Time] S (wN rfl) rfl rfl rfl rfl rfl rfl rfl (by simp) rfl fun a w S => ?_
        refine leafL ⟨rfl, _, _, .inr ⟨[(8, 22, iv r142.2)], rfl, S, hz_of rfl, ?_⟩⟩
        refine node_by (A := anc_raddlelaw45_CostNames_1) (nf := [0, 2, 6, 7]) (Y := [7, 6, 2, 0]) 9 (by kernel_rfl) (by kernel_rfl) (by kernel_rfl) (by kernel_rfl) (by kernel_rfl) [8, 6, 3, 4, 5, 2, 0, 1] (by kernel_rfl) (by decide) (by decide) (aY 0 8 (by decide) (aD 1 7 7 (by decide) (aY 2 6 (by decide) (aD 3 5 7 (by decide) (aD 4 4 7 (by decide) (aF 5 3 (by decide) ?_ (aY 6 2 (by decide) (aY 7 1 (by decide) (aF 8 0 (by decide) ?_ (trivial)))))))))) [(4, iv r52.2), (5, .pointer (some ⟨b64, 0, none⟩)), (6, iv r61.2), (7, .pointer (some ⟨b69, 0, none⟩)), (8, iv r66.2), (9, .pointer (some ⟨b77, 0, none⟩)), (10, iv r74.2), (11, .pointer (some ⟨b83, 0, none⟩)), (12, iv r80.2), (13, .pointer (some ⟨b84, 0, none⟩)), (16, .bool o108), (18, iv r126.2), (20, iv r131.2), (22, iv r142.2)] (fin_of [none, none, none, none, none, none, none, none, none, none, none, none, none, some 0] rfl (by kernel_rfl) (by kernel_rfl)) (fun _ a w S => ?_)
        · refine fI 127 (iv r142.2) [(122, .tuple #[.agg #[iv r142.1.Length, iv r142.1.Time], iv r142.2])] 4 [some 2] rfl rfl rfl rfl rfl rfl fun G a w S => ?_
          refine sExtract (vs := [.agg #[iv r142.1.Length, iv r142.1.Time], iv r142.2]) (iv r142.2) S (wN rfl) rfl rfl rfl rfl (lb rfl) fun a S => ?_
          exact leafL ⟨rfl, S⟩
        · refine fI 22 (iv r142.2) [(127, iv r142.2)] 0 [some 4] rfl rfl rfl rfl rfl rfl fun G a w S => ?_
          refine sMove (iv r142.2) S (wN rfl) (.inr rfl) rfl rfl (lb rfl) fun a S => ?_
          exact leafL ⟨rfl, S⟩
        exact leafT (⟨r142.2, Option.some.inj h, S.fix [4, 5, 6, 7, 8] [] (by decide) rfl rfl rfl⟩)
      refine ⟨_, [], rfl, (srcs_of [] rfl rfl rfl), fun G a w S => ?_⟩
      refine sAlloc (.agg #[iv 0, iv 0]) S (wN rfl) rfl rfl [iv 0, iv 0] rfl rfl (lb rfl) fun a b150 w S => ?_
      refine leafL ⟨rfl, _, _, .inl ⟨21, (.pointer (some ⟨b150, 0, none⟩)), [], rfl, S, hz_of rfl, ?_⟩⟩
      refine node_by (A := anc_raddlelaw45_CostNames_1) (nf := [0, 2, 6, 7]) (Y := [6, 0]) 9 (by kernel_rfl) (by kernel_rfl) (by kernel_rfl) (by kernel_rfl) (by kernel_rfl) [6, 0, 1] (by kernel_rfl) (by decide) (by decide) (aY 0 8 (by decide) (aF 1 7 (by decide) ?_ (aN 2 6 (by decide) ?_ (aE 3 5 2 (by decide) (aE 4 4 2 (by decide) (aE 5 3 2 (by decide) (aY 6 2 (by decide) (aB 7 1 2 (by decide) (aE 8 0 2 (by decide) (trivial)))))))))) [] (fun q hq => by cases hq) (fun hY => absurd (hY 2 (by decide)) (by decide))
      · refine fI 124 (gv_api_Rates (api_Rates.mk (o4, o5, o6, o7, o8, o9, o10, o11, o12, o13, o14) (0, 0, 0, (-1), 0, 0, 0, 0, 0, 0, 0) 0)) [(13, .pointer (some ⟨b84, 0, none⟩))] 2 [none] rfl rfl rfl rfl rfl rfl fun G a w S => ?_
        refine sLoadN (p := b84) (off := 0) (T := 44) (vs := (gl_api_Rates (api_Rates.mk (o4, o5, o6, o7, o8, o9, o10, o11, o12, o13, o14) (0, 0, 0, (-1), 0, 0, 0, 0, 0, 0, 0) 0))) 9 (gl_api_Rates (api_Rates.mk (o4, o5, o6, o7, o8, o9, o10, o11, o12, o13, o14) (0, 0, 0, (-1), 0, 0, 0, 0, 0, 0, 0) 0)) S (wN rfl) rfl rfl rfl rfl rfl rfl rfl (lb rfl) fun a S => ?_
        exact leafL ⟨rfl, S⟩
      refine ⟨_, [(123, .slice ad146 m140.length cp147), (124, gv_api_Rates (api_Rates.mk (o4, o5, o6, o7, o8, o9, o10, o11, o12, o13, o14) (0, 0, 0, (-1), 0, 0, 0, 0, 0, 0, 0) 0))], rfl, (srcs_of [some 1, some 2] rfl rfl rfl), fun G a w S => ?_⟩
      have S := S.shutR (r := r_api_Chart) (T := 41) (v := .slice ad146 m140.length cp147) (xs := m140) 1 rfl
      refine sCall (X := Value) (f := 20) (vs := [.slice ad146 m140.length cp147, gv_api_Rates (api_Rates.mk (o4, o5, o6, o7, o8, o9, o10, o11, o12, o13, o14) (0, 0, 0, (-1), 0, 0, 0, 0, 0, 0, 0) 0)]) (val := c_cost_Total_val r142) (B' := fun _ => []) (D' := c_cost_Total_D r142) [] [eBox b150 23 [iv 0, iv 0], eBox b134 23 [iv r131.1.Length, iv r131.1.Time], eBox b129 23 [iv r126.1.Length, iv r126.1.Time], eBox b59 41 [iv r52.1.Start, .slice ad57 r52.1.Rows.length cp58], eBox b64 23 [iv r61.1.Length, iv r61.1.Time], eBox b69 42 (gl_A11_Int r66.1), eBox b77 23 [iv r74.1.Length, iv r74.1.Time], eBox b83 23 [iv r80.1.Length, iv r80.1.Time], eBox b84 44 (gl_api_Rates (api_Rates.mk (o4, o5, o6, o7, o8, o9, o10, o11, o12, o13, o14) (0, 0, 0, (-1), 0, 0, 0, 0, 0, 0, 0) 0))] [fRep (rL r_api_Chart) (.slice ad146 m140.length cp147) m140, fRep r_api_Rates (gv_api_Rates (api_Rates.mk (o4, o5, o6, o7, o8, o9, o10, o11, o12, o13, o14) (0, 0, 0, (-1), 0, 0, 0, 0, 0, 0, 0) 0)) (api_Rates.mk (o4, o5, o6, o7, o8, o9, o10, o11, o12, o13, o14) (0, 0, 0, (-1), 0, 0, 0, 0, 0, 0, 0) 0)] [0, 1, 2, 3, 4, 5, 6, 7, 8] [0, 4] S (wN rfl) rfl callee20 rfl (by decide) rfl rfl (fun E1 w1 S1 => c_cost_Total E1 w1 m140 (.slice ad146 m140.length cp147) (api_Rates.mk (o4, o5, o6, o7, o8, o9, o10, o11, o12, o13, o14) (0, 0, 0, (-1), 0, 0, 0, 0, 0, 0, 0) 0) (gv_api_Rates (api_Rates.mk (o4, o5, o6, o7, o8, o9, o10, o11, o12, o13, o14) (0, 0, 0, (-1), 0, 0, 0, 0, 0, 0, 0) 0)) r142 hx143 S1) rfl (lb rfl) fun u151 a w S => ?_
      obtain rfl : u151 = .agg #[iv r142.1.Length, iv r142.1.Time] := S.mem.know (i := 0) (e := fRep r_api_Bill (u151) r142.1) rfl
      refine leafL ⟨rfl, _, _, .inl ⟨125, (.tuple #[.agg #[iv r142.1.Length, iv r142.1.Time], iv r142.2]), [(3, 122, .tuple #[.agg #[iv r142.1.Length, iv r142.1.Time], iv r142.2]), (4, 126, .agg #[iv r142.1.Length, iv r142.1.Time]), (5, 127, iv r142.2)], rfl, S, hz_of rfl, ?_⟩⟩
      refine node_by (A := anc_raddlelaw45_CostNames_1) (nf := [0, 2, 6, 7]) (Y := [2, 6, 0]) 9 (by kernel_rfl) (by kernel_rfl) (by kernel_rfl) (by kernel_rfl) (by kernel_rfl) [3, 4, 5, 2, 6, 0, 1] (by kernel_rfl) (by decide) (by decide) (aY 0 8 (by decide) (aD 1 7 2 (by decide) (aY 2 6 (by decide) (aF 3 5 (by decide) ?_ (aF 4 4 (by decide) ?_ (aF 5 3 (by decide) ?_ (aY 6 2 (by decide) (aN 7 1 (by decide) ?_ (aE 8 0 7 (by decide) (trivial)))))))))) [] (fun q hq => by cases hq) (fun hY => absurd (hY 7 (by decide)) (by decide))
      · refine fI 122 (.tuple #[.agg #[iv r142.1.Length, iv r142.1.Time], iv r142.2]) [(125, .tuple #[.agg #[iv r142.1.Length, iv r142.1.Time], iv r142.2])] 0 [some 3] rfl rfl rfl rfl rfl rfl fun G a w S => ?_
        refine sMove (.tuple #[.agg #[iv r142.1.Length, iv r142.1.Time], iv r142.2]) S (wN rfl) (.inl rfl) rfl rfl (lb rfl) fun a S => ?_
        exact leafL ⟨rfl, S⟩
      · refine fI 126 (.agg #[iv r142.1.Length, iv r142.1.Time]) [(122, .tuple #[.agg #[iv r142.1.Length, iv r142.1.Time], iv r142.2])] 1 [some 0] rfl rfl rfl rfl rfl rfl fun G a w S => ?_
        refine sExtract (vs := [.agg #[iv r142.1.Length, iv r142.1.Time], iv r142.2]) (.agg #[iv r142.1.Length, iv r142.1.Time]) S (wN rfl) rfl rfl rfl rfl (lb rfl) fun a S => ?_
        exact leafL ⟨rfl, S⟩
      · refine fI 127 (iv r142.2) [(122, .tuple #[.agg #[iv r142.1.Length, iv r142.1.Time], iv r142.2])] 2 [some 0] rfl rfl rfl rfl rfl rfl fun G a w S => ?_
        refine sExtract (vs := [.agg #[iv r142.1.Length, iv r142.1.Time], iv r142.2]) (iv r142.2) S (wN rfl) rfl rfl rfl rfl (lb rfl) fun a S => ?_
        exact leafL ⟨rfl, S⟩
      refine ⟨_, [(21, .pointer (some ⟨b150, 0, none⟩)), (126, .agg #[iv r142.1.Length, iv r142.1.Time])], rfl, (srcs_of [some 4, some 1] rfl rfl rfl), fun G a w S => ?_⟩
      refine sStore (p := b150) (off := 0) (T := 23) (vs := [iv 0, iv 0]) (v := .agg #[iv r142.1.Length, iv r142.1.Time]) 0 [iv r142.1.Length, iv r142.1.Time] S (wN rfl) rfl rfl rfl rfl rfl rfl rfl (by simp) rfl fun a w S => ?_
      refine leafL ⟨rfl, _, _, .inr ⟨[(8, 22, iv r142.2)], rfl, S, hz_of rfl, ?_⟩⟩
      refine node_by (A := anc_raddlelaw45_CostNames_1) (nf := [0, 2, 6, 7]) (Y := [7, 2, 6, 0]) 9 (by kernel_rfl) (by kernel_rfl) (by kernel_rfl) (by kernel_rfl) (by kernel_rfl) [8, 3, 4, 5, 2, 6, 0, 1] (by kernel_rfl) (by decide) (by decide) (aY 0 8 (by decide) (aD 1 7 7 (by decide) (aY 2 6 (by decide) (aD 3 5 7 (by decide) (aD 4 4 7 (by decide) (aF 5 3 (by decide) ?_ (aY 6 2 (by decide) (aY 7 1 (by decide) (aF 8 0 (by decide) ?_ (trivial)))))))))) [(4, iv r52.2), (5, .pointer (some ⟨b64, 0, none⟩)), (6, iv r61.2), (7, .pointer (some ⟨b69, 0, none⟩)), (8, iv r66.2), (9, .pointer (some ⟨b77, 0, none⟩)), (10, iv r74.2), (11, .pointer (some ⟨b83, 0, none⟩)), (12, iv r80.2), (13, .pointer (some ⟨b84, 0, none⟩)), (16, .bool o108), (18, iv r126.2), (20, iv r131.2), (22, iv r142.2)] (fin_of [none, none, none, none, none, none, none, none, none, none, none, none, none, some 0] rfl (by kernel_rfl) (by kernel_rfl)) (fun _ a w S => ?_)
      · refine fI 127 (iv r142.2) [(122, .tuple #[.agg #[iv r142.1.Length, iv r142.1.Time], iv r142.2])] 3 [some 1] rfl rfl rfl rfl rfl rfl fun G a w S => ?_
        refine sExtract (vs := [.agg #[iv r142.1.Length, iv r142.1.Time], iv r142.2]) (iv r142.2) S (wN rfl) rfl rfl rfl rfl (lb rfl) fun a S => ?_
        exact leafL ⟨rfl, S⟩
      · refine fI 22 (iv r142.2) [(127, iv r142.2)] 0 [some 3] rfl rfl rfl rfl rfl rfl fun G a w S => ?_
        refine sMove (iv r142.2) S (wN rfl) (.inr rfl) rfl rfl (lb rfl) fun a S => ?_
        exact leafL ⟨rfl, S⟩
      exact leafT (⟨r142.2, Option.some.inj h, S.fix [4, 5, 6, 7, 8] [] (by decide) rfl rfl rfl⟩)
    · refine fI 124 (gv_api_Rates (api_Rates.mk (o4, o5, o6, o7, o8, o9, o10, o11, o12, o13, o14) (0, 0, 0, (-1), 0, 0, 0, 0, 0, 0, 0) 0)) [(13, .pointer (some ⟨b84, 0, none⟩))] 0 [none] rfl rfl rfl rfl rfl rfl fun G a w S => ?_
      refine sLoadN (p := b84) (off := 0) (T := 44) (vs := (gl_api_Rates (api_Rates.mk (o4, o5, o6, o7, o8, o9, o10, o11, o12, o13, o14) (0, 0, 0, (-1), 0, 0, 0, 0, 0, 0, 0) 0))) 7 (gl_api_Rates (api_Rates.mk (o4, o5, o6, o7, o8, o9, o10, o11, o12, o13, o14) (0, 0, 0, (-1), 0, 0, 0, 0, 0, 0, 0) 0)) S (wN rfl) rfl rfl rfl rfl rfl rfl rfl (lb rfl) fun a S => ?_
      exact leafL ⟨rfl, S⟩
    refine ⟨_, [], rfl, (srcs_of [] rfl rfl rfl), fun G a w S => ?_⟩
    refine sAlloc (.agg #[iv 0, iv 0]) S (wN rfl) rfl rfl [iv 0, iv 0] rfl rfl (lb rfl) fun a b152 w S => ?_
    refine leafL ⟨rfl, _, _, .inl ⟨21, (.pointer (some ⟨b152, 0, none⟩)), [], rfl, S, hz_of rfl, ?_⟩⟩
    refine node_by (A := anc_raddlelaw45_CostNames_1) (nf := [0, 2, 6, 7]) (Y := [6]) 9 (by kernel_rfl) (by kernel_rfl) (by kernel_rfl) (by kernel_rfl) (by kernel_rfl) [6, 1] (by kernel_rfl) (by decide) (by decide) (aN 0 8 (by decide) ?_ (aF 1 7 (by decide) ?_ (aB 2 6 0 (by decide) (aE 3 5 0 (by decide) (aE 4 4 0 (by decide) (aE 5 3 0 (by decide) (aY 6 2 (by decide) (aB 7 1 0 (by decide) (aE 8 0 0 (by decide) (trivial)))))))))) [] (fun q hq => by cases hq) (fun hY => absurd (hY 0 (by decide)) (by decide))
    · refine ⟨_, [], rfl, (srcs_of [] rfl rfl rfl), fun G a w S => ?_⟩
      refine sMakeG (r := r_api_Chart) (m := 21) (xs := m140) (.agg #[iv 0, .slice none 0 0]) (api_Chart.mk 0 ([] : (List api_Row))) 32 S (wN rfl) rfl Try.underlying38 rfl (by decide) (fun E w => ⟨_, rfl, rL_nil _ E w⟩) rfl rfl hx141 rfl (lb rfl) fun a w ad153 cp154 S => ?_
      refine leafL ⟨rfl, _, _, .inl ⟨123, (.slice ad153 m140.length cp154), [], rfl, S, hz_of rfl, ?_⟩⟩
      refine node_by (A := anc_raddlelaw45_CostNames_1) (nf := [0, 2, 6, 7]) (Y := [0, 6]) 9 (by kernel_rfl) (by kernel_rfl) (by kernel_rfl) (by kernel_rfl) (by kernel_rfl) [0, 6, 1] (by kernel_rfl) (by decide) (by decide) (aY 0 8 (by decide) (aF 1 7 (by decide) ?_ (aN 2 6 (by decide) ?_ (aE 3 5 2 (by decide) (aE 4 4 2 (by decide) (aE 5 3 2 (by decide) (aY 6 2 (by decide) (aB 7 1 2 (by decide) (aE 8 0 2 (by decide) (trivial)))))))))) [] (fun q hq => by cases hq) (fun hY => absurd (hY 2 (by decide)) (by decide))
      · refine fI 124 (gv_api_Rates (api_Rates.mk (o4, o5, o6, o7, o8, o9, o10, o11, o12, o13, o14) (0, 0, 0, (-1), 0, 0, 0, 0, 0, 0, 0) 0)) [(13, .pointer (some ⟨b84, 0, none⟩))] 2 [none] rfl rfl rfl rfl rfl rfl fun G a w S => ?_
        refine sLoadN (p := b84) (off := 0) (T := 44) (vs := (gl_api_Rates (api_Rates.mk (o4, o5, o6, o7, o8, o9, o10, o11, o12, o13, o14) (0, 0, 0, (-1), 0, 0, 0, 0, 0, 0, 0) 0))) 9 (gl_api_Rates (api_Rates.mk (o4, o5, o6, o7, o8, o9, o10, o11, o12, o13, o14) (0, 0, 0, (-1), 0, 0, 0, 0, 0, 0, 0) 0)) S (wN rfl) rfl rfl rfl rfl rfl rfl rfl (lb rfl) fun a S => ?_
        exact leafL ⟨rfl, S⟩
      refine ⟨_, [(123, .slice ad153 m140.length cp154), (124, gv_api_Rates (api_Rates.mk (o4, o5, o6, o7, o8, o9, o10, o11, o12, o13, o14) (0, 0, 0, (-1), 0, 0, 0, 0, 0, 0, 0) 0))], rfl, (srcs_of [some 0, some 2] rfl rfl rfl), fun G a w S => ?_⟩
      have S := S.shutR (r := r_api_Chart) (T := 41) (v := .slice ad153 m140.length cp154) (xs := m140) 0 rfl
      refine sCall (X := Value) (f := 20) (vs := [.slice ad153 m140.length cp154, gv_api_Rates (api_Rates.mk (o4, o5, o6, o7, o8, o9, o10, o11, o12, o13, o14) (0, 0, 0, (-1), 0, 0, 0, 0, 0, 0, 0) 0)]) (val := c_cost_Total_val r142) (B' := fun _ => []) (D' := c_cost_Total_D r142) [] [eBox b152 23 [iv 0, iv 0], eBox b134 23 [iv r131.1.Length, iv r131.1.Time], eBox b129 23 [iv r126.1.Length, iv r126.1.Time], eBox b59 41 [iv r52.1.Start, .slice ad57 r52.1.Rows.length cp58], eBox b64 23 [iv r61.1.Length, iv r61.1.Time], eBox b69 42 (gl_A11_Int r66.1), eBox b77 23 [iv r74.1.Length, iv r74.1.Time], eBox b83 23 [iv r80.1.Length, iv r80.1.Time], eBox b84 44 (gl_api_Rates (api_Rates.mk (o4, o5, o6, o7, o8, o9, o10, o11, o12, o13, o14) (0, 0, 0, (-1), 0, 0, 0, 0, 0, 0, 0) 0))] [fRep (rL r_api_Chart) (.slice ad153 m140.length cp154) m140, fRep r_api_Rates (gv_api_Rates (api_Rates.mk (o4, o5, o6, o7, o8, o9, o10, o11, o12, o13, o14) (0, 0, 0, (-1), 0, 0, 0, 0, 0, 0, 0) 0)) (api_Rates.mk (o4, o5, o6, o7, o8, o9, o10, o11, o12, o13, o14) (0, 0, 0, (-1), 0, 0, 0, 0, 0, 0, 0) 0)] [0, 1, 2, 3, 4, 5, 6, 7, 8] [0, 4] S (wN rfl) rfl callee20 rfl (by decide) rfl rfl (fun E1 w1 S1 => c_cost_Total E1 w1 m140 (.slice ad153 m140.length cp154) (api_Rates.mk (o4, o5, o6, o7, o8, o9, o10, o11, o12, o13, o14) (0, 0, 0, (-1), 0, 0, 0, 0, 0, 0, 0) 0) (gv_api_Rates (api_Rates.mk (o4, o5, o6, o7, o8, o9, o10, o11, o12, o13, o14) (0, 0, 0, (-1), 0, 0, 0, 0, 0, 0, 0) 0)) r142 hx143 S1) rfl (lb rfl) fun u155 a w S => ?_
      obtain rfl : u155 = .agg #[iv r142.1.Length, iv r142.1.Time] := S.mem.know (i := 0) (e := fRep r_api_Bill (u155) r142.1) rfl
      refine leafL ⟨rfl, _, _, .inl ⟨125, (.tuple #[.agg #[iv r142.1.Length, iv r142.1.Time], iv r142.2]), [(3, 122, .tuple #[.agg #[iv r142.1.Length, iv r142.1.Time], iv r142.2]), (4, 126, .agg #[iv r142.1.Length, iv r142.1.Time]), (5, 127, iv r142.2)], rfl, S, hz_of rfl, ?_⟩⟩
      refine node_by (A := anc_raddlelaw45_CostNames_1) (nf := [0, 2, 6, 7]) (Y := [2, 0, 6]) 9 (by kernel_rfl) (by kernel_rfl) (by kernel_rfl) (by kernel_rfl) (by kernel_rfl) [3, 4, 5, 2, 0, 6, 1] (by kernel_rfl) (by decide) (by decide) (aY 0 8 (by decide) (aD 1 7 2 (by decide) (aY 2 6 (by decide) (aF 3 5 (by decide) ?_ (aF 4 4 (by decide) ?_ (aF 5 3 (by decide) ?_ (aY 6 2 (by decide) (aN 7 1 (by decide) ?_ (aE 8 0 7 (by decide) (trivial)))))))))) [] (fun q hq => by cases hq) (fun hY => absurd (hY 7 (by decide)) (by decide))
      · refine fI 122 (.tuple #[.agg #[iv r142.1.Length, iv r142.1.Time], iv r142.2]) [(125, .tuple #[.agg #[iv r142.1.Length, iv r142.1.Time], iv r142.2])] 0 [some 3] rfl rfl rfl rfl rfl rfl fun G a w S => ?_
        refine sMove (.tuple #[.agg #[iv r142.1.Length, iv r142.1.Time], iv r142.2]) S (wN rfl) (.inl rfl) rfl rfl (lb rfl) fun a S => ?_
        exact leafL ⟨rfl, S⟩
      · refine fI 126 (.agg #[iv r142.1.Length, iv r142.1.Time]) [(122, .tuple #[.agg #[iv r142.1.Length, iv r142.1.Time], iv r142.2])] 1 [some 0] rfl rfl rfl rfl rfl rfl fun G a w S => ?_
        refine sExtract (vs := [.agg #[iv r142.1.Length, iv r142.1.Time], iv r142.2]) (.agg #[iv r142.1.Length, iv r142.1.Time]) S (wN rfl) rfl rfl rfl rfl (lb rfl) fun a S => ?_
        exact leafL ⟨rfl, S⟩
      · refine fI 127 (iv r142.2) [(122, .tuple #[.agg #[iv r142.1.Length, iv r142.1.Time], iv r142.2])] 2 [some 0] rfl rfl rfl rfl rfl rfl fun G a w S => ?_
        refine sExtract (vs := [.agg #[iv r142.1.Length, iv r142.1.Time], iv r142.2]) (iv r142.2) S (wN rfl) rfl rfl rfl rfl (lb rfl) fun a S => ?_
        exact leafL ⟨rfl, S⟩
      refine ⟨_, [(21, .pointer (some ⟨b152, 0, none⟩)), (126, .agg #[iv r142.1.Length, iv r142.1.Time])], rfl, (srcs_of [some 5, some 1] rfl rfl rfl), fun G a w S => ?_⟩
      refine sStore (p := b152) (off := 0) (T := 23) (vs := [iv 0, iv 0]) (v := .agg #[iv r142.1.Length, iv r142.1.Time]) 0 [iv r142.1.Length, iv r142.1.Time] S (wN rfl) rfl rfl rfl rfl rfl rfl rfl (by simp) rfl fun a w S => ?_
      refine leafL ⟨rfl, _, _, .inr ⟨[(8, 22, iv r142.2)], rfl, S, hz_of rfl, ?_⟩⟩
      refine node_by (A := anc_raddlelaw45_CostNames_1) (nf := [0, 2, 6, 7]) (Y := [7, 2, 0, 6]) 9 (by kernel_rfl) (by kernel_rfl) (by kernel_rfl) (by kernel_rfl) (by kernel_rfl) [8, 3, 4, 5, 2, 0, 6, 1] (by kernel_rfl) (by decide) (by decide) (aY 0 8 (by decide) (aD 1 7 7 (by decide) (aY 2 6 (by decide) (aD 3 5 7 (by decide) (aD 4 4 7 (by decide) (aF 5 3 (by decide) ?_ (aY 6 2 (by decide) (aY 7 1 (by decide) (aF 8 0 (by decide) ?_ (trivial)))))))))) [(4, iv r52.2), (5, .pointer (some ⟨b64, 0, none⟩)), (6, iv r61.2), (7, .pointer (some ⟨b69, 0, none⟩)), (8, iv r66.2), (9, .pointer (some ⟨b77, 0, none⟩)), (10, iv r74.2), (11, .pointer (some ⟨b83, 0, none⟩)), (12, iv r80.2), (13, .pointer (some ⟨b84, 0, none⟩)), (16, .bool o108), (18, iv r126.2), (20, iv r131.2), (22, iv r142.2)] (fin_of [none, none, none, none, none, none, none, none, none, none, none, none, none, some 0] rfl (by kernel_rfl) (by kernel_rfl)) (fun _ a w S => ?_)
      · refine fI 127 (iv r142.2) [(122, .tuple #[.agg #[iv r142.1.Length, iv r142.1.Time], iv r142.2])] 3 [some 1] rfl rfl rfl rfl rfl rfl fun G a w S => ?_
        refine sExtract (vs := [.agg #[iv r142.1.Length, iv r142.1.Time], iv r142.2]) (iv r142.2) S (wN rfl) rfl rfl rfl rfl (lb rfl) fun a S => ?_
        exact leafL ⟨rfl, S⟩
      · refine fI 22 (iv r142.2) [(127, iv r142.2)] 0 [some 3] rfl rfl rfl rfl rfl rfl fun G a w S => ?_
        refine sMove (iv r142.2) S (wN rfl) (.inr rfl) rfl rfl (lb rfl) fun a S => ?_
        exact leafL ⟨rfl, S⟩
      exact leafT (⟨r142.2, Option.some.inj h, S.fix [4, 5, 6, 7, 8] [] (by decide) rfl rfl rfl⟩)
    refine fI 124 (gv_api_Rates (api_Rates.mk (o4, o5, o6, o7, o8, o9, o10, o11, o12, o13, o14) (0, 0, 0, (-1), 0, 0, 0, 0, 0, 0, 0) 0)) [(13, .pointer (some ⟨b84, 0, none⟩))] 1 [none] rfl rfl rfl rfl rfl rfl fun G a w S => ?_
    refine sLoadN (p := b84) (off := 0) (T := 44) (vs := (gl_api_Rates (api_Rates.mk (o4, o5, o6, o7, o8, o9, o10, o11, o12, o13, o14) (0, 0, 0, (-1), 0, 0, 0, 0, 0, 0, 0) 0))) 8 (gl_api_Rates (api_Rates.mk (o4, o5, o6, o7, o8, o9, o10, o11, o12, o13, o14) (0, 0, 0, (-1), 0, 0, 0, 0, 0, 0, 0) 0)) S (wN rfl) rfl rfl rfl rfl rfl rfl rfl (lb rfl) fun a S => ?_
    exact leafL ⟨rfl, S⟩
  obtain ⟨o135, rfl, S⟩ := hI
  have h := g137
  clear g137
  try dsimp only at h
  refine sSeq (fun K156 hK156 => ?_)
  refine sRegion ?_
  refine sLoadN (p := b84) (off := 0) (T := 44) (vs := (gl_api_Rates (api_Rates.mk (o4, o5, o6, o7, o8, o9, o10, o11, o12, o13, o14) (0, 0, 0, (-1), 0, 0, 0, 0, 0, 0, 0) 0))) 4 (gl_api_Rates (api_Rates.mk (o4, o5, o6, o7, o8, o9, o10, o11, o12, o13, o14) (0, 0, 0, (-1), 0, 0, 0, 0, 0, 0, 0) 0)) S (wN rfl) rfl rfl rfl rfl rfl rfl rfl (lb rfl) fun a S => ?_
  obtain ⟨r157, hx158, h⟩ := bindSome h
  have S := S.learn (fRep (rL r_api_Chart) (.slice none 0 0) ([] : (List api_Chart))) (rL_nil _ _ _)
  have S := S.learn (fRep r_api_Rates (gv_api_Rates (api_Rates.mk (o4, o5, o6, o7, o8, o9, o10, o11, o12, o13, o14) (0, 0, 0, (-1), 0, 0, 0, 0, 0, 0, 0) 0)) (api_Rates.mk (o4, o5, o6, o7, o8, o9, o10, o11, o12, o13, o14) (0, 0, 0, (-1), 0, 0, 0, 0, 0, 0, 0) 0)) rfl
  refine sCall (X := Value) (f := 20) (vs := [.slice none 0 0, gv_api_Rates (api_Rates.mk (o4, o5, o6, o7, o8, o9, o10, o11, o12, o13, o14) (0, 0, 0, (-1), 0, 0, 0, 0, 0, 0, 0) 0)]) (val := c_cost_Total_val r157) (B' := fun _ => []) (D' := c_cost_Total_D r157) [] [eBox b64 23 [iv r61.1.Length, iv r61.1.Time], eBox b69 42 (gl_A11_Int r66.1), eBox b77 23 [iv r74.1.Length, iv r74.1.Time], eBox b83 23 [iv r80.1.Length, iv r80.1.Time], eBox b84 44 (gl_api_Rates (api_Rates.mk (o4, o5, o6, o7, o8, o9, o10, o11, o12, o13, o14) (0, 0, 0, (-1), 0, 0, 0, 0, 0, 0, 0) 0))] [fRep (rL r_api_Chart) (.slice none 0 0) ([] : (List api_Chart)), fRep r_api_Rates (gv_api_Rates (api_Rates.mk (o4, o5, o6, o7, o8, o9, o10, o11, o12, o13, o14) (0, 0, 0, (-1), 0, 0, 0, 0, 0, 0, 0) 0)) (api_Rates.mk (o4, o5, o6, o7, o8, o9, o10, o11, o12, o13, o14) (0, 0, 0, (-1), 0, 0, 0, 0, 0, 0, 0) 0)] [0, 1, 2, 3, 4] [1, 0] S (wN rfl) rfl callee20 rfl (by decide) rfl rfl (fun E1 w1 S1 => c_cost_Total E1 w1 ([] : (List api_Chart)) (.slice none 0 0) (api_Rates.mk (o4, o5, o6, o7, o8, o9, o10, o11, o12, o13, o14) (0, 0, 0, (-1), 0, 0, 0, 0, 0, 0, 0) 0) (gv_api_Rates (api_Rates.mk (o4, o5, o6, o7, o8, o9, o10, o11, o12, o13, o14) (0, 0, 0, (-1), 0, 0, 0, 0, 0, 0, 0) 0)) r157 hx158 S1) rfl (lb rfl) fun u159 a w S => ?_
  obtain rfl : u159 = .agg #[iv r157.1.Length, iv r157.1.Time] := S.mem.know (i := 0) (e := fRep r_api_Bill (u159) r157.1) rfl
  refine sMove (.tuple #[.agg #[iv r157.1.Length, iv r157.1.Time], iv r157.2]) S (wN rfl) (.inl rfl) rfl rfl (lb rfl) fun a S => ?_
  refine sExtract (vs := [.agg #[iv r157.1.Length, iv r157.1.Time], iv r157.2]) (.agg #[iv r157.1.Length, iv r157.1.Time]) S (wN rfl) rfl rfl rfl rfl (lb rfl) fun a S => ?_
  refine sExtract (vs := [.agg #[iv r157.1.Length, iv r157.1.Time], iv r157.2]) (iv r157.2) S (wN rfl) rfl rfl rfl rfl (lb rfl) fun a S => ?_
  refine sAlloc (.agg #[iv 0, iv 0]) S (wN rfl) rfl rfl [iv 0, iv 0] rfl rfl (lb rfl) fun a b160 w S => ?_
  refine sStore (p := b160) (off := 0) (T := 23) (vs := [iv 0, iv 0]) (v := .agg #[iv r157.1.Length, iv r157.1.Time]) 0 [iv r157.1.Length, iv r157.1.Time] S (wN rfl) rfl rfl rfl rfl rfl rfl rfl (by simp) rfl fun a w S => ?_
  refine sMove (iv r157.2) S (wN rfl) (.inr rfl) rfl rfl (lb rfl) fun a S => ?_
  refine leafL (leafT (hK156 _ _ ?_))
  refine sSeq (fun K161 hK161 => ?_)
  refine sRegion ?_
  refine sBuild [(1, iv (-1))] [iv 0, iv (-1)] S (wN rfl) rfl rfl rfl rfl (lb rfl) fun a S => ?_
  refine sBuild [] [.int .u8 0, iv 0, iv 0] S (wN rfl) rfl rfl rfl rfl (lb rfl) fun a S => ?_
  obtain ⟨r162, hx163, h⟩ := bindSome h
  have hv_r162 : r162 = ((api_Ratio.mk 0 0), 2) := Option.some.inj (hx163.symm.trans (by exact kc_raddlelaw45_CostNames_6))
  have S := S.learn (fRep r_api_Bill (.agg #[iv 0, iv (-1)]) (api_Bill.mk 0 (-1))) rfl
  have S := S.learn (fRep r_api_Count (.agg #[.int .u8 0, iv 0, iv 0]) (api_Count.mk 0 (api_Ratio.mk 0 0))) rfl
  refine sCall (X := Value) (f := 10) (vs := [.agg #[iv 0, iv (-1)], .agg #[.int .u8 0, iv 0, iv 0]]) (val := c_cost_Weight_val r162) (B' := fun _ => []) (D' := c_cost_Weight_D r162) [] [eBox b160 23 [iv r157.1.Length, iv r157.1.Time], eBox b64 23 [iv r61.1.Length, iv r61.1.Time], eBox b69 42 (gl_A11_Int r66.1), eBox b77 23 [iv r74.1.Length, iv r74.1.Time], eBox b83 23 [iv r80.1.Length, iv r80.1.Time], eBox b84 44 (gl_api_Rates (api_Rates.mk (o4, o5, o6, o7, o8, o9, o10, o11, o12, o13, o14) (0, 0, 0, (-1), 0, 0, 0, 0, 0, 0, 0) 0))] [fRep r_api_Bill (.agg #[iv 0, iv (-1)]) (api_Bill.mk 0 (-1)), fRep r_api_Count (.agg #[.int .u8 0, iv 0, iv 0]) (api_Count.mk 0 (api_Ratio.mk 0 0))] [0, 1, 2, 3, 4, 5] [1, 0] S (wN rfl) rfl callee10 rfl (by decide) rfl rfl (fun E1 w1 S1 => c_cost_Weight E1 w1 (api_Bill.mk 0 (-1)) (.agg #[iv 0, iv (-1)]) (api_Count.mk 0 (api_Ratio.mk 0 0)) (.agg #[.int .u8 0, iv 0, iv 0]) r162 hx163 S1) rfl (lb rfl) fun u164 a w S => ?_
  obtain rfl : u164 = .agg #[iv r162.1.Num, iv r162.1.Den] := S.mem.know (i := 0) (e := fRep r_api_Ratio (u164) r162.1) rfl
  refine sMove (.tuple #[.agg #[iv r162.1.Num, iv r162.1.Den], iv r162.2]) S (wN rfl) (.inl rfl) rfl rfl (lb rfl) fun a S => ?_
  refine sExtract (vs := [.agg #[iv r162.1.Num, iv r162.1.Den], iv r162.2]) (.agg #[iv r162.1.Num, iv r162.1.Den]) S (wN rfl) rfl rfl rfl rfl (lb rfl) fun a S => ?_
  refine sExtract (vs := [.agg #[iv r162.1.Num, iv r162.1.Den], iv r162.2]) (iv r162.2) S (wN rfl) rfl rfl rfl rfl (lb rfl) fun a S => ?_
  refine sAlloc (.agg #[iv 0, iv 0]) S (wN rfl) rfl rfl [iv 0, iv 0] rfl rfl (lb rfl) fun a b165 w S => ?_
  refine sStore (p := b165) (off := 0) (T := 25) (vs := [iv 0, iv 0]) (v := .agg #[iv r162.1.Num, iv r162.1.Den]) 0 [iv r162.1.Num, iv r162.1.Den] S (wN rfl) rfl rfl rfl rfl rfl rfl rfl (by simp) rfl fun a w S => ?_
  refine sMove (iv r162.2) S (wN rfl) (.inr rfl) rfl rfl (lb rfl) fun a S => ?_
  refine leafL (leafT (hK161 _ _ ?_))
  refine sSeq (fun K166 hK166 => ?_)
  refine sRegion ?_
  refine sBuild [] [iv 0, iv 0] S (wN rfl) rfl rfl rfl rfl (lb rfl) fun a S => ?_
  refine sBuild [] [.int .u8 0, iv 0, iv 0] S (wN rfl) rfl rfl rfl rfl (lb rfl) fun a S => ?_
  obtain ⟨r167, hx168, h⟩ := bindSome h
  have hv_r167 : r167 = ((api_Ratio.mk 0 0), 8) := Option.some.inj (hx168.symm.trans (by exact kc_raddlelaw45_CostNames_7))
  have S := S.learn (fRep r_api_Bill (.agg #[iv 0, iv 0]) (api_Bill.mk 0 0)) rfl
  refine sCall (X := Value) (f := 10) (vs := [.agg #[iv 0, iv 0], .agg #[.int .u8 0, iv 0, iv 0]]) (val := c_cost_Weight_val r167) (B' := fun _ => []) (D' := c_cost_Weight_D r167) [] [eBox b165 25 [iv r162.1.Num, iv r162.1.Den], eBox b160 23 [iv r157.1.Length, iv r157.1.Time], eBox b64 23 [iv r61.1.Length, iv r61.1.Time], eBox b69 42 (gl_A11_Int r66.1), eBox b77 23 [iv r74.1.Length, iv r74.1.Time], eBox b83 23 [iv r80.1.Length, iv r80.1.Time], eBox b84 44 (gl_api_Rates (api_Rates.mk (o4, o5, o6, o7, o8, o9, o10, o11, o12, o13, o14) (0, 0, 0, (-1), 0, 0, 0, 0, 0, 0, 0) 0))] [fRep r_api_Bill (.agg #[iv 0, iv 0]) (api_Bill.mk 0 0), fRep r_api_Count (.agg #[.int .u8 0, iv 0, iv 0]) (api_Count.mk 0 (api_Ratio.mk 0 0))] [0, 1, 2, 3, 4, 5, 6] [0, 2] S (wN rfl) rfl callee10 rfl (by decide) rfl rfl (fun E1 w1 S1 => c_cost_Weight E1 w1 (api_Bill.mk 0 0) (.agg #[iv 0, iv 0]) (api_Count.mk 0 (api_Ratio.mk 0 0)) (.agg #[.int .u8 0, iv 0, iv 0]) r167 hx168 S1) rfl (lb rfl) fun u169 a w S => ?_
  obtain rfl : u169 = .agg #[iv r167.1.Num, iv r167.1.Den] := S.mem.know (i := 0) (e := fRep r_api_Ratio (u169) r167.1) rfl
  refine sMove (.tuple #[.agg #[iv r167.1.Num, iv r167.1.Den], iv r167.2]) S (wN rfl) (.inl rfl) rfl rfl (lb rfl) fun a S => ?_
  refine sExtract (vs := [.agg #[iv r167.1.Num, iv r167.1.Den], iv r167.2]) (.agg #[iv r167.1.Num, iv r167.1.Den]) S (wN rfl) rfl rfl rfl rfl (lb rfl) fun a S => ?_
  refine sExtract (vs := [.agg #[iv r167.1.Num, iv r167.1.Den], iv r167.2]) (iv r167.2) S (wN rfl) rfl rfl rfl rfl (lb rfl) fun a S => ?_
  refine sAlloc (.agg #[iv 0, iv 0]) S (wN rfl) rfl rfl [iv 0, iv 0] rfl rfl (lb rfl) fun a b170 w S => ?_
  refine sStore (p := b170) (off := 0) (T := 25) (vs := [iv 0, iv 0]) (v := .agg #[iv r167.1.Num, iv r167.1.Den]) 0 [iv r167.1.Num, iv r167.1.Den] S (wN rfl) rfl rfl rfl rfl rfl rfl rfl (by simp) rfl fun a w S => ?_
  refine sMove (iv r167.2) S (wN rfl) (.inr rfl) rfl rfl (lb rfl) fun a S => ?_
  refine leafL (leafT (hK166 _ _ ?_))
  refine sSeq (fun K171 hK171 => ?_)
  refine sRegion ?_
  refine sBuild [(0, iv 1000000001)] [iv 1000000001, iv 0] S (wN rfl) rfl rfl rfl rfl (lb rfl) fun a S => ?_
  obtain ⟨r172, hx173, h⟩ := bindSome h
  have hv_r172 : r172 = (api_Count.mk 1 (api_Ratio.mk 50 1)) := Option.some.inj (hx173.symm.trans (by exact kc_raddlelaw45_CostNames_8))
  refine sCall (X := Value) (f := 29) (vs := [iv 50]) (val := c_raddlelaw45_tex_val r172) (B' := fun _ => []) (D' := c_raddlelaw45_tex_D r172) [] [eBox b170 25 [iv r167.1.Num, iv r167.1.Den], eBox b165 25 [iv r162.1.Num, iv r162.1.Den], eBox b160 23 [iv r157.1.Length, iv r157.1.Time], eBox b64 23 [iv r61.1.Length, iv r61.1.Time], eBox b69 42 (gl_A11_Int r66.1), eBox b77 23 [iv r74.1.Length, iv r74.1.Time], eBox b83 23 [iv r80.1.Length, iv r80.1.Time], eBox b84 44 (gl_api_Rates (api_Rates.mk (o4, o5, o6, o7, o8, o9, o10, o11, o12, o13, o14) (0, 0, 0, (-1), 0, 0, 0, 0, 0, 0, 0) 0))] [] [0, 1, 2, 3, 4, 5, 6, 7] [] S (wN rfl) rfl callee29 rfl (by decide) rfl rfl (fun E1 w1 S1 => c_raddlelaw45_tex E1 w1 50 r172 hx173 S1) rfl (lb rfl) fun u174 a w S => ?_
  obtain rfl : u174 = .agg #[.int .u8 r172.System, iv r172.N.Num, iv r172.N.Den] := S.mem.know (i := 0) (e := fRep r_api_Count (u174) r172) rfl
  obtain ⟨r175, hx176, h⟩ := bindSome h
  have hv_r175 : r175 = ((api_Ratio.mk 0 0), 2) := Option.some.inj (hx176.symm.trans (by rw [hv_r172]; exact kc_raddlelaw45_CostNames_9))
  have S := S.learn (fRep r_api_Bill (.agg #[iv 1000000001, iv 0]) (api_Bill.mk 1000000001 0)) rfl
  refine sCall (X := Value) (f := 10) (vs := [.agg #[iv 1000000001, iv 0], .agg #[.int .u8 r172.System, iv r172.N.Num, iv r172.N.Den]]) (val := c_cost_Weight_val r175) (B' := fun _ => []) (D' := c_cost_Weight_D r175) [] [eBox b170 25 [iv r167.1.Num, iv r167.1.Den], eBox b165 25 [iv r162.1.Num, iv r162.1.Den], eBox b160 23 [iv r157.1.Length, iv r157.1.Time], eBox b64 23 [iv r61.1.Length, iv r61.1.Time], eBox b69 42 (gl_A11_Int r66.1), eBox b77 23 [iv r74.1.Length, iv r74.1.Time], eBox b83 23 [iv r80.1.Length, iv r80.1.Time], eBox b84 44 (gl_api_Rates (api_Rates.mk (o4, o5, o6, o7, o8, o9, o10, o11, o12, o13, o14) (0, 0, 0, (-1), 0, 0, 0, 0, 0, 0, 0) 0))] [fRep r_api_Bill (.agg #[iv 1000000001, iv 0]) (api_Bill.mk 1000000001 0), fRep r_api_Count (.agg #[.int .u8 r172.System, iv r172.N.Num, iv r172.N.Den]) r172] [0, 1, 2, 3, 4, 5, 6, 7] [0, 1] S (wN rfl) rfl callee10 rfl (by decide) rfl rfl (fun E1 w1 S1 => c_cost_Weight E1 w1 (api_Bill.mk 1000000001 0) (.agg #[iv 1000000001, iv 0]) r172 (.agg #[.int .u8 r172.System, iv r172.N.Num, iv r172.N.Den]) r175 hx176 S1) rfl (lb rfl) fun u177 a w S => ?_
  obtain rfl : u177 = .agg #[iv r175.1.Num, iv r175.1.Den] := S.mem.know (i := 0) (e := fRep r_api_Ratio (u177) r175.1) rfl
  refine sMove (.tuple #[.agg #[iv r175.1.Num, iv r175.1.Den], iv r175.2]) S (wN rfl) (.inl rfl) rfl rfl (lb rfl) fun a S => ?_
  refine sExtract (vs := [.agg #[iv r175.1.Num, iv r175.1.Den], iv r175.2]) (.agg #[iv r175.1.Num, iv r175.1.Den]) S (wN rfl) rfl rfl rfl rfl (lb rfl) fun a S => ?_
  refine sExtract (vs := [.agg #[iv r175.1.Num, iv r175.1.Den], iv r175.2]) (iv r175.2) S (wN rfl) rfl rfl rfl rfl (lb rfl) fun a S => ?_
  refine sAlloc (.agg #[iv 0, iv 0]) S (wN rfl) rfl rfl [iv 0, iv 0] rfl rfl (lb rfl) fun a b178 w S => ?_
  refine sStore (p := b178) (off := 0) (T := 25) (vs := [iv 0, iv 0]) (v := .agg #[iv r175.1.Num, iv r175.1.Den]) 0 [iv r175.1.Num, iv r175.1.Den] S (wN rfl) rfl rfl rfl rfl rfl rfl rfl (by simp) rfl fun a w S => ?_
  refine sMove (iv r175.2) S (wN rfl) (.inr rfl) rfl rfl (lb rfl) fun a S => ?_
  refine leafL (leafT (hK171 _ _ ?_))
  refine sSeq (fun K179 hK179 => ?_)
  refine sRegion ?_
  refine sBuild [(0, iv (-1))] [iv (-1), iv 0] S (wN rfl) rfl rfl rfl rfl (lb rfl) fun a S => ?_
  refine sCall (X := Value) (f := 29) (vs := [iv 50]) (val := c_raddlelaw45_tex_val r172) (B' := fun _ => []) (D' := c_raddlelaw45_tex_D r172) [] [eBox b178 25 [iv r175.1.Num, iv r175.1.Den], eBox b170 25 [iv r167.1.Num, iv r167.1.Den], eBox b165 25 [iv r162.1.Num, iv r162.1.Den], eBox b160 23 [iv r157.1.Length, iv r157.1.Time], eBox b64 23 [iv r61.1.Length, iv r61.1.Time], eBox b69 42 (gl_A11_Int r66.1), eBox b77 23 [iv r74.1.Length, iv r74.1.Time], eBox b83 23 [iv r80.1.Length, iv r80.1.Time], eBox b84 44 (gl_api_Rates (api_Rates.mk (o4, o5, o6, o7, o8, o9, o10, o11, o12, o13, o14) (0, 0, 0, (-1), 0, 0, 0, 0, 0, 0, 0) 0))] [] [0, 1, 2, 3, 4, 5, 6, 7, 8] [] S (wN rfl) rfl callee29 rfl (by decide) rfl rfl (fun E1 w1 S1 => c_raddlelaw45_tex E1 w1 50 r172 hx173 S1) rfl (lb rfl) fun u180 a w S => ?_
  obtain rfl : u180 = .agg #[.int .u8 r172.System, iv r172.N.Num, iv r172.N.Den] := S.mem.know (i := 0) (e := fRep r_api_Count (u180) r172) rfl
  obtain ⟨r181, hx182, h⟩ := bindSome h
  have hv_r181 : r181 = (0, (0, 2)) := Option.some.inj (hx182.symm.trans (by rw [hv_r172]; exact kc_raddlelaw45_CostNames_10))
  have S1 := S.mem
  have S1 := S1.learn (fRep r_api_Bill (.agg #[iv (-1), iv 0]) (api_Bill.mk (-1) 0)) rfl
  refine sCallQ (X := Unit) (f := 12) (vs := [.agg #[iv (-1), iv 0], .agg #[.int .u8 r172.System, iv r172.N.Num, iv r172.N.Den], iv 0, iv (-1)]) (val := fun _ => .tuple #[iv r181.1, iv r181.2.1, iv r181.2.2]) S (wN rfl) rfl callee12 rfl (S1.quiet [0, 1] rfl) (fun E1 w1 S1 => c_cost_Price E1 w1 (api_Bill.mk (-1) 0) (.agg #[iv (-1), iv 0]) r172 (.agg #[.int .u8 r172.System, iv r172.N.Num, iv r172.N.Den]) 0 (-1) r181 hx182 S1) rfl (lb rfl) fun _ a w S => ?_
  refine sMove (.tuple #[iv r181.1, iv r181.2.1, iv r181.2.2]) S (wN rfl) (.inl rfl) rfl rfl (lb rfl) fun a S => ?_
  refine sExtract (vs := [iv r181.1, iv r181.2.1, iv r181.2.2]) (iv r181.1) S (wN rfl) rfl rfl rfl rfl (lb rfl) fun a S => ?_
  refine sExtract (vs := [iv r181.1, iv r181.2.1, iv r181.2.2]) (iv r181.2.1) S (wN rfl) rfl rfl rfl rfl (lb rfl) fun a S => ?_
  refine sExtract (vs := [iv r181.1, iv r181.2.1, iv r181.2.2]) (iv r181.2.2) S (wN rfl) rfl rfl rfl rfl (lb rfl) fun a S => ?_
  refine sMove (iv r181.1) S (wN rfl) (.inr rfl) rfl rfl (lb rfl) fun a S => ?_
  refine sMove (iv r181.2.1) S (wN rfl) (.inr rfl) rfl rfl (lb rfl) fun a S => ?_
  refine sMove (iv r181.2.2) S (wN rfl) (.inr rfl) rfl rfl (lb rfl) fun a S => ?_
  refine leafL (leafT (hK179 _ _ ?_))
  refine sSeq (fun K183 hK183 => ?_)
  refine sRegion ?_
  refine sBuild [(0, iv 1)] [iv 1, iv 0] S (wN rfl) rfl rfl rfl rfl (lb rfl) fun a S => ?_
  refine sCall (X := Value) (f := 29) (vs := [iv 50]) (val := c_raddlelaw45_tex_val r172) (B' := fun _ => []) (D' := c_raddlelaw45_tex_D r172) [] [eBox b178 25 [iv r175.1.Num, iv r175.1.Den], eBox b170 25 [iv r167.1.Num, iv r167.1.Den], eBox b165 25 [iv r162.1.Num, iv r162.1.Den], eBox b160 23 [iv r157.1.Length, iv r157.1.Time], eBox b64 23 [iv r61.1.Length, iv r61.1.Time], eBox b69 42 (gl_A11_Int r66.1), eBox b77 23 [iv r74.1.Length, iv r74.1.Time], eBox b83 23 [iv r80.1.Length, iv r80.1.Time], eBox b84 44 (gl_api_Rates (api_Rates.mk (o4, o5, o6, o7, o8, o9, o10, o11, o12, o13, o14) (0, 0, 0, (-1), 0, 0, 0, 0, 0, 0, 0) 0))] [] [0, 1, 2, 3, 4, 5, 6, 7, 8] [] S (wN rfl) rfl callee29 rfl (by decide) rfl rfl (fun E1 w1 S1 => c_raddlelaw45_tex E1 w1 50 r172 hx173 S1) rfl (lb rfl) fun u184 a w S => ?_
  obtain rfl : u184 = .agg #[.int .u8 r172.System, iv r172.N.Num, iv r172.N.Den] := S.mem.know (i := 0) (e := fRep r_api_Count (u184) r172) rfl
  obtain ⟨r185, hx186, h⟩ := bindSome h
  have hv_r185 : r185 = (0, (0, 2)) := Option.some.inj (hx186.symm.trans (by rw [hv_r172]; exact kc_raddlelaw45_CostNames_11))
  have S1 := S.mem
  have S1 := S1.learn (fRep r_api_Bill (.agg #[iv 1, iv 0]) (api_Bill.mk 1 0)) rfl
  refine sCallQ (X := Unit) (f := 12) (vs := [.agg #[iv 1, iv 0], .agg #[.int .u8 r172.System, iv r172.N.Num, iv r172.N.Den], iv 0, iv 1]) (val := fun _ => .tuple #[iv r185.1, iv r185.2.1, iv r185.2.2]) S (wN rfl) rfl callee12 rfl (S1.quiet [0, 1] rfl) (fun E1 w1 S1 => c_cost_Price E1 w1 (api_Bill.mk 1 0) (.agg #[iv 1, iv 0]) r172 (.agg #[.int .u8 r172.System, iv r172.N.Num, iv r172.N.Den]) 0 1 r185 hx186 S1) rfl (lb rfl) fun _ a w S => ?_
  refine sMove (.tuple #[iv r185.1, iv r185.2.1, iv r185.2.2]) S (wN rfl) (.inl rfl) rfl rfl (lb rfl) fun a S => ?_
  refine sExtract (vs := [iv r185.1, iv r185.2.1, iv r185.2.2]) (iv r185.1) S (wN rfl) rfl rfl rfl rfl (lb rfl) fun a S => ?_
  refine sExtract (vs := [iv r185.1, iv r185.2.1, iv r185.2.2]) (iv r185.2.1) S (wN rfl) rfl rfl rfl rfl (lb rfl) fun a S => ?_
  refine sExtract (vs := [iv r185.1, iv r185.2.1, iv r185.2.2]) (iv r185.2.2) S (wN rfl) rfl rfl rfl rfl (lb rfl) fun a S => ?_
  refine sMove (iv r185.1) S (wN rfl) (.inr rfl) rfl rfl (lb rfl) fun a S => ?_
  refine sMove (iv r185.2.1) S (wN rfl) (.inr rfl) rfl rfl (lb rfl) fun a S => ?_
  refine sMove (iv r185.2.2) S (wN rfl) (.inr rfl) rfl rfl (lb rfl) fun a S => ?_
  refine leafL (leafT (hK183 _ _ ?_))
  refine sSeq (fun K187 hK187 => ?_)
  refine sRegion ?_
  refine sBuild [(0, iv 1)] [iv 1, iv 0] S (wN rfl) rfl rfl rfl rfl (lb rfl) fun a S => ?_
  refine sCall (X := Value) (f := 29) (vs := [iv 50]) (val := c_raddlelaw45_tex_val r172) (B' := fun _ => []) (D' := c_raddlelaw45_tex_D r172) [] [eBox b178 25 [iv r175.1.Num, iv r175.1.Den], eBox b170 25 [iv r167.1.Num, iv r167.1.Den], eBox b165 25 [iv r162.1.Num, iv r162.1.Den], eBox b160 23 [iv r157.1.Length, iv r157.1.Time], eBox b64 23 [iv r61.1.Length, iv r61.1.Time], eBox b69 42 (gl_A11_Int r66.1), eBox b77 23 [iv r74.1.Length, iv r74.1.Time], eBox b83 23 [iv r80.1.Length, iv r80.1.Time], eBox b84 44 (gl_api_Rates (api_Rates.mk (o4, o5, o6, o7, o8, o9, o10, o11, o12, o13, o14) (0, 0, 0, (-1), 0, 0, 0, 0, 0, 0, 0) 0))] [] [0, 1, 2, 3, 4, 5, 6, 7, 8] [] S (wN rfl) rfl callee29 rfl (by decide) rfl rfl (fun E1 w1 S1 => c_raddlelaw45_tex E1 w1 50 r172 hx173 S1) rfl (lb rfl) fun u188 a w S => ?_
  obtain rfl : u188 = .agg #[.int .u8 r172.System, iv r172.N.Num, iv r172.N.Den] := S.mem.know (i := 0) (e := fRep r_api_Count (u188) r172) rfl
  obtain ⟨r189, hx190, h⟩ := bindSome h
  have hv_r189 : r189 = (0, (0, 2)) := Option.some.inj (hx190.symm.trans (by rw [hv_r172]; exact kc_raddlelaw45_CostNames_12))
  have S1 := S.mem
  have S1 := S1.learn (fRep r_api_Bill (.agg #[iv 1, iv 0]) (api_Bill.mk 1 0)) rfl
  refine sCallQ (X := Unit) (f := 12) (vs := [.agg #[iv 1, iv 0], .agg #[.int .u8 r172.System, iv r172.N.Num, iv r172.N.Den], iv 1, iv 1000001]) (val := fun _ => .tuple #[iv r189.1, iv r189.2.1, iv r189.2.2]) S (wN rfl) rfl callee12 rfl (S1.quiet [0, 1] rfl) (fun E1 w1 S1 => c_cost_Price E1 w1 (api_Bill.mk 1 0) (.agg #[iv 1, iv 0]) r172 (.agg #[.int .u8 r172.System, iv r172.N.Num, iv r172.N.Den]) 1 1000001 r189 hx190 S1) rfl (lb rfl) fun _ a w S => ?_
  refine sMove (.tuple #[iv r189.1, iv r189.2.1, iv r189.2.2]) S (wN rfl) (.inl rfl) rfl rfl (lb rfl) fun a S => ?_
  refine sExtract (vs := [iv r189.1, iv r189.2.1, iv r189.2.2]) (iv r189.1) S (wN rfl) rfl rfl rfl rfl (lb rfl) fun a S => ?_
  refine sExtract (vs := [iv r189.1, iv r189.2.1, iv r189.2.2]) (iv r189.2.1) S (wN rfl) rfl rfl rfl rfl (lb rfl) fun a S => ?_
  refine sExtract (vs := [iv r189.1, iv r189.2.1, iv r189.2.2]) (iv r189.2.2) S (wN rfl) rfl rfl rfl rfl (lb rfl) fun a S => ?_
  refine sMove (iv r189.1) S (wN rfl) (.inr rfl) rfl rfl (lb rfl) fun a S => ?_
  refine sMove (iv r189.2.1) S (wN rfl) (.inr rfl) rfl rfl (lb rfl) fun a S => ?_
  refine sMove (iv r189.2.2) S (wN rfl) (.inr rfl) rfl rfl (lb rfl) fun a S => ?_
  refine leafL (leafT (hK187 _ _ ?_))
  refine sSeq (fun K191 hK191 => ?_)
  refine sRegion ?_
  refine sBuild [] [iv 0, iv 0] S (wN rfl) rfl rfl rfl rfl (lb rfl) fun a S => ?_
  refine sCall (X := Value) (f := 29) (vs := [iv 50]) (val := c_raddlelaw45_tex_val r172) (B' := fun _ => []) (D' := c_raddlelaw45_tex_D r172) [] [eBox b178 25 [iv r175.1.Num, iv r175.1.Den], eBox b170 25 [iv r167.1.Num, iv r167.1.Den], eBox b165 25 [iv r162.1.Num, iv r162.1.Den], eBox b160 23 [iv r157.1.Length, iv r157.1.Time], eBox b64 23 [iv r61.1.Length, iv r61.1.Time], eBox b69 42 (gl_A11_Int r66.1), eBox b77 23 [iv r74.1.Length, iv r74.1.Time], eBox b83 23 [iv r80.1.Length, iv r80.1.Time], eBox b84 44 (gl_api_Rates (api_Rates.mk (o4, o5, o6, o7, o8, o9, o10, o11, o12, o13, o14) (0, 0, 0, (-1), 0, 0, 0, 0, 0, 0, 0) 0))] [] [0, 1, 2, 3, 4, 5, 6, 7, 8] [] S (wN rfl) rfl callee29 rfl (by decide) rfl rfl (fun E1 w1 S1 => c_raddlelaw45_tex E1 w1 50 r172 hx173 S1) rfl (lb rfl) fun u192 a w S => ?_
  obtain rfl : u192 = .agg #[.int .u8 r172.System, iv r172.N.Num, iv r172.N.Den] := S.mem.know (i := 0) (e := fRep r_api_Count (u192) r172) rfl
  obtain ⟨r193, hx194, h⟩ := bindSome h
  have hv_r193 : r193 = (0, (0, 0)) := Option.some.inj (hx194.symm.trans (by rw [hv_r172]; exact kc_raddlelaw45_CostNames_13))
  have S1 := S.mem
  refine sCallQ (X := Unit) (f := 12) (vs := [.agg #[iv 0, iv 0], .agg #[.int .u8 r172.System, iv r172.N.Num, iv r172.N.Den], iv 1, iv 1000000]) (val := fun _ => .tuple #[iv r193.1, iv r193.2.1, iv r193.2.2]) S (wN rfl) rfl callee12 rfl (S1.quiet [8, 0] rfl) (fun E1 w1 S1 => c_cost_Price E1 w1 (api_Bill.mk 0 0) (.agg #[iv 0, iv 0]) r172 (.agg #[.int .u8 r172.System, iv r172.N.Num, iv r172.N.Den]) 1 1000000 r193 hx194 S1) rfl (lb rfl) fun _ a w S => ?_
  refine sMove (.tuple #[iv r193.1, iv r193.2.1, iv r193.2.2]) S (wN rfl) (.inl rfl) rfl rfl (lb rfl) fun a S => ?_
  refine sExtract (vs := [iv r193.1, iv r193.2.1, iv r193.2.2]) (iv r193.1) S (wN rfl) rfl rfl rfl rfl (lb rfl) fun a S => ?_
  refine sExtract (vs := [iv r193.1, iv r193.2.1, iv r193.2.2]) (iv r193.2.1) S (wN rfl) rfl rfl rfl rfl (lb rfl) fun a S => ?_
  refine sExtract (vs := [iv r193.1, iv r193.2.1, iv r193.2.2]) (iv r193.2.2) S (wN rfl) rfl rfl rfl rfl (lb rfl) fun a S => ?_
  refine sMove (iv r193.1) S (wN rfl) (.inr rfl) rfl rfl (lb rfl) fun a S => ?_
  refine sMove (iv r193.2.1) S (wN rfl) (.inr rfl) rfl rfl (lb rfl) fun a S => ?_
  refine sMove (iv r193.2.2) S (wN rfl) (.inr rfl) rfl rfl (lb rfl) fun a S => ?_
  refine leafL (leafT (hK191 _ _ ?_))
  obtain ⟨t196, h, g197⟩ := bindSome h
  refine sCut (fun a w => ∃ o195, o195 = t196 ∧ St [] E [] w0 283 a w [(4, iv r52.2), (5, .pointer (some ⟨b64, 0, none⟩)), (6, iv r61.2), (7, .pointer (some ⟨b69, 0, none⟩)), (8, iv r66.2), (9, .pointer (some ⟨b77, 0, none⟩)), (10, iv r74.2), (11, .pointer (some ⟨b83, 0, none⟩)), (12, iv r80.2), (16, .bool o108), (40, iv r193.1), (41, iv r193.2.1), (42, iv r193.2.2), (43, .bool o195)] [eBox b64 23 [iv r61.1.Length, iv r61.1.Time], eBox b69 42 (gl_A11_Int r66.1), eBox b77 23 [iv r74.1.Length, iv r74.1.Time], eBox b83 23 [iv r80.1.Length, iv r80.1.Time]] []) ?_ (fun a w hI => ?_)
  · refine sRegion ?_
    refine sMove (iv r126.2) S (wN rfl) (.inl rfl) rfl rfl (lb rfl) fun a S => ?_
    refine sBin (.bool (r126.2 == 26)) S (wN rfl) rfl rfl rfl (bEq _ _ _ _ .i64 r126.2 26) rfl (lb rfl) fun a S => ?_
    refine sMove (.bool (r126.2 == 26)) S (wN rfl) (.inl rfl) rfl rfl (lb rfl) fun a S => ?_
    rcases iteSome h with ⟨hc198, h⟩ | ⟨hc198, h⟩
    rotate_left
    · refine sSkip 2 true 181 182 S rfl rfl rfl hc198 rfl (lb rfl) fun a S => ?_
      refine sSkip 2 true 181 183 S rfl rfl rfl hc198 rfl (lb rfl) fun a S => ?_
      refine sPickF (.bool false) S (wN rfl) rfl rfl hc198 rfl rfl (lb rfl) fun a S => ?_
      refine sMove (.bool false) S (wN rfl) (.inl rfl) rfl rfl (lb rfl) fun a S => ?_
      refine sSkip 6 true 185 186 S rfl rfl rfl rfl rfl (lb rfl) fun a S => ?_
      refine sSkip 6 true 185 187 S rfl rfl rfl rfl rfl (lb rfl) fun a S => ?_
      refine sPickF (.bool false) S (wN rfl) rfl rfl rfl rfl rfl (lb rfl) fun a S => ?_
      refine sMove (.bool false) S (wN rfl) (.inl rfl) rfl rfl (lb rfl) fun a S => ?_
      refine sSkip 10 true 189 190 S rfl rfl rfl rfl rfl (lb rfl) fun a S => ?_
      refine sSkip 10 true 189 191 S rfl rfl rfl rfl rfl (lb rfl) fun a S => ?_
      refine sPickF (.bool false) S (wN rfl) rfl rfl rfl rfl rfl (lb rfl) fun a S => ?_
      refine sMove (.bool false) S (wN rfl) (.inl rfl) rfl rfl (lb rfl) fun a S => ?_
      refine sSkip 14 true 193 194 S rfl rfl rfl rfl rfl (lb rfl) fun a S => ?_
      refine sSkip 14 true 193 195 S rfl rfl rfl rfl rfl (lb rfl) fun a S => ?_
      refine sPickF (.bool false) S (wN rfl) rfl rfl rfl rfl rfl (lb rfl) fun a S => ?_
      refine sMove (.bool false) S (wN rfl) (.inl rfl) rfl rfl (lb rfl) fun a S => ?_
      refine sSkip 18 true 197 198 S rfl rfl rfl rfl rfl (lb rfl) fun a S => ?_
      refine sSkip 18 true 197 199 S rfl rfl rfl rfl rfl (lb rfl) fun a S => ?_
      refine sPickF (.bool false) S (wN rfl) rfl rfl rfl rfl rfl (lb rfl) fun a S => ?_
      refine sMove (.bool false) S (wN rfl) (.inl rfl) rfl rfl (lb rfl) fun a S => ?_
      refine sSkip 22 true 201 202 S rfl rfl rfl rfl rfl (lb rfl) fun a S => ?_
      refine sSkip 22 true 201 203 S rfl rfl rfl rfl rfl (lb rfl) fun a S => ?_
      refine sPickF (.bool false) S (wN rfl) rfl rfl rfl rfl rfl (lb rfl) fun a S => ?_
      refine sMove (.bool false) S (wN rfl) (.inl rfl) rfl rfl (lb rfl) fun a S => ?_
      refine sSkip 26 true 205 206 S rfl rfl rfl rfl rfl (lb rfl) fun a S => ?_
      refine sSkip 26 true 205 207 S rfl rfl rfl rfl rfl (lb rfl) fun a S => ?_
      refine sPickF (.bool false) S (wN rfl) rfl rfl rfl rfl rfl (lb rfl) fun a S => ?_
      refine sMove (.bool false) S (wN rfl) (.inl rfl) rfl rfl (lb rfl) fun a S => ?_
      refine sSkip 30 true 209 210 S rfl rfl rfl rfl rfl (lb rfl) fun a S => ?_
      refine sSkip 30 true 209 211 S rfl rfl rfl rfl rfl (lb rfl) fun a S => ?_
      refine sPickF (.bool false) S (wN rfl) rfl rfl rfl rfl rfl (lb rfl) fun a S => ?_
      refine sMove (.bool false) S (wN rfl) (.inl rfl) rfl rfl (lb rfl) fun a S => ?_
      refine sSkip 34 true 213 214 S rfl rfl rfl rfl rfl (lb rfl) fun a S => ?_
      refine sSkip 34 true 213 215 S rfl rfl rfl rfl rfl (lb rfl) fun a S => ?_
      refine sPickF (.bool false) S (wN rfl) rfl rfl rfl rfl rfl (lb rfl) fun a S => ?_
      refine sMove (.bool false) S (wN rfl) (.inr rfl) rfl rfl (lb rfl) fun a S => ?_
      exact leafL (leafT (⟨false, Option.some.inj h, S.fix [4, 5, 6, 7] [] (by decide) rfl rfl rfl⟩))
    refine sMove (iv r131.2) S (wG 2 true 181 rfl rfl rfl hc198) (.inl rfl) rfl rfl (lb rfl) fun a S => ?_
    refine sBin (.bool (r131.2 == 8)) S (wG 2 true 181 rfl rfl rfl hc198) rfl rfl rfl (bEq _ _ _ _ .i64 r131.2 8) rfl (lb rfl) fun a S => ?_
    refine sPickT (.bool (r131.2 == 8)) S (wN rfl) rfl rfl hc198 rfl rfl (lb rfl) fun a S => ?_
    refine sMove (.bool (r131.2 == 8)) S (wN rfl) (.inl rfl) rfl rfl (lb rfl) fun a S => ?_
    rcases iteSome h with ⟨hc199, h⟩ | ⟨hc199, h⟩
    rotate_left
    · refine sSkip 6 true 185 186 S rfl rfl rfl hc199 rfl (lb rfl) fun a S => ?_
      refine sSkip 6 true 185 187 S rfl rfl rfl hc199 rfl (lb rfl) fun a S => ?_
      refine sPickF (.bool false) S (wN rfl) rfl rfl hc199 rfl rfl (lb rfl) fun a S => ?_
      refine sMove (.bool false) S (wN rfl) (.inl rfl) rfl rfl (lb rfl) fun a S => ?_
      refine sSkip 10 true 189 190 S rfl rfl rfl rfl rfl (lb rfl) fun a S => ?_
      refine sSkip 10 true 189 191 S rfl rfl rfl rfl rfl (lb rfl) fun a S => ?_
      refine sPickF (.bool false) S (wN rfl) rfl rfl rfl rfl rfl (lb rfl) fun a S => ?_
      refine sMove (.bool false) S (wN rfl) (.inl rfl) rfl rfl (lb rfl) fun a S => ?_
      refine sSkip 14 true 193 194 S rfl rfl rfl rfl rfl (lb rfl) fun a S => ?_
      refine sSkip 14 true 193 195 S rfl rfl rfl rfl rfl (lb rfl) fun a S => ?_
      refine sPickF (.bool false) S (wN rfl) rfl rfl rfl rfl rfl (lb rfl) fun a S => ?_
      refine sMove (.bool false) S (wN rfl) (.inl rfl) rfl rfl (lb rfl) fun a S => ?_
      refine sSkip 18 true 197 198 S rfl rfl rfl rfl rfl (lb rfl) fun a S => ?_
      refine sSkip 18 true 197 199 S rfl rfl rfl rfl rfl (lb rfl) fun a S => ?_
      refine sPickF (.bool false) S (wN rfl) rfl rfl rfl rfl rfl (lb rfl) fun a S => ?_
      refine sMove (.bool false) S (wN rfl) (.inl rfl) rfl rfl (lb rfl) fun a S => ?_
      refine sSkip 22 true 201 202 S rfl rfl rfl rfl rfl (lb rfl) fun a S => ?_
      refine sSkip 22 true 201 203 S rfl rfl rfl rfl rfl (lb rfl) fun a S => ?_
      refine sPickF (.bool false) S (wN rfl) rfl rfl rfl rfl rfl (lb rfl) fun a S => ?_
      refine sMove (.bool false) S (wN rfl) (.inl rfl) rfl rfl (lb rfl) fun a S => ?_
      refine sSkip 26 true 205 206 S rfl rfl rfl rfl rfl (lb rfl) fun a S => ?_
      refine sSkip 26 true 205 207 S rfl rfl rfl rfl rfl (lb rfl) fun a S => ?_
      refine sPickF (.bool false) S (wN rfl) rfl rfl rfl rfl rfl (lb rfl) fun a S => ?_
      refine sMove (.bool false) S (wN rfl) (.inl rfl) rfl rfl (lb rfl) fun a S => ?_
      refine sSkip 30 true 209 210 S rfl rfl rfl rfl rfl (lb rfl) fun a S => ?_
      refine sSkip 30 true 209 211 S rfl rfl rfl rfl rfl (lb rfl) fun a S => ?_
      refine sPickF (.bool false) S (wN rfl) rfl rfl rfl rfl rfl (lb rfl) fun a S => ?_
      refine sMove (.bool false) S (wN rfl) (.inl rfl) rfl rfl (lb rfl) fun a S => ?_
      refine sSkip 34 true 213 214 S rfl rfl rfl rfl rfl (lb rfl) fun a S => ?_
      refine sSkip 34 true 213 215 S rfl rfl rfl rfl rfl (lb rfl) fun a S => ?_
      refine sPickF (.bool false) S (wN rfl) rfl rfl rfl rfl rfl (lb rfl) fun a S => ?_
      refine sMove (.bool false) S (wN rfl) (.inr rfl) rfl rfl (lb rfl) fun a S => ?_
      exact leafL (leafT (⟨false, Option.some.inj h, S.fix [4, 5, 6, 7] [] (by decide) rfl rfl rfl⟩))
    refine sMove (iv o135) S (wG 6 true 185 rfl rfl rfl hc199) (.inl rfl) rfl rfl (lb rfl) fun a S => ?_
    refine sBin (.bool (o135 == 4)) S (wG 6 true 185 rfl rfl rfl hc199) rfl rfl rfl (bEq _ _ _ _ .i64 o135 4) rfl (lb rfl) fun a S => ?_
    refine sPickT (.bool (o135 == 4)) S (wN rfl) rfl rfl hc199 rfl rfl (lb rfl) fun a S => ?_
    refine sMove (.bool (o135 == 4)) S (wN rfl) (.inl rfl) rfl rfl (lb rfl) fun a S => ?_
    rcases iteSome h with ⟨hc200, h⟩ | ⟨hc200, h⟩
    rotate_left
    · refine sSkip 10 true 189 190 S rfl rfl rfl hc200 rfl (lb rfl) fun a S => ?_
      refine sSkip 10 true 189 191 S rfl rfl rfl hc200 rfl (lb rfl) fun a S => ?_
      refine sPickF (.bool false) S (wN rfl) rfl rfl hc200 rfl rfl (lb rfl) fun a S => ?_
      refine sMove (.bool false) S (wN rfl) (.inl rfl) rfl rfl (lb rfl) fun a S => ?_
      refine sSkip 14 true 193 194 S rfl rfl rfl rfl rfl (lb rfl) fun a S => ?_
      refine sSkip 14 true 193 195 S rfl rfl rfl rfl rfl (lb rfl) fun a S => ?_
      refine sPickF (.bool false) S (wN rfl) rfl rfl rfl rfl rfl (lb rfl) fun a S => ?_
      refine sMove (.bool false) S (wN rfl) (.inl rfl) rfl rfl (lb rfl) fun a S => ?_
      refine sSkip 18 true 197 198 S rfl rfl rfl rfl rfl (lb rfl) fun a S => ?_
      refine sSkip 18 true 197 199 S rfl rfl rfl rfl rfl (lb rfl) fun a S => ?_
      refine sPickF (.bool false) S (wN rfl) rfl rfl rfl rfl rfl (lb rfl) fun a S => ?_
      refine sMove (.bool false) S (wN rfl) (.inl rfl) rfl rfl (lb rfl) fun a S => ?_
      refine sSkip 22 true 201 202 S rfl rfl rfl rfl rfl (lb rfl) fun a S => ?_
      refine sSkip 22 true 201 203 S rfl rfl rfl rfl rfl (lb rfl) fun a S => ?_
      refine sPickF (.bool false) S (wN rfl) rfl rfl rfl rfl rfl (lb rfl) fun a S => ?_
      refine sMove (.bool false) S (wN rfl) (.inl rfl) rfl rfl (lb rfl) fun a S => ?_
      refine sSkip 26 true 205 206 S rfl rfl rfl rfl rfl (lb rfl) fun a S => ?_
      refine sSkip 26 true 205 207 S rfl rfl rfl rfl rfl (lb rfl) fun a S => ?_
      refine sPickF (.bool false) S (wN rfl) rfl rfl rfl rfl rfl (lb rfl) fun a S => ?_
      refine sMove (.bool false) S (wN rfl) (.inl rfl) rfl rfl (lb rfl) fun a S => ?_
      refine sSkip 30 true 209 210 S rfl rfl rfl rfl rfl (lb rfl) fun a S => ?_
      refine sSkip 30 true 209 211 S rfl rfl rfl rfl rfl (lb rfl) fun a S => ?_
      refine sPickF (.bool false) S (wN rfl) rfl rfl rfl rfl rfl (lb rfl) fun a S => ?_
      refine sMove (.bool false) S (wN rfl) (.inl rfl) rfl rfl (lb rfl) fun a S => ?_
      refine sSkip 34 true 213 214 S rfl rfl rfl rfl rfl (lb rfl) fun a S => ?_
      refine sSkip 34 true 213 215 S rfl rfl rfl rfl rfl (lb rfl) fun a S => ?_
      refine sPickF (.bool false) S (wN rfl) rfl rfl rfl rfl rfl (lb rfl) fun a S => ?_
      refine sMove (.bool false) S (wN rfl) (.inr rfl) rfl rfl (lb rfl) fun a S => ?_
      exact leafL (leafT (⟨false, Option.some.inj h, S.fix [4, 5, 6, 7] [] (by decide) rfl rfl rfl⟩))
    refine sMove (iv r157.2) S (wG 10 true 189 rfl rfl rfl hc200) (.inl rfl) rfl rfl (lb rfl) fun a S => ?_
    refine sBin (.bool (r157.2 == 8)) S (wG 10 true 189 rfl rfl rfl hc200) rfl rfl rfl (bEq _ _ _ _ .i64 r157.2 8) rfl (lb rfl) fun a S => ?_
    refine sPickT (.bool (r157.2 == 8)) S (wN rfl) rfl rfl hc200 rfl rfl (lb rfl) fun a S => ?_
    refine sMove (.bool (r157.2 == 8)) S (wN rfl) (.inl rfl) rfl rfl (lb rfl) fun a S => ?_
    rcases iteSome h with ⟨hc201, h⟩ | ⟨hc201, h⟩
    rotate_left
    · refine sSkip 14 true 193 194 S rfl rfl rfl hc201 rfl (lb rfl) fun a S => ?_
      refine sSkip 14 true 193 195 S rfl rfl rfl hc201 rfl (lb rfl) fun a S => ?_
      refine sPickF (.bool false) S (wN rfl) rfl rfl hc201 rfl rfl (lb rfl) fun a S => ?_
      refine sMove (.bool false) S (wN rfl) (.inl rfl) rfl rfl (lb rfl) fun a S => ?_
      refine sSkip 18 true 197 198 S rfl rfl rfl rfl rfl (lb rfl) fun a S => ?_
      refine sSkip 18 true 197 199 S rfl rfl rfl rfl rfl (lb rfl) fun a S => ?_
      refine sPickF (.bool false) S (wN rfl) rfl rfl rfl rfl rfl (lb rfl) fun a S => ?_
      refine sMove (.bool false) S (wN rfl) (.inl rfl) rfl rfl (lb rfl) fun a S => ?_
      refine sSkip 22 true 201 202 S rfl rfl rfl rfl rfl (lb rfl) fun a S => ?_
      refine sSkip 22 true 201 203 S rfl rfl rfl rfl rfl (lb rfl) fun a S => ?_
      refine sPickF (.bool false) S (wN rfl) rfl rfl rfl rfl rfl (lb rfl) fun a S => ?_
      refine sMove (.bool false) S (wN rfl) (.inl rfl) rfl rfl (lb rfl) fun a S => ?_
      refine sSkip 26 true 205 206 S rfl rfl rfl rfl rfl (lb rfl) fun a S => ?_
      refine sSkip 26 true 205 207 S rfl rfl rfl rfl rfl (lb rfl) fun a S => ?_
      refine sPickF (.bool false) S (wN rfl) rfl rfl rfl rfl rfl (lb rfl) fun a S => ?_
      refine sMove (.bool false) S (wN rfl) (.inl rfl) rfl rfl (lb rfl) fun a S => ?_
      refine sSkip 30 true 209 210 S rfl rfl rfl rfl rfl (lb rfl) fun a S => ?_
      refine sSkip 30 true 209 211 S rfl rfl rfl rfl rfl (lb rfl) fun a S => ?_
      refine sPickF (.bool false) S (wN rfl) rfl rfl rfl rfl rfl (lb rfl) fun a S => ?_
      refine sMove (.bool false) S (wN rfl) (.inl rfl) rfl rfl (lb rfl) fun a S => ?_
      refine sSkip 34 true 213 214 S rfl rfl rfl rfl rfl (lb rfl) fun a S => ?_
      refine sSkip 34 true 213 215 S rfl rfl rfl rfl rfl (lb rfl) fun a S => ?_
      refine sPickF (.bool false) S (wN rfl) rfl rfl rfl rfl rfl (lb rfl) fun a S => ?_
      refine sMove (.bool false) S (wN rfl) (.inr rfl) rfl rfl (lb rfl) fun a S => ?_
      exact leafL (leafT (⟨false, Option.some.inj h, S.fix [4, 5, 6, 7] [] (by decide) rfl rfl rfl⟩))
    refine sMove (iv r162.2) S (wG 14 true 193 rfl rfl rfl hc201) (.inl rfl) rfl rfl (lb rfl) fun a S => ?_
    refine sBin (.bool (r162.2 == 2)) S (wG 14 true 193 rfl rfl rfl hc201) rfl rfl rfl (bEq _ _ _ _ .i64 r162.2 2) rfl (lb rfl) fun a S => ?_
    refine sPickT (.bool (r162.2 == 2)) S (wN rfl) rfl rfl hc201 rfl rfl (lb rfl) fun a S => ?_
    refine sMove (.bool (r162.2 == 2)) S (wN rfl) (.inl rfl) rfl rfl (lb rfl) fun a S => ?_
    rcases iteSome h with ⟨hc202, h⟩ | ⟨hc202, h⟩
    rotate_left
    · exact absurd hc202 (by rw [hv_r162]; decide)
    refine sMove (iv r167.2) S (wG 18 true 197 rfl rfl rfl hc202) (.inl rfl) rfl rfl (lb rfl) fun a S => ?_
    refine sBin (.bool (r167.2 == 8)) S (wG 18 true 197 rfl rfl rfl hc202) rfl rfl rfl (bEq _ _ _ _ .i64 r167.2 8) rfl (lb rfl) fun a S => ?_
    refine sPickT (.bool (r167.2 == 8)) S (wN rfl) rfl rfl hc202 rfl rfl (lb rfl) fun a S => ?_
    refine sMove (.bool (r167.2 == 8)) S (wN rfl) (.inl rfl) rfl rfl (lb rfl) fun a S => ?_
    rcases iteSome h with ⟨hc203, h⟩ | ⟨hc203, h⟩
    rotate_left
    · exact absurd hc203 (by rw [hv_r167]; decide)
    refine sMove (iv r175.2) S (wG 22 true 201 rfl rfl rfl hc203) (.inl rfl) rfl rfl (lb rfl) fun a S => ?_
    refine sBin (.bool (r175.2 == 2)) S (wG 22 true 201 rfl rfl rfl hc203) rfl rfl rfl (bEq _ _ _ _ .i64 r175.2 2) rfl (lb rfl) fun a S => ?_
    refine sPickT (.bool (r175.2 == 2)) S (wN rfl) rfl rfl hc203 rfl rfl (lb rfl) fun a S => ?_
    refine sMove (.bool (r175.2 == 2)) S (wN rfl) (.inl rfl) rfl rfl (lb rfl) fun a S => ?_
    rcases iteSome h with ⟨hc204, h⟩ | ⟨hc204, h⟩
    rotate_left
    · exact absurd hc204 (by rw [hv_r175]; decide)
    refine sMove (iv r181.2.2) S (wG 26 true 205 rfl rfl rfl hc204) (.inl rfl) rfl rfl (lb rfl) fun a S => ?_
    refine sBin (.bool (r181.2.2 == 2)) S (wG 26 true 205 rfl rfl rfl hc204) rfl rfl rfl (bEq _ _ _ _ .i64 r181.2.2 2) rfl (lb rfl) fun a S => ?_
    refine sPickT (.bool (r181.2.2 == 2)) S (wN rfl) rfl rfl hc204 rfl rfl (lb rfl) fun a S => ?_
    refine sMove (.bool (r181.2.2 == 2)) S (wN rfl) (.inl rfl) rfl rfl (lb rfl) fun a S => ?_
    rcases iteSome h with ⟨hc205, h⟩ | ⟨hc205, h⟩
    rotate_left
    · exact absurd hc205 (by rw [hv_r181]; decide)
    refine sMove (iv r185.2.2) S (wG 30 true 209 rfl rfl rfl hc205) (.inl rfl) rfl rfl (lb rfl) fun a S => ?_
    refine sBin (.bool (r185.2.2 == 2)) S (wG 30 true 209 rfl rfl rfl hc205) rfl rfl rfl (bEq _ _ _ _ .i64 r185.2.2 2) rfl (lb rfl) fun a S => ?_
    refine sPickT (.bool (r185.2.2 == 2)) S (wN rfl) rfl rfl hc205 rfl rfl (lb rfl) fun a S => ?_
    refine sMove (.bool (r185.2.2 == 2)) S (wN rfl) (.inl rfl) rfl rfl (lb rfl) fun a S => ?_
    rcases iteSome h with ⟨hc206, h⟩ | ⟨hc206, h⟩
    rotate_left
    · exact absurd hc206 (by rw [hv_r185]; decide)
    refine sMove (iv r189.2.2) S (wG 34 true 213 rfl rfl rfl hc206) (.inl rfl) rfl rfl (lb rfl) fun a S => ?_
    refine sBin (.bool (r189.2.2 == 2)) S (wG 34 true 213 rfl rfl rfl hc206) rfl rfl rfl (bEq _ _ _ _ .i64 r189.2.2 2) rfl (lb rfl) fun a S => ?_
    refine sPickT (.bool (r189.2.2 == 2)) S (wN rfl) rfl rfl hc206 rfl rfl (lb rfl) fun a S => ?_
    refine sMove (.bool (r189.2.2 == 2)) S (wN rfl) (.inr rfl) rfl rfl (lb rfl) fun a S => ?_
    exact leafL (leafT (⟨r189.2.2 == 2, Option.some.inj h, S.fix [4, 5, 6, 7] [] (by decide) rfl rfl rfl⟩))
  obtain ⟨o195, rfl, S⟩ := hI
  have h := g197
  clear g197
  try dsimp only at h
  obtain ⟨t208, h, g209⟩ := bindSome h
  refine sCut (fun a w => ∃ o207, o207 = t208 ∧ St [] E [] w0 283 a w [(0, .bool o207)] [] []) ?_ (fun a w hI => ?_)
  rotate_left
  · obtain ⟨o207, rfl, S⟩ := hI
    have h := g209
    clear g209
    try dsimp only at h
    obtain rfl := Option.some.inj h
    exact wp_ret (sRet (.bool o207) S (rsl1 rfl (rvT (t := 0) (v := .bool o207) S rfl)) ⟨(), rfl, S.mem.sel [] [] (by decide) rfl rfl⟩)
  refine sRegion ?_
  refine sMove (.bool true) S (wN rfl) (.inl rfl) rfl rfl (lb rfl) fun a S => ?_
  refine sMove (iv r52.2) S (wG 0 true 217 rfl rfl rfl rfl) (.inl rfl) rfl rfl (lb rfl) fun a S => ?_
  refine sBin (.bool (r52.2 == 0)) S (wG 0 true 217 rfl rfl rfl rfl) rfl rfl rfl (bEq _ _ _ _ .i64 r52.2 0) rfl (lb rfl) fun a S => ?_
  refine sPickT (.bool (r52.2 == 0)) S (wN rfl) rfl rfl rfl rfl rfl (lb rfl) fun a S => ?_
  refine sMove (.bool (r52.2 == 0)) S (wN rfl) (.inl rfl) rfl rfl (lb rfl) fun a S => ?_
  rcases iteSome h with ⟨hc210, h⟩ | ⟨hc210, h⟩
  rotate_left
  · exact absurd hc210 (by rw [hv_r52]; decide)
  refine sMove (iv r61.2) S (wG 4 true 221 rfl rfl rfl hc210) (.inl rfl) rfl rfl (lb rfl) fun a S => ?_
  refine sBin (.bool (r61.2 == 0)) S (wG 4 true 221 rfl rfl rfl hc210) rfl rfl rfl (bEq _ _ _ _ .i64 r61.2 0) rfl (lb rfl) fun a S => ?_
  refine sPickT (.bool (r61.2 == 0)) S (wN rfl) rfl rfl hc210 rfl rfl (lb rfl) fun a S => ?_
  refine sMove (.bool (r61.2 == 0)) S (wN rfl) (.inl rfl) rfl rfl (lb rfl) fun a S => ?_
  rcases iteSome h with ⟨hc211, h⟩ | ⟨hc211, h⟩
  rotate_left
  · refine sSkip 8 true 225 226 S rfl rfl rfl hc211 rfl (lb rfl) fun a S => ?_
    refine sSkip 8 true 225 227 S rfl rfl rfl hc211 rfl (lb rfl) fun a S => ?_
    refine sSkip 8 true 225 228 S rfl rfl rfl hc211 rfl (lb rfl) fun a S => ?_
    refine sPickF (.bool false) S (wN rfl) rfl rfl hc211 rfl rfl (lb rfl) fun a S => ?_
    refine sMove (.bool false) S (wN rfl) (.inl rfl) rfl rfl (lb rfl) fun a S => ?_
    refine sSkip 13 true 230 231 S rfl rfl rfl rfl rfl (lb rfl) fun a S => ?_
    refine sSkip 13 true 230 232 S rfl rfl rfl rfl rfl (lb rfl) fun a S => ?_
    refine sPickF (.bool false) S (wN rfl) rfl rfl rfl rfl rfl (lb rfl) fun a S => ?_
    refine sMove (.bool false) S (wN rfl) (.inl rfl) rfl rfl (lb rfl) fun a S => ?_
    refine sSkip 17 true 234 235 S rfl rfl rfl rfl rfl (lb rfl) fun a S => ?_
    refine sSkip 17 true 234 236 S rfl rfl rfl rfl rfl (lb rfl) fun a S => ?_
    refine sSkip 17 true 234 237 S rfl rfl rfl rfl rfl (lb rfl) fun a S => ?_
    refine sPickF (.bool false) S (wN rfl) rfl rfl rfl rfl rfl (lb rfl) fun a S => ?_
    refine sMove (.bool false) S (wN rfl) (.inl rfl) rfl rfl (lb rfl) fun a S => ?_
    refine sSkip 22 true 239 240 S rfl rfl rfl rfl rfl (lb rfl) fun a S => ?_
    refine sSkip 22 true 239 241 S rfl rfl rfl rfl rfl (lb rfl) fun a S => ?_
    refine sSkip 22 true 239 242 S rfl rfl rfl rfl rfl (lb rfl) fun a S => ?_
    refine sPickF (.bool false) S (wN rfl) rfl rfl rfl rfl rfl (lb rfl) fun a S => ?_
    refine sMove (.bool false) S (wN rfl) (.inl rfl) rfl rfl (lb rfl) fun a S => ?_
    refine sSkip 27 true 244 245 S rfl rfl rfl rfl rfl (lb rfl) fun a S => ?_
    refine sSkip 27 true 244 246 S rfl rfl rfl rfl rfl (lb rfl) fun a S => ?_
    refine sPickF (.bool false) S (wN rfl) rfl rfl rfl rfl rfl (lb rfl) fun a S => ?_
    refine sMove (.bool false) S (wN rfl) (.inl rfl) rfl rfl (lb rfl) fun a S => ?_
    refine sSkip 31 true 248 249 S rfl rfl rfl rfl rfl (lb rfl) fun a S => ?_
    refine sSkip 31 true 248 250 S rfl rfl rfl rfl rfl (lb rfl) fun a S => ?_
    refine sSkip 31 true 248 251 S rfl rfl rfl rfl rfl (lb rfl) fun a S => ?_
    refine sPickF (.bool false) S (wN rfl) rfl rfl rfl rfl rfl (lb rfl) fun a S => ?_
    refine sMove (.bool false) S (wN rfl) (.inl rfl) rfl rfl (lb rfl) fun a S => ?_
    refine sSkip 36 true 253 254 S rfl rfl rfl rfl rfl (lb rfl) fun a S => ?_
    refine sSkip 36 true 253 255 S rfl rfl rfl rfl rfl (lb rfl) fun a S => ?_
    refine sPickF (.bool false) S (wN rfl) rfl rfl rfl rfl rfl (lb rfl) fun a S => ?_
    refine sMove (.bool false) S (wN rfl) (.inl rfl) rfl rfl (lb rfl) fun a S => ?_
    refine sSkip 40 true 257 258 S rfl rfl rfl rfl rfl (lb rfl) fun a S => ?_
    refine sSkip 40 true 257 259 S rfl rfl rfl rfl rfl (lb rfl) fun a S => ?_
    refine sSkip 40 true 257 260 S rfl rfl rfl rfl rfl (lb rfl) fun a S => ?_
    refine sPickF (.bool false) S (wN rfl) rfl rfl rfl rfl rfl (lb rfl) fun a S => ?_
    refine sMove (.bool false) S (wN rfl) (.inl rfl) rfl rfl (lb rfl) fun a S => ?_
    refine sSkip 45 true 262 263 S rfl rfl rfl rfl rfl (lb rfl) fun a S => ?_
    refine sPickF (.bool false) S (wN rfl) rfl rfl rfl rfl rfl (lb rfl) fun a S => ?_
    refine sMove (.bool false) S (wN rfl) (.inl rfl) rfl rfl (lb rfl) fun a S => ?_
    refine sSkip 48 true 265 266 S rfl rfl rfl rfl rfl (lb rfl) fun a S => ?_
    refine sPickF (.bool false) S (wN rfl) rfl rfl rfl rfl rfl (lb rfl) fun a S => ?_
    refine sMove (.bool false) S (wN rfl) (.inl rfl) rfl rfl (lb rfl) fun a S => ?_
    refine sSkip 51 true 268 269 S rfl rfl rfl rfl rfl (lb rfl) fun a S => ?_
    refine sSkip 51 true 268 270 S rfl rfl rfl rfl rfl (lb rfl) fun a S => ?_
    refine sPickF (.bool false) S (wN rfl) rfl rfl rfl rfl rfl (lb rfl) fun a S => ?_
    refine sMove (.bool false) S (wN rfl) (.inl rfl) rfl rfl (lb rfl) fun a S => ?_
    refine sSkip 55 true 272 273 S rfl rfl rfl rfl rfl (lb rfl) fun a S => ?_
    refine sSkip 55 true 272 274 S rfl rfl rfl rfl rfl (lb rfl) fun a S => ?_
    refine sPickF (.bool false) S (wN rfl) rfl rfl rfl rfl rfl (lb rfl) fun a S => ?_
    refine sMove (.bool false) S (wN rfl) (.inl rfl) rfl rfl (lb rfl) fun a S => ?_
    refine sSkip 59 true 276 277 S rfl rfl rfl rfl rfl (lb rfl) fun a S => ?_
    refine sSkip 59 true 276 278 S rfl rfl rfl rfl rfl (lb rfl) fun a S => ?_
    refine sPickF (.bool false) S (wN rfl) rfl rfl rfl rfl rfl (lb rfl) fun a S => ?_
    refine sMove (.bool false) S (wN rfl) (.inl rfl) rfl rfl (lb rfl) fun a S => ?_
    refine sSkip 63 true 280 281 S rfl rfl rfl rfl rfl (lb rfl) fun a S => ?_
    refine sPickF (.bool false) S (wN rfl) rfl rfl rfl rfl rfl (lb rfl) fun a S => ?_
    refine sMove (.bool false) S (wN rfl) (.inr rfl) rfl rfl (lb rfl) fun a S => ?_
    exact leafL (leafT (⟨false, Option.some.inj h, S.fix [] [] (by decide) rfl rfl rfl⟩))
  refine sField (b := b64) (off := 0) 0 0 S (wG 8 true 225 rfl rfl rfl hc211) rfl rfl rfl rfl rfl (lb rfl) fun a S => ?_
  refine sLoad1 (p := b64) (off := 0) (T := 23) (vs := [iv r61.1.Length, iv r61.1.Time]) 0 (iv r61.1.Length) S (wG 8 true 225 rfl rfl rfl hc211) rfl rfl rfl rfl rfl rfl (lb rfl) fun a S => ?_
  refine sBin (.bool (r61.1.Length == 18)) S (wG 8 true 225 rfl rfl rfl hc211) rfl rfl rfl (bEq _ _ _ _ .i64 r61.1.Length 18) rfl (lb rfl) fun a S => ?_
  refine sPickT (.bool (r61.1.Length == 18)) S (wN rfl) rfl rfl hc211 rfl rfl (lb rfl) fun a S => ?_
  refine sMove (.bool (r61.1.Length == 18)) S (wN rfl) (.inl rfl) rfl rfl (lb rfl) fun a S => ?_
  rcases iteSome h with ⟨hc212, h⟩ | ⟨hc212, h⟩
  rotate_left
  · refine sSkip 13 true 230 231 S rfl rfl rfl hc212 rfl (lb rfl) fun a S => ?_
    refine sSkip 13 true 230 232 S rfl rfl rfl hc212 rfl (lb rfl) fun a S => ?_
    refine sPickF (.bool false) S (wN rfl) rfl rfl hc212 rfl rfl (lb rfl) fun a S => ?_
    refine sMove (.bool false) S (wN rfl) (.inl rfl) rfl rfl (lb rfl) fun a S => ?_
    refine sSkip 17 true 234 235 S rfl rfl rfl rfl rfl (lb rfl) fun a S => ?_
    refine sSkip 17 true 234 236 S rfl rfl rfl rfl rfl (lb rfl) fun a S => ?_
    refine sSkip 17 true 234 237 S rfl rfl rfl rfl rfl (lb rfl) fun a S => ?_
    refine sPickF (.bool false) S (wN rfl) rfl rfl rfl rfl rfl (lb rfl) fun a S => ?_
    refine sMove (.bool false) S (wN rfl) (.inl rfl) rfl rfl (lb rfl) fun a S => ?_
    refine sSkip 22 true 239 240 S rfl rfl rfl rfl rfl (lb rfl) fun a S => ?_
    refine sSkip 22 true 239 241 S rfl rfl rfl rfl rfl (lb rfl) fun a S => ?_
    refine sSkip 22 true 239 242 S rfl rfl rfl rfl rfl (lb rfl) fun a S => ?_
    refine sPickF (.bool false) S (wN rfl) rfl rfl rfl rfl rfl (lb rfl) fun a S => ?_
    refine sMove (.bool false) S (wN rfl) (.inl rfl) rfl rfl (lb rfl) fun a S => ?_
    refine sSkip 27 true 244 245 S rfl rfl rfl rfl rfl (lb rfl) fun a S => ?_
    refine sSkip 27 true 244 246 S rfl rfl rfl rfl rfl (lb rfl) fun a S => ?_
    refine sPickF (.bool false) S (wN rfl) rfl rfl rfl rfl rfl (lb rfl) fun a S => ?_
    refine sMove (.bool false) S (wN rfl) (.inl rfl) rfl rfl (lb rfl) fun a S => ?_
    refine sSkip 31 true 248 249 S rfl rfl rfl rfl rfl (lb rfl) fun a S => ?_
    refine sSkip 31 true 248 250 S rfl rfl rfl rfl rfl (lb rfl) fun a S => ?_
    refine sSkip 31 true 248 251 S rfl rfl rfl rfl rfl (lb rfl) fun a S => ?_
    refine sPickF (.bool false) S (wN rfl) rfl rfl rfl rfl rfl (lb rfl) fun a S => ?_
    refine sMove (.bool false) S (wN rfl) (.inl rfl) rfl rfl (lb rfl) fun a S => ?_
    refine sSkip 36 true 253 254 S rfl rfl rfl rfl rfl (lb rfl) fun a S => ?_
    refine sSkip 36 true 253 255 S rfl rfl rfl rfl rfl (lb rfl) fun a S => ?_
    refine sPickF (.bool false) S (wN rfl) rfl rfl rfl rfl rfl (lb rfl) fun a S => ?_
    refine sMove (.bool false) S (wN rfl) (.inl rfl) rfl rfl (lb rfl) fun a S => ?_
    refine sSkip 40 true 257 258 S rfl rfl rfl rfl rfl (lb rfl) fun a S => ?_
    refine sSkip 40 true 257 259 S rfl rfl rfl rfl rfl (lb rfl) fun a S => ?_
    refine sSkip 40 true 257 260 S rfl rfl rfl rfl rfl (lb rfl) fun a S => ?_
    refine sPickF (.bool false) S (wN rfl) rfl rfl rfl rfl rfl (lb rfl) fun a S => ?_
    refine sMove (.bool false) S (wN rfl) (.inl rfl) rfl rfl (lb rfl) fun a S => ?_
    refine sSkip 45 true 262 263 S rfl rfl rfl rfl rfl (lb rfl) fun a S => ?_
    refine sPickF (.bool false) S (wN rfl) rfl rfl rfl rfl rfl (lb rfl) fun a S => ?_
    refine sMove (.bool false) S (wN rfl) (.inl rfl) rfl rfl (lb rfl) fun a S => ?_
    refine sSkip 48 true 265 266 S rfl rfl rfl rfl rfl (lb rfl) fun a S => ?_
    refine sPickF (.bool false) S (wN rfl) rfl rfl rfl rfl rfl (lb rfl) fun a S => ?_
    refine sMove (.bool false) S (wN rfl) (.inl rfl) rfl rfl (lb rfl) fun a S => ?_
    refine sSkip 51 true 268 269 S rfl rfl rfl rfl rfl (lb rfl) fun a S => ?_
    refine sSkip 51 true 268 270 S rfl rfl rfl rfl rfl (lb rfl) fun a S => ?_
    refine sPickF (.bool false) S (wN rfl) rfl rfl rfl rfl rfl (lb rfl) fun a S => ?_
    refine sMove (.bool false) S (wN rfl) (.inl rfl) rfl rfl (lb rfl) fun a S => ?_
    refine sSkip 55 true 272 273 S rfl rfl rfl rfl rfl (lb rfl) fun a S => ?_
    refine sSkip 55 true 272 274 S rfl rfl rfl rfl rfl (lb rfl) fun a S => ?_
    refine sPickF (.bool false) S (wN rfl) rfl rfl rfl rfl rfl (lb rfl) fun a S => ?_
    refine sMove (.bool false) S (wN rfl) (.inl rfl) rfl rfl (lb rfl) fun a S => ?_
    refine sSkip 59 true 276 277 S rfl rfl rfl rfl rfl (lb rfl) fun a S => ?_
    refine sSkip 59 true 276 278 S rfl rfl rfl rfl rfl (lb rfl) fun a S => ?_
    refine sPickF (.bool false) S (wN rfl) rfl rfl rfl rfl rfl (lb rfl) fun a S => ?_
    refine sMove (.bool false) S (wN rfl) (.inl rfl) rfl rfl (lb rfl) fun a S => ?_
    refine sSkip 63 true 280 281 S rfl rfl rfl rfl rfl (lb rfl) fun a S => ?_
    refine sPickF (.bool false) S (wN rfl) rfl rfl rfl rfl rfl (lb rfl) fun a S => ?_
    refine sMove (.bool false) S (wN rfl) (.inr rfl) rfl rfl (lb rfl) fun a S => ?_
    exact leafL (leafT (⟨false, Option.some.inj h, S.fix [] [] (by decide) rfl rfl rfl⟩))
  refine sMove (iv r66.2) S (wG 13 true 230 rfl rfl rfl hc212) (.inl rfl) rfl rfl (lb rfl) fun a S => ?_
  refine sBin (.bool (r66.2 == 0)) S (wG 13 true 230 rfl rfl rfl hc212) rfl rfl rfl (bEq _ _ _ _ .i64 r66.2 0) rfl (lb rfl) fun a S => ?_
  refine sPickT (.bool (r66.2 == 0)) S (wN rfl) rfl rfl hc212 rfl rfl (lb rfl) fun a S => ?_
  refine sMove (.bool (r66.2 == 0)) S (wN rfl) (.inl rfl) rfl rfl (lb rfl) fun a S => ?_
  rcases iteSome h with ⟨hc213, h⟩ | ⟨hc213, h⟩
  rotate_left
  · exact absurd hc213 (by rw [hv_r66]; decide)
  refine sIdxV (v := .pointer (some ⟨b69, 0, none⟩)) (k := .u8) (j := 1) (q := .pointer (some ⟨b69, 1, none⟩)) S (wG 17 true 234 rfl rfl rfl hc213) rfl rfl rfl (idxV_arr (m := 11) (sz := 1) Try.underlying42 rfl (by decide) (by decide) 0) rfl (lb rfl) fun a S => ?_
  refine sLoad1 (p := b69) (off := 1) (T := 42) (vs := (gl_A11_Int r66.1)) 1 (iv r66.1.2.1) S (wG 17 true 234 rfl rfl rfl hc213) rfl rfl rfl rfl rfl rfl (lb rfl) fun a S => ?_
  refine sBin (.bool (r66.1.2.1 == 5)) S (wG 17 true 234 rfl rfl rfl hc213) rfl rfl rfl (bEq _ _ _ _ .i64 r66.1.2.1 5) rfl (lb rfl) fun a S => ?_
  refine sPickT (.bool (r66.1.2.1 == 5)) S (wN rfl) rfl rfl hc213 rfl rfl (lb rfl) fun a S => ?_
  refine sMove (.bool (r66.1.2.1 == 5)) S (wN rfl) (.inl rfl) rfl rfl (lb rfl) fun a S => ?_
  rcases iteSome h with ⟨hc214, h⟩ | ⟨hc214, h⟩
  rotate_left
  · exact absurd hc214 (by rw [hv_r66]; decide)
  refine sIdxV (v := .pointer (some ⟨b69, 0, none⟩)) (k := .u8) (j := 10) (q := .pointer (some ⟨b69, 10, none⟩)) S (wG 22 true 239 rfl rfl rfl hc214) rfl rfl rfl (idxV_arr (m := 11) (sz := 1) Try.underlying42 rfl (by decide) (by decide) 0) rfl (lb rfl) fun a S => ?_
  refine sLoad1 (p := b69) (off := 10) (T := 42) (vs := (gl_A11_Int r66.1)) 1 (iv r66.1.2.2.2.2.2.2.2.2.2.2) S (wG 22 true 239 rfl rfl rfl hc214) rfl rfl rfl rfl rfl rfl (lb rfl) fun a S => ?_
  refine sBin (.bool (r66.1.2.2.2.2.2.2.2.2.2.2 == 1)) S (wG 22 true 239 rfl rfl rfl hc214) rfl rfl rfl (bEq _ _ _ _ .i64 r66.1.2.2.2.2.2.2.2.2.2.2 1) rfl (lb rfl) fun a S => ?_
  refine sPickT (.bool (r66.1.2.2.2.2.2.2.2.2.2.2 == 1)) S (wN rfl) rfl rfl hc214 rfl rfl (lb rfl) fun a S => ?_
  refine sMove (.bool (r66.1.2.2.2.2.2.2.2.2.2.2 == 1)) S (wN rfl) (.inl rfl) rfl rfl (lb rfl) fun a S => ?_
  rcases iteSome h with ⟨hc215, h⟩ | ⟨hc215, h⟩
  rotate_left
  · exact absurd hc215 (by rw [hv_r66]; decide)
  refine sMove (iv r74.2) S (wG 27 true 244 rfl rfl rfl hc215) (.inl rfl) rfl rfl (lb rfl) fun a S => ?_
  refine sBin (.bool (r74.2 == 0)) S (wG 27 true 244 rfl rfl rfl hc215) rfl rfl rfl (bEq _ _ _ _ .i64 r74.2 0) rfl (lb rfl) fun a S => ?_
  refine sPickT (.bool (r74.2 == 0)) S (wN rfl) rfl rfl hc215 rfl rfl (lb rfl) fun a S => ?_
  refine sMove (.bool (r74.2 == 0)) S (wN rfl) (.inl rfl) rfl rfl (lb rfl) fun a S => ?_
  rcases iteSome h with ⟨hc216, h⟩ | ⟨hc216, h⟩
  rotate_left
  · exact absurd hc216 (by rw [hv_r74]; decide)
  refine sLoadN (p := b77) (off := 0) (T := 23) (vs := [iv r74.1.Length, iv r74.1.Time]) 2 [iv r74.1.Length, iv r74.1.Time] S (wG 31 true 248 rfl rfl rfl hc216) rfl rfl rfl rfl rfl rfl rfl (lb rfl) fun a S => ?_
  refine sBuild [] [iv 0, iv 0] S (wG 31 true 248 rfl rfl rfl hc216) rfl rfl rfl rfl (lb rfl) fun a S => ?_
  refine sBin (.bool ((r74.1.Length == 0) && ((r74.1.Time == 0) && true))) S (wG 31 true 248 rfl rfl rfl hc216) rfl rfl rfl (bEqV _ _ _ _ #[iv r74.1.Length, iv r74.1.Time] #[iv 0, iv 0] ((r74.1.Length == 0) && ((r74.1.Time == 0) && true)) (by kernel_rfl) (eqlV_of (by kernel_rfl))) rfl (lb rfl) fun a S => ?_
  refine sPickT (.bool ((r74.1.Length == 0) && ((r74.1.Time == 0) && true))) S (wN rfl) rfl rfl hc216 rfl rfl (lb rfl) fun a S => ?_
  refine sMove (.bool ((r74.1.Length == 0) && ((r74.1.Time == 0) && true))) S (wN rfl) (.inl rfl) rfl rfl (lb rfl) fun a S => ?_
  rcases iteSome h with ⟨hc217, h⟩ | ⟨hc217, h⟩
  rotate_left
  · exact absurd hc217 (by rw [hv_r74]; decide)
  refine sMove (iv r80.2) S (wG 36 true 253 rfl rfl rfl hc217) (.inl rfl) rfl rfl (lb rfl) fun a S => ?_
  refine sBin (.bool (r80.2 == 0)) S (wG 36 true 253 rfl rfl rfl hc217) rfl rfl rfl (bEq _ _ _ _ .i64 r80.2 0) rfl (lb rfl) fun a S => ?_
  refine sPickT (.bool (r80.2 == 0)) S (wN rfl) rfl rfl hc217 rfl rfl (lb rfl) fun a S => ?_
  refine sMove (.bool (r80.2 == 0)) S (wN rfl) (.inl rfl) rfl rfl (lb rfl) fun a S => ?_
  rcases iteSome h with ⟨hc218, h⟩ | ⟨hc218, h⟩
  rotate_left
  · exact absurd hc218 (by rw [hv_r80]; decide)
  refine sLoadN (p := b83) (off := 0) (T := 23) (vs := [iv r80.1.Length, iv r80.1.Time]) 3 [iv r80.1.Length, iv r80.1.Time] S (wG 40 true 257 rfl rfl rfl hc218) rfl rfl rfl rfl rfl rfl rfl (lb rfl) fun a S => ?_
  refine sBuild [] [iv 0, iv 0] S (wG 40 true 257 rfl rfl rfl hc218) rfl rfl rfl rfl (lb rfl) fun a S => ?_
  refine sBin (.bool ((r80.1.Length == 0) && ((r80.1.Time == 0) && true))) S (wG 40 true 257 rfl rfl rfl hc218) rfl rfl rfl (bEqV _ _ _ _ #[iv r80.1.Length, iv r80.1.Time] #[iv 0, iv 0] ((r80.1.Length == 0) && ((r80.1.Time == 0) && true)) (by kernel_rfl) (eqlV_of (by kernel_rfl))) rfl (lb rfl) fun a S => ?_
  refine sPickT (.bool ((r80.1.Length == 0) && ((r80.1.Time == 0) && true))) S (wN rfl) rfl rfl hc218 rfl rfl (lb rfl) fun a S => ?_
  refine sMove (.bool ((r80.1.Length == 0) && ((r80.1.Time == 0) && true))) S (wN rfl) (.inl rfl) rfl rfl (lb rfl) fun a S => ?_
  rcases iteSome h with ⟨hc219, h⟩ | ⟨hc219, h⟩
  rotate_left
  · exact absurd hc219 (by rw [hv_r80]; decide)
  refine sMove (.bool o108) S (wG 45 true 262 rfl rfl rfl hc219) (.inl rfl) rfl rfl (lb rfl) fun a S => ?_
  refine sPickT (.bool o108) S (wN rfl) rfl rfl hc219 rfl rfl (lb rfl) fun a S => ?_
  refine sMove (.bool o108) S (wN rfl) (.inl rfl) rfl rfl (lb rfl) fun a S => ?_
  rcases iteSome h with ⟨hc220, h⟩ | ⟨hc220, h⟩
  rotate_left
  · refine sSkip 48 true 265 266 S rfl rfl rfl hc220 rfl (lb rfl) fun a S => ?_
    refine sPickF (.bool false) S (wN rfl) rfl rfl hc220 rfl rfl (lb rfl) fun a S => ?_
    refine sMove (.bool false) S (wN rfl) (.inl rfl) rfl rfl (lb rfl) fun a S => ?_
    refine sSkip 51 true 268 269 S rfl rfl rfl rfl rfl (lb rfl) fun a S => ?_
    refine sSkip 51 true 268 270 S rfl rfl rfl rfl rfl (lb rfl) fun a S => ?_
    refine sPickF (.bool false) S (wN rfl) rfl rfl rfl rfl rfl (lb rfl) fun a S => ?_
    refine sMove (.bool false) S (wN rfl) (.inl rfl) rfl rfl (lb rfl) fun a S => ?_
    refine sSkip 55 true 272 273 S rfl rfl rfl rfl rfl (lb rfl) fun a S => ?_
    refine sSkip 55 true 272 274 S rfl rfl rfl rfl rfl (lb rfl) fun a S => ?_
    refine sPickF (.bool false) S (wN rfl) rfl rfl rfl rfl rfl (lb rfl) fun a S => ?_
    refine sMove (.bool false) S (wN rfl) (.inl rfl) rfl rfl (lb rfl) fun a S => ?_
    refine sSkip 59 true 276 277 S rfl rfl rfl rfl rfl (lb rfl) fun a S => ?_
    refine sSkip 59 true 276 278 S rfl rfl rfl rfl rfl (lb rfl) fun a S => ?_
    refine sPickF (.bool false) S (wN rfl) rfl rfl rfl rfl rfl (lb rfl) fun a S => ?_
    refine sMove (.bool false) S (wN rfl) (.inl rfl) rfl rfl (lb rfl) fun a S => ?_
    refine sSkip 63 true 280 281 S rfl rfl rfl rfl rfl (lb rfl) fun a S => ?_
    refine sPickF (.bool false) S (wN rfl) rfl rfl rfl rfl rfl (lb rfl) fun a S => ?_
    refine sMove (.bool false) S (wN rfl) (.inr rfl) rfl rfl (lb rfl) fun a S => ?_
    exact leafL (leafT (⟨false, Option.some.inj h, S.fix [] [] (by decide) rfl rfl rfl⟩))
  refine sMove (.bool o195) S (wG 48 true 265 rfl rfl rfl hc220) (.inl rfl) rfl rfl (lb rfl) fun a S => ?_
  refine sPickT (.bool o195) S (wN rfl) rfl rfl hc220 rfl rfl (lb rfl) fun a S => ?_
  refine sMove (.bool o195) S (wN rfl) (.inl rfl) rfl rfl (lb rfl) fun a S => ?_
  rcases iteSome h with ⟨hc221, h⟩ | ⟨hc221, h⟩
  rotate_left
  · refine sSkip 51 true 268 269 S rfl rfl rfl hc221 rfl (lb rfl) fun a S => ?_
    refine sSkip 51 true 268 270 S rfl rfl rfl hc221 rfl (lb rfl) fun a S => ?_
    refine sPickF (.bool false) S (wN rfl) rfl rfl hc221 rfl rfl (lb rfl) fun a S => ?_
    refine sMove (.bool false) S (wN rfl) (.inl rfl) rfl rfl (lb rfl) fun a S => ?_
    refine sSkip 55 true 272 273 S rfl rfl rfl rfl rfl (lb rfl) fun a S => ?_
    refine sSkip 55 true 272 274 S rfl rfl rfl rfl rfl (lb rfl) fun a S => ?_
    refine sPickF (.bool false) S (wN rfl) rfl rfl rfl rfl rfl (lb rfl) fun a S => ?_
    refine sMove (.bool false) S (wN rfl) (.inl rfl) rfl rfl (lb rfl) fun a S => ?_
    refine sSkip 59 true 276 277 S rfl rfl rfl rfl rfl (lb rfl) fun a S => ?_
    refine sSkip 59 true 276 278 S rfl rfl rfl rfl rfl (lb rfl) fun a S => ?_
    refine sPickF (.bool false) S (wN rfl) rfl rfl rfl rfl rfl (lb rfl) fun a S => ?_
    refine sMove (.bool false) S (wN rfl) (.inl rfl) rfl rfl (lb rfl) fun a S => ?_
    refine sSkip 63 true 280 281 S rfl rfl rfl rfl rfl (lb rfl) fun a S => ?_
    refine sPickF (.bool false) S (wN rfl) rfl rfl rfl rfl rfl (lb rfl) fun a S => ?_
    refine sMove (.bool false) S (wN rfl) (.inr rfl) rfl rfl (lb rfl) fun a S => ?_
    exact leafL (leafT (⟨false, Option.some.inj h, S.fix [] [] (by decide) rfl rfl rfl⟩))
  refine sMove (iv r193.2.2) S (wG 51 true 268 rfl rfl rfl hc221) (.inl rfl) rfl rfl (lb rfl) fun a S => ?_
  refine sBin (.bool (r193.2.2 == 0)) S (wG 51 true 268 rfl rfl rfl hc221) rfl rfl rfl (bEq _ _ _ _ .i64 r193.2.2 0) rfl (lb rfl) fun a S => ?_
  refine sPickT (.bool (r193.2.2 == 0)) S (wN rfl) rfl rfl hc221 rfl rfl (lb rfl) fun a S => ?_
  refine sMove (.bool (r193.2.2 == 0)) S (wN rfl) (.inl rfl) rfl rfl (lb rfl) fun a S => ?_
  rcases iteSome h with ⟨hc222, h⟩ | ⟨hc222, h⟩
  rotate_left
  · exact absurd hc222 (by rw [hv_r193]; decide)
  refine sMove (iv r193.1) S (wG 55 true 272 rfl rfl rfl hc222) (.inl rfl) rfl rfl (lb rfl) fun a S => ?_
  refine sBin (.bool (r193.1 == 0)) S (wG 55 true 272 rfl rfl rfl hc222) rfl rfl rfl (bEq _ _ _ _ .i64 r193.1 0) rfl (lb rfl) fun a S => ?_
  refine sPickT (.bool (r193.1 == 0)) S (wN rfl) rfl rfl hc222 rfl rfl (lb rfl) fun a S => ?_
  refine sMove (.bool (r193.1 == 0)) S (wN rfl) (.inl rfl) rfl rfl (lb rfl) fun a S => ?_
  rcases iteSome h with ⟨hc223, h⟩ | ⟨hc223, h⟩
  rotate_left
  · exact absurd hc223 (by rw [hv_r193]; decide)
  refine sMove (iv r193.2.1) S (wG 59 true 276 rfl rfl rfl hc223) (.inl rfl) rfl rfl (lb rfl) fun a S => ?_
  refine sBin (.bool (r193.2.1 == 0)) S (wG 59 true 276 rfl rfl rfl hc223) rfl rfl rfl (bEq _ _ _ _ .i64 r193.2.1 0) rfl (lb rfl) fun a S => ?_
  refine sPickT (.bool (r193.2.1 == 0)) S (wN rfl) rfl rfl hc223 rfl rfl (lb rfl) fun a S => ?_
  refine sMove (.bool (r193.2.1 == 0)) S (wN rfl) (.inl rfl) rfl rfl (lb rfl) fun a S => ?_
  rcases iteSome h with ⟨hc224, h⟩ | ⟨hc224, h⟩
  rotate_left
  · exact absurd hc224 (by rw [hv_r193]; decide)
  obtain ⟨r225, hx226, h⟩ := bindSome h
  have hv_r225 : r225 = true := Option.some.inj (hx226.symm.trans (by exact kc_raddlelaw45_CostNames_14))
  have S1 := S.mem
  refine sCallQ (X := Unit) (f := 24) (vs := []) (val := fun _ => .bool r225) S (wG 63 true 280 rfl rfl rfl hc224) rfl callee24 rfl (S1.quiet [] rfl) (fun E1 w1 S1 => c_raddlelaw45_alive E1 w1  r225 hx226 S1) rfl (lb rfl) fun _ a w S => ?_
  refine sPickT (.bool r225) S (wN rfl) rfl rfl hc224 rfl rfl (lb rfl) fun a S => ?_
  refine sMove (.bool r225) S (wN rfl) (.inr rfl) rfl rfl (lb rfl) fun a S => ?_
  exact leafL (leafT (⟨r225, Option.some.inj h, S.fix [] [] (by decide) rfl rfl rfl⟩))

end Go.Proofs.Ytdbgkakmhlmpbaa
