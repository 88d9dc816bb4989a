/- Several texts in one: KvCostNames FrCostNames -/
import Derived.WalkKit
import Derived.Maps.AppendAt
import Derived.Deep.AppendLies
import Derived.KernelRfl
import Derived.Laws.OwnMore
import Derived.Great.BuildSlice
import Derived.Orders
import Derived.Laws.StructEq
import Derived.ChangeKeysEq
import Derived.Defers
import Derived.Laws.BytesString
import Derived.RangeFuncNested
import Derived.RangeFuncBound
import Derived.RangeFuncCalls
import Derived.RangeFuncLeaves
import Derived.OrdersIn
import Derived.LoopNIn
import Derived.Test.YtdbgkakmhlmpbaaProg
import Derived.ProofKit
import Derived.OpenShut
import Derived.ChangeOld
import Derived.Deep.Slices
import Derived.Lib.SmallJoins
import Derived.JoinedOf
import Derived.JoinedAt
import Derived.Below
import Derived.Test.YtdbgkakmhlmpbaaRows
import Derived.Test.YtdbgkakmhlmpbaaMCostNames7
namespace Go.Proofs.Ytdbgkakmhlmpbaa
open Go.RowKit
set_option linter.unusedVariables false

def K_raddlelaw45_CostNames_l1  : (Int × Int × Int × Int × Int × Int × Int × Int × Int × Int × Int × Int) → Option ((Int × Int × Int × Int × Int × Int × Int × Int × Int × Int × Int × Int) ⊕ (Int × Int × Int × Int × Int × Int × Int × Int × Int × Int × Int)) := fun s0 => match s0 with
  | (s18, s19, s20, s21, s22, s23, s24, s25, s26, s27, s28, s29) =>
    if decide (s18 < 11) then
      Option.bind (idxO ([s19, s20, s21, s22, s23, s24, s25, s26, s27, s28, s29] : List Int) s18) fun x48 =>
      some (.inl (w64 (s18 + 1), (if s18 = 0 then 1 else s19), (if s18 = 1 then 1 else s20), (if s18 = 2 then 1 else s21), (if s18 = 3 then 1 else s22), (if s18 = 4 then 1 else s23), (if s18 = 5 then 1 else s24), (if s18 = 6 then 1 else s25), (if s18 = 7 then 1 else s26), (if s18 = 8 then 1 else s27), (if s18 = 9 then 1 else s28), (if s18 = 10 then 1 else s29)))
    else
      some (.inr (s19, s20, s21, s22, s23, s24, s25, s26, s27, s28, s29))
def K_raddlelaw45_CostNames  : Option Bool :=
  Option.bind (α := (Int × Int × Int × Int × Int × Int × Int × Int × Int × Int × Int)) (
    Option.bind (whileK (K_raddlelaw45_CostNames_l1) (1, 0, 0, 0, 0, 0, 0, 0, 0, 0, 0, 0)) fun (e33, e34, e35, e36, e37, e38, e39, e40, e41, e42, e43) =>
      some (e33, e34, e35, e36, e37, e38, e39, e40, e41, e42, e43)) fun (o4, o5, o6, o7, o8, o9, o10, o11, o12, o13, o14) =>
  Option.bind (K_raddleref26_Parse (⟨#[115, 116, 97, 114, 116, 32, 52, 10, 102, 114, 111, 110, 116, 32, 111, 110, 51, 32, 107, 109, 51, 32, 107, 120, 49, 47, 50, 10, 98, 97, 99, 107, 32, 112, 111, 52, 32, 112, 115, 32, 112, 52, 10, 102, 114, 111, 110, 116, 32, 107, 102, 50, 32, 107, 32, 107, 108, 50, 10]⟩ : ByteArray)) fun r52 =>
  Option.bind (K_cost_Need r52.1 (api_Rates.mk (o4, o5, o6, o7, o8, o9, o10, o11, o12, o13, o14) (0, 0, 0, 0, 0, 0, 0, 0, 0, 0, 0) 0)) fun r61 =>
  Option.bind (K_cost_Count r52.1) fun r66 =>
  Option.bind (K_raddlelaw45_rates) fun r71 =>
  Option.bind (K_cost_Need (api_Chart.mk 5 ([] : (List api_Row))) r71) fun r74 =>
  Option.bind (K_cost_Total ([] : (List api_Chart)) r71) fun r80 =>
  Option.bind (α := Unit) (
    some ()) fun _ =>
  Option.bind (α := Bool) (
    Option.bind (K_cost_Check (api_Rates.mk (0, 0, 0, 0, 0, 0, 0, 0, 0, 0, 0) (0, 0, 0, 0, 0, 0, 0, 0, 0, 0, 0) 0)) fun r111 =>
    if r111 == 0 then
      Option.bind (K_cost_Check (api_Rates.mk (o4, o5, o6, o7, o8, o9, o10, o11, o12, o13, o14) (0, 0, 0, 0, 0, 0, 0, 0, 0, 0, 0) 0)) fun r114 =>
      if r114 == 0 then
        Option.bind (K_cost_Check (api_Rates.mk (o4, o5, o6, o7, o8, o9, o10, o11, o12, o13, o14) (0, 0, 0, (-1), 0, 0, 0, 0, 0, 0, 0) 0)) fun r117 =>
        if r117 == 8 then
          Option.bind (K_cost_Check (api_Rates.mk (o4, o5, o6, o7, o8, o9, o10, o11, o12, o13, o14) (0, 0, 0, 0, 0, 0, 0, 0, 0, 0, 0) 1000001)) fun r120 =>
          if r120 == 8 then
            Option.bind (K_cost_Check (api_Rates.mk (1, o5, o6, o7, o8, o9, o10, o11, o12, o13, o14) (0, 0, 0, 0, 0, 0, 0, 0, 0, 0, 0) 0)) fun r123 =>
            some (r123 == 8)
          else
            some false
        else
          some false
      else
        some false
    else
      none) fun o108 =>
  Option.bind (K_cost_Need (api_Chart.mk 3 r52.1.Rows) (api_Rates.mk (o4, o5, o6, o7, o8, o9, o10, o11, o12, o13, o14) (0, 0, 0, (-1), 0, 0, 0, 0, 0, 0, 0) 0)) fun r126 =>
  Option.bind (K_cost_Need r52.1 (api_Rates.mk (o4, o5, o6, o7, o8, o9, o10, o11, o12, o13, o14) (0, 0, 0, (-1), 0, 0, 0, 0, 0, 0, 0) 0)) fun r131 =>
  Option.bind (α := Int) (
    Option.bind (makeO 21 (api_Chart.mk 0 ([] : (List api_Row)))) fun m140 =>
    Option.bind (K_cost_Total m140 (api_Rates.mk (o4, o5, o6, o7, o8, o9, o10, o11, o12, o13, o14) (0, 0, 0, (-1), 0, 0, 0, 0, 0, 0, 0) 0)) fun r142 =>
    some r142.2) fun o135 =>
  Option.bind (K_cost_Total ([] : (List api_Chart)) (api_Rates.mk (o4, o5, o6, o7, o8, o9, o10, o11, o12, o13, o14) (0, 0, 0, (-1), 0, 0, 0, 0, 0, 0, 0) 0)) fun r157 =>
  Option.bind (K_cost_Weight (api_Bill.mk 0 (-1)) (api_Count.mk 0 (api_Ratio.mk 0 0))) fun r162 =>
  Option.bind (K_cost_Weight (api_Bill.mk 0 0) (api_Count.mk 0 (api_Ratio.mk 0 0))) fun r167 =>
  Option.bind (K_raddlelaw45_tex 50) fun r172 =>
  Option.bind (K_cost_Weight (api_Bill.mk 1000000001 0) r172) fun r175 =>
  Option.bind (K_cost_Price (api_Bill.mk (-1) 0) r172 0 (-1)) fun r181 =>
  Option.bind (K_cost_Price (api_Bill.mk 1 0) r172 0 1) fun r185 =>
  Option.bind (K_cost_Price (api_Bill.mk 1 0) r172 1 1000001) fun r189 =>
  Option.bind (K_cost_Price (api_Bill.mk 0 0) r172 1 1000000) fun r193 =>
  Option.bind (α := Bool) (
    if r126.2 == 26 then
      if r131.2 == 8 then
        if o135 == 4 then
          if r157.2 == 8 then
            if r162.2 == 2 then
              if r167.2 == 8 then
                if r175.2 == 2 then
                  if r181.2.2 == 2 then
                    if r185.2.2 == 2 then
                      some (r189.2.2 == 2)
                    else
                      none
                  else
                    none
                else
                  none
              else
                none
            else
              none
          else
            some false
        else
          some false
      else
        some false
    else
      some false) fun o195 =>
  Option.bind (α := Bool) (
    if r52.2 == 0 then
      if r61.2 == 0 then
        if r61.1.Length == 18 then
          if r66.2 == 0 then
            if r66.1.2.1 == 5 then
              if r66.1.2.2.2.2.2.2.2.2.2.2 == 1 then
                if r74.2 == 0 then
                  if ((r74.1.Length == 0) && ((r74.1.Time == 0) && true)) then
                    if r80.2 == 0 then
                      if ((r80.1.Length == 0) && ((r80.1.Time == 0) && true)) then
                        if o108 then
                          if o195 then
                            if r193.2.2 == 0 then
                              if r193.1 == 0 then
                                if r193.2.1 == 0 then
                                  Option.bind (K_raddlelaw45_alive) fun r225 =>
                                  some r225
                                else
                                  none
                              else
                                none
                            else
                              none
                          else
                            some false
                        else
                          some false
                      else
                        none
                    else
                      none
                  else
                    none
                else
                  none
              else
                none
            else
              none
          else
            none
        else
          some false
      else
        some false
    else
      none) fun o207 =>
  some o207
theorem m_raddlelaw45_CostNames_l1  : ∀ s, Le (K_raddlelaw45_CostNames_l1 s) (raddlelaw45_CostNames_l1 s) := by
  unfold K_raddlelaw45_CostNames_l1 raddlelaw45_CostNames_l1
  with_reducible repeat' (first | exact Le.rfl _ | refine Le.loop _ ?_ | refine Le.bind ?_ ?_ | refine Le.ite ?_ ?_ | refine Le.sum ?_ ?_ | refine Le.prod ?_ | intro _ | exact Empty.elim (by assumption) | dsimp only)
theorem m_F_raddlelaw45_CostNames  : Le (K_raddlelaw45_CostNames) (F_raddlelaw45_CostNames) := by
  unfold K_raddlelaw45_CostNames F_raddlelaw45_CostNames
  with_reducible repeat' (first | exact m_raddlelaw45_CostNames_l1 | exact m_F_raddleref26_Parse _ | exact m_F_cost_Need _ _ | exact m_F_cost_Count _ | exact m_F_raddlelaw45_rates | exact m_F_cost_Total _ _ | exact m_F_cost_Check _ | exact m_F_cost_Weight _ _ | exact m_F_raddlelaw45_tex _ | exact m_F_cost_Price _ _ _ _ | exact m_F_raddlelaw45_alive | exact Le.rfl _ | refine Le.loop _ ?_ | refine Le.bind ?_ ?_ | refine Le.ite ?_ ?_ | refine Le.sum ?_ ?_ | refine Le.prod ?_ | intro _ | exact Empty.elim (by assumption) | dsimp only)
set_option maxRecDepth 1000000 in
theorem k_raddlelaw45_CostNames : F_raddlelaw45_CostNames = some true := m_F_raddlelaw45_CostNames _ (by kernel_rfl)
theorem law_CostNames : F_raddlelaw45_CostNames = some true := k_raddlelaw45_CostNames
end Go.Proofs.Ytdbgkakmhlmpbaa
namespace Go.Proofs.Ytdbgkakmhlmpbaa
open Go.RowKit
set_option linter.unusedVariables false

namespace frameCostNames
open Go.ChangeShapes Go.WideShapes Go.ChangeAt Go.Joins
theorem own : ownKnob Try.prog.godebug = none := by kernel_rfl
theorem laidOut : laidOutB Try.prog = true := by kernel_rfl
set_option maxRecDepth 100000 in
theorem lifted (os : Os) (started : os.Started) (H : Type) (enc : TypeId × Value → H) :
    ReturnsInHanded {} Try.checked os 6 .any (Rows.costNamesSpec.pre6 enc Try.prog Try.f6 Rows.costNamesRow.domain false) (Rows.costNamesSpec.post enc Try.prog Try.f6 false true false false) := by
  refine returnsInHanded_of_change (C := Try.checked) own started (by kernel_rfl) Try.func6
    (ChangeSpec.witness6 (enc := enc) (C := Try.checked) false ⟨#[], #[], []⟩ 8 (by kernel_rfl) (by kernel_rfl) (by kernel_rfl) (by kernel_rfl)) ?_
  intro W base args ds gs before hval0 hW hcnd _
  have hval : ∀ (j : Nat) t v, Try.f6.params[j]? = some t → args[j]? = some v → Value.okWide Try.prog W .any base t v := hval0
  have hW' := hW
  obtain ⟨p, q, hA0, hV, rfl, hfz, hnd⟩ := hW
  have hA : DataW.TrodAll enc Try.prog W 0 (fun _ => true) true Try.f6.params.toList args.toList ds p := hA0
  rw [Try.params6] at hA hval
  obtain ⟨rfl, rfl, rfl⟩ := trodAll_none hA
  obtain ⟨rfl, rfl⟩ := trodVars_none hV
  clear hA0 hval0
  refine (c_raddlelaw45_CostNames (fun _ => False) W  true (law_CostNames  ) (St0.start (by intro d hd; cases hd))).mono fun e W' hr => ?_
  obtain ⟨_, he, hS⟩ := hr
  have bel := hS.chg.below
  subst he
  exact ⟨_, rfl, _, _, _, [], _, [], hW', trodAll_mk1 (shut_bool Try.underlying4 _), trodAll_mk0, rfl, bel.frame _, fun h => by cases h⟩
theorem over : Rows.costNamesRow.holds Try.pinned (OpenSpec.ofChange Rows.costNamesSpec) :=
  OpenClaim.holds_of_wide 6 Try.f6 rfl rfl rfl rfl rfl rfl rfl ⟨rfl, rfl, rfl, rfl, rfl⟩ rfl rfl rfl rfl rfl (by kernel_rfl) Try.func6 (by kernel_rfl)
    (of_decide_eq_true (by kernel_rfl)) (by unfold Func.isWrapper; first | (rw [if_pos (by decide +kernel)]; kernel_rfl) | (rw [if_neg (by decide +kernel)]; exact ⟨rfl, rfl⟩))
    (fun os started H enc _ => lifted os started H enc)
end frameCostNames
theorem costNames_holds : Rows.CostNamesSaid := frameCostNames.over

end Go.Proofs.Ytdbgkakmhlmpbaa
