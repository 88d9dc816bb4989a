/- The plain law behind CostPrices: Weight and Price compute what the reference computes. -/
import Derived.Test.YtdbgkakmhlmpbaaGOp
import Derived.Test.YtdbgkakmhlmpbaaPlW
import Derived.Test.YtdbgkakmhlmpbaaG3
namespace Go.Proofs.Ytdbgkakmhlmpbaa
open Go.RowKit
set_option linter.unusedVariables false

theorem law_CostPrices (b : api_Bill) (c : api_Count) (skein cents : Int) (wb : wf_api_Bill b) (wc : wf_api_Count c) (ws : InK .i64 skein) (wp : InK .i64 cents) : F_raddlelaw45_CostPrices b c skein cents = some true := by
  obtain ⟨r, r1, r2, _⟩ := weigh_eq c wc b.Length
  obtain ⟨t, t1, t2⟩ := skeins_eq c wc b.Length skein
  have h1 : ∃ x, F_cost_Weight b c = some x ∧ F_raddleref45_Weight b c = some x := by
    unfold F_cost_Weight F_raddleref45_Weight
    simp only [r1, r2, Option.bind_some]
    by_cases c1 : b.Length < 0
    · simp only [dT c1, if_true, Option.bind_some]; exact ⟨_, rfl, rfl⟩
    by_cases c2 : b.Time < 0
    · simp only [dF c1, dT c2, Bool.false_eq_true, if_true, if_false, Option.bind_some]; exact ⟨_, rfl, rfl⟩
    · simp only [dF c1, dF c2, Bool.false_eq_true, if_false, Option.bind_some]; exact ⟨_, rfl, rfl⟩
  have h2 : ∃ x, F_cost_Price b c skein cents = some x ∧ F_raddleref45_Price b c skein cents = some x := by
    unfold F_cost_Price F_raddleref45_Price
    simp only [t1, t2, Option.bind_some]
    by_cases c1 : b.Length < 0
    · simp only [dT c1, if_true, Option.bind_some]; exact ⟨_, rfl, rfl⟩
    by_cases c2 : b.Time < 0
    · simp only [dF c1, dT c2, Bool.false_eq_true, if_true, if_false, Option.bind_some]; exact ⟨_, rfl, rfl⟩
    simp only [dF c1, dF c2, Bool.false_eq_true, if_false, Option.bind_some]
    by_cases c3 : t.2 = 0
    case neg => simp only [nT c3, if_true]; exact ⟨_, rfl, rfl⟩
    simp only [nF c3, Bool.false_eq_true, if_false]
    by_cases c4 : cents < 0
    · simp only [dT c4, if_true, Option.bind_some]; exact ⟨_, rfl, rfl⟩
    by_cases c5 : 1000000 < cents
    · simp only [dF c4, dT c5, Bool.false_eq_true, if_true, if_false, Option.bind_some]; exact ⟨_, rfl, rfl⟩
    · simp only [dF c4, dF c5, Bool.false_eq_true, if_false, Option.bind_some]; exact ⟨_, rfl, rfl⟩
  obtain ⟨x, x1, x2⟩ := h1
  obtain ⟨y, y1, y2⟩ := h2
  unfold F_raddlelaw45_CostPrices
  simp only [x1, x2, y1, y2, Option.bind_some, beq_self_eq_true, Bool.and_self, if_true]

end Go.Proofs.Ytdbgkakmhlmpbaa
