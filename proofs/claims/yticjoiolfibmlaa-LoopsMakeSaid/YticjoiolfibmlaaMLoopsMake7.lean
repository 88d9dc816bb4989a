/- Several texts in one: PlLq LLM FrLoopsMake -/
import Derived.WalkKit
import Derived.Maps.AppendAt
import Derived.Deep.AppendLies
import Derived.KernelRfl
import Derived.Laws.OwnMore
import Derived.Great.BuildSlice
import Derived.Orders
import Derived.Laws.StructEq
import Derived.ChangeKeysEq
import Derived.Defers
import Derived.Laws.BytesString
import Derived.RangeFuncNested
import Derived.RangeFuncBound
import Derived.RangeFuncCalls
import Derived.RangeFuncLeaves
import Derived.OrdersIn
import Derived.LoopNIn
import Derived.ArgAppend
import Derived.Lib.AppendZeros
import Derived.Test.YticjoiolfibmlaaProg
import Derived.ProofKit
import Derived.OpenShut
import Derived.ChangeOld
import Derived.Deep.Slices
import Derived.Lib.SmallJoins
import Derived.JoinedOf
import Derived.JoinedAt
import Derived.Below
import Derived.Test.YticjoiolfibmlaaRows
import Derived.Test.YticjoiolfibmlaaMLoopsMake6
namespace Go.Proofs.Yticjoiolfibmlaa
open Go.RowKit
set_option linter.unusedVariables false

theorem pars_short {s : api_Stitch} (h : okS s) (u : Nat) : ∀ ps, ps ∈ pars s u → ps.length ≤ 4 := by
  intro ps hps
  rcases knd h with ⟨b, rfl⟩ | ⟨b, rfl⟩ | rfl | ⟨b, a, h1, h2, rfl⟩ | ⟨b, a, h1, h2, rfl⟩ | ⟨b, a, h1, h2, rfl⟩ | ⟨k, b, a, c, hk, h1, h2, h3, h4, rfl⟩ | ⟨a, h1, h2, rfl⟩ | ⟨b, a, h1, h2, rfl⟩
  · simp [pars] at hps; subst hps; simp
  · simp [pars] at hps; subst hps; simp
  · simp [pars] at hps; subst hps; simp
  · simp [pars] at hps; subst hps; rw [ups_len]; omega
  · simp [pars] at hps; subst hps; rw [List.length_reverse, ups_len]; omega
  · simp [pars] at hps; obtain ⟨_, rfl⟩ := hps; simp
  · have e : pars ⟨k, b, (a : Int), (c : Int)⟩ u = ((ups u (a + c)).drop a ++ (ups u (a + c)).take a).map fun x => [x] := by rcases hk with rfl | rfl <;> simp [pars]
    rw [e] at hps
    obtain ⟨x, hx, rfl⟩ := List.mem_map.1 hps
    simp
  · simp [pars] at hps; obtain ⟨_, rfl⟩ := hps; simp
  · simp [pars] at hps
structure Wfin (c : api_Chart) : Prop where
  inv : LInv c.Start.toNat (c.Rows.map faceR) c.Rows.length 0 (workC c).1
  rs : (workC c).2 = (List.range (c.Rows.length + 2)).map fun r => (off c.Start.toNat (c.Rows.map faceR) r : Int)
  ok : okF c.Start.toNat (c.Rows.map faceR)
  nr : c.Rows.length ≤ 100
  st : ((c.Start.toNat : Nat) : Int) = c.Start
  L : (workC c).1.L.length ≤ 20300
  B : (workC c).1.B.length ≤ 20300
  C : (workC c).1.C.length ≤ 720000
  par : ∀ l, l ∈ (workC c).1.L → l.Parents.length ≤ 4 ∧ l.Parents.Nodup
  once : once (workC c).1.L (workC c).1.B (workC c).1.u
  cinv : cinv (workC c).1.L (workC c).1.C (workC c).1.u
theorem wfin_of {c : api_Chart} (hk : chk c = 0) : Wfin c := by
  obtain ⟨hf, hl, hs⟩ := okF_of hk
  have hfl : (c.Rows.map faceR).length = c.Rows.length := List.length_map _
  obtain ⟨h1, ⟨h2, h3, h4⟩, h5⟩ := stC_all hf (fun k j z => (∀ l, l ∈ z.L → l.Parents.length ≤ 4 ∧ l.Parents.Nodup) ∧ once z.L z.B z.u ∧ cinv z.L z.C z.u) ⟨fun l hl => by
      simp only [zeroL, List.mem_map] at hl
      obtain ⟨_, _, rfl⟩ := hl; simp, once.start _, cinv.start _⟩ (fun k j hk hj z _ h => by
      have hok := (hf.2 k hk).1 _ (List.getElem_mem hj)
      refine ⟨fun l hl => ?_, h.2.1.step hok, h.2.2.step hok⟩
      simp only [stepW] at hl
      rcases List.mem_append.1 hl with hl | hl
      · exact h.1 l hl
      · simp only [mkL, List.mem_map] at hl
        obtain ⟨ps, hps, rfl⟩ := hl
        exact ⟨pars_short hok _ ps hps, (pars_bd hok _ ps hps).1⟩) (fun _ _ _ _ h => h) _ (Nat.le_refl _)
  have hbd := stC_bd hf _ (Nat.le_refl _)
  have hlen := h1.len
  have hu := h1.u
  have ho := off_le hf (r := c.Rows.length + 1) (by omega)
  have ho2 := off_le hf (r := c.Rows.length) (by omega)
  rw [← workC_eq hk] at h1 h2 h3 h4 h5 hbd hlen hu
  rw [hfl] at h1 hbd hlen hu h5
  have e1 : pm c.Start.toNat (c.Rows.map faceR) c.Rows.length 0 = off c.Start.toNat (c.Rows.map faceR) (c.Rows.length + 1) := by simp [pm, smN]
  have e2 : pu c.Start.toNat (c.Rows.map faceR) c.Rows.length 0 = off c.Start.toNat (c.Rows.map faceR) c.Rows.length := by simp [pu, smN]
  have hB := hbd.B
  have hC := hbd.C
  exact ⟨h1, h5, hf, hl, hs, by omega, by omega, by omega, h2, h3, h4⟩
theorem sameints_eq (a : List Int) (ha : a.length ≤ 1000000) : F_raddleref26_SameInts a a = some true := by
  have key : whileO (raddleref26_SameInts_l1 a a) 0 = some (.inr ()) := by
    refine loop_same a.length _ (fun k hk => ?_) ?_
    · unfold raddleref26_SameInts_l1
      simp only [dT (show (k : Int) < (a.length : Int) by omega), if_true, idxO_nat hk, Option.bind_some, bne_self_eq_false, Bool.false_eq_true, if_false, w64_succ (show k < 9223372036854775807 by omega)]
    · unfold raddleref26_SameInts_l1
      simp only [dF (show ¬ (a.length : Int) < (a.length : Int) by omega), Bool.false_eq_true, if_false]
  unfold F_raddleref26_SameInts
  rw [key]; simp
theorem samepairs_eq (a : List (Int × Int)) (ha : a.length ≤ 1000000) : F_raddleref27_SamePairs a a = some true := by
  have key : whileO (raddleref27_SamePairs_l1 a a) 0 = some (.inr ()) := by
    refine loop_same a.length _ (fun k hk => ?_) ?_
    · unfold raddleref27_SamePairs_l1
      simp only [dT (show (k : Int) < (a.length : Int) by omega), if_true, idxO_nat hk, Option.bind_some, beq_self_eq_true, Bool.true_and, Bool.and_self, Bool.not_true, Bool.false_eq_true, if_false, w64_succ (show k < 9223372036854775807 by omega)]
    · unfold raddleref27_SamePairs_l1
      simp only [dF (show ¬ (a.length : Int) < (a.length : Int) by omega), Bool.false_eq_true, if_false]
  unfold F_raddleref27_SamePairs
  rw [key]; simp
theorem same27_eq (a : List api_Loop) (ha : a.length ≤ 1000000) (hp : ∀ l, l ∈ a → l.Parents.length ≤ 1000000) : F_raddleref27_Same a a = some true := by
  have key : whileO (raddleref27_Same_l1 a a) 0 = some (.inr ()) := by
    refine loop_same a.length _ (fun k hk => ?_) ?_
    · unfold raddleref27_Same_l1
      simp only [dT (show (k : Int) < (a.length : Int) by omega), if_true, idxO_nat hk, Option.bind_some, bne_self_eq_false, Bool.false_eq_true, if_false, sameints_eq _ (hp _ (List.getElem_mem hk)), Bool.not_true, w64_succ (show k < 9223372036854775807 by omega)]
    · unfold raddleref27_Same_l1
      simp only [dF (show ¬ (a.length : Int) < (a.length : Int) by omega), Bool.false_eq_true, if_false]
  unfold F_raddleref27_Same
  rw [key]; simp
theorem rgreatS_eq (l : List api_Stitch) : ∃ b, F_raddleref25_Great l = some b := by
  unfold F_raddleref25_Great
  by_cases h1 : (60 : Int) < (l.length : Int)
  · simp only [dT h1, if_true]; repeat' split
    all_goals exact ⟨_, rfl⟩
  · simp only [dF h1, Bool.false_eq_true, if_false]; repeat' split
    all_goals exact ⟨_, rfl⟩
theorem rgreat26_eq (c : api_Chart) : ∃ b, F_raddleref26_Great c = some b := by
  have key : ∃ t, whileO (raddleref26_Great_l1 c) 0 = some t ∧ (t = .inr () ∨ t = .inl true) := by
    refine loop_ix (Nat.min c.Rows.length 150) (fun _ => True) _ trivial ?_ ?_
    · intro k hk _
      have h1 : k < c.Rows.length := Nat.lt_of_lt_of_le hk (Nat.min_le_left _ _)
      have h2 : k < 150 := Nat.lt_of_lt_of_le hk (Nat.min_le_right _ _)
      obtain ⟨b, hb⟩ := rgreatS_eq c.Rows[k].Cells
      unfold raddleref26_Great_l1
      simp only [dT (show (k : Int) < (c.Rows.length : Int) by omega), if_true, dT (show (k : Int) < 150 by omega), Option.bind_some, idxO_nat h1, hb, w64_succ (show k < 9223372036854775807 by omega)]
      cases b with
      | true => exact .inr ⟨_, rfl, .inr rfl⟩
      | false => exact .inl ⟨rfl, trivial⟩
    · intro _
      refine ⟨.inr (), ?_, .inl rfl⟩
      unfold raddleref26_Great_l1
      by_cases h : c.Rows.length ≤ 150
      · rw [show Nat.min c.Rows.length 150 = c.Rows.length from Nat.min_eq_left h]
        simp only [dF (show ¬ (c.Rows.length : Int) < (c.Rows.length : Int) by omega), Bool.false_eq_true, if_false, Option.bind_some]
      · rw [show Nat.min c.Rows.length 150 = 150 from Nat.min_eq_right (by omega)]
        simp only [dT (show ((150 : Nat) : Int) < (c.Rows.length : Int) by omega), if_true, dF (show ¬ ((150 : Nat) : Int) < 150 by omega), Bool.false_eq_true, if_false, Option.bind_some]
  obtain ⟨t, h1, h2⟩ := key
  unfold F_raddleref26_Great
  rw [h1]
  rcases h2 with rfl | rfl
  · simp only [Option.bind_some]
    by_cases h1 : (12 : Int) < (c.Rows.length : Int)
    · by_cases h2 : (c.Rows.length : Int) ≤ 100
      · simp only [dT h1, dT h2, if_true, Option.bind_some]; exact ⟨_, rfl⟩
      · simp only [dT h1, dF h2, if_true, Bool.false_eq_true, if_false, Option.bind_some]; exact ⟨_, rfl⟩
    · simp only [dF h1, Bool.false_eq_true, if_false, Option.bind_some]; exact ⟨_, rfl⟩
  · exact ⟨_, rfl⟩

end Go.Proofs.Yticjoiolfibmlaa
namespace Go.Proofs.Yticjoiolfibmlaa
open Go.RowKit
set_option linter.unusedVariables false

theorem law_LoopsMake (c : api_Chart) (wc : wf_api_Chart c) : F_raddlelaw27_LoopsMake c = some true := by
  have hw := wfR_of wc
  obtain ⟨b, hb⟩ := rgreat26_eq c
  unfold F_raddlelaw27_LoopsMake
  rw [hb, Option.bind_some]
  cases b with
  | true => rfl
  | false =>
    unfold F_loops_Of F_loops_Bound F_loops_Crossings F_raddleref27_Of F_raddleref27_Bound F_raddleref27_Crossings
    rw [of_eq c hw, rchart_check_eq]
    by_cases hk : chk c = 0
    · obtain ⟨_, _, _, _, _, hL, hB, hC, hp, _, _⟩ := wfin_of hk
      rw [if_pos hk, hk, rwork_eq hk]
      simp only [Bool.false_eq_true, if_false, Option.bind_some, show ((0 : Int) != 0) = false from rfl, pieceOf]
      rw [same27_eq _ (by omega) (fun l hl => by have := (hp l hl).1; omega)]
      simp only [Option.bind_some, if_true, beq_self_eq_true]
      rw [sameints_eq _ (by omega)]
      simp only [Option.bind_some, if_true]
      rw [samepairs_eq _ (by omega)]
      rfl
    · rw [if_neg hk]
      simp only [Bool.false_eq_true, if_false, Option.bind_some, nT hk, if_true, same27_eq [] (by simp) (fun l hl => by simp at hl), sameints_eq [] (by simp), samepairs_eq [] (by simp), beq_self_eq_true]

end Go.Proofs.Yticjoiolfibmlaa
namespace Go.Proofs.Yticjoiolfibmlaa
open Go.RowKit
set_option linter.unusedVariables false

namespace frameLoopsMake
open Go.ChangeShapes Go.WideShapes Go.ChangeAt Go.Joins
theorem own : ownKnob Try.prog.godebug = none := by kernel_rfl
theorem laidOut : laidOutB Try.prog = true := by kernel_rfl
set_option maxRecDepth 100000 in
theorem lifted (os : Os) (started : os.Started) (H : Type) (enc : TypeId × Value → H) :
    ReturnsInHanded {} Try.checked os 3 .any (Rows.loopsMakeSpec.pre6 enc Try.prog Try.f3 Rows.loopsMakeRow.domain false) (Rows.loopsMakeSpec.post enc Try.prog Try.f3 false true false false) := by
  refine returnsInHanded_of_change (C := Try.checked) own started (by kernel_rfl) Try.func3
    (ChangeSpec.witness6 (enc := enc) (C := Try.checked) false ⟨#[], #[.agg #[iv 0, .slice none 0 0]], []⟩ 8 (by kernel_rfl) (by kernel_rfl) (by kernel_rfl) (by kernel_rfl)) ?_
  intro W base args ds gs before hval0 hW hcnd _
  have hval : ∀ (j : Nat) t v, Try.f3.params[j]? = some t → args[j]? = some v → Value.okWide Try.prog W .any base t v := hval0
  have hW' := hW
  obtain ⟨p, q, hA0, hV, rfl, hfz, hnd⟩ := hW
  have hA : DataW.TrodAll enc Try.prog W 0 (fun _ => true) true Try.f3.params.toList args.toList ds p := hA0
  rw [Try.params3] at hA hval
  obtain ⟨v0, vs0, d0, ds0, p0, q0, hargs, rfl, rfl, h0, r0⟩ := trodAll_cons hA
  obtain ⟨rfl, rfl, rfl⟩ := trodAll_nil r0
  obtain rfl : args = #[v0] := by cases args; simp_all
  obtain ⟨rfl, rfl⟩ := trodVars_none hV
  have k0 := h0
  have lt0 : ∀ x ∈ p0, x.block < W.heap.size := by obtain ⟨m, hm⟩ := k0; exact DataW.trod_lt m _ _ _ hm
  obtain ⟨x0, rep0, wf0⟩ := top_agg Try.underlying24 aggr_api_Chart op_api_Chart (hval 0 _ v0 rfl rfl) h0
  clear hA0 hval0
  refine (c_raddlelaw27_LoopsMake (fun _ => False) W x0 v0 true (law_LoopsMake x0 wf0) (St0.start (by intro d hd; simp only [List.mem_cons, List.not_mem_nil, or_false] at hd; subst hd; exact rep0))).mono fun e W' hr => ?_
  obtain ⟨_, he, hS⟩ := hr
  have bel := hS.chg.below
  subst he
  exact ⟨_, rfl, _, _, _, [], _, [], hW', trodAll_mk1 (shut_bool Try.underlying4 _), (trodAll_cons_mk (Below.trod laidOut (by kernel_rfl) (of_decide_eq_true (by kernel_rfl)) k0 bel lt0) trodAll_mk0), rfl, bel.frame _, fun h => by cases h⟩
theorem over : Rows.loopsMakeRow.holds Try.pinned (OpenSpec.ofChange Rows.loopsMakeSpec) :=
  OpenClaim.holds_of_wide 3 Try.f3 rfl rfl rfl rfl rfl rfl rfl ⟨rfl, rfl, rfl, rfl, rfl⟩ rfl rfl rfl rfl rfl (by kernel_rfl) Try.func3 (by kernel_rfl)
    (of_decide_eq_true (by kernel_rfl)) (by unfold Func.isWrapper; first | (rw [if_pos (by decide +kernel)]; kernel_rfl) | (rw [if_neg (by decide +kernel)]; exact ⟨rfl, rfl⟩))
    (fun os started H enc _ => lifted os started H enc)
end frameLoopsMake
theorem loopsMake_holds : Rows.LoopsMakeSaid := frameLoopsMake.over

end Go.Proofs.Yticjoiolfibmlaa
