/- Several texts in one: G23 G57 -/
import Derived.WalkKit
import Derived.Maps.AppendAt
import Derived.Deep.AppendLies
import Derived.KernelRfl
import Derived.Laws.OwnMore
import Derived.Great.BuildSlice
import Derived.Orders
import Derived.Laws.StructEq
import Derived.ChangeKeysEq
import Derived.Defers
import Derived.Laws.BytesString
import Derived.RangeFuncNested
import Derived.RangeFuncBound
import Derived.RangeFuncCalls
import Derived.RangeFuncLeaves
import Derived.OrdersIn
import Derived.LoopNIn
import Derived.ArgAppend
import Derived.Test.YtffikfajljbmnaaProg
import Derived.ProofKit
import Derived.OpenShut
import Derived.ChangeOld
import Derived.Deep.Slices
import Derived.Lib.SmallJoins
import Derived.JoinedOf
import Derived.JoinedAt
import Derived.Below
import Derived.Test.YtffikfajljbmnaaRows
import Derived.Test.YtffikfajljbmnaaMCompareSteps3
namespace Go.Proofs.Ytffikfajljbmnaa
open Go.RowKit
set_option linter.unusedVariables false

def anc_compare_Edits_0 : List (List Nat) := [[], [], [1], [0, 1, 2], [0, 1, 2, 3], [0, 1, 2, 3, 4], [0, 1, 2, 3, 4], [0, 1, 2, 3, 4, 6], [0, 1, 2, 3, 4, 5, 6, 7], [0, 1, 2, 3, 4, 5, 6, 7, 8], [0, 1, 2, 3, 4, 5, 6, 7, 8, 9], [0, 1, 2, 3, 4, 5, 6, 7, 8, 9, 10], [0, 1, 2, 3, 4, 5, 6, 7, 8, 9, 10], [0, 1, 2, 3, 4, 5, 6, 7, 8, 9, 10, 11, 12], [0, 1, 2, 3, 4, 5, 6, 7, 8, 9, 10, 11, 12, 13], [0, 1, 2, 3, 4, 5, 6, 7, 8, 9, 10], [0, 1, 2, 3, 4, 5, 6, 7, 8, 9, 10], [0, 1, 2, 3, 4, 5, 6, 7, 8, 9, 10, 15, 16], [0, 1, 2, 3, 4, 5, 6, 7, 8, 9, 10, 15, 16, 17], [0, 1, 2, 3, 4, 5, 6, 7, 8, 9, 10, 11, 12, 13, 14, 15, 16, 17, 18], [0, 1, 2, 3, 4, 5, 6, 7, 8, 9, 10, 11, 12, 13, 14, 15, 16, 17, 18, 19], [0, 1, 2, 3, 4, 5, 6, 7, 8, 9, 10, 11, 12, 13, 14, 15, 16, 17, 18, 19, 20], [0, 1, 2, 3, 4, 5, 6, 7, 8, 9, 10, 11, 12, 13, 14, 15, 16, 17, 18, 19, 20, 21], [0, 1, 2, 3, 4, 5, 6, 7, 8, 9, 10, 11, 12, 13, 14, 15, 16, 17, 18, 19, 20, 21], [0, 1, 2, 3, 4, 5, 6, 7, 8, 9, 10, 11, 12, 13, 14, 15, 16, 17, 18, 19, 20, 21], [0, 1, 2, 3, 4, 5, 6, 7, 8, 9, 10, 11, 12, 13, 14, 15, 16, 17, 18, 19, 20, 21, 24], [0, 1, 2, 3, 4, 5, 6, 7, 8, 9, 10, 11, 12, 13, 14, 15, 16, 17, 18, 19, 20, 21, 23, 24, 25], [0, 1, 2, 3, 4, 5, 6, 7, 8, 9, 10, 11, 12, 13, 14, 15, 16, 17, 18, 19, 20, 21, 23, 24, 25, 26], [0, 1, 2, 3, 4, 5, 6, 7, 8, 9, 10, 11, 12, 13, 14, 15, 16, 17, 18, 19, 20, 21], [0, 1, 2, 3, 4, 5, 6, 7, 8, 9, 10, 11, 12, 13, 14, 15, 16, 17, 18, 19, 20, 21, 28], [0, 1, 2, 3, 4, 5, 6, 7, 8, 9, 10, 11, 12, 13, 14, 15, 16, 17, 18, 19, 20, 21, 23, 24, 25, 26, 27, 28, 29], [0, 1, 2, 3, 4, 5, 6, 7, 8, 9, 10, 11, 12, 13, 14, 15, 16, 17, 18, 19, 20, 21, 23, 24, 25, 26, 27, 28, 29, 30], [0, 1, 2, 3, 4, 5, 6, 7, 8, 9, 10, 11, 12, 13, 14, 15, 16, 17, 18, 19, 20, 21, 22, 23, 24, 25, 26, 27, 28, 29, 30, 31], [0, 1, 2, 3, 4, 5, 6, 7, 8, 9, 10, 11, 12, 13, 14, 15, 16, 17, 18, 19, 20, 21, 22, 23, 24, 25, 26, 27, 28, 29, 30, 31, 32], [0, 1, 2, 3, 4, 5, 6, 7, 8, 9, 10, 11, 12, 13, 14, 15, 16, 17, 18, 19, 20, 21, 22, 23, 24, 25, 26, 27, 28, 29, 30, 31, 32, 33]]
def anc_compare_Edits_1 : List (List Nat) := [[], [], [1], [0, 1, 2], [0, 1, 2, 3], [0, 1, 2, 3, 4], [0, 1, 2, 3, 4], [0, 1, 2, 3, 4, 6], [0, 1, 2, 3, 4, 5, 6, 7], [0, 1, 2, 3, 4, 5, 6, 7, 8], [0, 1, 2, 3, 4, 5, 6, 7, 8, 9], [0, 1, 2, 3, 4, 5, 6, 7, 8, 9, 10], [0, 1, 2, 3, 4, 5, 6, 7, 8, 9, 10], [0, 1, 2, 3, 4, 5, 6, 7, 8, 9, 10, 11, 12], [0, 1, 2, 3, 4, 5, 6, 7, 8, 9, 10, 11, 12, 13], [0, 1, 2, 3, 4, 5, 6, 7, 8, 9, 10], [0, 1, 2, 3, 4, 5, 6, 7, 8, 9, 10], [0, 1, 2, 3, 4, 5, 6, 7, 8, 9, 10, 15, 16], [0, 1, 2, 3, 4, 5, 6, 7, 8, 9, 10, 15, 16, 17], [0, 1, 2, 3, 4, 5, 6, 7, 8, 9, 10, 11, 12, 13, 14, 15, 16, 17, 18], [0, 1, 2, 3, 4, 5, 6, 7, 8, 9, 10, 11, 12, 13, 14, 15, 16, 17, 18, 19], [0, 1, 2, 3, 4, 5, 6, 7, 8, 9, 10, 11, 12, 13, 14, 15, 16, 17, 18, 19, 20], [0, 1, 2, 3, 4, 5, 6, 7, 8, 9, 10, 11, 12, 13, 14, 15, 16, 17, 18, 19, 20, 21], [0, 1, 2, 3, 4, 5, 6, 7, 8, 9, 10, 11, 12, 13, 14, 15, 16, 17, 18, 19, 20, 21], [0, 1, 2, 3, 4, 5, 6, 7, 8, 9, 10, 11, 12, 13, 14, 15, 16, 17, 18, 19, 20, 21], [0, 1, 2, 3, 4, 5, 6, 7, 8, 9, 10, 11, 12, 13, 14, 15, 16, 17, 18, 19, 20, 21, 24], [0, 1, 2, 3, 4, 5, 6, 7, 8, 9, 10, 11, 12, 13, 14, 15, 16, 17, 18, 19, 20, 21, 23, 24, 25], [0, 1, 2, 3, 4, 5, 6, 7, 8, 9, 10, 11, 12, 13, 14, 15, 16, 17, 18, 19, 20, 21, 23, 24, 25, 26], [0, 1, 2, 3, 4, 5, 6, 7, 8, 9, 10, 11, 12, 13, 14, 15, 16, 17, 18, 19, 20, 21], [0, 1, 2, 3, 4, 5, 6, 7, 8, 9, 10, 11, 12, 13, 14, 15, 16, 17, 18, 19, 20, 21, 28], [0, 1, 2, 3, 4, 5, 6, 7, 8, 9, 10, 11, 12, 13, 14, 15, 16, 17, 18, 19, 20, 21, 23, 24, 25, 26, 27, 28, 29], [0, 1, 2, 3, 4, 5, 6, 7, 8, 9, 10, 11, 12, 13, 14, 15, 16, 17, 18, 19, 20, 21, 23, 24, 25, 26, 27, 28, 29, 30], [0, 1, 2, 3, 4, 5, 6, 7, 8, 9, 10, 11, 12, 13, 14, 15, 16, 17, 18, 19, 20, 21, 23, 24, 25, 26, 27, 28, 29, 30, 31], [0, 1, 2, 3, 4, 5, 6, 7, 8, 9, 10, 11, 12, 13, 14, 15, 16, 17, 18, 19, 20, 21, 22, 23, 24, 25, 26, 27, 28, 29, 30, 31, 32], [0, 1, 2, 3, 4, 5, 6, 7, 8, 9, 10, 11, 12, 13, 14, 15, 16, 17, 18, 19, 20, 21, 22, 23, 24, 25, 26, 27, 28, 29, 30, 31, 32, 33], [0, 1, 2, 3, 4, 5, 6, 7, 8, 9, 10, 11, 12, 13, 14, 15, 16, 17, 18, 19, 20, 21, 22, 23, 24, 25, 26, 27, 28, 29, 30, 31, 32, 33, 34]]
def anc_compare_Edits_2 : List (List Nat) := [[], [], [1], [1, 2], [1, 2, 3], [1, 2, 3, 4], [0], [0, 1, 2, 3, 4, 5, 6], [0, 1, 2, 3, 4, 5, 6, 7]]
noncomputable def compare_Edits_l1 (p0 : (List api_Stitch)) (p1 : (List api_Stitch)) : Int → Option (Int ⊕ (((List api_CellStep) × Int × Int) ⊕ Unit)) := fun s0 => match s0 with
  | s9 =>
    if decide (s9 < 2) then
      Option.bind (idxO ([p0, p1] : List (List api_Stitch)) s9) fun x19 =>
      Option.bind (F_stitch_All x19) fun r24 =>
      if r24 != 0 then
        some (.inr (.inl (([] : (List api_CellStep)), 0, r24)))
      else
        some (.inl (w64 (s9 + 1)))
    else
      some (.inr (.inr ()))
noncomputable def compare_Edits_l2 (p0 : (List api_Stitch)) (p1 : (List api_Stitch)) (r30 : (List (List Int))) : (List api_CellStep × Int × Int) → Option ((List api_CellStep × Int × Int) ⊕ List api_CellStep) := fun s0 => match s0 with
  | (s42, s45, s46) =>
    Option.bind (α := Bool) (
      if decide (s45 < (p0.length : Int)) then
        some true
      else
        some (decide (s46 < (p1.length : Int)))) fun o54 =>
    if o54 then
      Option.bind (idxO r30 s45) fun x60 =>
      Option.bind (idxO x60 s46) fun x67 =>
      Option.bind (α := Bool) (
        if decide (s45 < (p0.length : Int)) then
          if decide (s46 < (p1.length : Int)) then
            Option.bind (idxO p0 s45) fun x77 =>
            Option.bind (idxO p1 s46) fun x82 =>
            if ((x77.Kind == x82.Kind) && ((x77.Purl == x82.Purl) && ((x77.A == x82.A) && ((x77.B == x82.B) && true)))) then
              Option.bind (idxO r30 (w64 (s45 + 1))) fun x88 =>
              Option.bind (idxO x88 (w64 (s46 + 1))) fun x95 =>
              some (x67 == x95)
            else
              some false
          else
            some false
        else
          some false) fun o72 =>
      if o72 then
        Option.bind (appO s42 [(api_CellStep.mk 1 (api_Stitch.mk 0 false 0 0))]) fun l124 =>
        some (.inl (l124, w64 (s45 + 1), w64 (s46 + 1)))
      else
        Option.bind (α := Bool) (
          if decide (s45 < (p0.length : Int)) then
            if decide (s46 < (p1.length : Int)) then
              Option.bind (idxO p0 s45) fun x134 =>
              Option.bind (idxO p1 s46) fun x139 =>
              if !((x134.Kind == x139.Kind) && ((x134.Purl == x139.Purl) && ((x134.A == x139.A) && ((x134.B == x139.B) && true)))) then
                Option.bind (idxO r30 (w64 (s45 + 1))) fun x145 =>
                Option.bind (idxO x145 (w64 (s46 + 1))) fun x152 =>
                some (x67 == (w64 (1 + x152)))
              else
                some false
            else
              some false
          else
            some false) fun o129 =>
        if o129 then
          Option.bind (idxO p1 s46) fun x179 =>
          Option.bind (appO s42 [(api_CellStep.mk 2 x179)]) fun l186 =>
          some (.inl (l186, w64 (s45 + 1), w64 (s46 + 1)))
        else
          Option.bind (α := Bool) (
            if decide (s45 < (p0.length : Int)) then
              Option.bind (idxO r30 (w64 (s45 + 1))) fun x195 =>
              Option.bind (idxO x195 s46) fun x202 =>
              some (x67 == (w64 (1 + x202)))
            else
              some false) fun o191 =>
          if o191 then
            Option.bind (appO s42 [(api_CellStep.mk 4 (api_Stitch.mk 0 false 0 0))]) fun l211 =>
            some (.inl (l211, w64 (s45 + 1), s46))
          else
            Option.bind (idxO p1 s46) fun x216 =>
            Option.bind (appO s42 [(api_CellStep.mk 3 x216)]) fun l223 =>
            some (.inl (l223, s45, w64 (s46 + 1)))
    else
      some (.inr s42)
noncomputable def F_compare_Edits (p0 : (List api_Stitch)) (p1 : (List api_Stitch)) : Option ((List api_CellStep) × Int × Int) :=
  Option.bind (α := Unit ⊕ ((List api_CellStep) × Int × Int)) (
    Option.bind (whileO (compare_Edits_l1 p0 p1) 0) fun z0 => match z0 with
      | .inl z =>
        some (.inr z)
      | .inr _ =>
        some (.inl ())) fun z0 => match z0 with
    | .inl _ =>
      Option.bind (F_compare_cellTable p0 p1) fun r30 =>
      Option.bind (α := List api_CellStep) (
        Option.bind (whileO (compare_Edits_l2 p0 p1 r30) (([] : List api_CellStep), 0, 0)) fun e50 =>
          some e50) fun o37 =>
      Option.bind (idxO r30 0) fun x228 =>
      Option.bind (idxO x228 0) fun x235 =>
      some (o37, x235, 0)
    | .inr z =>
      some z
def c_compare_Edits_val (r : ((List api_CellStep) × Int × Int)) (x : Value) : Value := .tuple #[x, .int .i64 r.2.1, .int .i64 r.2.2]
def c_compare_Edits_D (r : ((List api_CellStep) × Int × Int)) (x : Value) : List Fact := [fRep (rL r_api_CellStep) x r.1]
set_option maxHeartbeats 4000000 in
set_option maxRecDepth 100000 in
theorem c_compare_Edits (E : Nat → Prop) (w0 : World) (p0 : (List api_Stitch)) (v0 : Value) (p1 : (List api_Stitch)) (v1 : Value) (r : ((List api_CellStep) × Int × Int)) (h : F_compare_Edits p0 p1 = some r) (S : St0 E [] w0 w0 [] [fRep (rL r_api_Stitch) (v0) p0, fRep (rL r_api_Stitch) (v1) p1]) :
    Calls Try.prog 23 #[v0, v1] w0 (Ret (X := Value) E [] w0 (c_compare_Edits_val r) (fun _ => []) (c_compare_Edits_D r)) := by
  unfold F_compare_Edits at h
  obtain ⟨ad1, cp2, _, rfl, _⟩ := S.know (i := 0) (e := fRep (rL r_api_Stitch) (v0) p0) rfl
  obtain ⟨ad3, cp4, _, rfl, _⟩ := S.know (i := 1) (e := fRep (rL r_api_Stitch) (v1) p1) rfl
  refine sEnter (args := [.slice ad1 p0.length cp2, .slice ad3 p1.length cp4]) 178 Try.func23 rfl rfl (by simp) S (fun a S => ?_)
  refine sSeq (fun K5 hK5 => ?_)
  refine sRegion ?_
  refine sMove (.slice none 0 0) S (wN rfl) (.inr rfl) rfl rfl (lb rfl) fun a S => ?_
  refine sMove (iv 0) S (wN rfl) (.inr rfl) rfl rfl (lb rfl) fun a S => ?_
  refine sMove (iv 0) S (wN rfl) (.inr rfl) rfl rfl (lb rfl) fun a S => ?_
  refine leafL (leafT (hK5 _ _ ?_))
  obtain ⟨t6, h, g7⟩ := bindSome h
  refine sCut (fun a w => .inl () = t6 ∧ St [] E [] w0 178 a w [(0, .slice ad1 p0.length cp2), (1, .slice ad3 p1.length cp4)] [] [fRep (rL r_api_Stitch) (.slice ad1 p0.length cp2) p0, fRep (rL r_api_Stitch) (.slice ad3 p1.length cp4) p1]) ?_ (fun a w hI => ?_)
  · refine sSeq (fun K8 hK8 => ?_)
    refine sRegion ?_
    refine sMove (.slice ad1 p0.length cp2) S (wN rfl) (.inl rfl) rfl rfl (lb rfl) fun a S => ?_
    refine sMove (.slice ad3 p1.length cp4) S (wN rfl) (.inl rfl) rfl rfl (lb rfl) fun a S => ?_
    refine sBuild [(0, .slice ad1 p0.length cp2), (1, .slice ad3 p1.length cp4)] [.slice ad1 p0.length cp2, .slice ad3 p1.length cp4] S (wN rfl) rfl rfl rfl rfl (lb rfl) fun a S => ?_
    refine sMove (iv 0) S (wN rfl) (.inl rfl) rfl rfl (lb rfl) fun a S => ?_
    refine leafL (leafT (hK8 _ _ ?_))
    refine wp_block ?_
    obtain ⟨t12, hl, g11⟩ := bindSome h
    refine sLoop hl (fun s0 a w => match s0 with | s9 => St [] E [] w0 178 a w [(0, .slice ad1 p0.length cp2), (1, .slice ad3 p1.length cp4), (17, .agg #[.slice ad1 p0.length cp2, .slice ad3 p1.length cp4]), (18, iv s9)] [] [fRep (rL r_api_Stitch) (.slice ad1 p0.length cp2) p0, fRep (rL r_api_Stitch) (.slice ad3 p1.length cp4) p1]) (S.fix [] [0, 1] (by decide) rfl rfl rfl) ?_
    clear hl h
    intro s9 a w c0 hI h hu10
    unfold compare_Edits_l1 at h
    dsimp only at h hI
    have S := hI
    refine sSeq (fun K13 hK13 => ?_)
    refine sRegion ?_
    refine sBin (.bool (decide (s9 < 2))) S (wN rfl) rfl rfl rfl (bLt _ _ _ _ .i64 s9 2) rfl (lb rfl) fun a S => ?_
    refine leafL (leafT (hK13 _ _ ?_))
    refine sSeq (fun K14 hK14 => ?_)
    rcases iteSome h with ⟨hc15, h⟩ | ⟨hc15, h⟩
    rotate_left
    · refine sCondF S rfl hc15 ?_
      obtain rfl := Option.some.inj h
      obtain rfl := hu10 _ rfl
      have h := g11
      clear g11
      try dsimp only at h
      exact wp_exit (xThen (xThen (xHit (leafT (⟨Option.some.inj h, S.fix [] [0, 1] (by decide) rfl rfl rfl⟩)))))
    refine sCondT S rfl hc15 ?_
    refine wp_skip (leafT (hK14 _ _ ?_))
    refine sSeq (fun K16 hK16 => ?_)
    refine wp_block ?_
    refine sSeq (fun K17 hK17 => ?_)
    refine sRegion ?_
    obtain ⟨x19, hx20, h⟩ := bindSome h
    refine sIndexAL (r := (rL r_api_Stitch)) (xs := ([p0, p1] : List (List api_Stitch))) (j := s9) (k := .i64) 2 [.slice ad1 p0.length cp2, .slice ad3 p1.length cp4] [0, 1] S (wN rfl) rfl Try.underlying104 rfl rfl rfl rfl rfl hx20 rfl rfl rfl (lb rfl) fun a u18 S => ?_
    obtain ⟨ad21, cp22, _, rfl, _⟩ := S.mem.know (i := 0) (e := fRep (rL r_api_Stitch) (u18) x19) rfl
    refine sMove (.slice ad21 x19.length cp22) S (wN rfl) (.inr rfl) rfl rfl (lb rfl) fun a S => ?_
    refine leafL (leafT (hK17 _ _ ?_))
    refine sSeq (fun K23 hK23 => ?_)
    refine sRegion ?_
    refine sMove (.slice ad21 x19.length cp22) S (wN rfl) (.inl rfl) rfl rfl (lb rfl) fun a S => ?_
    obtain ⟨r24, hx25, h⟩ := bindSome h
    have S1 := S.mem
    refine sCallQ (X := Unit) (f := 56) (vs := [.slice ad21 x19.length cp22]) (val := fun _ => iv r24) S (wN rfl) rfl callee56 rfl (S1.quiet [0] rfl) (fun E1 w1 S1 => c_stitch_All E1 w1 x19 (.slice ad21 x19.length cp22) r24 hx25 S1) rfl (lb rfl) fun _ a w S => ?_
    refine sMove (iv r24) S (wN rfl) (.inr rfl) rfl rfl (lb rfl) fun a S => ?_
    refine leafL (leafT (hK23 _ _ ?_))
    refine sSeq (fun K26 hK26 => ?_)
    refine sRegion ?_
    refine sMove (iv r24) S (wN rfl) (.inl rfl) rfl rfl (lb rfl) fun a S => ?_
    refine sBin (.bool (r24 != 0)) S (wN rfl) rfl rfl rfl (bNe _ _ _ _ .i64 r24 0) rfl (lb rfl) fun a S => ?_
    refine leafL (leafT (hK26 _ _ ?_))
    rcases iteSome h with ⟨hc27, h⟩ | ⟨hc27, h⟩
    rotate_left
    · refine sCondF S rfl hc27 ?_
      refine wp_skip (leafB (leafT (hK16 _ _ ?_)))
      refine sRegion ?_
      refine sBin (iv (w64 (s9 + 1))) S (wN rfl) rfl rfl rfl (bAdd _ _ _ _ s9 1) rfl (lb rfl) fun a S => ?_
      refine sMove (iv (w64 (s9 + 1))) S (wN rfl) (.inl rfl) rfl rfl (lb rfl) fun a S => ?_
      exact leafL (leafT (⟨w64 (s9 + 1), (Option.some.inj h).symm, (S.fix [] [1, 2] (by decide) rfl rfl rfl)⟩))
    refine sCondT S rfl hc27 ?_
    refine sSeq (fun K28 hK28 => ?_)
    refine sRegion ?_
    refine sMove (iv r24) S (wN rfl) (.inl rfl) rfl rfl (lb rfl) fun a S => ?_
    refine sMove (.slice none 0 0) S (wN rfl) (.inr rfl) rfl rfl (lb rfl) fun a S => ?_
    refine sMove (iv 0) S (wN rfl) (.inr rfl) rfl rfl (lb rfl) fun a S => ?_
    refine sMove (iv r24) S (wN rfl) (.inr rfl) rfl rfl (lb rfl) fun a S => ?_
    refine leafL (leafT (hK28 _ _ ?_))
    obtain rfl := Option.some.inj h
    obtain rfl := hu10 _ rfl
    have h := g11
    clear g11
    try dsimp only at h
    obtain rfl := Option.some.inj h
    have h := g7
    clear g7
    try dsimp only at h
    obtain rfl := Option.some.inj h
    have S := S.learn (fRep (rL r_api_CellStep) (.slice none 0 0) ([] : (List api_CellStep))) (rL_nil _ _ _)
    exact wp_ret (rBlock (rThen (rThen (rBlock (rThen (sRet (.tuple #[.slice none 0 0, iv 0, iv r24]) S (rsl3 rfl (rvT (t := 4) (v := .slice none 0 0) S rfl) (rvT (t := 5) (v := iv 0) S rfl) (rvT (t := 6) (v := iv r24) S rfl)) ⟨(.slice none 0 0), rfl, S.mem.sel [] [0] (by decide) rfl rfl⟩))))))
  obtain ⟨rfl, S⟩ := hI
  have h := g7
  clear g7
  try dsimp only at h
  refine sSeq (fun K29 hK29 => ?_)
  refine sRegion ?_
  refine sMove (.slice ad1 p0.length cp2) S (wN rfl) (.inl rfl) rfl rfl (lb rfl) fun a S => ?_
  refine sMove (.slice ad3 p1.length cp4) S (wN rfl) (.inl rfl) rfl rfl (lb rfl) fun a S => ?_
  obtain ⟨r30, hx31, h⟩ := bindSome h
  refine sCall (X := Value) (f := 54) (vs := [.slice ad1 p0.length cp2, .slice ad3 p1.length cp4]) (val := c_compare_cellTable_val r30) (B' := fun _ => []) (D' := c_compare_cellTable_D r30) [] [] [fRep (rL r_api_Stitch) (.slice ad1 p0.length cp2) p0, fRep (rL r_api_Stitch) (.slice ad3 p1.length cp4) p1] [] [0, 1] S (wN rfl) rfl callee54 rfl (by decide) rfl rfl (fun E1 w1 S1 => c_compare_cellTable E1 w1 p0 (.slice ad1 p0.length cp2) p1 (.slice ad3 p1.length cp4) r30 hx31 S1) rfl (lb rfl) fun u32 a w S => ?_
  obtain ⟨ad33, cp34, _, rfl, _⟩ := S.mem.know (i := 0) (e := fRep (rL (rL (rI .i64))) (u32) r30) rfl
  refine sMove (.slice ad33 r30.length cp34) S (wN rfl) (.inr rfl) rfl rfl (lb rfl) fun a S => ?_
  refine leafL (leafT (hK29 _ _ ?_))
  refine sSeq (fun K35 hK35 => ?_)
  refine sRegion ?_
  refine sMove (.slice none 0 0) S (wN rfl) (.inr rfl) rfl rfl (lb rfl) fun a S => ?_
  refine leafL (leafT (hK35 _ _ ?_))
  refine sSeq (fun K36 hK36 => ?_)
  refine sRegion ?_
  refine sMove (iv 0) S (wN rfl) (.inr rfl) rfl rfl (lb rfl) fun a S => ?_
  refine sMove (iv 0) S (wN rfl) (.inr rfl) rfl rfl (lb rfl) fun a S => ?_
  refine leafL (leafT (hK36 _ _ ?_))
  obtain ⟨t40, h, g41⟩ := bindSome h
  refine sCut (fun a w => ∃ o37, o37 = t40 ∧ ∃ ad38, ∃ cp39, St [] E [] w0 178 a w [(10, .slice ad33 r30.length cp34), (11, .slice ad38 o37.length cp39)] [eRow r_api_CellStep 83 (.slice ad38 o37.length cp39) o37] [fRep (rL (rL (rI .i64))) (.slice ad33 r30.length cp34) r30]) ?_ (fun a w hI => ?_)
  rotate_left
  · obtain ⟨o37, rfl, ad38, cp39, S⟩ := hI
    have h := g41
    clear g41
    try dsimp only at h
    refine sSeq (fun K227 hK227 => ?_)
    obtain ⟨x228, hx229, h⟩ := bindSome h
    obtain ⟨x235, hx236, h⟩ := bindSome h
    obtain ⟨q240, hq241, S⟩ := pIdx (P := Try.prog) (r := (rL (rI .i64))) (v := .slice ad33 r30.length cp34) (xs := r30) (j := 0) 98 101 0 S Try.underlying98 rfl rfl hx229
    obtain ⟨u242, S⟩ := pLoad (r := (rL (rI .i64))) (q := q240) (x := x228) 0 S rfl
    obtain ⟨ad243, cp244, _, rfl, _⟩ := S.mem.know (i := 1) (e := fRep (rL (rI .i64)) (u242) x228) rfl
    obtain ⟨q245, hq246, S⟩ := pIdx (P := Try.prog) (r := (rI .i64)) (v := .slice ad243 x228.length cp244) (xs := x228) (j := 0) 101 3 1 S Try.underlying101 rfl rfl hx236
    obtain ⟨u247, S⟩ := pLoad (r := (rI .i64)) (q := q245) (x := x235) 0 S rfl
    obtain rfl : u247 = iv x235 := S.mem.know (i := 1) (e := fRep (rI .i64) (u247) x235) rfl
    refine sDraw (nf := []) (W := [(0, 172, .slice ad38 o37.length cp39), (1, 173, .slice ad33 r30.length cp34), (2, 174, q240), (3, 175, .slice ad243 x228.length cp244), (4, 176, q245), (5, 177, iv x235), (6, 4, .slice ad38 o37.length cp39), (7, 5, iv x235), (8, 6, iv 0)]) rfl S ?_
    refine node_by (A := anc_compare_Edits_2) (nf := []) (Y := []) (W := [(0, 172, .slice ad38 o37.length cp39), (1, 173, .slice ad33 r30.length cp34), (2, 174, q240), (3, 175, .slice ad243 x228.length cp244), (4, 176, q245), (5, 177, iv x235), (6, 4, .slice ad38 o37.length cp39), (7, 5, iv x235), (8, 6, iv 0)]) 9 (by kernel_rfl) (by kernel_rfl) (by kernel_rfl) (by kernel_rfl) (by kernel_rfl) [0, 1, 2, 3, 4, 5, 6, 7, 8] (by kernel_rfl) (by decide) (by decide) (aF 0 8 (by decide) ?_ (aF 1 7 (by decide) ?_ (aF 2 6 (by decide) ?_ (aF 3 5 (by decide) ?_ (aF 4 4 (by decide) ?_ (aF 5 3 (by decide) ?_ (aF 6 2 (by decide) ?_ (aF 7 1 (by decide) ?_ (aF 8 0 (by decide) ?_ (trivial)))))))))) [(4, .slice ad38 o37.length cp39), (5, iv x235), (6, iv 0)] (fin_of [some 6, some 7, some 8] rfl (by kernel_rfl) (by kernel_rfl)) (fun _ a w S => ?_)
    · refine fI 172 (.slice ad38 o37.length cp39) [(11, .slice ad38 o37.length cp39)] 0 [none] rfl rfl rfl rfl rfl rfl fun G a w S => ?_
      refine sMove (.slice ad38 o37.length cp39) S (wN rfl) (.inl rfl) rfl rfl (lb rfl) fun a S => ?_
      exact leafL ⟨rfl, S⟩
    · refine fI 173 (.slice ad33 r30.length cp34) [(10, .slice ad33 r30.length cp34)] 1 [none] rfl rfl rfl rfl rfl rfl fun G a w S => ?_
      refine sMove (.slice ad33 r30.length cp34) S (wN rfl) (.inl rfl) rfl rfl (lb rfl) fun a S => ?_
      exact leafL ⟨rfl, S⟩
    · refine fI 174 q240 [(173, .slice ad33 r30.length cp34)] 2 [some 1] rfl rfl rfl rfl rfl rfl fun G a w S => ?_
      refine sIdxV (v := .slice ad33 r30.length cp34) (k := .i64) (j := 0) S (wN rfl) rfl rfl rfl hq241 rfl (lb rfl) fun a S => ?_
      exact leafL ⟨rfl, S⟩
    · refine fI 175 (.slice ad243 x228.length cp244) [(174, q240)] 3 [some 2] rfl rfl rfl rfl rfl rfl fun G a w S => ?_
      refine sLoadV1 (vq := q240) 3 (.slice ad243 x228.length cp244) S (wN rfl) rfl rfl rfl rfl rfl (lb rfl) fun a S => ?_
      exact leafL ⟨rfl, S⟩
    · refine fI 176 q245 [(175, .slice ad243 x228.length cp244)] 4 [some 3] rfl rfl rfl rfl rfl rfl fun G a w S => ?_
      refine sIdxV (v := .slice ad243 x228.length cp244) (k := .i64) (j := 0) S (wN rfl) rfl rfl rfl hq246 rfl (lb rfl) fun a S => ?_
      exact leafL ⟨rfl, S⟩
    · refine fI 177 (iv x235) [(176, q245)] 5 [some 4] rfl rfl rfl rfl rfl rfl fun G a w S => ?_
      refine sLoadV1 (vq := q245) 0 (iv x235) S (wN rfl) rfl rfl rfl rfl rfl (lb rfl) fun a S => ?_
      exact leafL ⟨rfl, S⟩
    · refine fI 4 (.slice ad38 o37.length cp39) [(172, .slice ad38 o37.length cp39)] 6 [some 0] rfl rfl rfl rfl rfl rfl fun G a w S => ?_
      refine sMove (.slice ad38 o37.length cp39) S (wN rfl) (.inr rfl) rfl rfl (lb rfl) fun a S => ?_
      exact leafL ⟨rfl, S⟩
    · refine fI 5 (iv x235) [(177, iv x235)] 7 [some 5] rfl rfl rfl rfl rfl rfl fun G a w S => ?_
      refine sMove (iv x235) S (wN rfl) (.inr rfl) rfl rfl (lb rfl) fun a S => ?_
      exact leafL ⟨rfl, S⟩
    · refine fI 6 (iv 0) [] 8 [] rfl rfl rfl rfl rfl rfl fun G a w S => ?_
      refine sMove (iv 0) S (wN rfl) (.inr rfl) rfl rfl (lb rfl) fun a S => ?_
      exact leafL ⟨rfl, S⟩
    refine leafT (hK227 _ _ ?_)
    obtain rfl := Option.some.inj h
    have S := S.shutR (r := r_api_CellStep) (T := 83) (v := .slice ad38 o37.length cp39) (xs := o37) 0 rfl
    exact wp_ret (sRet (.tuple #[.slice ad38 o37.length cp39, iv x235, iv 0]) S (rsl3 rfl (rvT (t := 4) (v := .slice ad38 o37.length cp39) S rfl) (rvT (t := 5) (v := iv x235) S rfl) (rvT (t := 6) (v := iv 0) S rfl)) ⟨(.slice ad38 o37.length cp39), rfl, S.mem.sel [] [0] (by decide) rfl rfl⟩)
  refine wp_block ?_
  have S := S.nilRow r_api_CellStep 83 (α := api_CellStep)
  obtain ⟨t49, hl, g48⟩ := bindSome h
  refine sLoop hl (fun s0 a w => match s0 with | (s42, s45, s46) => ∃ ad43, ∃ cp44, St [] E [] w0 178 a w [(0, .slice ad1 p0.length cp2), (1, .slice ad3 p1.length cp4), (10, .slice ad33 r30.length cp34), (11, .slice ad43 s42.length cp44), (12, iv s45), (13, iv s46)] [eRow r_api_CellStep 83 (.slice ad43 s42.length cp44) s42] [fRep (rL r_api_Stitch) (.slice ad1 p0.length cp2) p0, fRep (rL r_api_Stitch) (.slice ad3 p1.length cp4) p1, fRep (rL (rL (rI .i64))) (.slice ad33 r30.length cp34) r30]) ⟨none, 0, S.fix [0] [1, 2, 0] (by decide) rfl rfl rfl⟩ ?_
  clear hl h
  intro s0 a w c0 hI h hu47
  obtain ⟨s42, s45, s46⟩ := s0
  unfold compare_Edits_l2 at h
  dsimp only at h hI
  obtain ⟨ad43, cp44, S⟩ := hI
  refine sSeq (fun K53 hK53 => ?_)
  obtain ⟨t55, h, g56⟩ := bindSome h
  refine sCut (fun a w => ∃ o54, o54 = t55 ∧ St [] E [] w0 178 a w [(0, .slice ad1 p0.length cp2), (1, .slice ad3 p1.length cp4), (10, .slice ad33 r30.length cp34), (11, .slice ad43 s42.length cp44), (12, iv s45), (13, iv s46), (39, .bool o54)] [eRow r_api_CellStep 83 (.slice ad43 s42.length cp44) s42] [fRep (rL r_api_Stitch) (.slice ad1 p0.length cp2) p0, fRep (rL r_api_Stitch) (.slice ad3 p1.length cp4) p1, fRep (rL (rL (rI .i64))) (.slice ad33 r30.length cp34) r30]) ?_ (fun a w hI => ?_)
  · refine sRegion ?_
    refine sMove (iv s45) S (wN rfl) (.inl rfl) rfl rfl (lb rfl) fun a S => ?_
    refine sMove (.slice ad1 p0.length cp2) S (wN rfl) (.inl rfl) rfl rfl (lb rfl) fun a S => ?_
    refine sLen (ad := ad1) (m := p0.length) (c := cp2) S (wN rfl) rfl Try.underlying47 rfl rfl (lb rfl) fun a S => ?_
    refine sBin (.bool (decide (s45 < (p0.length : Int)))) S (wN rfl) rfl rfl rfl (bLt _ _ _ _ .i64 s45 (p0.length : Int)) rfl (lb rfl) fun a S => ?_
    refine sMove (.bool (decide (s45 < (p0.length : Int)))) S (wN rfl) (.inl rfl) rfl rfl (lb rfl) fun a S => ?_
    rcases iteSome h with ⟨hc57, h⟩ | ⟨hc57, h⟩
    · refine sSkip 4 false 34 35 S rfl rfl rfl hc57 rfl (lb rfl) fun a S => ?_
      refine sSkip 4 false 34 36 S rfl rfl rfl hc57 rfl (lb rfl) fun a S => ?_
      refine sSkip 4 false 34 37 S rfl rfl rfl hc57 rfl (lb rfl) fun a S => ?_
      refine sSkip 4 false 34 38 S rfl rfl rfl hc57 rfl (lb rfl) fun a S => ?_
      refine sPickT (.bool true) S (wN rfl) rfl rfl hc57 rfl rfl (lb rfl) fun a S => ?_
      exact leafL (leafT (⟨true, Option.some.inj h, S.fix [0] [0, 1, 2] (by decide) rfl rfl rfl⟩))
    refine sMove (iv s46) S (wG 4 false 34 rfl rfl rfl hc57) (.inl rfl) rfl rfl (lb rfl) fun a S => ?_
    refine sMove (.slice ad3 p1.length cp4) S (wG 4 false 34 rfl rfl rfl hc57) (.inl rfl) rfl rfl (lb rfl) fun a S => ?_
    refine sLen (ad := ad3) (m := p1.length) (c := cp4) S (wG 4 false 34 rfl rfl rfl hc57) rfl Try.underlying47 rfl rfl (lb rfl) fun a S => ?_
    refine sBin (.bool (decide (s46 < (p1.length : Int)))) S (wG 4 false 34 rfl rfl rfl hc57) rfl rfl rfl (bLt _ _ _ _ .i64 s46 (p1.length : Int)) rfl (lb rfl) fun a S => ?_
    refine sPickF (.bool (decide (s46 < (p1.length : Int)))) S (wN rfl) rfl rfl hc57 rfl rfl (lb rfl) fun a S => ?_
    exact leafL (leafT (⟨decide (s46 < (p1.length : Int)), Option.some.inj h, S.fix [0] [0, 1, 2] (by decide) rfl rfl rfl⟩))
  obtain ⟨o54, rfl, S⟩ := hI
  have h := g56
  clear g56
  try dsimp only at h
  rcases iteSome h with ⟨hc58, h⟩ | ⟨hc58, h⟩
  rotate_left
  · refine sCondF S rfl hc58 ?_
    obtain rfl := Option.some.inj h
    obtain rfl := hu47 _ rfl
    have h := g48
    clear g48
    try dsimp only at h
    exact wp_exit (xThen (xThen (xHit (leafT (⟨s42, Option.some.inj h, ad43, cp44, S.fix [0] [2] (by decide) rfl rfl rfl⟩)))))
  refine sCondT S rfl hc58 ?_
  refine wp_skip (leafT (hK53 _ _ ?_))
  refine wp_block ?_
  refine sSeq (fun K59 hK59 => ?_)
  refine sRegion ?_
  refine sMove (.slice ad33 r30.length cp34) S (wN rfl) (.inl rfl) rfl rfl (lb rfl) fun a S => ?_
  refine sMove (iv s45) S (wN rfl) (.inl rfl) rfl rfl (lb rfl) fun a S => ?_
  obtain ⟨x60, hx61, h⟩ := bindSome h
  obtain ⟨q62, hq63, S⟩ := pIdx (P := Try.prog) (r := (rL (rI .i64))) (v := .slice ad33 r30.length cp34) (xs := r30) (j := s45) 98 101 2 S Try.underlying98 rfl rfl hx61
  refine sIdxV (v := .slice ad33 r30.length cp34) (k := .i64) (j := s45) S (wN rfl) rfl rfl rfl hq63 rfl (lb rfl) fun a S => ?_
  obtain ⟨u64, S⟩ := pLoad (r := (rL (rI .i64))) (q := q62) (x := x60) 0 S rfl
  obtain ⟨ad65, cp66, _, rfl, _⟩ := S.mem.know (i := 1) (e := fRep (rL (rI .i64)) (u64) x60) rfl
  refine sLoadV1 (vq := q62) 0 (.slice ad65 x60.length cp66) S (wN rfl) rfl rfl rfl rfl rfl (lb rfl) fun a S => ?_
  refine sMove (iv s46) S (wN rfl) (.inl rfl) rfl rfl (lb rfl) fun a S => ?_
  obtain ⟨x67, hx68, h⟩ := bindSome h
  obtain ⟨q69, hq70, S⟩ := pIdx (P := Try.prog) (r := (rI .i64)) (v := .slice ad65 x60.length cp66) (xs := x60) (j := s46) 101 3 1 S Try.underlying101 rfl rfl hx68
  refine sIdxV (v := .slice ad65 x60.length cp66) (k := .i64) (j := s46) S (wN rfl) rfl rfl rfl hq70 rfl (lb rfl) fun a S => ?_
  obtain ⟨u71, S⟩ := pLoad (r := (rI .i64)) (q := q69) (x := x67) 0 S rfl
  obtain rfl : u71 = iv x67 := S.mem.know (i := 1) (e := fRep (rI .i64) (u71) x67) rfl
  refine sLoadV1 (vq := q69) 0 (iv x67) S (wN rfl) rfl rfl rfl rfl rfl (lb rfl) fun a S => ?_
  refine sMove (iv x67) S (wN rfl) (.inr rfl) rfl rfl (lb rfl) fun a S => ?_
  refine leafL (leafT (hK59 _ _ ?_))
  refine wp_block ?_
  obtain ⟨t73, h, g74⟩ := bindSome h
  refine sCut (fun a w => ∃ o72, o72 = t73 ∧ St [] E [] w0 178 a w [(0, .slice ad1 p0.length cp2), (1, .slice ad3 p1.length cp4), (10, .slice ad33 r30.length cp34), (11, .slice ad43 s42.length cp44), (12, iv s45), (13, iv s46), (14, iv x67), (57, .bool o72)] [eRow r_api_CellStep 83 (.slice ad43 s42.length cp44) s42] [fRep (rL r_api_Stitch) (.slice ad1 p0.length cp2) p0, fRep (rL r_api_Stitch) (.slice ad3 p1.length cp4) p1, fRep (rL (rL (rI .i64))) (.slice ad33 r30.length cp34) r30]) ?_ (fun a w hI => ?_)
  · rcases iteSome h with ⟨hc75, h⟩ | ⟨hc75, h⟩
    rotate_left
    · refine sDraw (nf := []) (W := [(0, 58, iv s45), (1, 59, .slice ad1 p0.length cp2), (2, 60, iv (p0.length : Int)), (3, 61, .bool (decide (s45 < (p0.length : Int)))), (4, 62, .bool (decide (s45 < (p0.length : Int)))), (5, 63, undef), (6, 64, undef), (7, 65, undef), (8, 66, undef), (9, 67, .bool false), (10, 68, .bool false), (11, 69, undef), (12, 70, undef), (13, 71, undef), (14, 72, undef), (15, 73, undef), (16, 74, undef), (17, 75, undef), (18, 76, undef), (19, 77, undef), (20, 78, .bool false), (21, 79, .bool false), (22, 80, undef), (23, 81, undef), (24, 82, undef), (25, 83, undef), (26, 84, undef), (27, 85, undef), (28, 86, undef), (29, 87, undef), (30, 88, undef), (31, 89, undef), (32, 90, undef), (33, 91, .bool false), (34, 57, .bool false)]) rfl S ?_
      refine node_by (A := anc_compare_Edits_0) (nf := []) (Y := []) (W := [(0, 58, iv s45), (1, 59, .slice ad1 p0.length cp2), (2, 60, iv (p0.length : Int)), (3, 61, .bool (decide (s45 < (p0.length : Int)))), (4, 62, .bool (decide (s45 < (p0.length : Int)))), (5, 63, undef), (6, 64, undef), (7, 65, undef), (8, 66, undef), (9, 67, .bool false), (10, 68, .bool false), (11, 69, undef), (12, 70, undef), (13, 71, undef), (14, 72, undef), (15, 73, undef), (16, 74, undef), (17, 75, undef), (18, 76, undef), (19, 77, undef), (20, 78, .bool false), (21, 79, .bool false), (22, 80, undef), (23, 81, undef), (24, 82, undef), (25, 83, undef), (26, 84, undef), (27, 85, undef), (28, 86, undef), (29, 87, undef), (30, 88, undef), (31, 89, undef), (32, 90, undef), (33, 91, .bool false), (34, 57, .bool false)]) 35 (by kernel_rfl) (by kernel_rfl) (by kernel_rfl) (by kernel_rfl) (by kernel_rfl) [0, 1, 2, 3, 4, 5, 6, 7, 8, 9, 10, 11, 12, 13, 14, 15, 16, 17, 18, 19, 20, 21, 22, 23, 24, 25, 26, 27, 28, 29, 30, 31, 32, 33, 34] (by kernel_rfl) (by decide) (by decide) (aF 0 34 (by decide) ?_ (aF 1 33 (by decide) ?_ (aF 2 32 (by decide) ?_ (aF 3 31 (by decide) ?_ (aF 4 30 (by decide) ?_ (aF 5 29 (by decide) ?_ (aF 6 28 (by decide) ?_ (aF 7 27 (by decide) ?_ (aF 8 26 (by decide) ?_ (aF 9 25 (by decide) ?_ (aF 10 24 (by decide) ?_ (aF 11 23 (by decide) ?_ (aF 12 22 (by decide) ?_ (aF 13 21 (by decide) ?_ (aF 14 20 (by decide) ?_ (aF 15 19 (by decide) ?_ (aF 16 18 (by decide) ?_ (aF 17 17 (by decide) ?_ (aF 18 16 (by decide) ?_ (aF 19 15 (by decide) ?_ (aF 20 14 (by decide) ?_ (aF 21 13 (by decide) ?_ (aF 22 12 (by decide) ?_ (aF 23 11 (by decide) ?_ (aF 24 10 (by decide) ?_ (aF 25 9 (by decide) ?_ (aF 26 8 (by decide) ?_ (aF 27 7 (by decide) ?_ (aF 28 6 (by decide) ?_ (aF 29 5 (by decide) ?_ (aF 30 4 (by decide) ?_ (aF 31 3 (by decide) ?_ (aF 32 2 (by decide) ?_ (aF 33 1 (by decide) ?_ (aF 34 0 (by decide) ?_ (trivial)))))))))))))))))))))))))))))))))))) [(0, .slice ad1 p0.length cp2), (1, .slice ad3 p1.length cp4), (10, .slice ad33 r30.length cp34), (11, .slice ad43 s42.length cp44), (12, iv s45), (13, iv s46), (14, iv x67), (57, .bool false), (63, undef), (64, undef), (65, undef), (66, undef), (69, undef), (70, undef), (71, undef), (72, undef), (73, undef), (74, undef), (75, undef), (76, undef), (77, undef), (80, undef), (81, undef), (82, undef), (83, undef), (84, undef), (85, undef), (86, undef), (87, undef), (88, undef), (89, undef), (90, undef)] (fin_of [none, none, none, none, none, none, none, some 34, some 5, some 6, some 7, some 8, some 11, some 12, some 13, some 14, some 15, some 16, some 17, some 18, some 19, some 22, some 23, some 24, some 25, some 26, some 27, some 28, some 29, some 30, some 31, some 32] rfl (by kernel_rfl) (by kernel_rfl)) (fun _ a w S => ?_)
      · refine fI 58 (iv s45) [(12, iv s45)] 0 [none] rfl rfl rfl rfl rfl rfl fun G a w S => ?_
        refine sMove (iv s45) S (wN rfl) (.inl rfl) rfl rfl (lb rfl) fun a S => ?_
        exact leafL ⟨rfl, S⟩
      · refine fI 59 (.slice ad1 p0.length cp2) [(0, .slice ad1 p0.length cp2)] 1 [none] rfl rfl rfl rfl rfl rfl fun G a w S => ?_
        refine sMove (.slice ad1 p0.length cp2) S (wN rfl) (.inl rfl) rfl rfl (lb rfl) fun a S => ?_
        exact leafL ⟨rfl, S⟩
      · refine fI 60 (iv (p0.length : Int)) [(59, .slice ad1 p0.length cp2)] 2 [some 1] rfl rfl rfl rfl rfl rfl fun G a w S => ?_
        refine sLen (ad := ad1) (m := p0.length) (c := cp2) S (wN rfl) rfl Try.underlying47 rfl rfl (lb rfl) fun a S => ?_
        exact leafL ⟨rfl, S⟩
      · refine fI 61 (.bool (decide (s45 < (p0.length : Int)))) [(58, iv s45), (60, iv (p0.length : Int))] 3 [some 0, some 2] rfl rfl rfl rfl rfl rfl fun G a w S => ?_
        refine sBin (.bool (decide (s45 < (p0.length : Int)))) S (wN rfl) rfl rfl rfl (bLt _ _ _ _ .i64 s45 (p0.length : Int)) rfl (lb rfl) fun a S => ?_
        exact leafL ⟨rfl, S⟩
      · refine fI 62 (.bool (decide (s45 < (p0.length : Int)))) [(61, .bool (decide (s45 < (p0.length : Int))))] 4 [some 3] rfl rfl rfl rfl rfl rfl fun G a w S => ?_
        refine sMove (.bool (decide (s45 < (p0.length : Int)))) S (wN rfl) (.inl rfl) rfl rfl (lb rfl) fun a S => ?_
        exact leafL ⟨rfl, S⟩
      · refine fI 63 undef [(13, iv s46), (62, .bool (decide (s45 < (p0.length : Int))))] 5 [none, some 4] rfl rfl rfl rfl rfl rfl fun G a w S => ?_
        refine sSkip 4 true 62 63 S rfl rfl rfl hc75 rfl (lb rfl) fun a S => ?_
        exact leafL ⟨rfl, S⟩
      · refine fI 64 undef [(1, .slice ad3 p1.length cp4), (62, .bool (decide (s45 < (p0.length : Int))))] 6 [none, some 4] rfl rfl rfl rfl rfl rfl fun G a w S => ?_
        refine sSkip 4 true 62 64 S rfl rfl rfl hc75 rfl (lb rfl) fun a S => ?_
        exact leafL ⟨rfl, S⟩
      · refine fI 65 undef [(64, undef), (62, .bool (decide (s45 < (p0.length : Int))))] 7 [some 6, some 4] rfl rfl rfl rfl rfl rfl fun G a w S => ?_
        refine sSkip 4 true 62 65 S rfl rfl rfl hc75 rfl (lb rfl) fun a S => ?_
        exact leafL ⟨rfl, S⟩
      · refine fI 66 undef [(63, undef), (65, undef), (62, .bool (decide (s45 < (p0.length : Int))))] 8 [some 5, some 7, some 4] rfl rfl rfl rfl rfl rfl fun G a w S => ?_
        refine sSkip 4 true 62 66 S rfl rfl rfl hc75 rfl (lb rfl) fun a S => ?_
        exact leafL ⟨rfl, S⟩
      · refine fI 67 (.bool false) [(62, .bool (decide (s45 < (p0.length : Int)))), (66, undef)] 9 [some 4, some 8] rfl rfl rfl rfl rfl rfl fun G a w S => ?_
        refine sPickF (.bool false) S (wN rfl) rfl rfl hc75 rfl rfl (lb rfl) fun a S => ?_
        exact leafL ⟨rfl, S⟩
      · refine fI 68 (.bool false) [(67, .bool false)] 10 [some 9] rfl rfl rfl rfl rfl rfl fun G a w S => ?_
        refine sMove (.bool false) S (wN rfl) (.inl rfl) rfl rfl (lb rfl) fun a S => ?_
        exact leafL ⟨rfl, S⟩
      · refine fI 69 undef [(0, .slice ad1 p0.length cp2), (68, .bool false)] 11 [none, some 10] rfl rfl rfl rfl rfl rfl fun G a w S => ?_
        refine sSkip 10 true 68 69 S rfl rfl rfl rfl rfl (lb rfl) fun a S => ?_
        exact leafL ⟨rfl, S⟩
      · refine fI 70 undef [(12, iv s45), (68, .bool false)] 12 [none, some 10] rfl rfl rfl rfl rfl rfl fun G a w S => ?_
        refine sSkip 10 true 68 70 S rfl rfl rfl rfl rfl (lb rfl) fun a S => ?_
        exact leafL ⟨rfl, S⟩
      · refine fI 71 undef [(69, undef), (70, undef), (68, .bool false)] 13 [some 11, some 12, some 10] rfl rfl rfl rfl rfl rfl fun G a w S => ?_
        refine sSkip 10 true 68 71 S rfl rfl rfl rfl rfl (lb rfl) fun a S => ?_
        exact leafL ⟨rfl, S⟩
      · refine fI 72 undef [(71, undef), (68, .bool false)] 14 [some 13, some 10] rfl rfl rfl rfl rfl rfl fun G a w S => ?_
        refine sSkip 10 true 68 72 S rfl rfl rfl rfl rfl (lb rfl) fun a S => ?_
        exact leafL ⟨rfl, S⟩
      · refine fI 73 undef [(1, .slice ad3 p1.length cp4), (68, .bool false)] 15 [none, some 10] rfl rfl rfl rfl rfl rfl fun G a w S => ?_
        refine sSkip 10 true 68 73 S rfl rfl rfl rfl rfl (lb rfl) fun a S => ?_
        exact leafL ⟨rfl, S⟩
      · refine fI 74 undef [(13, iv s46), (68, .bool false)] 16 [none, some 10] rfl rfl rfl rfl rfl rfl fun G a w S => ?_
        refine sSkip 10 true 68 74 S rfl rfl rfl rfl rfl (lb rfl) fun a S => ?_
        exact leafL ⟨rfl, S⟩
      · refine fI 75 undef [(73, undef), (74, undef), (68, .bool false)] 17 [some 15, some 16, some 10] rfl rfl rfl rfl rfl rfl fun G a w S => ?_
        refine sSkip 10 true 68 75 S rfl rfl rfl rfl rfl (lb rfl) fun a S => ?_
        exact leafL ⟨rfl, S⟩
      · refine fI 76 undef [(75, undef), (68, .bool false)] 18 [some 17, some 10] rfl rfl rfl rfl rfl rfl fun G a w S => ?_
        refine sSkip 10 true 68 76 S rfl rfl rfl rfl rfl (lb rfl) fun a S => ?_
        exact leafL ⟨rfl, S⟩
      · refine fI 77 undef [(72, undef), (76, undef), (68, .bool false)] 19 [some 14, some 18, some 10] rfl rfl rfl rfl rfl rfl fun G a w S => ?_
        refine sSkip 10 true 68 77 S rfl rfl rfl rfl rfl (lb rfl) fun a S => ?_
        exact leafL ⟨rfl, S⟩
      · refine fI 78 (.bool false) [(68, .bool false), (77, undef)] 20 [some 10, some 19] rfl rfl rfl rfl rfl rfl fun G a w S => ?_
        refine sPickF (.bool false) S (wN rfl) rfl rfl rfl rfl rfl (lb rfl) fun a S => ?_
        exact leafL ⟨rfl, S⟩
      · refine fI 79 (.bool false) [(78, .bool false)] 21 [some 20] rfl rfl rfl rfl rfl rfl fun G a w S => ?_
        refine sMove (.bool false) S (wN rfl) (.inl rfl) rfl rfl (lb rfl) fun a S => ?_
        exact leafL ⟨rfl, S⟩
      · refine fI 80 undef [(14, iv x67), (79, .bool false)] 22 [none, some 21] rfl rfl rfl rfl rfl rfl fun G a w S => ?_
        refine sSkip 21 true 79 80 S rfl rfl rfl rfl rfl (lb rfl) fun a S => ?_
        exact leafL ⟨rfl, S⟩
      · refine fI 81 undef [(10, .slice ad33 r30.length cp34), (79, .bool false)] 23 [none, some 21] rfl rfl rfl rfl rfl rfl fun G a w S => ?_
        refine sSkip 21 true 79 81 S rfl rfl rfl rfl rfl (lb rfl) fun a S => ?_
        exact leafL ⟨rfl, S⟩
      · refine fI 82 undef [(12, iv s45), (79, .bool false)] 24 [none, some 21] rfl rfl rfl rfl rfl rfl fun G a w S => ?_
        refine sSkip 21 true 79 82 S rfl rfl rfl rfl rfl (lb rfl) fun a S => ?_
        exact leafL ⟨rfl, S⟩
      · refine fI 83 undef [(82, undef), (79, .bool false)] 25 [some 24, some 21] rfl rfl rfl rfl rfl rfl fun G a w S => ?_
        refine sSkip 21 true 79 83 S rfl rfl rfl rfl rfl (lb rfl) fun a S => ?_
        exact leafL ⟨rfl, S⟩
      · refine fI 84 undef [(81, undef), (83, undef), (79, .bool false)] 26 [some 23, some 25, some 21] rfl rfl rfl rfl rfl rfl fun G a w S => ?_
        refine sSkip 21 true 79 84 S rfl rfl rfl rfl rfl (lb rfl) fun a S => ?_
        exact leafL ⟨rfl, S⟩
      · refine fI 85 undef [(84, undef), (79, .bool false)] 27 [some 26, some 21] rfl rfl rfl rfl rfl rfl fun G a w S => ?_
        refine sSkip 21 true 79 85 S rfl rfl rfl rfl rfl (lb rfl) fun a S => ?_
        exact leafL ⟨rfl, S⟩
      · refine fI 86 undef [(13, iv s46), (79, .bool false)] 28 [none, some 21] rfl rfl rfl rfl rfl rfl fun G a w S => ?_
        refine sSkip 21 true 79 86 S rfl rfl rfl rfl rfl (lb rfl) fun a S => ?_
        exact leafL ⟨rfl, S⟩
      · refine fI 87 undef [(86, undef), (79, .bool false)] 29 [some 28, some 21] rfl rfl rfl rfl rfl rfl fun G a w S => ?_
        refine sSkip 21 true 79 87 S rfl rfl rfl rfl rfl (lb rfl) fun a S => ?_
        exact leafL ⟨rfl, S⟩
      · refine fI 88 undef [(85, undef), (87, undef), (79, .bool false)] 30 [some 27, some 29, some 21] rfl rfl rfl rfl rfl rfl fun G a w S => ?_
        refine sSkip 21 true 79 88 S rfl rfl rfl rfl rfl (lb rfl) fun a S => ?_
        exact leafL ⟨rfl, S⟩
      · refine fI 89 undef [(88, undef), (79, .bool false)] 31 [some 30, some 21] rfl rfl rfl rfl rfl rfl fun G a w S => ?_
        refine sSkip 21 true 79 89 S rfl rfl rfl rfl rfl (lb rfl) fun a S => ?_
        exact leafL ⟨rfl, S⟩
      · refine fI 90 undef [(80, undef), (89, undef), (79, .bool false)] 32 [some 22, some 31, some 21] rfl rfl rfl rfl rfl rfl fun G a w S => ?_
        refine sSkip 21 true 79 90 S rfl rfl rfl rfl rfl (lb rfl) fun a S => ?_
        exact leafL ⟨rfl, S⟩
      · refine fI 91 (.bool false) [(79, .bool false), (90, undef)] 33 [some 21, some 32] rfl rfl rfl rfl rfl rfl fun G a w S => ?_
        refine sPickF (.bool false) S (wN rfl) rfl rfl rfl rfl rfl (lb rfl) fun a S => ?_
        exact leafL ⟨rfl, S⟩
      · refine fI 57 (.bool false) [(91, .bool false)] 34 [some 33] rfl rfl rfl rfl rfl rfl fun G a w S => ?_
        refine sMove (.bool false) S (wN rfl) (.inr rfl) rfl rfl (lb rfl) fun a S => ?_
        exact leafL ⟨rfl, S⟩
      exact leafT (⟨false, Option.some.inj h, S.fix [0] [6, 7, 8] (by decide) rfl rfl rfl⟩)
    rcases iteSome h with ⟨hc76, h⟩ | ⟨hc76, h⟩
    rotate_left
    · refine sDraw (nf := []) (W := [(0, 58, iv s45), (1, 59, .slice ad1 p0.length cp2), (2, 60, iv (p0.length : Int)), (3, 61, .bool (decide (s45 < (p0.length : Int)))), (4, 62, .bool (decide (s45 < (p0.length : Int)))), (5, 63, iv s46), (6, 64, .slice ad3 p1.length cp4), (7, 65, iv (p1.length : Int)), (8, 66, .bool (decide (s46 < (p1.length : Int)))), (9, 67, .bool (decide (s46 < (p1.length : Int)))), (10, 68, .bool (decide (s46 < (p1.length : Int)))), (11, 69, undef), (12, 70, undef), (13, 71, undef), (14, 72, undef), (15, 73, undef), (16, 74, undef), (17, 75, undef), (18, 76, undef), (19, 77, undef), (20, 78, .bool false), (21, 79, .bool false), (22, 80, undef), (23, 81, undef), (24, 82, undef), (25, 83, undef), (26, 84, undef), (27, 85, undef), (28, 86, undef), (29, 87, undef), (30, 88, undef), (31, 89, undef), (32, 90, undef), (33, 91, .bool false), (34, 57, .bool false)]) rfl S ?_
      refine node_by (A := anc_compare_Edits_0) (nf := []) (Y := []) (W := [(0, 58, iv s45), (1, 59, .slice ad1 p0.length cp2), (2, 60, iv (p0.length : Int)), (3, 61, .bool (decide (s45 < (p0.length : Int)))), (4, 62, .bool (decide (s45 < (p0.length : Int)))), (5, 63, iv s46), (6, 64, .slice ad3 p1.length cp4), (7, 65, iv (p1.length : Int)), (8, 66, .bool (decide (s46 < (p1.length : Int)))), (9, 67, .bool (decide (s46 < (p1.length : Int)))), (10, 68, .bool (decide (s46 < (p1.length : Int)))), (11, 69, undef), (12, 70, undef), (13, 71, undef), (14, 72, undef), (15, 73, undef), (16, 74, undef), (17, 75, undef), (18, 76, undef), (19, 77, undef), (20, 78, .bool false), (21, 79, .bool false), (22, 80, undef), (23, 81, undef), (24, 82, undef), (25, 83, undef), (26, 84, undef), (27, 85, undef), (28, 86, undef), (29, 87, undef), (30, 88, undef), (31, 89, undef), (32, 90, undef), (33, 91, .bool false), (34, 57, .bool false)]) 35 (by kernel_rfl) (by kernel_rfl) (by kernel_rfl) (by kernel_rfl) (by kernel_rfl) [0, 1, 2, 3, 4, 5, 6, 7, 8, 9, 10, 11, 12, 13, 14, 15, 16, 17, 18, 19, 20, 21, 22, 23, 24, 25, 26, 27, 28, 29, 30, 31, 32, 33, 34] (by kernel_rfl) (by decide) (by decide) (aF 0 34 (by decide) ?_ (aF 1 33 (by decide) ?_ (aF 2 32 (by decide) ?_ (aF 3 31 (by decide) ?_ (aF 4 30 (by decide) ?_ (aF 5 29 (by decide) ?_ (aF 6 28 (by decide) ?_ (aF 7 27 (by decide) ?_ (aF 8 26 (by decide) ?_ (aF 9 25 (by decide) ?_ (aF 10 24 (by decide) ?_ (aF 11 23 (by decide) ?_ (aF 12 22 (by decide) ?_ (aF 13 21 (by decide) ?_ (aF 14 20 (by decide) ?_ (aF 15 19 (by decide) ?_ (aF 16 18 (by decide) ?_ (aF 17 17 (by decide) ?_ (aF 18 16 (by decide) ?_ (aF 19 15 (by decide) ?_ (aF 20 14 (by decide) ?_ (aF 21 13 (by decide) ?_ (aF 22 12 (by decide) ?_ (aF 23 11 (by decide) ?_ (aF 24 10 (by decide) ?_ (aF 25 9 (by decide) ?_ (aF 26 8 (by decide) ?_ (aF 27 7 (by decide) ?_ (aF 28 6 (by decide) ?_ (aF 29 5 (by decide) ?_ (aF 30 4 (by decide) ?_ (aF 31 3 (by decide) ?_ (aF 32 2 (by decide) ?_ (aF 33 1 (by decide) ?_ (aF 34 0 (by decide) ?_ (trivial)))))))))))))))))))))))))))))))))))) [(0, .slice ad1 p0.length cp2), (1, .slice ad3 p1.length cp4), (10, .slice ad33 r30.length cp34), (11, .slice ad43 s42.length cp44), (12, iv s45), (13, iv s46), (14, iv x67), (57, .bool false), (63, iv s46), (64, .slice ad3 p1.length cp4), (65, iv (p1.length : Int)), (66, .bool (decide (s46 < (p1.length : Int)))), (69, undef), (70, undef), (71, undef), (72, undef), (73, undef), (74, undef), (75, undef), (76, undef), (77, undef), (80, undef), (81, undef), (82, undef), (83, undef), (84, undef), (85, undef), (86, undef), (87, undef), (88, undef), (89, undef), (90, undef)] (fin_of [none, none, none, none, none, none, none, some 34, some 5, some 6, some 7, some 8, some 11, some 12, some 13, some 14, some 15, some 16, some 17, some 18, some 19, some 22, some 23, some 24, some 25, some 26, some 27, some 28, some 29, some 30, some 31, some 32] rfl (by kernel_rfl) (by kernel_rfl)) (fun _ a w S => ?_)
      · refine fI 58 (iv s45) [(12, iv s45)] 0 [none] rfl rfl rfl rfl rfl rfl fun G a w S => ?_
        refine sMove (iv s45) S (wN rfl) (.inl rfl) rfl rfl (lb rfl) fun a S => ?_
        exact leafL ⟨rfl, S⟩
      · refine fI 59 (.slice ad1 p0.length cp2) [(0, .slice ad1 p0.length cp2)] 1 [none] rfl rfl rfl rfl rfl rfl fun G a w S => ?_
        refine sMove (.slice ad1 p0.length cp2) S (wN rfl) (.inl rfl) rfl rfl (lb rfl) fun a S => ?_
        exact leafL ⟨rfl, S⟩
      · refine fI 60 (iv (p0.length : Int)) [(59, .slice ad1 p0.length cp2)] 2 [some 1] rfl rfl rfl rfl rfl rfl fun G a w S => ?_
        refine sLen (ad := ad1) (m := p0.length) (c := cp2) S (wN rfl) rfl Try.underlying47 rfl rfl (lb rfl) fun a S => ?_
        exact leafL ⟨rfl, S⟩
      · refine fI 61 (.bool (decide (s45 < (p0.length : Int)))) [(58, iv s45), (60, iv (p0.length : Int))] 3 [some 0, some 2] rfl rfl rfl rfl rfl rfl fun G a w S => ?_
        refine sBin (.bool (decide (s45 < (p0.length : Int)))) S (wN rfl) rfl rfl rfl (bLt _ _ _ _ .i64 s45 (p0.length : Int)) rfl (lb rfl) fun a S => ?_
        exact leafL ⟨rfl, S⟩
      · refine fI 62 (.bool (decide (s45 < (p0.length : Int)))) [(61, .bool (decide (s45 < (p0.length : Int))))] 4 [some 3] rfl rfl rfl rfl rfl rfl fun G a w S => ?_
        refine sMove (.bool (decide (s45 < (p0.length : Int)))) S (wN rfl) (.inl rfl) rfl rfl (lb rfl) fun a S => ?_
        exact leafL ⟨rfl, S⟩
      · refine fI 63 (iv s46) [(13, iv s46), (62, .bool (decide (s45 < (p0.length : Int))))] 5 [none, some 4] rfl rfl rfl rfl rfl rfl fun G a w S => ?_
        refine sMove (iv s46) S (wG 4 true 62 rfl rfl rfl hc75) (.inl rfl) rfl rfl (lb rfl) fun a S => ?_
        exact leafL ⟨rfl, S⟩
      · refine fI 64 (.slice ad3 p1.length cp4) [(1, .slice ad3 p1.length cp4), (62, .bool (decide (s45 < (p0.length : Int))))] 6 [none, some 4] rfl rfl rfl rfl rfl rfl fun G a w S => ?_
        refine sMove (.slice ad3 p1.length cp4) S (wG 4 true 62 rfl rfl rfl hc75) (.inl rfl) rfl rfl (lb rfl) fun a S => ?_
        exact leafL ⟨rfl, S⟩
      · refine fI 65 (iv (p1.length : Int)) [(64, .slice ad3 p1.length cp4), (62, .bool (decide (s45 < (p0.length : Int))))] 7 [some 6, some 4] rfl rfl rfl rfl rfl rfl fun G a w S => ?_
        refine sLen (ad := ad3) (m := p1.length) (c := cp4) S (wG 4 true 62 rfl rfl rfl hc75) rfl Try.underlying47 rfl rfl (lb rfl) fun a S => ?_
        exact leafL ⟨rfl, S⟩
      · refine fI 66 (.bool (decide (s46 < (p1.length : Int)))) [(63, iv s46), (65, iv (p1.length : Int)), (62, .bool (decide (s45 < (p0.length : Int))))] 8 [some 5, some 7, some 4] rfl rfl rfl rfl rfl rfl fun G a w S => ?_
        refine sBin (.bool (decide (s46 < (p1.length : Int)))) S (wG 4 true 62 rfl rfl rfl hc75) rfl rfl rfl (bLt _ _ _ _ .i64 s46 (p1.length : Int)) rfl (lb rfl) fun a S => ?_
        exact leafL ⟨rfl, S⟩
      · refine fI 67 (.bool (decide (s46 < (p1.length : Int)))) [(62, .bool (decide (s45 < (p0.length : Int)))), (66, .bool (decide (s46 < (p1.length : Int))))] 9 [some 4, some 8] rfl rfl rfl rfl rfl rfl fun G a w S => ?_
        refine sPickT (.bool (decide (s46 < (p1.length : Int)))) S (wN rfl) rfl rfl hc75 rfl rfl (lb rfl) fun a S => ?_
        exact leafL ⟨rfl, S⟩
      · refine fI 68 (.bool (decide (s46 < (p1.length : Int)))) [(67, .bool (decide (s46 < (p1.length : Int))))] 10 [some 9] rfl rfl rfl rfl rfl rfl fun G a w S => ?_
        refine sMove (.bool (decide (s46 < (p1.length : Int)))) S (wN rfl) (.inl rfl) rfl rfl (lb rfl) fun a S => ?_
        exact leafL ⟨rfl, S⟩
      · refine fI 69 undef [(0, .slice ad1 p0.length cp2), (68, .bool (decide (s46 < (p1.length : Int))))] 11 [none, some 10] rfl rfl rfl rfl rfl rfl fun G a w S => ?_
        refine sSkip 10 true 68 69 S rfl rfl rfl hc76 rfl (lb rfl) fun a S => ?_
        exact leafL ⟨rfl, S⟩
      · refine fI 70 undef [(12, iv s45), (68, .bool (decide (s46 < (p1.length : Int))))] 12 [none, some 10] rfl rfl rfl rfl rfl rfl fun G a w S => ?_
        refine sSkip 10 true 68 70 S rfl rfl rfl hc76 rfl (lb rfl) fun a S => ?_
        exact leafL ⟨rfl, S⟩
      · refine fI 71 undef [(69, undef), (70, undef), (68, .bool (decide (s46 < (p1.length : Int))))] 13 [some 11, some 12, some 10] rfl rfl rfl rfl rfl rfl fun G a w S => ?_
        refine sSkip 10 true 68 71 S rfl rfl rfl hc76 rfl (lb rfl) fun a S => ?_
        exact leafL ⟨rfl, S⟩
      · refine fI 72 undef [(71, undef), (68, .bool (decide (s46 < (p1.length : Int))))] 14 [some 13, some 10] rfl rfl rfl rfl rfl rfl fun G a w S => ?_
        refine sSkip 10 true 68 72 S rfl rfl rfl hc76 rfl (lb rfl) fun a S => ?_
        exact leafL ⟨rfl, S⟩
      · refine fI 73 undef [(1, .slice ad3 p1.length cp4), (68, .bool (decide (s46 < (p1.length : Int))))] 15 [none, some 10] rfl rfl rfl rfl rfl rfl fun G a w S => ?_
        refine sSkip 10 true 68 73 S rfl rfl rfl hc76 rfl (lb rfl) fun a S => ?_
        exact leafL ⟨rfl, S⟩
      · refine fI 74 undef [(13, iv s46), (68, .bool (decide (s46 < (p1.length : Int))))] 16 [none, some 10] rfl rfl rfl rfl rfl rfl fun G a w S => ?_
        refine sSkip 10 true 68 74 S rfl rfl rfl hc76 rfl (lb rfl) fun a S => ?_
        exact leafL ⟨rfl, S⟩
      · refine fI 75 undef [(73, undef), (74, undef), (68, .bool (decide (s46 < (p1.length : Int))))] 17 [some 15, some 16, some 10] rfl rfl rfl rfl rfl rfl fun G a w S => ?_
        refine sSkip 10 true 68 75 S rfl rfl rfl hc76 rfl (lb rfl) fun a S => ?_
        exact leafL ⟨rfl, S⟩
      · refine fI 76 undef [(75, undef), (68, .bool (decide (s46 < (p1.length : Int))))] 18 [some 17, some 10] rfl rfl rfl rfl rfl rfl fun G a w S => ?_
        refine sSkip 10 true 68 76 S rfl rfl rfl hc76 rfl (lb rfl) fun a S => ?_
        exact leafL ⟨rfl, S⟩
      · refine fI 77 undef [(72, undef), (76, undef), (68, .bool (decide (s46 < (p1.length : Int))))] 19 [some 14, some 18, some 10] rfl rfl rfl rfl rfl rfl fun G a w S => ?_
        refine sSkip 10 true 68 77 S rfl rfl rfl hc76 rfl (lb rfl) fun a S => ?_
        exact leafL ⟨rfl, S⟩
      · refine fI 78 (.bool false) [(68, .bool (decide (s46 < (p1.length : Int)))), (77, undef)] 20 [some 10, some 19] rfl rfl rfl rfl rfl rfl fun G a w S => ?_
        refine sPickF (.bool false) S (wN rfl) rfl rfl hc76 rfl rfl (lb rfl) fun a S => ?_
        exact leafL ⟨rfl, S⟩
      · refine fI 79 (.bool false) [(78, .bool false)] 21 [some 20] rfl rfl rfl rfl rfl rfl fun G a w S => ?_
        refine sMove (.bool false) S (wN rfl) (.inl rfl) rfl rfl (lb rfl) fun a S => ?_
        exact leafL ⟨rfl, S⟩
      · refine fI 80 undef [(14, iv x67), (79, .bool false)] 22 [none, some 21] rfl rfl rfl rfl rfl rfl fun G a w S => ?_
        refine sSkip 21 true 79 80 S rfl rfl rfl rfl rfl (lb rfl) fun a S => ?_
        exact leafL ⟨rfl, S⟩
      · refine fI 81 undef [(10, .slice ad33 r30.length cp34), (79, .bool false)] 23 [none, some 21] rfl rfl rfl rfl rfl rfl fun G a w S => ?_
        refine sSkip 21 true 79 81 S rfl rfl rfl rfl rfl (lb rfl) fun a S => ?_
        exact leafL ⟨rfl, S⟩
      · refine fI 82 undef [(12, iv s45), (79, .bool false)] 24 [none, some 21] rfl rfl rfl rfl rfl rfl fun G a w S => ?_
        refine sSkip 21 true 79 82 S rfl rfl rfl rfl rfl (lb rfl) fun a S => ?_
        exact leafL ⟨rfl, S⟩
      · refine fI 83 undef [(82, undef), (79, .bool false)] 25 [some 24, some 21] rfl rfl rfl rfl rfl rfl fun G a w S => ?_
        refine sSkip 21 true 79 83 S rfl rfl rfl rfl rfl (lb rfl) fun a S => ?_
        exact leafL ⟨rfl, S⟩
      · refine fI 84 undef [(81, undef), (83, undef), (79, .bool false)] 26 [some 23, some 25, some 21] rfl rfl rfl rfl rfl rfl fun G a w S => ?_
        refine sSkip 21 true 79 84 S rfl rfl rfl rfl rfl (lb rfl) fun a S => ?_
        exact leafL ⟨rfl, S⟩
      · refine fI 85 undef [(84, undef), (79, .bool false)] 27 [some 26, some 21] rfl rfl rfl rfl rfl rfl fun G a w S => ?_
        refine sSkip 21 true 79 85 S rfl rfl rfl rfl rfl (lb rfl) fun a S => ?_
        exact leafL ⟨rfl, S⟩
      · refine fI 86 undef [(13, iv s46), (79, .bool false)] 28 [none, some 21] rfl rfl rfl rfl rfl rfl fun G a w S => ?_
        refine sSkip 21 true 79 86 S rfl rfl rfl rfl rfl (lb rfl) fun a S => ?_
        exact leafL ⟨rfl, S⟩
      · refine fI 87 undef [(86, undef), (79, .bool false)] 29 [some 28, some 21] rfl rfl rfl rfl rfl rfl fun G a w S => ?_
        refine sSkip 21 true 79 87 S rfl rfl rfl rfl rfl (lb rfl) fun a S => ?_
        exact leafL ⟨rfl, S⟩
      · refine fI 88 undef [(85, undef), (87, undef), (79, .bool false)] 30 [some 27, some 29, some 21] rfl rfl rfl rfl rfl rfl fun G a w S => ?_
        refine sSkip 21 true 79 88 S rfl rfl rfl rfl rfl (lb rfl) fun a S => ?_
        exact leafL ⟨rfl, S⟩
      · refine fI 89 undef [(88, undef), (79, .bool false)] 31 [some 30, some 21] rfl rfl rfl rfl rfl rfl fun G a w S => ?_
        refine sSkip 21 true 79 89 S rfl rfl rfl rfl rfl (lb rfl) fun a S => ?_
        exact leafL ⟨rfl, S⟩
      · refine fI 90 undef [(80, undef), (89, undef), (79, .bool false)] 32 [some 22, some 31, some 21] rfl rfl rfl rfl rfl rfl fun G a w S => ?_
        refine sSkip 21 true 79 90 S rfl rfl rfl rfl rfl (lb rfl) fun a S => ?_
        exact leafL ⟨rfl, S⟩
      · refine fI 91 (.bool false) [(79, .bool false), (90, undef)] 33 [some 21, some 32] rfl rfl rfl rfl rfl rfl fun G a w S => ?_
        refine sPickF (.bool false) S (wN rfl) rfl rfl rfl rfl rfl (lb rfl) fun a S => ?_
        exact leafL ⟨rfl, S⟩
      · refine fI 57 (.bool false) [(91, .bool false)] 34 [some 33] rfl rfl rfl rfl rfl rfl fun G a w S => ?_
        refine sMove (.bool false) S (wN rfl) (.inr rfl) rfl rfl (lb rfl) fun a S => ?_
        exact leafL ⟨rfl, S⟩
      exact leafT (⟨false, Option.some.inj h, S.fix [0] [6, 7, 8] (by decide) rfl rfl rfl⟩)
    obtain ⟨x77, hx78, h⟩ := bindSome h
    obtain ⟨x82, hx83, h⟩ := bindSome h
    rcases iteSome h with ⟨hc87, h⟩ | ⟨hc87, h⟩
    rotate_left
    · obtain ⟨q114, hq115, S⟩ := pIdx (P := Try.prog) (r := r_api_Stitch) (v := .slice ad1 p0.length cp2) (xs := p0) (j := s45) 47 81 6 S Try.underlying47 rfl rfl hx78
      obtain ⟨u116, S⟩ := pLoad (r := r_api_Stitch) (q := q114) (x := x77) 0 S rfl
      obtain rfl : u116 = .agg #[.int .u8 x77.Kind, .bool x77.Purl, iv x77.A, iv x77.B] := S.mem.know (i := 1) (e := fRep r_api_Stitch (u116) x77) rfl
      obtain ⟨q117, hq118, S⟩ := pIdx (P := Try.prog) (r := r_api_Stitch) (v := .slice ad3 p1.length cp4) (xs := p1) (j := s46) 47 81 10 S Try.underlying47 rfl rfl hx83
      obtain ⟨u119, S⟩ := pLoad (r := r_api_Stitch) (q := q117) (x := x82) 0 S rfl
      obtain rfl : u119 = .agg #[.int .u8 x82.Kind, .bool x82.Purl, iv x82.A, iv x82.B] := S.mem.know (i := 1) (e := fRep r_api_Stitch (u119) x82) rfl
      refine sDraw (nf := []) (W := [(0, 58, iv s45), (1, 59, .slice ad1 p0.length cp2), (2, 60, iv (p0.length : Int)), (3, 61, .bool (decide (s45 < (p0.length : Int)))), (4, 62, .bool (decide (s45 < (p0.length : Int)))), (5, 63, iv s46), (6, 64, .slice ad3 p1.length cp4), (7, 65, iv (p1.length : Int)), (8, 66, .bool (decide (s46 < (p1.length : Int)))), (9, 67, .bool (decide (s46 < (p1.length : Int)))), (10, 68, .bool (decide (s46 < (p1.length : Int)))), (11, 69, .slice ad1 p0.length cp2), (12, 70, iv s45), (13, 71, q114), (14, 72, .agg #[.int .u8 x77.Kind, .bool x77.Purl, iv x77.A, iv x77.B]), (15, 73, .slice ad3 p1.length cp4), (16, 74, iv s46), (17, 75, q117), (18, 76, .agg #[.int .u8 x82.Kind, .bool x82.Purl, iv x82.A, iv x82.B]), (19, 77, .bool ((x77.Kind == x82.Kind) && ((x77.Purl == x82.Purl) && ((x77.A == x82.A) && ((x77.B == x82.B) && true))))), (20, 78, .bool ((x77.Kind == x82.Kind) && ((x77.Purl == x82.Purl) && ((x77.A == x82.A) && ((x77.B == x82.B) && true))))), (21, 79, .bool ((x77.Kind == x82.Kind) && ((x77.Purl == x82.Purl) && ((x77.A == x82.A) && ((x77.B == x82.B) && true))))), (22, 80, undef), (23, 81, undef), (24, 82, undef), (25, 83, undef), (26, 84, undef), (27, 85, undef), (28, 86, undef), (29, 87, undef), (30, 88, undef), (31, 89, undef), (32, 90, undef), (33, 91, .bool false), (34, 57, .bool false)]) rfl S ?_
      refine node_by (A := anc_compare_Edits_0) (nf := []) (Y := []) (W := [(0, 58, iv s45), (1, 59, .slice ad1 p0.length cp2), (2, 60, iv (p0.length : Int)), (3, 61, .bool (decide (s45 < (p0.length : Int)))), (4, 62, .bool (decide (s45 < (p0.length : Int)))), (5, 63, iv s46), (6, 64, .slice ad3 p1.length cp4), (7, 65, iv (p1.length : Int)), (8, 66, .bool (decide (s46 < (p1.length : Int)))), (9, 67, .bool (decide (s46 < (p1.length : Int)))), (10, 68, .bool (decide (s46 < (p1.length : Int)))), (11, 69, .slice ad1 p0.length cp2), (12, 70, iv s45), (13, 71, q114), (14, 72, .agg #[.int .u8 x77.Kind, .bool x77.Purl, iv x77.A, iv x77.B]), (15, 73, .slice ad3 p1.length cp4), (16, 74, iv s46), (17, 75, q117), (18, 76, .agg #[.int .u8 x82.Kind, .bool x82.Purl, iv x82.A, iv x82.B]), (19, 77, .bool ((x77.Kind == x82.Kind) && ((x77.Purl == x82.Purl) && ((x77.A == x82.A) && ((x77.B == x82.B) && true))))), (20, 78, .bool ((x77.Kind == x82.Kind) && ((x77.Purl == x82.Purl) && ((x77.A == x82.A) && ((x77.B == x82.B) && true))))), (21, 79, .bool ((x77.Kind == x82.Kind) && ((x77.Purl == x82.Purl) && ((x77.A == x82.A) && ((x77.B == x82.B) && true))))), (22, 80, undef), (23, 81, undef), (24, 82, undef), (25, 83, undef), (26, 84, undef), (27, 85, undef), (28, 86, undef), (29, 87, undef), (30, 88, undef), (31, 89, undef), (32, 90, undef), (33, 91, .bool false), (34, 57, .bool false)]) 35 (by kernel_rfl) (by kernel_rfl) (by kernel_rfl) (by kernel_rfl) (by kernel_rfl) [0, 1, 2, 3, 4, 5, 6, 7, 8, 9, 10, 11, 12, 13, 14, 15, 16, 17, 18, 19, 20, 21, 22, 23, 24, 25, 26, 27, 28, 29, 30, 31, 32, 33, 34] (by kernel_rfl) (by decide) (by decide) (aF 0 34 (by decide) ?_ (aF 1 33 (by decide) ?_ (aF 2 32 (by decide) ?_ (aF 3 31 (by decide) ?_ (aF 4 30 (by decide) ?_ (aF 5 29 (by decide) ?_ (aF 6 28 (by decide) ?_ (aF 7 27 (by decide) ?_ (aF 8 26 (by decide) ?_ (aF 9 25 (by decide) ?_ (aF 10 24 (by decide) ?_ (aF 11 23 (by decide) ?_ (aF 12 22 (by decide) ?_ (aF 13 21 (by decide) ?_ (aF 14 20 (by decide) ?_ (aF 15 19 (by decide) ?_ (aF 16 18 (by decide) ?_ (aF 17 17 (by decide) ?_ (aF 18 16 (by decide) ?_ (aF 19 15 (by decide) ?_ (aF 20 14 (by decide) ?_ (aF 21 13 (by decide) ?_ (aF 22 12 (by decide) ?_ (aF 23 11 (by decide) ?_ (aF 24 10 (by decide) ?_ (aF 25 9 (by decide) ?_ (aF 26 8 (by decide) ?_ (aF 27 7 (by decide) ?_ (aF 28 6 (by decide) ?_ (aF 29 5 (by decide) ?_ (aF 30 4 (by decide) ?_ (aF 31 3 (by decide) ?_ (aF 32 2 (by decide) ?_ (aF 33 1 (by decide) ?_ (aF 34 0 (by decide) ?_ (trivial)))))))))))))))))))))))))))))))))))) [(0, .slice ad1 p0.length cp2), (1, .slice ad3 p1.length cp4), (10, .slice ad33 r30.length cp34), (11, .slice ad43 s42.length cp44), (12, iv s45), (13, iv s46), (14, iv x67), (57, .bool false), (63, iv s46), (64, .slice ad3 p1.length cp4), (65, iv (p1.length : Int)), (66, .bool (decide (s46 < (p1.length : Int)))), (69, .slice ad1 p0.length cp2), (70, iv s45), (71, q114), (72, .agg #[.int .u8 x77.Kind, .bool x77.Purl, iv x77.A, iv x77.B]), (73, .slice ad3 p1.length cp4), (74, iv s46), (75, q117), (76, .agg #[.int .u8 x82.Kind, .bool x82.Purl, iv x82.A, iv x82.B]), (77, .bool ((x77.Kind == x82.Kind) && ((x77.Purl == x82.Purl) && ((x77.A == x82.A) && ((x77.B == x82.B) && true))))), (80, undef), (81, undef), (82, undef), (83, undef), (84, undef), (85, undef), (86, undef), (87, undef), (88, undef), (89, undef), (90, undef)] (fin_of [none, none, none, none, none, none, none, some 34, some 5, some 6, some 7, some 8, some 11, some 12, some 13, some 14, some 15, some 16, some 17, some 18, some 19, some 22, some 23, some 24, some 25, some 26, some 27, some 28, some 29, some 30, some 31, some 32] rfl (by kernel_rfl) (by kernel_rfl)) (fun _ a w S => ?_)
      · refine fI 58 (iv s45) [(12, iv s45)] 0 [none] rfl rfl rfl rfl rfl rfl fun G a w S => ?_
        refine sMove (iv s45) S (wN rfl) (.inl rfl) rfl rfl (lb rfl) fun a S => ?_
        exact leafL ⟨rfl, S⟩
      · refine fI 59 (.slice ad1 p0.length cp2) [(0, .slice ad1 p0.length cp2)] 1 [none] rfl rfl rfl rfl rfl rfl fun G a w S => ?_
        refine sMove (.slice ad1 p0.length cp2) S (wN rfl) (.inl rfl) rfl rfl (lb rfl) fun a S => ?_
        exact leafL ⟨rfl, S⟩
      · refine fI 60 (iv (p0.length : Int)) [(59, .slice ad1 p0.length cp2)] 2 [some 1] rfl rfl rfl rfl rfl rfl fun G a w S => ?_
        refine sLen (ad := ad1) (m := p0.length) (c := cp2) S (wN rfl) rfl Try.underlying47 rfl rfl (lb rfl) fun a S => ?_
        exact leafL ⟨rfl, S⟩
      · refine fI 61 (.bool (decide (s45 < (p0.length : Int)))) [(58, iv s45), (60, iv (p0.length : Int))] 3 [some 0, some 2] rfl rfl rfl rfl rfl rfl fun G a w S => ?_
        refine sBin (.bool (decide (s45 < (p0.length : Int)))) S (wN rfl) rfl rfl rfl (bLt _ _ _ _ .i64 s45 (p0.length : Int)) rfl (lb rfl) fun a S => ?_
        exact leafL ⟨rfl, S⟩
      · refine fI 62 (.bool (decide (s45 < (p0.length : Int)))) [(61, .bool (decide (s45 < (p0.length : Int))))] 4 [some 3] rfl rfl rfl rfl rfl rfl fun G a w S => ?_
        refine sMove (.bool (decide (s45 < (p0.length : Int)))) S (wN rfl) (.inl rfl) rfl rfl (lb rfl) fun a S => ?_
        exact leafL ⟨rfl, S⟩
      · refine fI 63 (iv s46) [(13, iv s46), (62, .bool (decide (s45 < (p0.length : Int))))] 5 [none, some 4] rfl rfl rfl rfl rfl rfl fun G a w S => ?_
        refine sMove (iv s46) S (wG 4 true 62 rfl rfl rfl hc75) (.inl rfl) rfl rfl (lb rfl) fun a S => ?_
        exact leafL ⟨rfl, S⟩
      · refine fI 64 (.slice ad3 p1.length cp4) [(1, .slice ad3 p1.length cp4), (62, .bool (decide (s45 < (p0.length : Int))))] 6 [none, some 4] rfl rfl rfl rfl rfl rfl fun G a w S => ?_
        refine sMove (.slice ad3 p1.length cp4) S (wG 4 true 62 rfl rfl rfl hc75) (.inl rfl) rfl rfl (lb rfl) fun a S => ?_
        exact leafL ⟨rfl, S⟩
      · refine fI 65 (iv (p1.length : Int)) [(64, .slice ad3 p1.length cp4), (62, .bool (decide (s45 < (p0.length : Int))))] 7 [some 6, some 4] rfl rfl rfl rfl rfl rfl fun G a w S => ?_
        refine sLen (ad := ad3) (m := p1.length) (c := cp4) S (wG 4 true 62 rfl rfl rfl hc75) rfl Try.underlying47 rfl rfl (lb rfl) fun a S => ?_
        exact leafL ⟨rfl, S⟩
      · refine fI 66 (.bool (decide (s46 < (p1.length : Int)))) [(63, iv s46), (65, iv (p1.length : Int)), (62, .bool (decide (s45 < (p0.length : Int))))] 8 [some 5, some 7, some 4] rfl rfl rfl rfl rfl rfl fun G a w S => ?_
        refine sBin (.bool (decide (s46 < (p1.length : Int)))) S (wG 4 true 62 rfl rfl rfl hc75) rfl rfl rfl (bLt _ _ _ _ .i64 s46 (p1.length : Int)) rfl (lb rfl) fun a S => ?_
        exact leafL ⟨rfl, S⟩
      · refine fI 67 (.bool (decide (s46 < (p1.length : Int)))) [(62, .bool (decide (s45 < (p0.length : Int)))), (66, .bool (decide (s46 < (p1.length : Int))))] 9 [some 4, some 8] rfl rfl rfl rfl rfl rfl fun G a w S => ?_
        refine sPickT (.bool (decide (s46 < (p1.length : Int)))) S (wN rfl) rfl rfl hc75 rfl rfl (lb rfl) fun a S => ?_
        exact leafL ⟨rfl, S⟩
      · refine fI 68 (.bool (decide (s46 < (p1.length : Int)))) [(67, .bool (decide (s46 < (p1.length : Int))))] 10 [some 9] rfl rfl rfl rfl rfl rfl fun G a w S => ?_
        refine sMove (.bool (decide (s46 < (p1.length : Int)))) S (wN rfl) (.inl rfl) rfl rfl (lb rfl) fun a S => ?_
        exact leafL ⟨rfl, S⟩
      · refine fI 69 (.slice ad1 p0.length cp2) [(0, .slice ad1 p0.length cp2), (68, .bool (decide (s46 < (p1.length : Int))))] 11 [none, some 10] rfl rfl rfl rfl rfl rfl fun G a w S => ?_
        refine sMove (.slice ad1 p0.length cp2) S (wG 10 true 68 rfl rfl rfl hc76) (.inl rfl) rfl rfl (lb rfl) fun a S => ?_
        exact leafL ⟨rfl, S⟩
      · refine fI 70 (iv s45) [(12, iv s45), (68, .bool (decide (s46 < (p1.length : Int))))] 12 [none, some 10] rfl rfl rfl rfl rfl rfl fun G a w S => ?_
        refine sMove (iv s45) S (wG 10 true 68 rfl rfl rfl hc76) (.inl rfl) rfl rfl (lb rfl) fun a S => ?_
        exact leafL ⟨rfl, S⟩
      · refine fI 71 q114 [(69, .slice ad1 p0.length cp2), (70, iv s45), (68, .bool (decide (s46 < (p1.length : Int))))] 13 [some 11, some 12, some 10] rfl rfl rfl rfl rfl rfl fun G a w S => ?_
        refine sIdxV (v := .slice ad1 p0.length cp2) (k := .i64) (j := s45) S (wG 10 true 68 rfl rfl rfl hc76) rfl rfl rfl hq115 rfl (lb rfl) fun a S => ?_
        exact leafL ⟨rfl, S⟩
      · refine fI 72 (.agg #[.int .u8 x77.Kind, .bool x77.Purl, iv x77.A, iv x77.B]) [(71, q114), (68, .bool (decide (s46 < (p1.length : Int))))] 14 [some 13, some 10] rfl rfl rfl rfl rfl rfl fun G a w S => ?_
        refine sLoadVN (vq := q114) 3 [.int .u8 x77.Kind, .bool x77.Purl, iv x77.A, iv x77.B] S (wG 10 true 68 rfl rfl rfl hc76) rfl rfl rfl rfl rfl rfl (lb rfl) fun a S => ?_
        exact leafL ⟨rfl, S⟩
      · refine fI 73 (.slice ad3 p1.length cp4) [(1, .slice ad3 p1.length cp4), (68, .bool (decide (s46 < (p1.length : Int))))] 15 [none, some 10] rfl rfl rfl rfl rfl rfl fun G a w S => ?_
        refine sMove (.slice ad3 p1.length cp4) S (wG 10 true 68 rfl rfl rfl hc76) (.inl rfl) rfl rfl (lb rfl) fun a S => ?_
        exact leafL ⟨rfl, S⟩
      · refine fI 74 (iv s46) [(13, iv s46), (68, .bool (decide (s46 < (p1.length : Int))))] 16 [none, some 10] rfl rfl rfl rfl rfl rfl fun G a w S => ?_
        refine sMove (iv s46) S (wG 10 true 68 rfl rfl rfl hc76) (.inl rfl) rfl rfl (lb rfl) fun a S => ?_
        exact leafL ⟨rfl, S⟩
      · refine fI 75 q117 [(73, .slice ad3 p1.length cp4), (74, iv s46), (68, .bool (decide (s46 < (p1.length : Int))))] 17 [some 15, some 16, some 10] rfl rfl rfl rfl rfl rfl fun G a w S => ?_
        refine sIdxV (v := .slice ad3 p1.length cp4) (k := .i64) (j := s46) S (wG 10 true 68 rfl rfl rfl hc76) rfl rfl rfl hq118 rfl (lb rfl) fun a S => ?_
        exact leafL ⟨rfl, S⟩
      · refine fI 76 (.agg #[.int .u8 x82.Kind, .bool x82.Purl, iv x82.A, iv x82.B]) [(75, q117), (68, .bool (decide (s46 < (p1.length : Int))))] 18 [some 17, some 10] rfl rfl rfl rfl rfl rfl fun G a w S => ?_
        refine sLoadVN (vq := q117) 0 [.int .u8 x82.Kind, .bool x82.Purl, iv x82.A, iv x82.B] S (wG 10 true 68 rfl rfl rfl hc76) rfl rfl rfl rfl rfl rfl (lb rfl) fun a S => ?_
        exact leafL ⟨rfl, S⟩
      · refine fI 77 (.bool ((x77.Kind == x82.Kind) && ((x77.Purl == x82.Purl) && ((x77.A == x82.A) && ((x77.B == x82.B) && true))))) [(72, .agg #[.int .u8 x77.Kind, .bool x77.Purl, iv x77.A, iv x77.B]), (76, .agg #[.int .u8 x82.Kind, .bool x82.Purl, iv x82.A, iv x82.B]), (68, .bool (decide (s46 < (p1.length : Int))))] 19 [some 14, some 18, some 10] rfl rfl rfl rfl rfl rfl fun G a w S => ?_
        refine sBin (.bool ((x77.Kind == x82.Kind) && ((x77.Purl == x82.Purl) && ((x77.A == x82.A) && ((x77.B == x82.B) && true))))) S (wG 10 true 68 rfl rfl rfl hc76) rfl rfl rfl (bEqV _ _ _ _ #[.int .u8 x77.Kind, .bool x77.Purl, iv x77.A, iv x77.B] #[.int .u8 x82.Kind, .bool x82.Purl, iv x82.A, iv x82.B] ((x77.Kind == x82.Kind) && ((x77.Purl == x82.Purl) && ((x77.A == x82.A) && ((x77.B == x82.B) && true)))) (by kernel_rfl) (eqlV_of (by kernel_rfl))) rfl (lb rfl) fun a S => ?_
        exact leafL ⟨rfl, S⟩
      · refine fI 78 (.bool ((x77.Kind == x82.Kind) && ((x77.Purl == x82.Purl) && ((x77.A == x82.A) && ((x77.B == x82.B) && true))))) [(68, .bool (decide (s46 < (p1.length : Int)))), (77, .bool ((x77.Kind == x82.Kind) && ((x77.Purl == x82.Purl) && ((x77.A == x82.A) && ((x77.B == x82.B) && true)))))] 20 [some 10, some 19] rfl rfl rfl rfl rfl rfl fun G a w S => ?_
        refine sPickT (.bool ((x77.Kind == x82.Kind) && ((x77.Purl == x82.Purl) && ((x77.A == x82.A) && ((x77.B == x82.B) && true))))) S (wN rfl) rfl rfl hc76 rfl rfl (lb rfl) fun a S => ?_
        exact leafL ⟨rfl, S⟩
      · refine fI 79 (.bool ((x77.Kind == x82.Kind) && ((x77.Purl == x82.Purl) && ((x77.A == x82.A) && ((x77.B == x82.B) && true))))) [(78, .bool ((x77.Kind == x82.Kind) && ((x77.Purl == x82.Purl) && ((x77.A == x82.A) && ((x77.B == x82.B) && true)))))] 21 [some 20] rfl rfl rfl rfl rfl rfl fun G a w S => ?_
        refine sMove (.bool ((x77.Kind == x82.Kind) && ((x77.Purl == x82.Purl) && ((x77.A == x82.A) && ((x77.B == x82.B) && true))))) S (wN rfl) (.inl rfl) rfl rfl (lb rfl) fun a S => ?_
        exact leafL ⟨rfl, S⟩
      · refine fI 80 undef [(14, iv x67), (79, .bool ((x77.Kind == x82.Kind) && ((x77.Purl == x82.Purl) && ((x77.A == x82.A) && ((x77.B == x82.B) && true)))))] 22 [none, some 21] rfl rfl rfl rfl rfl rfl fun G a w S => ?_
        refine sSkip 21 true 79 80 S rfl rfl rfl hc87 rfl (lb rfl) fun a S => ?_
        exact leafL ⟨rfl, S⟩
      · refine fI 81 undef [(10, .slice ad33 r30.length cp34), (79, .bool ((x77.Kind == x82.Kind) && ((x77.Purl == x82.Purl) && ((x77.A == x82.A) && ((x77.B == x82.B) && true)))))] 23 [none, some 21] rfl rfl rfl rfl rfl rfl fun G a w S => ?_
        refine sSkip 21 true 79 81 S rfl rfl rfl hc87 rfl (lb rfl) fun a S => ?_
        exact leafL ⟨rfl, S⟩
      · refine fI 82 undef [(12, iv s45), (79, .bool ((x77.Kind == x82.Kind) && ((x77.Purl == x82.Purl) && ((x77.A == x82.A) && ((x77.B == x82.B) && true)))))] 24 [none, some 21] rfl rfl rfl rfl rfl rfl fun G a w S => ?_
        refine sSkip 21 true 79 82 S rfl rfl rfl hc87 rfl (lb rfl) fun a S => ?_
        exact leafL ⟨rfl, S⟩
      · refine fI 83 undef [(82, undef), (79, .bool ((x77.Kind == x82.Kind) && ((x77.Purl == x82.Purl) && ((x77.A == x82.A) && ((x77.B == x82.B) && true)))))] 25 [some 24, some 21] rfl rfl rfl rfl rfl rfl fun G a w S => ?_
        refine sSkip 21 true 79 83 S rfl rfl rfl hc87 rfl (lb rfl) fun a S => ?_
        exact leafL ⟨rfl, S⟩
      · refine fI 84 undef [(81, undef), (83, undef), (79, .bool ((x77.Kind == x82.Kind) && ((x77.Purl == x82.Purl) && ((x77.A == x82.A) && ((x77.B == x82.B) && true)))))] 26 [some 23, some 25, some 21] rfl rfl rfl rfl rfl rfl fun G a w S => ?_
        refine sSkip 21 true 79 84 S rfl rfl rfl hc87 rfl (lb rfl) fun a S => ?_
        exact leafL ⟨rfl, S⟩
      · refine fI 85 undef [(84, undef), (79, .bool ((x77.Kind == x82.Kind) && ((x77.Purl == x82.Purl) && ((x77.A == x82.A) && ((x77.B == x82.B) && true)))))] 27 [some 26, some 21] rfl rfl rfl rfl rfl rfl fun G a w S => ?_
        refine sSkip 21 true 79 85 S rfl rfl rfl hc87 rfl (lb rfl) fun a S => ?_
        exact leafL ⟨rfl, S⟩
      · refine fI 86 undef [(13, iv s46), (79, .bool ((x77.Kind == x82.Kind) && ((x77.Purl == x82.Purl) && ((x77.A == x82.A) && ((x77.B == x82.B) && true)))))] 28 [none, some 21] rfl rfl rfl rfl rfl rfl fun G a w S => ?_
        refine sSkip 21 true 79 86 S rfl rfl rfl hc87 rfl (lb rfl) fun a S => ?_
        exact leafL ⟨rfl, S⟩
      · refine fI 87 undef [(86, undef), (79, .bool ((x77.Kind == x82.Kind) && ((x77.Purl == x82.Purl) && ((x77.A == x82.A) && ((x77.B == x82.B) && true)))))] 29 [some 28, some 21] rfl rfl rfl rfl rfl rfl fun G a w S => ?_
        refine sSkip 21 true 79 87 S rfl rfl rfl hc87 rfl (lb rfl) fun a S => ?_
        exact leafL ⟨rfl, S⟩
      · refine fI 88 undef [(85, undef), (87, undef), (79, .bool ((x77.Kind == x82.Kind) && ((x77.Purl == x82.Purl) && ((x77.A == x82.A) && ((x77.B == x82.B) && true)))))] 30 [some 27, some 29, some 21] rfl rfl rfl rfl rfl rfl fun G a w S => ?_
        refine sSkip 21 true 79 88 S rfl rfl rfl hc87 rfl (lb rfl) fun a S => ?_
        exact leafL ⟨rfl, S⟩
      · refine fI 89 undef [(88, undef), (79, .bool ((x77.Kind == x82.Kind) && ((x77.Purl == x82.Purl) && ((x77.A == x82.A) && ((x77.B == x82.B) && true)))))] 31 [some 30, some 21] rfl rfl rfl rfl rfl rfl fun G a w S => ?_
        refine sSkip 21 true 79 89 S rfl rfl rfl hc87 rfl (lb rfl) fun a S => ?_
        exact leafL ⟨rfl, S⟩
      · refine fI 90 undef [(80, undef), (89, undef), (79, .bool ((x77.Kind == x82.Kind) && ((x77.Purl == x82.Purl) && ((x77.A == x82.A) && ((x77.B == x82.B) && true)))))] 32 [some 22, some 31, some 21] rfl rfl rfl rfl rfl rfl fun G a w S => ?_
        refine sSkip 21 true 79 90 S rfl rfl rfl hc87 rfl (lb rfl) fun a S => ?_
        exact leafL ⟨rfl, S⟩
      · refine fI 91 (.bool false) [(79, .bool ((x77.Kind == x82.Kind) && ((x77.Purl == x82.Purl) && ((x77.A == x82.A) && ((x77.B == x82.B) && true))))), (90, undef)] 33 [some 21, some 32] rfl rfl rfl rfl rfl rfl fun G a w S => ?_
        refine sPickF (.bool false) S (wN rfl) rfl rfl hc87 rfl rfl (lb rfl) fun a S => ?_
        exact leafL ⟨rfl, S⟩
      · refine fI 57 (.bool false) [(91, .bool false)] 34 [some 33] rfl rfl rfl rfl rfl rfl fun G a w S => ?_
        refine sMove (.bool false) S (wN rfl) (.inr rfl) rfl rfl (lb rfl) fun a S => ?_
        exact leafL ⟨rfl, S⟩
      exact leafT (⟨false, Option.some.inj h, S.fix [0] [12, 13, 14] (by decide) rfl rfl rfl⟩)
    obtain ⟨x88, hx89, h⟩ := bindSome h
    obtain ⟨x95, hx96, h⟩ := bindSome h
    obtain ⟨q100, hq101, S⟩ := pIdx (P := Try.prog) (r := r_api_Stitch) (v := .slice ad1 p0.length cp2) (xs := p0) (j := s45) 47 81 6 S Try.underlying47 rfl rfl hx78
    obtain ⟨u102, S⟩ := pLoad (r := r_api_Stitch) (q := q100) (x := x77) 0 S rfl
    obtain rfl : u102 = .agg #[.int .u8 x77.Kind, .bool x77.Purl, iv x77.A, iv x77.B] := S.mem.know (i := 1) (e := fRep r_api_Stitch (u102) x77) rfl
    obtain ⟨q103, hq104, S⟩ := pIdx (P := Try.prog) (r := r_api_Stitch) (v := .slice ad3 p1.length cp4) (xs := p1) (j := s46) 47 81 10 S Try.underlying47 rfl rfl hx83
    obtain ⟨u105, S⟩ := pLoad (r := r_api_Stitch) (q := q103) (x := x82) 0 S rfl
    obtain rfl : u105 = .agg #[.int .u8 x82.Kind, .bool x82.Purl, iv x82.A, iv x82.B] := S.mem.know (i := 1) (e := fRep r_api_Stitch (u105) x82) rfl
    obtain ⟨q106, hq107, S⟩ := pIdx (P := Try.prog) (r := (rL (rI .i64))) (v := .slice ad33 r30.length cp34) (xs := r30) (j := w64 (s45 + 1)) 98 101 14 S Try.underlying98 rfl rfl hx89
    obtain ⟨u108, S⟩ := pLoad (r := (rL (rI .i64))) (q := q106) (x := x88) 0 S rfl
    obtain ⟨ad109, cp110, _, rfl, _⟩ := S.mem.know (i := 1) (e := fRep (rL (rI .i64)) (u108) x88) rfl
    obtain ⟨q111, hq112, S⟩ := pIdx (P := Try.prog) (r := (rI .i64)) (v := .slice ad109 x88.length cp110) (xs := x88) (j := w64 (s46 + 1)) 101 3 1 S Try.underlying101 rfl rfl hx96
    obtain ⟨u113, S⟩ := pLoad (r := (rI .i64)) (q := q111) (x := x95) 0 S rfl
    obtain rfl : u113 = iv x95 := S.mem.know (i := 1) (e := fRep (rI .i64) (u113) x95) rfl
    refine sDraw (nf := []) (W := [(0, 58, iv s45), (1, 59, .slice ad1 p0.length cp2), (2, 60, iv (p0.length : Int)), (3, 61, .bool (decide (s45 < (p0.length : Int)))), (4, 62, .bool (decide (s45 < (p0.length : Int)))), (5, 63, iv s46), (6, 64, .slice ad3 p1.length cp4), (7, 65, iv (p1.length : Int)), (8, 66, .bool (decide (s46 < (p1.length : Int)))), (9, 67, .bool (decide (s46 < (p1.length : Int)))), (10, 68, .bool (decide (s46 < (p1.length : Int)))), (11, 69, .slice ad1 p0.length cp2), (12, 70, iv s45), (13, 71, q100), (14, 72, .agg #[.int .u8 x77.Kind, .bool x77.Purl, iv x77.A, iv x77.B]), (15, 73, .slice ad3 p1.length cp4), (16, 74, iv s46), (17, 75, q103), (18, 76, .agg #[.int .u8 x82.Kind, .bool x82.Purl, iv x82.A, iv x82.B]), (19, 77, .bool ((x77.Kind == x82.Kind) && ((x77.Purl == x82.Purl) && ((x77.A == x82.A) && ((x77.B == x82.B) && true))))), (20, 78, .bool ((x77.Kind == x82.Kind) && ((x77.Purl == x82.Purl) && ((x77.A == x82.A) && ((x77.B == x82.B) && true))))), (21, 79, .bool ((x77.Kind == x82.Kind) && ((x77.Purl == x82.Purl) && ((x77.A == x82.A) && ((x77.B == x82.B) && true))))), (22, 80, iv x67), (23, 81, .slice ad33 r30.length cp34), (24, 82, iv s45), (25, 83, iv (w64 (s45 + 1))), (26, 84, q106), (27, 85, .slice ad109 x88.length cp110), (28, 86, iv s46), (29, 87, iv (w64 (s46 + 1))), (30, 88, q111), (31, 89, iv x95), (32, 90, .bool (x67 == x95)), (33, 91, .bool (x67 == x95)), (34, 57, .bool (x67 == x95))]) rfl S ?_
    refine node_by (A := anc_compare_Edits_0) (nf := []) (Y := []) (W := [(0, 58, iv s45), (1, 59, .slice ad1 p0.length cp2), (2, 60, iv (p0.length : Int)), (3, 61, .bool (decide (s45 < (p0.length : Int)))), (4, 62, .bool (decide (s45 < (p0.length : Int)))), (5, 63, iv s46), (6, 64, .slice ad3 p1.length cp4), (7, 65, iv (p1.length : Int)), (8, 66, .bool (decide (s46 < (p1.length : Int)))), (9, 67, .bool (decide (s46 < (p1.length : Int)))), (10, 68, .bool (decide (s46 < (p1.length : Int)))), (11, 69, .slice ad1 p0.length cp2), (12, 70, iv s45), (13, 71, q100), (14, 72, .agg #[.int .u8 x77.Kind, .bool x77.Purl, iv x77.A, iv x77.B]), (15, 73, .slice ad3 p1.length cp4), (16, 74, iv s46), (17, 75, q103), (18, 76, .agg #[.int .u8 x82.Kind, .bool x82.Purl, iv x82.A, iv x82.B]), (19, 77, .bool ((x77.Kind == x82.Kind) && ((x77.Purl == x82.Purl) && ((x77.A == x82.A) && ((x77.B == x82.B) && true))))), (20, 78, .bool ((x77.Kind == x82.Kind) && ((x77.Purl == x82.Purl) && ((x77.A == x82.A) && ((x77.B == x82.B) && true))))), (21, 79, .bool ((x77.Kind == x82.Kind) && ((x77.Purl == x82.Purl) && ((x77.A == x82.A) && ((x77.B == x82.B) && true))))), (22, 80, iv x67), (23, 81, .slice ad33 r30.length cp34), (24, 82, iv s45), (25, 83, iv (w64 (s45 + 1))), (26, 84, q106), (27, 85, .slice ad109 x88.length cp110), (28, 86, iv s46), (29, 87, iv (w64 (s46 + 1))), (30, 88, q111), (31, 89, iv x95), (32, 90, .bool (x67 == x95)), (33, 91, .bool (x67 == x95)), (34, 57, .bool (x67 == x95))]) 35 (by kernel_rfl) (by kernel_rfl) (by kernel_rfl) (by kernel_rfl) (by kernel_rfl) [0, 1, 2, 3, 4, 5, 6, 7, 8, 9, 10, 11, 12, 13, 14, 15, 16, 17, 18, 19, 20, 21, 22, 23, 24, 25, 26, 27, 28, 29, 30, 31, 32, 33, 34] (by kernel_rfl) (by decide) (by decide) (aF 0 34 (by decide) ?_ (aF 1 33 (by decide) ?_ (aF 2 32 (by decide) ?_ (aF 3 31 (by decide) ?_ (aF 4 30 (by decide) ?_ (aF 5 29 (by decide) ?_ (aF 6 28 (by decide) ?_ (aF 7 27 (by decide) ?_ (aF 8 26 (by decide) ?_ (aF 9 25 (by decide) ?_ (aF 10 24 (by decide) ?_ (aF 11 23 (by decide) ?_ (aF 12 22 (by decide) ?_ (aF 13 21 (by decide) ?_ (aF 14 20 (by decide) ?_ (aF 15 19 (by decide) ?_ (aF 16 18 (by decide) ?_ (aF 17 17 (by decide) ?_ (aF 18 16 (by decide) ?_ (aF 19 15 (by decide) ?_ (aF 20 14 (by decide) ?_ (aF 21 13 (by decide) ?_ (aF 22 12 (by decide) ?_ (aF 23 11 (by decide) ?_ (aF 24 10 (by decide) ?_ (aF 25 9 (by decide) ?_ (aF 26 8 (by decide) ?_ (aF 27 7 (by decide) ?_ (aF 28 6 (by decide) ?_ (aF 29 5 (by decide) ?_ (aF 30 4 (by decide) ?_ (aF 31 3 (by decide) ?_ (aF 32 2 (by decide) ?_ (aF 33 1 (by decide) ?_ (aF 34 0 (by decide) ?_ (trivial)))))))))))))))))))))))))))))))))))) [(0, .slice ad1 p0.length cp2), (1, .slice ad3 p1.length cp4), (10, .slice ad33 r30.length cp34), (11, .slice ad43 s42.length cp44), (12, iv s45), (13, iv s46), (14, iv x67), (57, .bool (x67 == x95)), (63, iv s46), (64, .slice ad3 p1.length cp4), (65, iv (p1.length : Int)), (66, .bool (decide (s46 < (p1.length : Int)))), (69, .slice ad1 p0.length cp2), (70, iv s45), (71, q100), (72, .agg #[.int .u8 x77.Kind, .bool x77.Purl, iv x77.A, iv x77.B]), (73, .slice ad3 p1.length cp4), (74, iv s46), (75, q103), (76, .agg #[.int .u8 x82.Kind, .bool x82.Purl, iv x82.A, iv x82.B]), (77, .bool ((x77.Kind == x82.Kind) && ((x77.Purl == x82.Purl) && ((x77.A == x82.A) && ((x77.B == x82.B) && true))))), (80, iv x67), (81, .slice ad33 r30.length cp34), (82, iv s45), (83, iv (w64 (s45 + 1))), (84, q106), (85, .slice ad109 x88.length cp110), (86, iv s46), (87, iv (w64 (s46 + 1))), (88, q111), (89, iv x95), (90, .bool (x67 == x95))] (fin_of [none, none, none, none, none, none, none, some 34, some 5, some 6, some 7, some 8, some 11, some 12, some 13, some 14, some 15, some 16, some 17, some 18, some 19, some 22, some 23, some 24, some 25, some 26, some 27, some 28, some 29, some 30, some 31, some 32] rfl (by kernel_rfl) (by kernel_rfl)) (fun _ a w S => ?_)
    · refine fI 58 (iv s45) [(12, iv s45)] 0 [none] rfl rfl rfl rfl rfl rfl fun G a w S => ?_
      refine sMove (iv s45) S (wN rfl) (.inl rfl) rfl rfl (lb rfl) fun a S => ?_
      exact leafL ⟨rfl, S⟩
    · refine fI 59 (.slice ad1 p0.length cp2) [(0, .slice ad1 p0.length cp2)] 1 [none] rfl rfl rfl rfl rfl rfl fun G a w S => ?_
      refine sMove (.slice ad1 p0.length cp2) S (wN rfl) (.inl rfl) rfl rfl (lb rfl) fun a S => ?_
      exact leafL ⟨rfl, S⟩
    · refine fI 60 (iv (p0.length : Int)) [(59, .slice ad1 p0.length cp2)] 2 [some 1] rfl rfl rfl rfl rfl rfl fun G a w S => ?_
      refine sLen (ad := ad1) (m := p0.length) (c := cp2) S (wN rfl) rfl Try.underlying47 rfl rfl (lb rfl) fun a S => ?_
      exact leafL ⟨rfl, S⟩
    · refine fI 61 (.bool (decide (s45 < (p0.length : Int)))) [(58, iv s45), (60, iv (p0.length : Int))] 3 [some 0, some 2] rfl rfl rfl rfl rfl rfl fun G a w S => ?_
      refine sBin (.bool (decide (s45 < (p0.length : Int)))) S (wN rfl) rfl rfl rfl (bLt _ _ _ _ .i64 s45 (p0.length : Int)) rfl (lb rfl) fun a S => ?_
      exact leafL ⟨rfl, S⟩
    · refine fI 62 (.bool (decide (s45 < (p0.length : Int)))) [(61, .bool (decide (s45 < (p0.length : Int))))] 4 [some 3] rfl rfl rfl rfl rfl rfl fun G a w S => ?_
      refine sMove (.bool (decide (s45 < (p0.length : Int)))) S (wN rfl) (.inl rfl) rfl rfl (lb rfl) fun a S => ?_
      exact leafL ⟨rfl, S⟩
    · refine fI 63 (iv s46) [(13, iv s46), (62, .bool (decide (s45 < (p0.length : Int))))] 5 [none, some 4] rfl rfl rfl rfl rfl rfl fun G a w S => ?_
      refine sMove (iv s46) S (wG 4 true 62 rfl rfl rfl hc75) (.inl rfl) rfl rfl (lb rfl) fun a S => ?_
      exact leafL ⟨rfl, S⟩
    · refine fI 64 (.slice ad3 p1.length cp4) [(1, .slice ad3 p1.length cp4), (62, .bool (decide (s45 < (p0.length : Int))))] 6 [none, some 4] rfl rfl rfl rfl rfl rfl fun G a w S => ?_
      refine sMove (.slice ad3 p1.length cp4) S (wG 4 true 62 rfl rfl rfl hc75) (.inl rfl) rfl rfl (lb rfl) fun a S => ?_
      exact leafL ⟨rfl, S⟩
    · refine fI 65 (iv (p1.length : Int)) [(64, .slice ad3 p1.length cp4), (62, .bool (decide (s45 < (p0.length : Int))))] 7 [some 6, some 4] rfl rfl rfl rfl rfl rfl fun G a w S => ?_
      refine sLen (ad := ad3) (m := p1.length) (c := cp4) S (wG 4 true 62 rfl rfl rfl hc75) rfl Try.underlying47 rfl rfl (lb rfl) fun a S => ?_
      exact leafL ⟨rfl, S⟩
    · refine fI 66 (.bool (decide (s46 < (p1.length : Int)))) [(63, iv s46), (65, iv (p1.length : Int)), (62, .bool (decide (s45 < (p0.length : Int))))] 8 [some 5, some 7, some 4] rfl rfl rfl rfl rfl rfl fun G a w S => ?_
      refine sBin (.bool (decide (s46 < (p1.length : Int)))) S (wG 4 true 62 rfl rfl rfl hc75) rfl rfl rfl (bLt _ _ _ _ .i64 s46 (p1.length : Int)) rfl (lb rfl) fun a S => ?_
      exact leafL ⟨rfl, S⟩
    · refine fI 67 (.bool (decide (s46 < (p1.length : Int)))) [(62, .bool (decide (s45 < (p0.length : Int)))), (66, .bool (decide (s46 < (p1.length : Int))))] 9 [some 4, some 8] rfl rfl rfl rfl rfl rfl fun G a w S => ?_
      refine sPickT (.bool (decide (s46 < (p1.length : Int)))) S (wN rfl) rfl rfl hc75 rfl rfl (lb rfl) fun a S => ?_
      exact leafL ⟨rfl, S⟩
    · refine fI 68 (.bool (decide (s46 < (p1.length : Int)))) [(67, .bool (decide (s46 < (p1.length : Int))))] 10 [some 9] rfl rfl rfl rfl rfl rfl fun G a w S => ?_
      refine sMove (.bool (decide (s46 < (p1.length : Int)))) S (wN rfl) (.inl rfl) rfl rfl (lb rfl) fun a S => ?_
      exact leafL ⟨rfl, S⟩
    · refine fI 69 (.slice ad1 p0.length cp2) [(0, .slice ad1 p0.length cp2), (68, .bool (decide (s46 < (p1.length : Int))))] 11 [none, some 10] rfl rfl rfl rfl rfl rfl fun G a w S => ?_
      refine sMove (.slice ad1 p0.length cp2) S (wG 10 true 68 rfl rfl rfl hc76) (.inl rfl) rfl rfl (lb rfl) fun a S => ?_
      exact leafL ⟨rfl, S⟩
    · refine fI 70 (iv s45) [(12, iv s45), (68, .bool (decide (s46 < (p1.length : Int))))] 12 [none, some 10] rfl rfl rfl rfl rfl rfl fun G a w S => ?_
      refine sMove (iv s45) S (wG 10 true 68 rfl rfl rfl hc76) (.inl rfl) rfl rfl (lb rfl) fun a S => ?_
      exact leafL ⟨rfl, S⟩
    · refine fI 71 q100 [(69, .slice ad1 p0.length cp2), (70, iv s45), (68, .bool (decide (s46 < (p1.length : Int))))] 13 [some 11, some 12, some 10] rfl rfl rfl rfl rfl rfl fun G a w S => ?_
      refine sIdxV (v := .slice ad1 p0.length cp2) (k := .i64) (j := s45) S (wG 10 true 68 rfl rfl rfl hc76) rfl rfl rfl hq101 rfl (lb rfl) fun a S => ?_
      exact leafL ⟨rfl, S⟩
    · refine fI 72 (.agg #[.int .u8 x77.Kind, .bool x77.Purl, iv x77.A, iv x77.B]) [(71, q100), (68, .bool (decide (s46 < (p1.length : Int))))] 14 [some 13, some 10] rfl rfl rfl rfl rfl rfl fun G a w S => ?_
      refine sLoadVN (vq := q100) 9 [.int .u8 x77.Kind, .bool x77.Purl, iv x77.A, iv x77.B] S (wG 10 true 68 rfl rfl rfl hc76) rfl rfl rfl rfl rfl rfl (lb rfl) fun a S => ?_
      exact leafL ⟨rfl, S⟩
    · refine fI 73 (.slice ad3 p1.length cp4) [(1, .slice ad3 p1.length cp4), (68, .bool (decide (s46 < (p1.length : Int))))] 15 [none, some 10] rfl rfl rfl rfl rfl rfl fun G a w S => ?_
      refine sMove (.slice ad3 p1.length cp4) S (wG 10 true 68 rfl rfl rfl hc76) (.inl rfl) rfl rfl (lb rfl) fun a S => ?_
      exact leafL ⟨rfl, S⟩
    · refine fI 74 (iv s46) [(13, iv s46), (68, .bool (decide (s46 < (p1.length : Int))))] 16 [none, some 10] rfl rfl rfl rfl rfl rfl fun G a w S => ?_
      refine sMove (iv s46) S (wG 10 true 68 rfl rfl rfl hc76) (.inl rfl) rfl rfl (lb rfl) fun a S => ?_
      exact leafL ⟨rfl, S⟩
    · refine fI 75 q103 [(73, .slice ad3 p1.length cp4), (74, iv s46), (68, .bool (decide (s46 < (p1.length : Int))))] 17 [some 15, some 16, some 10] rfl rfl rfl rfl rfl rfl fun G a w S => ?_
      refine sIdxV (v := .slice ad3 p1.length cp4) (k := .i64) (j := s46) S (wG 10 true 68 rfl rfl rfl hc76) rfl rfl rfl hq104 rfl (lb rfl) fun a S => ?_
      exact leafL ⟨rfl, S⟩
    · refine fI 76 (.agg #[.int .u8 x82.Kind, .bool x82.Purl, iv x82.A, iv x82.B]) [(75, q103), (68, .bool (decide (s46 < (p1.length : Int))))] 18 [some 17, some 10] rfl rfl rfl rfl rfl rfl fun G a w S => ?_
      refine sLoadVN (vq := q103) 6 [.int .u8 x82.Kind, .bool x82.Purl, iv x82.A, iv x82.B] S (wG 10 true 68 rfl rfl rfl hc76) rfl rfl rfl rfl rfl rfl (lb rfl) fun a S => ?_
      exact leafL ⟨rfl, S⟩
    · refine fI 77 (.bool ((x77.Kind == x82.Kind) && ((x77.Purl == x82.Purl) && ((x77.A == x82.A) && ((x77.B == x82.B) && true))))) [(72, .agg #[.int .u8 x77.Kind, .bool x77.Purl, iv x77.A, iv x77.B]), (76, .agg #[.int .u8 x82.Kind, .bool x82.Purl, iv x82.A, iv x82.B]), (68, .bool (decide (s46 < (p1.length : Int))))] 19 [some 14, some 18, some 10] rfl rfl rfl rfl rfl rfl fun G a w S => ?_
      refine sBin (.bool ((x77.Kind == x82.Kind) && ((x77.Purl == x82.Purl) && ((x77.A == x82.A) && ((x77.B == x82.B) && true))))) S (wG 10 true 68 rfl rfl rfl hc76) rfl rfl rfl (bEqV _ _ _ _ #[.int .u8 x77.Kind, .bool x77.Purl, iv x77.A, iv x77.B] #[.int .u8 x82.Kind, .bool x82.Purl, iv x82.A, iv x82.B] ((x77.Kind == x82.Kind) && ((x77.Purl == x82.Purl) && ((x77.A == x82.A) && ((x77.B == x82.B) && true)))) (by kernel_rfl) (eqlV_of (by kernel_rfl))) rfl (lb rfl) fun a S => ?_
      exact leafL ⟨rfl, S⟩
    · refine fI 78 (.bool ((x77.Kind == x82.Kind) && ((x77.Purl == x82.Purl) && ((x77.A == x82.A) && ((x77.B == x82.B) && true))))) [(68, .bool (decide (s46 < (p1.length : Int)))), (77, .bool ((x77.Kind == x82.Kind) && ((x77.Purl == x82.Purl) && ((x77.A == x82.A) && ((x77.B == x82.B) && true)))))] 20 [some 10, some 19] rfl rfl rfl rfl rfl rfl fun G a w S => ?_
      refine sPickT (.bool ((x77.Kind == x82.Kind) && ((x77.Purl == x82.Purl) && ((x77.A == x82.A) && ((x77.B == x82.B) && true))))) S (wN rfl) rfl rfl hc76 rfl rfl (lb rfl) fun a S => ?_
      exact leafL ⟨rfl, S⟩
    · refine fI 79 (.bool ((x77.Kind == x82.Kind) && ((x77.Purl == x82.Purl) && ((x77.A == x82.A) && ((x77.B == x82.B) && true))))) [(78, .bool ((x77.Kind == x82.Kind) && ((x77.Purl == x82.Purl) && ((x77.A == x82.A) && ((x77.B == x82.B) && true)))))] 21 [some 20] rfl rfl rfl rfl rfl rfl fun G a w S => ?_
      refine sMove (.bool ((x77.Kind == x82.Kind) && ((x77.Purl == x82.Purl) && ((x77.A == x82.A) && ((x77.B == x82.B) && true))))) S (wN rfl) (.inl rfl) rfl rfl (lb rfl) fun a S => ?_
      exact leafL ⟨rfl, S⟩
    · refine fI 80 (iv x67) [(14, iv x67), (79, .bool ((x77.Kind == x82.Kind) && ((x77.Purl == x82.Purl) && ((x77.A == x82.A) && ((x77.B == x82.B) && true)))))] 22 [none, some 21] rfl rfl rfl rfl rfl rfl fun G a w S => ?_
      refine sMove (iv x67) S (wG 21 true 79 rfl rfl rfl hc87) (.inl rfl) rfl rfl (lb rfl) fun a S => ?_
      exact leafL ⟨rfl, S⟩
    · refine fI 81 (.slice ad33 r30.length cp34) [(10, .slice ad33 r30.length cp34), (79, .bool ((x77.Kind == x82.Kind) && ((x77.Purl == x82.Purl) && ((x77.A == x82.A) && ((x77.B == x82.B) && true)))))] 23 [none, some 21] rfl rfl rfl rfl rfl rfl fun G a w S => ?_
      refine sMove (.slice ad33 r30.length cp34) S (wG 21 true 79 rfl rfl rfl hc87) (.inl rfl) rfl rfl (lb rfl) fun a S => ?_
      exact leafL ⟨rfl, S⟩
    · refine fI 82 (iv s45) [(12, iv s45), (79, .bool ((x77.Kind == x82.Kind) && ((x77.Purl == x82.Purl) && ((x77.A == x82.A) && ((x77.B == x82.B) && true)))))] 24 [none, some 21] rfl rfl rfl rfl rfl rfl fun G a w S => ?_
      refine sMove (iv s45) S (wG 21 true 79 rfl rfl rfl hc87) (.inl rfl) rfl rfl (lb rfl) fun a S => ?_
      exact leafL ⟨rfl, S⟩
    · refine fI 83 (iv (w64 (s45 + 1))) [(82, iv s45), (79, .bool ((x77.Kind == x82.Kind) && ((x77.Purl == x82.Purl) && ((x77.A == x82.A) && ((x77.B == x82.B) && true)))))] 25 [some 24, some 21] rfl rfl rfl rfl rfl rfl fun G a w S => ?_
      refine sBin (iv (w64 (s45 + 1))) S (wG 21 true 79 rfl rfl rfl hc87) rfl rfl rfl (bAdd _ _ _ _ s45 1) rfl (lb rfl) fun a S => ?_
      exact leafL ⟨rfl, S⟩
    · refine fI 84 q106 [(81, .slice ad33 r30.length cp34), (83, iv (w64 (s45 + 1))), (79, .bool ((x77.Kind == x82.Kind) && ((x77.Purl == x82.Purl) && ((x77.A == x82.A) && ((x77.B == x82.B) && true)))))] 26 [some 23, some 25, some 21] rfl rfl rfl rfl rfl rfl fun G a w S => ?_
      refine sIdxV (v := .slice ad33 r30.length cp34) (k := .i64) (j := w64 (s45 + 1)) S (wG 21 true 79 rfl rfl rfl hc87) rfl rfl rfl hq107 rfl (lb rfl) fun a S => ?_
      exact leafL ⟨rfl, S⟩
    · refine fI 85 (.slice ad109 x88.length cp110) [(84, q106), (79, .bool ((x77.Kind == x82.Kind) && ((x77.Purl == x82.Purl) && ((x77.A == x82.A) && ((x77.B == x82.B) && true)))))] 27 [some 26, some 21] rfl rfl rfl rfl rfl rfl fun G a w S => ?_
      refine sLoadV1 (vq := q106) 3 (.slice ad109 x88.length cp110) S (wG 21 true 79 rfl rfl rfl hc87) rfl rfl rfl rfl rfl (lb rfl) fun a S => ?_
      exact leafL ⟨rfl, S⟩
    · refine fI 86 (iv s46) [(13, iv s46), (79, .bool ((x77.Kind == x82.Kind) && ((x77.Purl == x82.Purl) && ((x77.A == x82.A) && ((x77.B == x82.B) && true)))))] 28 [none, some 21] rfl rfl rfl rfl rfl rfl fun G a w S => ?_
      refine sMove (iv s46) S (wG 21 true 79 rfl rfl rfl hc87) (.inl rfl) rfl rfl (lb rfl) fun a S => ?_
      exact leafL ⟨rfl, S⟩
    · refine fI 87 (iv (w64 (s46 + 1))) [(86, iv s46), (79, .bool ((x77.Kind == x82.Kind) && ((x77.Purl == x82.Purl) && ((x77.A == x82.A) && ((x77.B == x82.B) && true)))))] 29 [some 28, some 21] rfl rfl rfl rfl rfl rfl fun G a w S => ?_
      refine sBin (iv (w64 (s46 + 1))) S (wG 21 true 79 rfl rfl rfl hc87) rfl rfl rfl (bAdd _ _ _ _ s46 1) rfl (lb rfl) fun a S => ?_
      exact leafL ⟨rfl, S⟩
    · refine fI 88 q111 [(85, .slice ad109 x88.length cp110), (87, iv (w64 (s46 + 1))), (79, .bool ((x77.Kind == x82.Kind) && ((x77.Purl == x82.Purl) && ((x77.A == x82.A) && ((x77.B == x82.B) && true)))))] 30 [some 27, some 29, some 21] rfl rfl rfl rfl rfl rfl fun G a w S => ?_
      refine sIdxV (v := .slice ad109 x88.length cp110) (k := .i64) (j := w64 (s46 + 1)) S (wG 21 true 79 rfl rfl rfl hc87) rfl rfl rfl hq112 rfl (lb rfl) fun a S => ?_
      exact leafL ⟨rfl, S⟩
    · refine fI 89 (iv x95) [(88, q111), (79, .bool ((x77.Kind == x82.Kind) && ((x77.Purl == x82.Purl) && ((x77.A == x82.A) && ((x77.B == x82.B) && true)))))] 31 [some 30, some 21] rfl rfl rfl rfl rfl rfl fun G a w S => ?_
      refine sLoadV1 (vq := q111) 0 (iv x95) S (wG 21 true 79 rfl rfl rfl hc87) rfl rfl rfl rfl rfl (lb rfl) fun a S => ?_
      exact leafL ⟨rfl, S⟩
    · refine fI 90 (.bool (x67 == x95)) [(80, iv x67), (89, iv x95), (79, .bool ((x77.Kind == x82.Kind) && ((x77.Purl == x82.Purl) && ((x77.A == x82.A) && ((x77.B == x82.B) && true)))))] 32 [some 22, some 31, some 21] rfl rfl rfl rfl rfl rfl fun G a w S => ?_
      refine sBin (.bool (x67 == x95)) S (wG 21 true 79 rfl rfl rfl hc87) rfl rfl rfl (bEq _ _ _ _ .i64 x67 x95) rfl (lb rfl) fun a S => ?_
      exact leafL ⟨rfl, S⟩
    · refine fI 91 (.bool (x67 == x95)) [(79, .bool ((x77.Kind == x82.Kind) && ((x77.Purl == x82.Purl) && ((x77.A == x82.A) && ((x77.B == x82.B) && true))))), (90, .bool (x67 == x95))] 33 [some 21, some 32] rfl rfl rfl rfl rfl rfl fun G a w S => ?_
      refine sPickT (.bool (x67 == x95)) S (wN rfl) rfl rfl hc87 rfl rfl (lb rfl) fun a S => ?_
      exact leafL ⟨rfl, S⟩
    · refine fI 57 (.bool (x67 == x95)) [(91, .bool (x67 == x95))] 34 [some 33] rfl rfl rfl rfl rfl rfl fun G a w S => ?_
      refine sMove (.bool (x67 == x95)) S (wN rfl) (.inr rfl) rfl rfl (lb rfl) fun a S => ?_
      exact leafL ⟨rfl, S⟩
    exact leafT (⟨x67 == x95, Option.some.inj h, S.fix [0] [18, 19, 20] (by decide) rfl rfl rfl⟩)
  obtain ⟨o72, rfl, S⟩ := hI
  have h := g74
  clear g74
  try dsimp only at h
  rcases iteSome h with ⟨hc120, h⟩ | ⟨hc120, h⟩
  · refine sCondT S rfl hc120 ?_
    refine sSeq (fun K121 hK121 => ?_)
    refine sRegion ?_
    refine sMove (.slice ad43 s42.length cp44) S (wN rfl) (.inl rfl) rfl rfl (lb rfl) fun a S => ?_
    refine sBuild [(0, .int .u8 1)] [.int .u8 1, .int .u8 0, .bool false, iv 0, iv 0] S (wN rfl) rfl rfl rfl rfl (lb rfl) fun a S => ?_
    have S := S.learn (fRep r_api_CellStep (.agg #[.int .u8 1, .int .u8 0, .bool false, iv 0, iv 0]) (api_CellStep.mk 1 (api_Stitch.mk 0 false 0 0))) rfl
    refine sLit (r := r_api_CellStep) (T := 83) (xs := [(api_CellStep.mk 1 (api_Stitch.mk 0 false 0 0))]) [(0, .agg #[.int .u8 1, .int .u8 0, .bool false, iv 0, iv 0])] 1 [.agg #[.int .u8 1, .int .u8 0, .bool false, iv 0, iv 0]] [.int .u8 1, .int .u8 0, .bool false, iv 0, iv 0] (.agg #[.int .u8 0, .int .u8 0, .bool false, iv 0, iv 0]) 32 S (wN rfl) rfl rfl Try.underlying48 rfl (by decide) (by decide) (by kernel_rfl) rfl (fun E1 w1 hE => All.cons (r_api_CellStep.mono hE (S.mem.know (i := 0) (e := fRep r_api_CellStep (.agg #[.int .u8 1, .int .u8 0, .bool false, iv 0, iv 0]) (api_CellStep.mk 1 (api_Stitch.mk 0 false 0 0))) rfl)) (All.nil _ _ _)) rfl rfl (lb rfl) fun a w ad122 cp123 S => ?_
    obtain ⟨l124, hx125, h⟩ := bindSome h
    refine sApp (r := r_api_CellStep) (T := 83) (xs := s42) (ys := [(api_CellStep.mk 1 (api_Stitch.mk 0 false 0 0))]) (v := .slice ad43 s42.length cp44) (u := .slice ad122 [(api_CellStep.mk 1 (api_Stitch.mk 0 false 0 0))].length cp123) 1 (.agg #[.int .u8 0, .int .u8 0, .bool false, iv 0, iv 0]) 32 S (wN rfl) rfl Try.underlying48 rfl rfl (by decide) rfl rfl rfl (src_R (T := 83) 0 S.mem rfl) hx125 rfl (lb rfl) fun a w ad126 cp127 S => ?_
    refine sMove (.slice ad126 l124.length cp127) S (wN rfl) (.inr rfl) rfl rfl (lb rfl) fun a S => ?_
    refine leafL (leafT (hK121 _ _ ?_))
    refine sSeq (fun K128 hK128 => ?_)
    refine sRegion ?_
    refine sMove (iv s45) S (wN rfl) (.inl rfl) rfl rfl (lb rfl) fun a S => ?_
    refine sBin (iv (w64 (s45 + 1))) S (wN rfl) rfl rfl rfl (bAdd _ _ _ _ s45 1) rfl (lb rfl) fun a S => ?_
    refine sMove (iv (w64 (s45 + 1))) S (wN rfl) (.inr rfl) rfl rfl (lb rfl) fun a S => ?_
    refine leafL (leafT (hK128 _ _ ?_))
    refine sRegion ?_
    refine sMove (iv s46) S (wN rfl) (.inl rfl) rfl rfl (lb rfl) fun a S => ?_
    refine sBin (iv (w64 (s46 + 1))) S (wN rfl) rfl rfl rfl (bAdd _ _ _ _ s46 1) rfl (lb rfl) fun a S => ?_
    refine sMove (iv (w64 (s46 + 1))) S (wN rfl) (.inr rfl) rfl rfl (lb rfl) fun a S => ?_
    exact leafL (leafB (leafB (leafT (⟨(l124, w64 (s45 + 1), w64 (s46 + 1)), (Option.some.inj h).symm, ⟨ad126, cp127, S.fix [0] [1, 2, 3] (by decide) rfl rfl rfl⟩⟩))))
  refine sCondF S rfl hc120 ?_
  obtain ⟨t130, h, g131⟩ := bindSome h
  refine sCut (fun a w => ∃ o129, o129 = t130 ∧ St [] E [] w0 178 a w [(0, .slice ad1 p0.length cp2), (1, .slice ad3 p1.length cp4), (10, .slice ad33 r30.length cp34), (11, .slice ad43 s42.length cp44), (12, iv s45), (13, iv s46), (14, iv x67), (100, .bool o129)] [eRow r_api_CellStep 83 (.slice ad43 s42.length cp44) s42] [fRep (rL r_api_Stitch) (.slice ad1 p0.length cp2) p0, fRep (rL r_api_Stitch) (.slice ad3 p1.length cp4) p1, fRep (rL (rL (rI .i64))) (.slice ad33 r30.length cp34) r30]) ?_ (fun a w hI => ?_)
  rotate_left
  · obtain ⟨o129, rfl, S⟩ := hI
    have h := g131
    clear g131
    try dsimp only at h
    rcases iteSome h with ⟨hc177, h⟩ | ⟨hc177, h⟩
    · refine sCondT S rfl hc177 ?_
      refine sSeq (fun K178 hK178 => ?_)
      refine sRegion ?_
      refine sMove (.slice ad43 s42.length cp44) S (wN rfl) (.inl rfl) rfl rfl (lb rfl) fun a S => ?_
      refine sMove (.slice ad3 p1.length cp4) S (wN rfl) (.inl rfl) rfl rfl (lb rfl) fun a S => ?_
      refine sMove (iv s46) S (wN rfl) (.inl rfl) rfl rfl (lb rfl) fun a S => ?_
      obtain ⟨x179, hx180, h⟩ := bindSome h
      obtain ⟨q181, hq182, S⟩ := pIdx (P := Try.prog) (r := r_api_Stitch) (v := .slice ad3 p1.length cp4) (xs := p1) (j := s46) 47 81 1 S Try.underlying47 rfl rfl hx180
      refine sIdxV (v := .slice ad3 p1.length cp4) (k := .i64) (j := s46) S (wN rfl) rfl rfl rfl hq182 rfl (lb rfl) fun a S => ?_
      obtain ⟨u183, S⟩ := pLoad (r := r_api_Stitch) (q := q181) (x := x179) 0 S rfl
      obtain rfl : u183 = .agg #[.int .u8 x179.Kind, .bool x179.Purl, iv x179.A, iv x179.B] := S.mem.know (i := 1) (e := fRep r_api_Stitch (u183) x179) rfl
      refine sLoadVN (vq := q181) 0 [.int .u8 x179.Kind, .bool x179.Purl, iv x179.A, iv x179.B] S (wN rfl) rfl rfl rfl rfl rfl rfl (lb rfl) fun a S => ?_
      refine sBuild [(0, .int .u8 2), (1, .agg #[.int .u8 x179.Kind, .bool x179.Purl, iv x179.A, iv x179.B])] [.int .u8 2, .int .u8 x179.Kind, .bool x179.Purl, iv x179.A, iv x179.B] S (wN rfl) rfl rfl rfl rfl (lb rfl) fun a S => ?_
      have S := S.learn (fRep r_api_CellStep (.agg #[.int .u8 2, .int .u8 x179.Kind, .bool x179.Purl, iv x179.A, iv x179.B]) (api_CellStep.mk 2 x179)) rfl
      refine sLit (r := r_api_CellStep) (T := 83) (xs := [(api_CellStep.mk 2 x179)]) [(0, .agg #[.int .u8 2, .int .u8 x179.Kind, .bool x179.Purl, iv x179.A, iv x179.B])] 1 [.agg #[.int .u8 2, .int .u8 x179.Kind, .bool x179.Purl, iv x179.A, iv x179.B]] [.int .u8 2, .int .u8 x179.Kind, .bool x179.Purl, iv x179.A, iv x179.B] (.agg #[.int .u8 0, .int .u8 0, .bool false, iv 0, iv 0]) 32 S (wN rfl) rfl rfl Try.underlying48 rfl (by decide) (by decide) (by kernel_rfl) rfl (fun E1 w1 hE => All.cons (r_api_CellStep.mono hE (S.mem.know (i := 0) (e := fRep r_api_CellStep (.agg #[.int .u8 2, .int .u8 x179.Kind, .bool x179.Purl, iv x179.A, iv x179.B]) (api_CellStep.mk 2 x179)) rfl)) (All.nil _ _ _)) rfl rfl (lb rfl) fun a w ad184 cp185 S => ?_
      obtain ⟨l186, hx187, h⟩ := bindSome h
      refine sApp (r := r_api_CellStep) (T := 83) (xs := s42) (ys := [(api_CellStep.mk 2 x179)]) (v := .slice ad43 s42.length cp44) (u := .slice ad184 [(api_CellStep.mk 2 x179)].length cp185) 1 (.agg #[.int .u8 0, .int .u8 0, .bool false, iv 0, iv 0]) 32 S (wN rfl) rfl Try.underlying48 rfl rfl (by decide) rfl rfl rfl (src_R (T := 83) 0 S.mem rfl) hx187 rfl (lb rfl) fun a w ad188 cp189 S => ?_
      refine sMove (.slice ad188 l186.length cp189) S (wN rfl) (.inr rfl) rfl rfl (lb rfl) fun a S => ?_
      refine leafL (leafT (hK178 _ _ ?_))
      refine sSeq (fun K190 hK190 => ?_)
      refine sRegion ?_
      refine sMove (iv s45) S (wN rfl) (.inl rfl) rfl rfl (lb rfl) fun a S => ?_
      refine sBin (iv (w64 (s45 + 1))) S (wN rfl) rfl rfl rfl (bAdd _ _ _ _ s45 1) rfl (lb rfl) fun a S => ?_
      refine sMove (iv (w64 (s45 + 1))) S (wN rfl) (.inr rfl) rfl rfl (lb rfl) fun a S => ?_
      refine leafL (leafT (hK190 _ _ ?_))
      refine sRegion ?_
      refine sMove (iv s46) S (wN rfl) (.inl rfl) rfl rfl (lb rfl) fun a S => ?_
      refine sBin (iv (w64 (s46 + 1))) S (wN rfl) rfl rfl rfl (bAdd _ _ _ _ s46 1) rfl (lb rfl) fun a S => ?_
      refine sMove (iv (w64 (s46 + 1))) S (wN rfl) (.inr rfl) rfl rfl (lb rfl) fun a S => ?_
      exact leafL (leafB (leafB (leafT (⟨(l186, w64 (s45 + 1), w64 (s46 + 1)), (Option.some.inj h).symm, ⟨ad188, cp189, S.fix [0] [4, 5, 6] (by decide) rfl rfl rfl⟩⟩))))
    refine sCondF S rfl hc177 ?_
    obtain ⟨t192, h, g193⟩ := bindSome h
    refine sCut (fun a w => ∃ o191, o191 = t192 ∧ St [] E [] w0 178 a w [(0, .slice ad1 p0.length cp2), (1, .slice ad3 p1.length cp4), (10, .slice ad33 r30.length cp34), (11, .slice ad43 s42.length cp44), (12, iv s45), (13, iv s46), (148, .bool o191)] [eRow r_api_CellStep 83 (.slice ad43 s42.length cp44) s42] [fRep (rL r_api_Stitch) (.slice ad1 p0.length cp2) p0, fRep (rL r_api_Stitch) (.slice ad3 p1.length cp4) p1, fRep (rL (rL (rI .i64))) (.slice ad33 r30.length cp34) r30]) ?_ (fun a w hI => ?_)
    · refine sRegion ?_
      refine sMove (iv s45) S (wN rfl) (.inl rfl) rfl rfl (lb rfl) fun a S => ?_
      refine sMove (.slice ad1 p0.length cp2) S (wN rfl) (.inl rfl) rfl rfl (lb rfl) fun a S => ?_
      refine sLen (ad := ad1) (m := p0.length) (c := cp2) S (wN rfl) rfl Try.underlying47 rfl rfl (lb rfl) fun a S => ?_
      refine sBin (.bool (decide (s45 < (p0.length : Int)))) S (wN rfl) rfl rfl rfl (bLt _ _ _ _ .i64 s45 (p0.length : Int)) rfl (lb rfl) fun a S => ?_
      refine sMove (.bool (decide (s45 < (p0.length : Int)))) S (wN rfl) (.inl rfl) rfl rfl (lb rfl) fun a S => ?_
      rcases iteSome h with ⟨hc194, h⟩ | ⟨hc194, h⟩
      rotate_left
      · refine sSkip 4 true 153 154 S rfl rfl rfl hc194 rfl (lb rfl) fun a S => ?_
        refine sSkip 4 true 153 155 S rfl rfl rfl hc194 rfl (lb rfl) fun a S => ?_
        refine sSkip 4 true 153 156 S rfl rfl rfl hc194 rfl (lb rfl) fun a S => ?_
        refine sSkip 4 true 153 157 S rfl rfl rfl hc194 rfl (lb rfl) fun a S => ?_
        refine sSkip 4 true 153 158 S rfl rfl rfl hc194 rfl (lb rfl) fun a S => ?_
        refine sSkip 4 true 153 159 S rfl rfl rfl hc194 rfl (lb rfl) fun a S => ?_
        refine sSkip 4 true 153 160 S rfl rfl rfl hc194 rfl (lb rfl) fun a S => ?_
        refine sSkip 4 true 153 161 S rfl rfl rfl hc194 rfl (lb rfl) fun a S => ?_
        refine sSkip 4 true 153 162 S rfl rfl rfl hc194 rfl (lb rfl) fun a S => ?_
        refine sSkip 4 true 153 163 S rfl rfl rfl hc194 rfl (lb rfl) fun a S => ?_
        refine sSkip 4 true 153 164 S rfl rfl rfl hc194 rfl (lb rfl) fun a S => ?_
        refine sPickF (.bool false) S (wN rfl) rfl rfl hc194 rfl rfl (lb rfl) fun a S => ?_
        refine sMove (.bool false) S (wN rfl) (.inr rfl) rfl rfl (lb rfl) fun a S => ?_
        exact leafL (leafT (⟨false, Option.some.inj h, S.fix [0] [0, 1, 2] (by decide) rfl rfl rfl⟩))
      refine sMove (iv x67) S (wG 4 true 153 rfl rfl rfl hc194) (.inl rfl) rfl rfl (lb rfl) fun a S => ?_
      refine sMove (.slice ad33 r30.length cp34) S (wG 4 true 153 rfl rfl rfl hc194) (.inl rfl) rfl rfl (lb rfl) fun a S => ?_
      refine sMove (iv s45) S (wG 4 true 153 rfl rfl rfl hc194) (.inl rfl) rfl rfl (lb rfl) fun a S => ?_
      refine sBin (iv (w64 (s45 + 1))) S (wG 4 true 153 rfl rfl rfl hc194) rfl rfl rfl (bAdd _ _ _ _ s45 1) rfl (lb rfl) fun a S => ?_
      obtain ⟨x195, hx196, h⟩ := bindSome h
      obtain ⟨q197, hq198, S⟩ := pIdx (P := Try.prog) (r := (rL (rI .i64))) (v := .slice ad33 r30.length cp34) (xs := r30) (j := w64 (s45 + 1)) 98 101 2 S Try.underlying98 rfl rfl hx196
      refine sIdxV (v := .slice ad33 r30.length cp34) (k := .i64) (j := w64 (s45 + 1)) S (wG 4 true 153 rfl rfl rfl hc194) rfl rfl rfl hq198 rfl (lb rfl) fun a S => ?_
      obtain ⟨u199, S⟩ := pLoad (r := (rL (rI .i64))) (q := q197) (x := x195) 0 S rfl
      obtain ⟨ad200, cp201, _, rfl, _⟩ := S.mem.know (i := 1) (e := fRep (rL (rI .i64)) (u199) x195) rfl
      refine sLoadV1 (vq := q197) 0 (.slice ad200 x195.length cp201) S (wG 4 true 153 rfl rfl rfl hc194) rfl rfl rfl rfl rfl (lb rfl) fun a S => ?_
      refine sMove (iv s46) S (wG 4 true 153 rfl rfl rfl hc194) (.inl rfl) rfl rfl (lb rfl) fun a S => ?_
      obtain ⟨x202, hx203, h⟩ := bindSome h
      obtain ⟨q204, hq205, S⟩ := pIdx (P := Try.prog) (r := (rI .i64)) (v := .slice ad200 x195.length cp201) (xs := x195) (j := s46) 101 3 1 S Try.underlying101 rfl rfl hx203
      refine sIdxV (v := .slice ad200 x195.length cp201) (k := .i64) (j := s46) S (wG 4 true 153 rfl rfl rfl hc194) rfl rfl rfl hq205 rfl (lb rfl) fun a S => ?_
      obtain ⟨u206, S⟩ := pLoad (r := (rI .i64)) (q := q204) (x := x202) 0 S rfl
      obtain rfl : u206 = iv x202 := S.mem.know (i := 1) (e := fRep (rI .i64) (u206) x202) rfl
      refine sLoadV1 (vq := q204) 0 (iv x202) S (wG 4 true 153 rfl rfl rfl hc194) rfl rfl rfl rfl rfl (lb rfl) fun a S => ?_
      refine sBin (iv (w64 (1 + x202))) S (wG 4 true 153 rfl rfl rfl hc194) rfl rfl rfl (bAdd _ _ _ _ 1 x202) rfl (lb rfl) fun a S => ?_
      refine sBin (.bool (x67 == (w64 (1 + x202)))) S (wG 4 true 153 rfl rfl rfl hc194) rfl rfl rfl (bEq _ _ _ _ .i64 x67 (w64 (1 + x202))) rfl (lb rfl) fun a S => ?_
      refine sPickT (.bool (x67 == (w64 (1 + x202)))) S (wN rfl) rfl rfl hc194 rfl rfl (lb rfl) fun a S => ?_
      refine sMove (.bool (x67 == (w64 (1 + x202)))) S (wN rfl) (.inr rfl) rfl rfl (lb rfl) fun a S => ?_
      exact leafL (leafT (⟨x67 == (w64 (1 + x202)), Option.some.inj h, S.fix [0] [6, 7, 8] (by decide) rfl rfl rfl⟩))
    obtain ⟨o191, rfl, S⟩ := hI
    have h := g193
    clear g193
    try dsimp only at h
    rcases iteSome h with ⟨hc207, h⟩ | ⟨hc207, h⟩
    · refine sCondT S rfl hc207 ?_
      refine sSeq (fun K208 hK208 => ?_)
      refine sRegion ?_
      refine sMove (.slice ad43 s42.length cp44) S (wN rfl) (.inl rfl) rfl rfl (lb rfl) fun a S => ?_
      refine sBuild [(0, .int .u8 4)] [.int .u8 4, .int .u8 0, .bool false, iv 0, iv 0] S (wN rfl) rfl rfl rfl rfl (lb rfl) fun a S => ?_
      have S := S.learn (fRep r_api_CellStep (.agg #[.int .u8 4, .int .u8 0, .bool false, iv 0, iv 0]) (api_CellStep.mk 4 (api_Stitch.mk 0 false 0 0))) rfl
      refine sLit (r := r_api_CellStep) (T := 83) (xs := [(api_CellStep.mk 4 (api_Stitch.mk 0 false 0 0))]) [(0, .agg #[.int .u8 4, .int .u8 0, .bool false, iv 0, iv 0])] 1 [.agg #[.int .u8 4, .int .u8 0, .bool false, iv 0, iv 0]] [.int .u8 4, .int .u8 0, .bool false, iv 0, iv 0] (.agg #[.int .u8 0, .int .u8 0, .bool false, iv 0, iv 0]) 32 S (wN rfl) rfl rfl Try.underlying48 rfl (by decide) (by decide) (by kernel_rfl) rfl (fun E1 w1 hE => All.cons (r_api_CellStep.mono hE (S.mem.know (i := 0) (e := fRep r_api_CellStep (.agg #[.int .u8 4, .int .u8 0, .bool false, iv 0, iv 0]) (api_CellStep.mk 4 (api_Stitch.mk 0 false 0 0))) rfl)) (All.nil _ _ _)) rfl rfl (lb rfl) fun a w ad209 cp210 S => ?_
      obtain ⟨l211, hx212, h⟩ := bindSome h
      refine sApp (r := r_api_CellStep) (T := 83) (xs := s42) (ys := [(api_CellStep.mk 4 (api_Stitch.mk 0 false 0 0))]) (v := .slice ad43 s42.length cp44) (u := .slice ad209 [(api_CellStep.mk 4 (api_Stitch.mk 0 false 0 0))].length cp210) 1 (.agg #[.int .u8 0, .int .u8 0, .bool false, iv 0, iv 0]) 32 S (wN rfl) rfl Try.underlying48 rfl rfl (by decide) rfl rfl rfl (src_R (T := 83) 0 S.mem rfl) hx212 rfl (lb rfl) fun a w ad213 cp214 S => ?_
      refine sMove (.slice ad213 l211.length cp214) S (wN rfl) (.inr rfl) rfl rfl (lb rfl) fun a S => ?_
      refine leafL (leafT (hK208 _ _ ?_))
      refine sRegion ?_
      refine sMove (iv s45) S (wN rfl) (.inl rfl) rfl rfl (lb rfl) fun a S => ?_
      refine sBin (iv (w64 (s45 + 1))) S (wN rfl) rfl rfl rfl (bAdd _ _ _ _ s45 1) rfl (lb rfl) fun a S => ?_
      refine sMove (iv (w64 (s45 + 1))) S (wN rfl) (.inr rfl) rfl rfl (lb rfl) fun a S => ?_
      exact leafL (leafB (leafB (leafT (⟨(l211, w64 (s45 + 1), s46), (Option.some.inj h).symm, ⟨ad213, cp214, S.fix [0] [1, 2, 3] (by decide) rfl rfl rfl⟩⟩))))
    refine sCondF S rfl hc207 ?_
    refine sSeq (fun K215 hK215 => ?_)
    refine sRegion ?_
    refine sMove (.slice ad43 s42.length cp44) S (wN rfl) (.inl rfl) rfl rfl (lb rfl) fun a S => ?_
    refine sMove (.slice ad3 p1.length cp4) S (wN rfl) (.inl rfl) rfl rfl (lb rfl) fun a S => ?_
    refine sMove (iv s46) S (wN rfl) (.inl rfl) rfl rfl (lb rfl) fun a S => ?_
    obtain ⟨x216, hx217, h⟩ := bindSome h
    obtain ⟨q218, hq219, S⟩ := pIdx (P := Try.prog) (r := r_api_Stitch) (v := .slice ad3 p1.length cp4) (xs := p1) (j := s46) 47 81 1 S Try.underlying47 rfl rfl hx217
    refine sIdxV (v := .slice ad3 p1.length cp4) (k := .i64) (j := s46) S (wN rfl) rfl rfl rfl hq219 rfl (lb rfl) fun a S => ?_
    obtain ⟨u220, S⟩ := pLoad (r := r_api_Stitch) (q := q218) (x := x216) 0 S rfl
    obtain rfl : u220 = .agg #[.int .u8 x216.Kind, .bool x216.Purl, iv x216.A, iv x216.B] := S.mem.know (i := 1) (e := fRep r_api_Stitch (u220) x216) rfl
    refine sLoadVN (vq := q218) 0 [.int .u8 x216.Kind, .bool x216.Purl, iv x216.A, iv x216.B] S (wN rfl) rfl rfl rfl rfl rfl rfl (lb rfl) fun a S => ?_
    refine sBuild [(0, .int .u8 3), (1, .agg #[.int .u8 x216.Kind, .bool x216.Purl, iv x216.A, iv x216.B])] [.int .u8 3, .int .u8 x216.Kind, .bool x216.Purl, iv x216.A, iv x216.B] S (wN rfl) rfl rfl rfl rfl (lb rfl) fun a S => ?_
    have S := S.learn (fRep r_api_CellStep (.agg #[.int .u8 3, .int .u8 x216.Kind, .bool x216.Purl, iv x216.A, iv x216.B]) (api_CellStep.mk 3 x216)) rfl
    refine sLit (r := r_api_CellStep) (T := 83) (xs := [(api_CellStep.mk 3 x216)]) [(0, .agg #[.int .u8 3, .int .u8 x216.Kind, .bool x216.Purl, iv x216.A, iv x216.B])] 1 [.agg #[.int .u8 3, .int .u8 x216.Kind, .bool x216.Purl, iv x216.A, iv x216.B]] [.int .u8 3, .int .u8 x216.Kind, .bool x216.Purl, iv x216.A, iv x216.B] (.agg #[.int .u8 0, .int .u8 0, .bool false, iv 0, iv 0]) 32 S (wN rfl) rfl rfl Try.underlying48 rfl (by decide) (by decide) (by kernel_rfl) rfl (fun E1 w1 hE => All.cons (r_api_CellStep.mono hE (S.mem.know (i := 0) (e := fRep r_api_CellStep (.agg #[.int .u8 3, .int .u8 x216.Kind, .bool x216.Purl, iv x216.A, iv x216.B]) (api_CellStep.mk 3 x216)) rfl)) (All.nil _ _ _)) rfl rfl (lb rfl) fun a w ad221 cp222 S => ?_
    obtain ⟨l223, hx224, h⟩ := bindSome h
    refine sApp (r := r_api_CellStep) (T := 83) (xs := s42) (ys := [(api_CellStep.mk 3 x216)]) (v := .slice ad43 s42.length cp44) (u := .slice ad221 [(api_CellStep.mk 3 x216)].length cp222) 1 (.agg #[.int .u8 0, .int .u8 0, .bool false, iv 0, iv 0]) 32 S (wN rfl) rfl Try.underlying48 rfl rfl (by decide) rfl rfl rfl (src_R (T := 83) 0 S.mem rfl) hx224 rfl (lb rfl) fun a w ad225 cp226 S => ?_
    refine sMove (.slice ad225 l223.length cp226) S (wN rfl) (.inr rfl) rfl rfl (lb rfl) fun a S => ?_
    refine leafL (leafT (hK215 _ _ ?_))
    refine sRegion ?_
    refine sMove (iv s46) S (wN rfl) (.inl rfl) rfl rfl (lb rfl) fun a S => ?_
    refine sBin (iv (w64 (s46 + 1))) S (wN rfl) rfl rfl rfl (bAdd _ _ _ _ s46 1) rfl (lb rfl) fun a S => ?_
    refine sMove (iv (w64 (s46 + 1))) S (wN rfl) (.inr rfl) rfl rfl (lb rfl) fun a S => ?_
    exact leafL (leafB (leafB (leafT (⟨(l223, s45, w64 (s46 + 1)), (Option.some.inj h).symm, ⟨ad225, cp226, S.fix [0] [4, 5, 6] (by decide) rfl rfl rfl⟩⟩))))
  rcases iteSome h with ⟨hc132, h⟩ | ⟨hc132, h⟩
  rotate_left
  · refine sDraw (nf := []) (W := [(0, 101, iv s45), (1, 102, .slice ad1 p0.length cp2), (2, 103, iv (p0.length : Int)), (3, 104, .bool (decide (s45 < (p0.length : Int)))), (4, 105, .bool (decide (s45 < (p0.length : Int)))), (5, 106, undef), (6, 107, undef), (7, 108, undef), (8, 109, undef), (9, 110, .bool false), (10, 111, .bool false), (11, 112, undef), (12, 113, undef), (13, 114, undef), (14, 115, undef), (15, 116, undef), (16, 117, undef), (17, 118, undef), (18, 119, undef), (19, 120, undef), (20, 121, .bool false), (21, 122, .bool false), (22, 123, undef), (23, 124, undef), (24, 125, undef), (25, 126, undef), (26, 127, undef), (27, 128, undef), (28, 129, undef), (29, 130, undef), (30, 131, undef), (31, 132, undef), (32, 133, undef), (33, 134, undef), (34, 135, .bool false), (35, 100, .bool false)]) rfl S ?_
    refine node_by (A := anc_compare_Edits_1) (nf := []) (Y := []) (W := [(0, 101, iv s45), (1, 102, .slice ad1 p0.length cp2), (2, 103, iv (p0.length : Int)), (3, 104, .bool (decide (s45 < (p0.length : Int)))), (4, 105, .bool (decide (s45 < (p0.length : Int)))), (5, 106, undef), (6, 107, undef), (7, 108, undef), (8, 109, undef), (9, 110, .bool false), (10, 111, .bool false), (11, 112, undef), (12, 113, undef), (13, 114, undef), (14, 115, undef), (15, 116, undef), (16, 117, undef), (17, 118, undef), (18, 119, undef), (19, 120, undef), (20, 121, .bool false), (21, 122, .bool false), (22, 123, undef), (23, 124, undef), (24, 125, undef), (25, 126, undef), (26, 127, undef), (27, 128, undef), (28, 129, undef), (29, 130, undef), (30, 131, undef), (31, 132, undef), (32, 133, undef), (33, 134, undef), (34, 135, .bool false), (35, 100, .bool false)]) 36 (by kernel_rfl) (by kernel_rfl) (by kernel_rfl) (by kernel_rfl) (by kernel_rfl) [0, 1, 2, 3, 4, 5, 6, 7, 8, 9, 10, 11, 12, 13, 14, 15, 16, 17, 18, 19, 20, 21, 22, 23, 24, 25, 26, 27, 28, 29, 30, 31, 32, 33, 34, 35] (by kernel_rfl) (by decide) (by decide) (aF 0 35 (by decide) ?_ (aF 1 34 (by decide) ?_ (aF 2 33 (by decide) ?_ (aF 3 32 (by decide) ?_ (aF 4 31 (by decide) ?_ (aF 5 30 (by decide) ?_ (aF 6 29 (by decide) ?_ (aF 7 28 (by decide) ?_ (aF 8 27 (by decide) ?_ (aF 9 26 (by decide) ?_ (aF 10 25 (by decide) ?_ (aF 11 24 (by decide) ?_ (aF 12 23 (by decide) ?_ (aF 13 22 (by decide) ?_ (aF 14 21 (by decide) ?_ (aF 15 20 (by decide) ?_ (aF 16 19 (by decide) ?_ (aF 17 18 (by decide) ?_ (aF 18 17 (by decide) ?_ (aF 19 16 (by decide) ?_ (aF 20 15 (by decide) ?_ (aF 21 14 (by decide) ?_ (aF 22 13 (by decide) ?_ (aF 23 12 (by decide) ?_ (aF 24 11 (by decide) ?_ (aF 25 10 (by decide) ?_ (aF 26 9 (by decide) ?_ (aF 27 8 (by decide) ?_ (aF 28 7 (by decide) ?_ (aF 29 6 (by decide) ?_ (aF 30 5 (by decide) ?_ (aF 31 4 (by decide) ?_ (aF 32 3 (by decide) ?_ (aF 33 2 (by decide) ?_ (aF 34 1 (by decide) ?_ (aF 35 0 (by decide) ?_ (trivial))))))))))))))))))))))))))))))))))))) [(0, .slice ad1 p0.length cp2), (1, .slice ad3 p1.length cp4), (10, .slice ad33 r30.length cp34), (11, .slice ad43 s42.length cp44), (12, iv s45), (13, iv s46), (14, iv x67), (100, .bool false), (106, undef), (107, undef), (108, undef), (109, undef), (112, undef), (113, undef), (114, undef), (115, undef), (116, undef), (117, undef), (118, undef), (119, undef), (120, undef), (123, undef), (124, undef), (125, undef), (126, undef), (127, undef), (128, undef), (129, undef), (130, undef), (131, undef), (132, undef), (133, undef), (134, undef)] (fin_of [none, none, none, none, none, none, none, some 35, some 5, some 6, some 7, some 8, some 11, some 12, some 13, some 14, some 15, some 16, some 17, some 18, some 19, some 22, some 23, some 24, some 25, some 26, some 27, some 28, some 29, some 30, some 31, some 32, some 33] rfl (by kernel_rfl) (by kernel_rfl)) (fun _ a w S => ?_)
    · refine fI 101 (iv s45) [(12, iv s45)] 0 [none] rfl rfl rfl rfl rfl rfl fun G a w S => ?_
      refine sMove (iv s45) S (wN rfl) (.inl rfl) rfl rfl (lb rfl) fun a S => ?_
      exact leafL ⟨rfl, S⟩
    · refine fI 102 (.slice ad1 p0.length cp2) [(0, .slice ad1 p0.length cp2)] 1 [none] rfl rfl rfl rfl rfl rfl fun G a w S => ?_
      refine sMove (.slice ad1 p0.length cp2) S (wN rfl) (.inl rfl) rfl rfl (lb rfl) fun a S => ?_
      exact leafL ⟨rfl, S⟩
    · refine fI 103 (iv (p0.length : Int)) [(102, .slice ad1 p0.length cp2)] 2 [some 1] rfl rfl rfl rfl rfl rfl fun G a w S => ?_
      refine sLen (ad := ad1) (m := p0.length) (c := cp2) S (wN rfl) rfl Try.underlying47 rfl rfl (lb rfl) fun a S => ?_
      exact leafL ⟨rfl, S⟩
    · refine fI 104 (.bool (decide (s45 < (p0.length : Int)))) [(101, iv s45), (103, iv (p0.length : Int))] 3 [some 0, some 2] rfl rfl rfl rfl rfl rfl fun G a w S => ?_
      refine sBin (.bool (decide (s45 < (p0.length : Int)))) S (wN rfl) rfl rfl rfl (bLt _ _ _ _ .i64 s45 (p0.length : Int)) rfl (lb rfl) fun a S => ?_
      exact leafL ⟨rfl, S⟩
    · refine fI 105 (.bool (decide (s45 < (p0.length : Int)))) [(104, .bool (decide (s45 < (p0.length : Int))))] 4 [some 3] rfl rfl rfl rfl rfl rfl fun G a w S => ?_
      refine sMove (.bool (decide (s45 < (p0.length : Int)))) S (wN rfl) (.inl rfl) rfl rfl (lb rfl) fun a S => ?_
      exact leafL ⟨rfl, S⟩
    · refine fI 106 undef [(13, iv s46), (105, .bool (decide (s45 < (p0.length : Int))))] 5 [none, some 4] rfl rfl rfl rfl rfl rfl fun G a w S => ?_
      refine sSkip 4 true 105 106 S rfl rfl rfl hc132 rfl (lb rfl) fun a S => ?_
      exact leafL ⟨rfl, S⟩
    · refine fI 107 undef [(1, .slice ad3 p1.length cp4), (105, .bool (decide (s45 < (p0.length : Int))))] 6 [none, some 4] rfl rfl rfl rfl rfl rfl fun G a w S => ?_
      refine sSkip 4 true 105 107 S rfl rfl rfl hc132 rfl (lb rfl) fun a S => ?_
      exact leafL ⟨rfl, S⟩
    · refine fI 108 undef [(107, undef), (105, .bool (decide (s45 < (p0.length : Int))))] 7 [some 6, some 4] rfl rfl rfl rfl rfl rfl fun G a w S => ?_
      refine sSkip 4 true 105 108 S rfl rfl rfl hc132 rfl (lb rfl) fun a S => ?_
      exact leafL ⟨rfl, S⟩
    · refine fI 109 undef [(106, undef), (108, undef), (105, .bool (decide (s45 < (p0.length : Int))))] 8 [some 5, some 7, some 4] rfl rfl rfl rfl rfl rfl fun G a w S => ?_
      refine sSkip 4 true 105 109 S rfl rfl rfl hc132 rfl (lb rfl) fun a S => ?_
      exact leafL ⟨rfl, S⟩
    · refine fI 110 (.bool false) [(105, .bool (decide (s45 < (p0.length : Int)))), (109, undef)] 9 [some 4, some 8] rfl rfl rfl rfl rfl rfl fun G a w S => ?_
      refine sPickF (.bool false) S (wN rfl) rfl rfl hc132 rfl rfl (lb rfl) fun a S => ?_
      exact leafL ⟨rfl, S⟩
    · refine fI 111 (.bool false) [(110, .bool false)] 10 [some 9] rfl rfl rfl rfl rfl rfl fun G a w S => ?_
      refine sMove (.bool false) S (wN rfl) (.inl rfl) rfl rfl (lb rfl) fun a S => ?_
      exact leafL ⟨rfl, S⟩
    · refine fI 112 undef [(0, .slice ad1 p0.length cp2), (111, .bool false)] 11 [none, some 10] rfl rfl rfl rfl rfl rfl fun G a w S => ?_
      refine sSkip 10 true 111 112 S rfl rfl rfl rfl rfl (lb rfl) fun a S => ?_
      exact leafL ⟨rfl, S⟩
    · refine fI 113 undef [(12, iv s45), (111, .bool false)] 12 [none, some 10] rfl rfl rfl rfl rfl rfl fun G a w S => ?_
      refine sSkip 10 true 111 113 S rfl rfl rfl rfl rfl (lb rfl) fun a S => ?_
      exact leafL ⟨rfl, S⟩
    · refine fI 114 undef [(112, undef), (113, undef), (111, .bool false)] 13 [some 11, some 12, some 10] rfl rfl rfl rfl rfl rfl fun G a w S => ?_
      refine sSkip 10 true 111 114 S rfl rfl rfl rfl rfl (lb rfl) fun a S => ?_
      exact leafL ⟨rfl, S⟩
    · refine fI 115 undef [(114, undef), (111, .bool false)] 14 [some 13, some 10] rfl rfl rfl rfl rfl rfl fun G a w S => ?_
      refine sSkip 10 true 111 115 S rfl rfl rfl rfl rfl (lb rfl) fun a S => ?_
      exact leafL ⟨rfl, S⟩
    · refine fI 116 undef [(1, .slice ad3 p1.length cp4), (111, .bool false)] 15 [none, some 10] rfl rfl rfl rfl rfl rfl fun G a w S => ?_
      refine sSkip 10 true 111 116 S rfl rfl rfl rfl rfl (lb rfl) fun a S => ?_
      exact leafL ⟨rfl, S⟩
    · refine fI 117 undef [(13, iv s46), (111, .bool false)] 16 [none, some 10] rfl rfl rfl rfl rfl rfl fun G a w S => ?_
      refine sSkip 10 true 111 117 S rfl rfl rfl rfl rfl (lb rfl) fun a S => ?_
      exact leafL ⟨rfl, S⟩
    · refine fI 118 undef [(116, undef), (117, undef), (111, .bool false)] 17 [some 15, some 16, some 10] rfl rfl rfl rfl rfl rfl fun G a w S => ?_
      refine sSkip 10 true 111 118 S rfl rfl rfl rfl rfl (lb rfl) fun a S => ?_
      exact leafL ⟨rfl, S⟩
    · refine fI 119 undef [(118, undef), (111, .bool false)] 18 [some 17, some 10] rfl rfl rfl rfl rfl rfl fun G a w S => ?_
      refine sSkip 10 true 111 119 S rfl rfl rfl rfl rfl (lb rfl) fun a S => ?_
      exact leafL ⟨rfl, S⟩
    · refine fI 120 undef [(115, undef), (119, undef), (111, .bool false)] 19 [some 14, some 18, some 10] rfl rfl rfl rfl rfl rfl fun G a w S => ?_
      refine sSkip 10 true 111 120 S rfl rfl rfl rfl rfl (lb rfl) fun a S => ?_
      exact leafL ⟨rfl, S⟩
    · refine fI 121 (.bool false) [(111, .bool false), (120, undef)] 20 [some 10, some 19] rfl rfl rfl rfl rfl rfl fun G a w S => ?_
      refine sPickF (.bool false) S (wN rfl) rfl rfl rfl rfl rfl (lb rfl) fun a S => ?_
      exact leafL ⟨rfl, S⟩
    · refine fI 122 (.bool false) [(121, .bool false)] 21 [some 20] rfl rfl rfl rfl rfl rfl fun G a w S => ?_
      refine sMove (.bool false) S (wN rfl) (.inl rfl) rfl rfl (lb rfl) fun a S => ?_
      exact leafL ⟨rfl, S⟩
    · refine fI 123 undef [(14, iv x67), (122, .bool false)] 22 [none, some 21] rfl rfl rfl rfl rfl rfl fun G a w S => ?_
      refine sSkip 21 true 122 123 S rfl rfl rfl rfl rfl (lb rfl) fun a S => ?_
      exact leafL ⟨rfl, S⟩
    · refine fI 124 undef [(10, .slice ad33 r30.length cp34), (122, .bool false)] 23 [none, some 21] rfl rfl rfl rfl rfl rfl fun G a w S => ?_
      refine sSkip 21 true 122 124 S rfl rfl rfl rfl rfl (lb rfl) fun a S => ?_
      exact leafL ⟨rfl, S⟩
    · refine fI 125 undef [(12, iv s45), (122, .bool false)] 24 [none, some 21] rfl rfl rfl rfl rfl rfl fun G a w S => ?_
      refine sSkip 21 true 122 125 S rfl rfl rfl rfl rfl (lb rfl) fun a S => ?_
      exact leafL ⟨rfl, S⟩
    · refine fI 126 undef [(125, undef), (122, .bool false)] 25 [some 24, some 21] rfl rfl rfl rfl rfl rfl fun G a w S => ?_
      refine sSkip 21 true 122 126 S rfl rfl rfl rfl rfl (lb rfl) fun a S => ?_
      exact leafL ⟨rfl, S⟩
    · refine fI 127 undef [(124, undef), (126, undef), (122, .bool false)] 26 [some 23, some 25, some 21] rfl rfl rfl rfl rfl rfl fun G a w S => ?_
      refine sSkip 21 true 122 127 S rfl rfl rfl rfl rfl (lb rfl) fun a S => ?_
      exact leafL ⟨rfl, S⟩
    · refine fI 128 undef [(127, undef), (122, .bool false)] 27 [some 26, some 21] rfl rfl rfl rfl rfl rfl fun G a w S => ?_
      refine sSkip 21 true 122 128 S rfl rfl rfl rfl rfl (lb rfl) fun a S => ?_
      exact leafL ⟨rfl, S⟩
    · refine fI 129 undef [(13, iv s46), (122, .bool false)] 28 [none, some 21] rfl rfl rfl rfl rfl rfl fun G a w S => ?_
      refine sSkip 21 true 122 129 S rfl rfl rfl rfl rfl (lb rfl) fun a S => ?_
      exact leafL ⟨rfl, S⟩
    · refine fI 130 undef [(129, undef), (122, .bool false)] 29 [some 28, some 21] rfl rfl rfl rfl rfl rfl fun G a w S => ?_
      refine sSkip 21 true 122 130 S rfl rfl rfl rfl rfl (lb rfl) fun a S => ?_
      exact leafL ⟨rfl, S⟩
    · refine fI 131 undef [(128, undef), (130, undef), (122, .bool false)] 30 [some 27, some 29, some 21] rfl rfl rfl rfl rfl rfl fun G a w S => ?_
      refine sSkip 21 true 122 131 S rfl rfl rfl rfl rfl (lb rfl) fun a S => ?_
      exact leafL ⟨rfl, S⟩
    · refine fI 132 undef [(131, undef), (122, .bool false)] 31 [some 30, some 21] rfl rfl rfl rfl rfl rfl fun G a w S => ?_
      refine sSkip 21 true 122 132 S rfl rfl rfl rfl rfl (lb rfl) fun a S => ?_
      exact leafL ⟨rfl, S⟩
    · refine fI 133 undef [(132, undef), (122, .bool false)] 32 [some 31, some 21] rfl rfl rfl rfl rfl rfl fun G a w S => ?_
      refine sSkip 21 true 122 133 S rfl rfl rfl rfl rfl (lb rfl) fun a S => ?_
      exact leafL ⟨rfl, S⟩
    · refine fI 134 undef [(123, undef), (133, undef), (122, .bool false)] 33 [some 22, some 32, some 21] rfl rfl rfl rfl rfl rfl fun G a w S => ?_
      refine sSkip 21 true 122 134 S rfl rfl rfl rfl rfl (lb rfl) fun a S => ?_
      exact leafL ⟨rfl, S⟩
    · refine fI 135 (.bool false) [(122, .bool false), (134, undef)] 34 [some 21, some 33] rfl rfl rfl rfl rfl rfl fun G a w S => ?_
      refine sPickF (.bool false) S (wN rfl) rfl rfl rfl rfl rfl (lb rfl) fun a S => ?_
      exact leafL ⟨rfl, S⟩
    · refine fI 100 (.bool false) [(135, .bool false)] 35 [some 34] rfl rfl rfl rfl rfl rfl fun G a w S => ?_
      refine sMove (.bool false) S (wN rfl) (.inr rfl) rfl rfl (lb rfl) fun a S => ?_
      exact leafL ⟨rfl, S⟩
    exact leafT (⟨false, Option.some.inj h, S.fix [0] [0, 1, 2] (by decide) rfl rfl rfl⟩)
  rcases iteSome h with ⟨hc133, h⟩ | ⟨hc133, h⟩
  rotate_left
  · refine sDraw (nf := []) (W := [(0, 101, iv s45), (1, 102, .slice ad1 p0.length cp2), (2, 103, iv (p0.length : Int)), (3, 104, .bool (decide (s45 < (p0.length : Int)))), (4, 105, .bool (decide (s45 < (p0.length : Int)))), (5, 106, iv s46), (6, 107, .slice ad3 p1.length cp4), (7, 108, iv (p1.length : Int)), (8, 109, .bool (decide (s46 < (p1.length : Int)))), (9, 110, .bool (decide (s46 < (p1.length : Int)))), (10, 111, .bool (decide (s46 < (p1.length : Int)))), (11, 112, undef), (12, 113, undef), (13, 114, undef), (14, 115, undef), (15, 116, undef), (16, 117, undef), (17, 118, undef), (18, 119, undef), (19, 120, undef), (20, 121, .bool false), (21, 122, .bool false), (22, 123, undef), (23, 124, undef), (24, 125, undef), (25, 126, undef), (26, 127, undef), (27, 128, undef), (28, 129, undef), (29, 130, undef), (30, 131, undef), (31, 132, undef), (32, 133, undef), (33, 134, undef), (34, 135, .bool false), (35, 100, .bool false)]) rfl S ?_
    refine node_by (A := anc_compare_Edits_1) (nf := []) (Y := []) (W := [(0, 101, iv s45), (1, 102, .slice ad1 p0.length cp2), (2, 103, iv (p0.length : Int)), (3, 104, .bool (decide (s45 < (p0.length : Int)))), (4, 105, .bool (decide (s45 < (p0.length : Int)))), (5, 106, iv s46), (6, 107, .slice ad3 p1.length cp4), (7, 108, iv (p1.length : Int)), (8, 109, .bool (decide (s46 < (p1.length : Int)))), (9, 110, .bool (decide (s46 < (p1.length : Int)))), (10, 111, .bool (decide (s46 < (p1.length : Int)))), (11, 112, undef), (12, 113, undef), (13, 114, undef), (14, 115, undef), (15, 116, undef), (16, 117, undef), (17, 118, undef), (18, 119, undef), (19, 120, undef), (20, 121, .bool false), (21, 122, .bool false), (22, 123, undef), (23, 124, undef), (24, 125, undef), (25, 126, undef), (26, 127, undef), (27, 128, undef), (28, 129, undef), (29, 130, undef), (30, 131, undef), (31, 132, undef), (32, 133, undef), (33, 134, undef), (34, 135, .bool false), (35, 100, .bool false)]) 36 (by kernel_rfl) (by kernel_rfl) (by kernel_rfl) (by kernel_rfl) (by kernel_rfl) [0, 1, 2, 3, 4, 5, 6, 7, 8, 9, 10, 11, 12, 13, 14, 15, 16, 17, 18, 19, 20, 21, 22, 23, 24, 25, 26, 27, 28, 29, 30, 31, 32, 33, 34, 35] (by kernel_rfl) (by decide) (by decide) (aF 0 35 (by decide) ?_ (aF 1 34 (by decide) ?_ (aF 2 33 (by decide) ?_ (aF 3 32 (by decide) ?_ (aF 4 31 (by decide) ?_ (aF 5 30 (by decide) ?_ (aF 6 29 (by decide) ?_ (aF 7 28 (by decide) ?_ (aF 8 27 (by decide) ?_ (aF 9 26 (by decide) ?_ (aF 10 25 (by decide) ?_ (aF 11 24 (by decide) ?_ (aF 12 23 (by decide) ?_ (aF 13 22 (by decide) ?_ (aF 14 21 (by decide) ?_ (aF 15 20 (by decide) ?_ (aF 16 19 (by decide) ?_ (aF 17 18 (by decide) ?_ (aF 18 17 (by decide) ?_ (aF 19 16 (by decide) ?_ (aF 20 15 (by decide) ?_ (aF 21 14 (by decide) ?_ (aF 22 13 (by decide) ?_ (aF 23 12 (by decide) ?_ (aF 24 11 (by decide) ?_ (aF 25 10 (by decide) ?_ (aF 26 9 (by decide) ?_ (aF 27 8 (by decide) ?_ (aF 28 7 (by decide) ?_ (aF 29 6 (by decide) ?_ (aF 30 5 (by decide) ?_ (aF 31 4 (by decide) ?_ (aF 32 3 (by decide) ?_ (aF 33 2 (by decide) ?_ (aF 34 1 (by decide) ?_ (aF 35 0 (by decide) ?_ (trivial))))))))))))))))))))))))))))))))))))) [(0, .slice ad1 p0.length cp2), (1, .slice ad3 p1.length cp4), (10, .slice ad33 r30.length cp34), (11, .slice ad43 s42.length cp44), (12, iv s45), (13, iv s46), (14, iv x67), (100, .bool false), (106, iv s46), (107, .slice ad3 p1.length cp4), (108, iv (p1.length : Int)), (109, .bool (decide (s46 < (p1.length : Int)))), (112, undef), (113, undef), (114, undef), (115, undef), (116, undef), (117, undef), (118, undef), (119, undef), (120, undef), (123, undef), (124, undef), (125, undef), (126, undef), (127, undef), (128, undef), (129, undef), (130, undef), (131, undef), (132, undef), (133, undef), (134, undef)] (fin_of [none, none, none, none, none, none, none, some 35, some 5, some 6, some 7, some 8, some 11, some 12, some 13, some 14, some 15, some 16, some 17, some 18, some 19, some 22, some 23, some 24, some 25, some 26, some 27, some 28, some 29, some 30, some 31, some 32, some 33] rfl (by kernel_rfl) (by kernel_rfl)) (fun _ a w S => ?_)
    · refine fI 101 (iv s45) [(12, iv s45)] 0 [none] rfl rfl rfl rfl rfl rfl fun G a w S => ?_
      refine sMove (iv s45) S (wN rfl) (.inl rfl) rfl rfl (lb rfl) fun a S => ?_
      exact leafL ⟨rfl, S⟩
    · refine fI 102 (.slice ad1 p0.length cp2) [(0, .slice ad1 p0.length cp2)] 1 [none] rfl rfl rfl rfl rfl rfl fun G a w S => ?_
      refine sMove (.slice ad1 p0.length cp2) S (wN rfl) (.inl rfl) rfl rfl (lb rfl) fun a S => ?_
      exact leafL ⟨rfl, S⟩
    · refine fI 103 (iv (p0.length : Int)) [(102, .slice ad1 p0.length cp2)] 2 [some 1] rfl rfl rfl rfl rfl rfl fun G a w S => ?_
      refine sLen (ad := ad1) (m := p0.length) (c := cp2) S (wN rfl) rfl Try.underlying47 rfl rfl (lb rfl) fun a S => ?_
      exact leafL ⟨rfl, S⟩
    · refine fI 104 (.bool (decide (s45 < (p0.length : Int)))) [(101, iv s45), (103, iv (p0.length : Int))] 3 [some 0, some 2] rfl rfl rfl rfl rfl rfl fun G a w S => ?_
      refine sBin (.bool (decide (s45 < (p0.length : Int)))) S (wN rfl) rfl rfl rfl (bLt _ _ _ _ .i64 s45 (p0.length : Int)) rfl (lb rfl) fun a S => ?_
      exact leafL ⟨rfl, S⟩
    · refine fI 105 (.bool (decide (s45 < (p0.length : Int)))) [(104, .bool (decide (s45 < (p0.length : Int))))] 4 [some 3] rfl rfl rfl rfl rfl rfl fun G a w S => ?_
      refine sMove (.bool (decide (s45 < (p0.length : Int)))) S (wN rfl) (.inl rfl) rfl rfl (lb rfl) fun a S => ?_
      exact leafL ⟨rfl, S⟩
    · refine fI 106 (iv s46) [(13, iv s46), (105, .bool (decide (s45 < (p0.length : Int))))] 5 [none, some 4] rfl rfl rfl rfl rfl rfl fun G a w S => ?_
      refine sMove (iv s46) S (wG 4 true 105 rfl rfl rfl hc132) (.inl rfl) rfl rfl (lb rfl) fun a S => ?_
      exact leafL ⟨rfl, S⟩
    · refine fI 107 (.slice ad3 p1.length cp4) [(1, .slice ad3 p1.length cp4), (105, .bool (decide (s45 < (p0.length : Int))))] 6 [none, some 4] rfl rfl rfl rfl rfl rfl fun G a w S => ?_
      refine sMove (.slice ad3 p1.length cp4) S (wG 4 true 105 rfl rfl rfl hc132) (.inl rfl) rfl rfl (lb rfl) fun a S => ?_
      exact leafL ⟨rfl, S⟩
    · refine fI 108 (iv (p1.length : Int)) [(107, .slice ad3 p1.length cp4), (105, .bool (decide (s45 < (p0.length : Int))))] 7 [some 6, some 4] rfl rfl rfl rfl rfl rfl fun G a w S => ?_
      refine sLen (ad := ad3) (m := p1.length) (c := cp4) S (wG 4 true 105 rfl rfl rfl hc132) rfl Try.underlying47 rfl rfl (lb rfl) fun a S => ?_
      exact leafL ⟨rfl, S⟩
    · refine fI 109 (.bool (decide (s46 < (p1.length : Int)))) [(106, iv s46), (108, iv (p1.length : Int)), (105, .bool (decide (s45 < (p0.length : Int))))] 8 [some 5, some 7, some 4] rfl rfl rfl rfl rfl rfl fun G a w S => ?_
      refine sBin (.bool (decide (s46 < (p1.length : Int)))) S (wG 4 true 105 rfl rfl rfl hc132) rfl rfl rfl (bLt _ _ _ _ .i64 s46 (p1.length : Int)) rfl (lb rfl) fun a S => ?_
      exact leafL ⟨rfl, S⟩
    · refine fI 110 (.bool (decide (s46 < (p1.length : Int)))) [(105, .bool (decide (s45 < (p0.length : Int)))), (109, .bool (decide (s46 < (p1.length : Int))))] 9 [some 4, some 8] rfl rfl rfl rfl rfl rfl fun G a w S => ?_
      refine sPickT (.bool (decide (s46 < (p1.length : Int)))) S (wN rfl) rfl rfl hc132 rfl rfl (lb rfl) fun a S => ?_
      exact leafL ⟨rfl, S⟩
    · refine fI 111 (.bool (decide (s46 < (p1.length : Int)))) [(110, .bool (decide (s46 < (p1.length : Int))))] 10 [some 9] rfl rfl rfl rfl rfl rfl fun G a w S => ?_
      refine sMove (.bool (decide (s46 < (p1.length : Int)))) S (wN rfl) (.inl rfl) rfl rfl (lb rfl) fun a S => ?_
      exact leafL ⟨rfl, S⟩
    · refine fI 112 undef [(0, .slice ad1 p0.length cp2), (111, .bool (decide (s46 < (p1.length : Int))))] 11 [none, some 10] rfl rfl rfl rfl rfl rfl fun G a w S => ?_
      refine sSkip 10 true 111 112 S rfl rfl rfl hc133 rfl (lb rfl) fun a S => ?_
      exact leafL ⟨rfl, S⟩
    · refine fI 113 undef [(12, iv s45), (111, .bool (decide (s46 < (p1.length : Int))))] 12 [none, some 10] rfl rfl rfl rfl rfl rfl fun G a w S => ?_
      refine sSkip 10 true 111 113 S rfl rfl rfl hc133 rfl (lb rfl) fun a S => ?_
      exact leafL ⟨rfl, S⟩
    · refine fI 114 undef [(112, undef), (113, undef), (111, .bool (decide (s46 < (p1.length : Int))))] 13 [some 11, some 12, some 10] rfl rfl rfl rfl rfl rfl fun G a w S => ?_
      refine sSkip 10 true 111 114 S rfl rfl rfl hc133 rfl (lb rfl) fun a S => ?_
      exact leafL ⟨rfl, S⟩
    · refine fI 115 undef [(114, undef), (111, .bool (decide (s46 < (p1.length : Int))))] 14 [some 13, some 10] rfl rfl rfl rfl rfl rfl fun G a w S => ?_
      refine sSkip 10 true 111 115 S rfl rfl rfl hc133 rfl (lb rfl) fun a S => ?_
      exact leafL ⟨rfl, S⟩
    · refine fI 116 undef [(1, .slice ad3 p1.length cp4), (111, .bool (decide (s46 < (p1.length : Int))))] 15 [none, some 10] rfl rfl rfl rfl rfl rfl fun G a w S => ?_
      refine sSkip 10 true 111 116 S rfl rfl rfl hc133 rfl (lb rfl) fun a S => ?_
      exact leafL ⟨rfl, S⟩
    · refine fI 117 undef [(13, iv s46), (111, .bool (decide (s46 < (p1.length : Int))))] 16 [none, some 10] rfl rfl rfl rfl rfl rfl fun G a w S => ?_
      refine sSkip 10 true 111 117 S rfl rfl rfl hc133 rfl (lb rfl) fun a S => ?_
      exact leafL ⟨rfl, S⟩
    · refine fI 118 undef [(116, undef), (117, undef), (111, .bool (decide (s46 < (p1.length : Int))))] 17 [some 15, some 16, some 10] rfl rfl rfl rfl rfl rfl fun G a w S => ?_
      refine sSkip 10 true 111 118 S rfl rfl rfl hc133 rfl (lb rfl) fun a S => ?_
      exact leafL ⟨rfl, S⟩
    · refine fI 119 undef [(118, undef), (111, .bool (decide (s46 < (p1.length : Int))))] 18 [some 17, some 10] rfl rfl rfl rfl rfl rfl fun G a w S => ?_
      refine sSkip 10 true 111 119 S rfl rfl rfl hc133 rfl (lb rfl) fun a S => ?_
      exact leafL ⟨rfl, S⟩
    · refine fI 120 undef [(115, undef), (119, undef), (111, .bool (decide (s46 < (p1.length : Int))))] 19 [some 14, some 18, some 10] rfl rfl rfl rfl rfl rfl fun G a w S => ?_
      refine sSkip 10 true 111 120 S rfl rfl rfl hc133 rfl (lb rfl) fun a S => ?_
      exact leafL ⟨rfl, S⟩
    · refine fI 121 (.bool false) [(111, .bool (decide (s46 < (p1.length : Int)))), (120, undef)] 20 [some 10, some 19] rfl rfl rfl rfl rfl rfl fun G a w S => ?_
      refine sPickF (.bool false) S (wN rfl) rfl rfl hc133 rfl rfl (lb rfl) fun a S => ?_
      exact leafL ⟨rfl, S⟩
    · refine fI 122 (.bool false) [(121, .bool false)] 21 [some 20] rfl rfl rfl rfl rfl rfl fun G a w S => ?_
      refine sMove (.bool false) S (wN rfl) (.inl rfl) rfl rfl (lb rfl) fun a S => ?_
      exact leafL ⟨rfl, S⟩
    · refine fI 123 undef [(14, iv x67), (122, .bool false)] 22 [none, some 21] rfl rfl rfl rfl rfl rfl fun G a w S => ?_
      refine sSkip 21 true 122 123 S rfl rfl rfl rfl rfl (lb rfl) fun a S => ?_
      exact leafL ⟨rfl, S⟩
    · refine fI 124 undef [(10, .slice ad33 r30.length cp34), (122, .bool false)] 23 [none, some 21] rfl rfl rfl rfl rfl rfl fun G a w S => ?_
      refine sSkip 21 true 122 124 S rfl rfl rfl rfl rfl (lb rfl) fun a S => ?_
      exact leafL ⟨rfl, S⟩
    · refine fI 125 undef [(12, iv s45), (122, .bool false)] 24 [none, some 21] rfl rfl rfl rfl rfl rfl fun G a w S => ?_
      refine sSkip 21 true 122 125 S rfl rfl rfl rfl rfl (lb rfl) fun a S => ?_
      exact leafL ⟨rfl, S⟩
    · refine fI 126 undef [(125, undef), (122, .bool false)] 25 [some 24, some 21] rfl rfl rfl rfl rfl rfl fun G a w S => ?_
      refine sSkip 21 true 122 126 S rfl rfl rfl rfl rfl (lb rfl) fun a S => ?_
      exact leafL ⟨rfl, S⟩
    · refine fI 127 undef [(124, undef), (126, undef), (122, .bool false)] 26 [some 23, some 25, some 21] rfl rfl rfl rfl rfl rfl fun G a w S => ?_
      refine sSkip 21 true 122 127 S rfl rfl rfl rfl rfl (lb rfl) fun a S => ?_
      exact leafL ⟨rfl, S⟩
    · refine fI 128 undef [(127, undef), (122, .bool false)] 27 [some 26, some 21] rfl rfl rfl rfl rfl rfl fun G a w S => ?_
      refine sSkip 21 true 122 128 S rfl rfl rfl rfl rfl (lb rfl) fun a S => ?_
      exact leafL ⟨rfl, S⟩
    · refine fI 129 undef [(13, iv s46), (122, .bool false)] 28 [none, some 21] rfl rfl rfl rfl rfl rfl fun G a w S => ?_
      refine sSkip 21 true 122 129 S rfl rfl rfl rfl rfl (lb rfl) fun a S => ?_
      exact leafL ⟨rfl, S⟩
    · refine fI 130 undef [(129, undef), (122, .bool false)] 29 [some 28, some 21] rfl rfl rfl rfl rfl rfl fun G a w S => ?_
      refine sSkip 21 true 122 130 S rfl rfl rfl rfl rfl (lb rfl) fun a S => ?_
      exact leafL ⟨rfl, S⟩
    · refine fI 131 undef [(128, undef), (130, undef), (122, .bool false)] 30 [some 27, some 29, some 21] rfl rfl rfl rfl rfl rfl fun G a w S => ?_
      refine sSkip 21 true 122 131 S rfl rfl rfl rfl rfl (lb rfl) fun a S => ?_
      exact leafL ⟨rfl, S⟩
    · refine fI 132 undef [(131, undef), (122, .bool false)] 31 [some 30, some 21] rfl rfl rfl rfl rfl rfl fun G a w S => ?_
      refine sSkip 21 true 122 132 S rfl rfl rfl rfl rfl (lb rfl) fun a S => ?_
      exact leafL ⟨rfl, S⟩
    · refine fI 133 undef [(132, undef), (122, .bool false)] 32 [some 31, some 21] rfl rfl rfl rfl rfl rfl fun G a w S => ?_
      refine sSkip 21 true 122 133 S rfl rfl rfl rfl rfl (lb rfl) fun a S => ?_
      exact leafL ⟨rfl, S⟩
    · refine fI 134 undef [(123, undef), (133, undef), (122, .bool false)] 33 [some 22, some 32, some 21] rfl rfl rfl rfl rfl rfl fun G a w S => ?_
      refine sSkip 21 true 122 134 S rfl rfl rfl rfl rfl (lb rfl) fun a S => ?_
      exact leafL ⟨rfl, S⟩
    · refine fI 135 (.bool false) [(122, .bool false), (134, undef)] 34 [some 21, some 33] rfl rfl rfl rfl rfl rfl fun G a w S => ?_
      refine sPickF (.bool false) S (wN rfl) rfl rfl rfl rfl rfl (lb rfl) fun a S => ?_
      exact leafL ⟨rfl, S⟩
    · refine fI 100 (.bool false) [(135, .bool false)] 35 [some 34] rfl rfl rfl rfl rfl rfl fun G a w S => ?_
      refine sMove (.bool false) S (wN rfl) (.inr rfl) rfl rfl (lb rfl) fun a S => ?_
      exact leafL ⟨rfl, S⟩
    exact leafT (⟨false, Option.some.inj h, S.fix [0] [0, 1, 2] (by decide) rfl rfl rfl⟩)
  obtain ⟨x134, hx135, h⟩ := bindSome h
  obtain ⟨x139, hx140, h⟩ := bindSome h
  rcases iteSome h with ⟨hc144, h⟩ | ⟨hc144, h⟩
  rotate_left
  · obtain ⟨q171, hq172, S⟩ := pIdx (P := Try.prog) (r := r_api_Stitch) (v := .slice ad1 p0.length cp2) (xs := p0) (j := s45) 47 81 0 S Try.underlying47 rfl rfl hx135
    obtain ⟨u173, S⟩ := pLoad (r := r_api_Stitch) (q := q171) (x := x134) 0 S rfl
    obtain rfl : u173 = .agg #[.int .u8 x134.Kind, .bool x134.Purl, iv x134.A, iv x134.B] := S.mem.know (i := 1) (e := fRep r_api_Stitch (u173) x134) rfl
    obtain ⟨q174, hq175, S⟩ := pIdx (P := Try.prog) (r := r_api_Stitch) (v := .slice ad3 p1.length cp4) (xs := p1) (j := s46) 47 81 4 S Try.underlying47 rfl rfl hx140
    obtain ⟨u176, S⟩ := pLoad (r := r_api_Stitch) (q := q174) (x := x139) 0 S rfl
    obtain rfl : u176 = .agg #[.int .u8 x139.Kind, .bool x139.Purl, iv x139.A, iv x139.B] := S.mem.know (i := 1) (e := fRep r_api_Stitch (u176) x139) rfl
    refine sDraw (nf := []) (W := [(0, 101, iv s45), (1, 102, .slice ad1 p0.length cp2), (2, 103, iv (p0.length : Int)), (3, 104, .bool (decide (s45 < (p0.length : Int)))), (4, 105, .bool (decide (s45 < (p0.length : Int)))), (5, 106, iv s46), (6, 107, .slice ad3 p1.length cp4), (7, 108, iv (p1.length : Int)), (8, 109, .bool (decide (s46 < (p1.length : Int)))), (9, 110, .bool (decide (s46 < (p1.length : Int)))), (10, 111, .bool (decide (s46 < (p1.length : Int)))), (11, 112, .slice ad1 p0.length cp2), (12, 113, iv s45), (13, 114, q171), (14, 115, .agg #[.int .u8 x134.Kind, .bool x134.Purl, iv x134.A, iv x134.B]), (15, 116, .slice ad3 p1.length cp4), (16, 117, iv s46), (17, 118, q174), (18, 119, .agg #[.int .u8 x139.Kind, .bool x139.Purl, iv x139.A, iv x139.B]), (19, 120, .bool (!((x134.Kind == x139.Kind) && ((x134.Purl == x139.Purl) && ((x134.A == x139.A) && ((x134.B == x139.B) && true)))))), (20, 121, .bool (!((x134.Kind == x139.Kind) && ((x134.Purl == x139.Purl) && ((x134.A == x139.A) && ((x134.B == x139.B) && true)))))), (21, 122, .bool (!((x134.Kind == x139.Kind) && ((x134.Purl == x139.Purl) && ((x134.A == x139.A) && ((x134.B == x139.B) && true)))))), (22, 123, undef), (23, 124, undef), (24, 125, undef), (25, 126, undef), (26, 127, undef), (27, 128, undef), (28, 129, undef), (29, 130, undef), (30, 131, undef), (31, 132, undef), (32, 133, undef), (33, 134, undef), (34, 135, .bool false), (35, 100, .bool false)]) rfl S ?_
    refine node_by (A := anc_compare_Edits_1) (nf := []) (Y := []) (W := [(0, 101, iv s45), (1, 102, .slice ad1 p0.length cp2), (2, 103, iv (p0.length : Int)), (3, 104, .bool (decide (s45 < (p0.length : Int)))), (4, 105, .bool (decide (s45 < (p0.length : Int)))), (5, 106, iv s46), (6, 107, .slice ad3 p1.length cp4), (7, 108, iv (p1.length : Int)), (8, 109, .bool (decide (s46 < (p1.length : Int)))), (9, 110, .bool (decide (s46 < (p1.length : Int)))), (10, 111, .bool (decide (s46 < (p1.length : Int)))), (11, 112, .slice ad1 p0.length cp2), (12, 113, iv s45), (13, 114, q171), (14, 115, .agg #[.int .u8 x134.Kind, .bool x134.Purl, iv x134.A, iv x134.B]), (15, 116, .slice ad3 p1.length cp4), (16, 117, iv s46), (17, 118, q174), (18, 119, .agg #[.int .u8 x139.Kind, .bool x139.Purl, iv x139.A, iv x139.B]), (19, 120, .bool (!((x134.Kind == x139.Kind) && ((x134.Purl == x139.Purl) && ((x134.A == x139.A) && ((x134.B == x139.B) && true)))))), (20, 121, .bool (!((x134.Kind == x139.Kind) && ((x134.Purl == x139.Purl) && ((x134.A == x139.A) && ((x134.B == x139.B) && true)))))), (21, 122, .bool (!((x134.Kind == x139.Kind) && ((x134.Purl == x139.Purl) && ((x134.A == x139.A) && ((x134.B == x139.B) && true)))))), (22, 123, undef), (23, 124, undef), (24, 125, undef), (25, 126, undef), (26, 127, undef), (27, 128, undef), (28, 129, undef), (29, 130, undef), (30, 131, undef), (31, 132, undef), (32, 133, undef), (33, 134, undef), (34, 135, .bool false), (35, 100, .bool false)]) 36 (by kernel_rfl) (by kernel_rfl) (by kernel_rfl) (by kernel_rfl) (by kernel_rfl) [0, 1, 2, 3, 4, 5, 6, 7, 8, 9, 10, 11, 12, 13, 14, 15, 16, 17, 18, 19, 20, 21, 22, 23, 24, 25, 26, 27, 28, 29, 30, 31, 32, 33, 34, 35] (by kernel_rfl) (by decide) (by decide) (aF 0 35 (by decide) ?_ (aF 1 34 (by decide) ?_ (aF 2 33 (by decide) ?_ (aF 3 32 (by decide) ?_ (aF 4 31 (by decide) ?_ (aF 5 30 (by decide) ?_ (aF 6 29 (by decide) ?_ (aF 7 28 (by decide) ?_ (aF 8 27 (by decide) ?_ (aF 9 26 (by decide) ?_ (aF 10 25 (by decide) ?_ (aF 11 24 (by decide) ?_ (aF 12 23 (by decide) ?_ (aF 13 22 (by decide) ?_ (aF 14 21 (by decide) ?_ (aF 15 20 (by decide) ?_ (aF 16 19 (by decide) ?_ (aF 17 18 (by decide) ?_ (aF 18 17 (by decide) ?_ (aF 19 16 (by decide) ?_ (aF 20 15 (by decide) ?_ (aF 21 14 (by decide) ?_ (aF 22 13 (by decide) ?_ (aF 23 12 (by decide) ?_ (aF 24 11 (by decide) ?_ (aF 25 10 (by decide) ?_ (aF 26 9 (by decide) ?_ (aF 27 8 (by decide) ?_ (aF 28 7 (by decide) ?_ (aF 29 6 (by decide) ?_ (aF 30 5 (by decide) ?_ (aF 31 4 (by decide) ?_ (aF 32 3 (by decide) ?_ (aF 33 2 (by decide) ?_ (aF 34 1 (by decide) ?_ (aF 35 0 (by decide) ?_ (trivial))))))))))))))))))))))))))))))))))))) [(0, .slice ad1 p0.length cp2), (1, .slice ad3 p1.length cp4), (10, .slice ad33 r30.length cp34), (11, .slice ad43 s42.length cp44), (12, iv s45), (13, iv s46), (14, iv x67), (100, .bool false), (106, iv s46), (107, .slice ad3 p1.length cp4), (108, iv (p1.length : Int)), (109, .bool (decide (s46 < (p1.length : Int)))), (112, .slice ad1 p0.length cp2), (113, iv s45), (114, q171), (115, .agg #[.int .u8 x134.Kind, .bool x134.Purl, iv x134.A, iv x134.B]), (116, .slice ad3 p1.length cp4), (117, iv s46), (118, q174), (119, .agg #[.int .u8 x139.Kind, .bool x139.Purl, iv x139.A, iv x139.B]), (120, .bool (!((x134.Kind == x139.Kind) && ((x134.Purl == x139.Purl) && ((x134.A == x139.A) && ((x134.B == x139.B) && true)))))), (123, undef), (124, undef), (125, undef), (126, undef), (127, undef), (128, undef), (129, undef), (130, undef), (131, undef), (132, undef), (133, undef), (134, undef)] (fin_of [none, none, none, none, none, none, none, some 35, some 5, some 6, some 7, some 8, some 11, some 12, some 13, some 14, some 15, some 16, some 17, some 18, some 19, some 22, some 23, some 24, some 25, some 26, some 27, some 28, some 29, some 30, some 31, some 32, some 33] rfl (by kernel_rfl) (by kernel_rfl)) (fun _ a w S => ?_)
    · refine fI 101 (iv s45) [(12, iv s45)] 0 [none] rfl rfl rfl rfl rfl rfl fun G a w S => ?_
      refine sMove (iv s45) S (wN rfl) (.inl rfl) rfl rfl (lb rfl) fun a S => ?_
      exact leafL ⟨rfl, S⟩
    · refine fI 102 (.slice ad1 p0.length cp2) [(0, .slice ad1 p0.length cp2)] 1 [none] rfl rfl rfl rfl rfl rfl fun G a w S => ?_
      refine sMove (.slice ad1 p0.length cp2) S (wN rfl) (.inl rfl) rfl rfl (lb rfl) fun a S => ?_
      exact leafL ⟨rfl, S⟩
    · refine fI 103 (iv (p0.length : Int)) [(102, .slice ad1 p0.length cp2)] 2 [some 1] rfl rfl rfl rfl rfl rfl fun G a w S => ?_
      refine sLen (ad := ad1) (m := p0.length) (c := cp2) S (wN rfl) rfl Try.underlying47 rfl rfl (lb rfl) fun a S => ?_
      exact leafL ⟨rfl, S⟩
    · refine fI 104 (.bool (decide (s45 < (p0.length : Int)))) [(101, iv s45), (103, iv (p0.length : Int))] 3 [some 0, some 2] rfl rfl rfl rfl rfl rfl fun G a w S => ?_
      refine sBin (.bool (decide (s45 < (p0.length : Int)))) S (wN rfl) rfl rfl rfl (bLt _ _ _ _ .i64 s45 (p0.length : Int)) rfl (lb rfl) fun a S => ?_
      exact leafL ⟨rfl, S⟩
    · refine fI 105 (.bool (decide (s45 < (p0.length : Int)))) [(104, .bool (decide (s45 < (p0.length : Int))))] 4 [some 3] rfl rfl rfl rfl rfl rfl fun G a w S => ?_
      refine sMove (.bool (decide (s45 < (p0.length : Int)))) S (wN rfl) (.inl rfl) rfl rfl (lb rfl) fun a S => ?_
      exact leafL ⟨rfl, S⟩
    · refine fI 106 (iv s46) [(13, iv s46), (105, .bool (decide (s45 < (p0.length : Int))))] 5 [none, some 4] rfl rfl rfl rfl rfl rfl fun G a w S => ?_
      refine sMove (iv s46) S (wG 4 true 105 rfl rfl rfl hc132) (.inl rfl) rfl rfl (lb rfl) fun a S => ?_
      exact leafL ⟨rfl, S⟩
    · refine fI 107 (.slice ad3 p1.length cp4) [(1, .slice ad3 p1.length cp4), (105, .bool (decide (s45 < (p0.length : Int))))] 6 [none, some 4] rfl rfl rfl rfl rfl rfl fun G a w S => ?_
      refine sMove (.slice ad3 p1.length cp4) S (wG 4 true 105 rfl rfl rfl hc132) (.inl rfl) rfl rfl (lb rfl) fun a S => ?_
      exact leafL ⟨rfl, S⟩
    · refine fI 108 (iv (p1.length : Int)) [(107, .slice ad3 p1.length cp4), (105, .bool (decide (s45 < (p0.length : Int))))] 7 [some 6, some 4] rfl rfl rfl rfl rfl rfl fun G a w S => ?_
      refine sLen (ad := ad3) (m := p1.length) (c := cp4) S (wG 4 true 105 rfl rfl rfl hc132) rfl Try.underlying47 rfl rfl (lb rfl) fun a S => ?_
      exact leafL ⟨rfl, S⟩
    · refine fI 109 (.bool (decide (s46 < (p1.length : Int)))) [(106, iv s46), (108, iv (p1.length : Int)), (105, .bool (decide (s45 < (p0.length : Int))))] 8 [some 5, some 7, some 4] rfl rfl rfl rfl rfl rfl fun G a w S => ?_
      refine sBin (.bool (decide (s46 < (p1.length : Int)))) S (wG 4 true 105 rfl rfl rfl hc132) rfl rfl rfl (bLt _ _ _ _ .i64 s46 (p1.length : Int)) rfl (lb rfl) fun a S => ?_
      exact leafL ⟨rfl, S⟩
    · refine fI 110 (.bool (decide (s46 < (p1.length : Int)))) [(105, .bool (decide (s45 < (p0.length : Int)))), (109, .bool (decide (s46 < (p1.length : Int))))] 9 [some 4, some 8] rfl rfl rfl rfl rfl rfl fun G a w S => ?_
      refine sPickT (.bool (decide (s46 < (p1.length : Int)))) S (wN rfl) rfl rfl hc132 rfl rfl (lb rfl) fun a S => ?_
      exact leafL ⟨rfl, S⟩
    · refine fI 111 (.bool (decide (s46 < (p1.length : Int)))) [(110, .bool (decide (s46 < (p1.length : Int))))] 10 [some 9] rfl rfl rfl rfl rfl rfl fun G a w S => ?_
      refine sMove (.bool (decide (s46 < (p1.length : Int)))) S (wN rfl) (.inl rfl) rfl rfl (lb rfl) fun a S => ?_
      exact leafL ⟨rfl, S⟩
    · refine fI 112 (.slice ad1 p0.length cp2) [(0, .slice ad1 p0.length cp2), (111, .bool (decide (s46 < (p1.length : Int))))] 11 [none, some 10] rfl rfl rfl rfl rfl rfl fun G a w S => ?_
      refine sMove (.slice ad1 p0.length cp2) S (wG 10 true 111 rfl rfl rfl hc133) (.inl rfl) rfl rfl (lb rfl) fun a S => ?_
      exact leafL ⟨rfl, S⟩
    · refine fI 113 (iv s45) [(12, iv s45), (111, .bool (decide (s46 < (p1.length : Int))))] 12 [none, some 10] rfl rfl rfl rfl rfl rfl fun G a w S => ?_
      refine sMove (iv s45) S (wG 10 true 111 rfl rfl rfl hc133) (.inl rfl) rfl rfl (lb rfl) fun a S => ?_
      exact leafL ⟨rfl, S⟩
    · refine fI 114 q171 [(112, .slice ad1 p0.length cp2), (113, iv s45), (111, .bool (decide (s46 < (p1.length : Int))))] 13 [some 11, some 12, some 10] rfl rfl rfl rfl rfl rfl fun G a w S => ?_
      refine sIdxV (v := .slice ad1 p0.length cp2) (k := .i64) (j := s45) S (wG 10 true 111 rfl rfl rfl hc133) rfl rfl rfl hq172 rfl (lb rfl) fun a S => ?_
      exact leafL ⟨rfl, S⟩
    · refine fI 115 (.agg #[.int .u8 x134.Kind, .bool x134.Purl, iv x134.A, iv x134.B]) [(114, q171), (111, .bool (decide (s46 < (p1.length : Int))))] 14 [some 13, some 10] rfl rfl rfl rfl rfl rfl fun G a w S => ?_
      refine sLoadVN (vq := q171) 3 [.int .u8 x134.Kind, .bool x134.Purl, iv x134.A, iv x134.B] S (wG 10 true 111 rfl rfl rfl hc133) rfl rfl rfl rfl rfl rfl (lb rfl) fun a S => ?_
      exact leafL ⟨rfl, S⟩
    · refine fI 116 (.slice ad3 p1.length cp4) [(1, .slice ad3 p1.length cp4), (111, .bool (decide (s46 < (p1.length : Int))))] 15 [none, some 10] rfl rfl rfl rfl rfl rfl fun G a w S => ?_
      refine sMove (.slice ad3 p1.length cp4) S (wG 10 true 111 rfl rfl rfl hc133) (.inl rfl) rfl rfl (lb rfl) fun a S => ?_
      exact leafL ⟨rfl, S⟩
    · refine fI 117 (iv s46) [(13, iv s46), (111, .bool (decide (s46 < (p1.length : Int))))] 16 [none, some 10] rfl rfl rfl rfl rfl rfl fun G a w S => ?_
      refine sMove (iv s46) S (wG 10 true 111 rfl rfl rfl hc133) (.inl rfl) rfl rfl (lb rfl) fun a S => ?_
      exact leafL ⟨rfl, S⟩
    · refine fI 118 q174 [(116, .slice ad3 p1.length cp4), (117, iv s46), (111, .bool (decide (s46 < (p1.length : Int))))] 17 [some 15, some 16, some 10] rfl rfl rfl rfl rfl rfl fun G a w S => ?_
      refine sIdxV (v := .slice ad3 p1.length cp4) (k := .i64) (j := s46) S (wG 10 true 111 rfl rfl rfl hc133) rfl rfl rfl hq175 rfl (lb rfl) fun a S => ?_
      exact leafL ⟨rfl, S⟩
    · refine fI 119 (.agg #[.int .u8 x139.Kind, .bool x139.Purl, iv x139.A, iv x139.B]) [(118, q174), (111, .bool (decide (s46 < (p1.length : Int))))] 18 [some 17, some 10] rfl rfl rfl rfl rfl rfl fun G a w S => ?_
      refine sLoadVN (vq := q174) 0 [.int .u8 x139.Kind, .bool x139.Purl, iv x139.A, iv x139.B] S (wG 10 true 111 rfl rfl rfl hc133) rfl rfl rfl rfl rfl rfl (lb rfl) fun a S => ?_
      exact leafL ⟨rfl, S⟩
    · refine fI 120 (.bool (!((x134.Kind == x139.Kind) && ((x134.Purl == x139.Purl) && ((x134.A == x139.A) && ((x134.B == x139.B) && true)))))) [(115, .agg #[.int .u8 x134.Kind, .bool x134.Purl, iv x134.A, iv x134.B]), (119, .agg #[.int .u8 x139.Kind, .bool x139.Purl, iv x139.A, iv x139.B]), (111, .bool (decide (s46 < (p1.length : Int))))] 19 [some 14, some 18, some 10] rfl rfl rfl rfl rfl rfl fun G a w S => ?_
      refine sBin (.bool (!((x134.Kind == x139.Kind) && ((x134.Purl == x139.Purl) && ((x134.A == x139.A) && ((x134.B == x139.B) && true)))))) S (wG 10 true 111 rfl rfl rfl hc133) rfl rfl rfl (bNeV _ _ _ _ #[.int .u8 x134.Kind, .bool x134.Purl, iv x134.A, iv x134.B] #[.int .u8 x139.Kind, .bool x139.Purl, iv x139.A, iv x139.B] ((x134.Kind == x139.Kind) && ((x134.Purl == x139.Purl) && ((x134.A == x139.A) && ((x134.B == x139.B) && true)))) (by kernel_rfl) (eqlV_of (by kernel_rfl))) rfl (lb rfl) fun a S => ?_
      exact leafL ⟨rfl, S⟩
    · refine fI 121 (.bool (!((x134.Kind == x139.Kind) && ((x134.Purl == x139.Purl) && ((x134.A == x139.A) && ((x134.B == x139.B) && true)))))) [(111, .bool (decide (s46 < (p1.length : Int)))), (120, .bool (!((x134.Kind == x139.Kind) && ((x134.Purl == x139.Purl) && ((x134.A == x139.A) && ((x134.B == x139.B) && true))))))] 20 [some 10, some 19] rfl rfl rfl rfl rfl rfl fun G a w S => ?_
      refine sPickT (.bool (!((x134.Kind == x139.Kind) && ((x134.Purl == x139.Purl) && ((x134.A == x139.A) && ((x134.B == x139.B) && true)))))) S (wN rfl) rfl rfl hc133 rfl rfl (lb rfl) fun a S => ?_
      exact leafL ⟨rfl, S⟩
    · refine fI 122 (.bool (!((x134.Kind == x139.Kind) && ((x134.Purl == x139.Purl) && ((x134.A == x139.A) && ((x134.B == x139.B) && true)))))) [(121, .bool (!((x134.Kind == x139.Kind) && ((x134.Purl == x139.Purl) && ((x134.A == x139.A) && ((x134.B == x139.B) && true))))))] 21 [some 20] rfl rfl rfl rfl rfl rfl fun G a w S => ?_
      refine sMove (.bool (!((x134.Kind == x139.Kind) && ((x134.Purl == x139.Purl) && ((x134.A == x139.A) && ((x134.B == x139.B) && true)))))) S (wN rfl) (.inl rfl) rfl rfl (lb rfl) fun a S => ?_
      exact leafL ⟨rfl, S⟩
    · refine fI 123 undef [(14, iv x67), (122, .bool (!((x134.Kind == x139.Kind) && ((x134.Purl == x139.Purl) && ((x134.A == x139.A) && ((x134.B == x139.B) && true))))))] 22 [none, some 21] rfl rfl rfl rfl rfl rfl fun G a w S => ?_
      refine sSkip 21 true 122 123 S rfl rfl rfl hc144 rfl (lb rfl) fun a S => ?_
      exact leafL ⟨rfl, S⟩
    · refine fI 124 undef [(10, .slice ad33 r30.length cp34), (122, .bool (!((x134.Kind == x139.Kind) && ((x134.Purl == x139.Purl) && ((x134.A == x139.A) && ((x134.B == x139.B) && true))))))] 23 [none, some 21] rfl rfl rfl rfl rfl rfl fun G a w S => ?_
      refine sSkip 21 true 122 124 S rfl rfl rfl hc144 rfl (lb rfl) fun a S => ?_
      exact leafL ⟨rfl, S⟩
    · refine fI 125 undef [(12, iv s45), (122, .bool (!((x134.Kind == x139.Kind) && ((x134.Purl == x139.Purl) && ((x134.A == x139.A) && ((x134.B == x139.B) && true))))))] 24 [none, some 21] rfl rfl rfl rfl rfl rfl fun G a w S => ?_
      refine sSkip 21 true 122 125 S rfl rfl rfl hc144 rfl (lb rfl) fun a S => ?_
      exact leafL ⟨rfl, S⟩
    · refine fI 126 undef [(125, undef), (122, .bool (!((x134.Kind == x139.Kind) && ((x134.Purl == x139.Purl) && ((x134.A == x139.A) && ((x134.B == x139.B) && true))))))] 25 [some 24, some 21] rfl rfl rfl rfl rfl rfl fun G a w S => ?_
      refine sSkip 21 true 122 126 S rfl rfl rfl hc144 rfl (lb rfl) fun a S => ?_
      exact leafL ⟨rfl, S⟩
    · refine fI 127 undef [(124, undef), (126, undef), (122, .bool (!((x134.Kind == x139.Kind) && ((x134.Purl == x139.Purl) && ((x134.A == x139.A) && ((x134.B == x139.B) && true))))))] 26 [some 23, some 25, some 21] rfl rfl rfl rfl rfl rfl fun G a w S => ?_
      refine sSkip 21 true 122 127 S rfl rfl rfl hc144 rfl (lb rfl) fun a S => ?_
      exact leafL ⟨rfl, S⟩
    · refine fI 128 undef [(127, undef), (122, .bool (!((x134.Kind == x139.Kind) && ((x134.Purl == x139.Purl) && ((x134.A == x139.A) && ((x134.B == x139.B) && true))))))] 27 [some 26, some 21] rfl rfl rfl rfl rfl rfl fun G a w S => ?_
      refine sSkip 21 true 122 128 S rfl rfl rfl hc144 rfl (lb rfl) fun a S => ?_
      exact leafL ⟨rfl, S⟩
    · refine fI 129 undef [(13, iv s46), (122, .bool (!((x134.Kind == x139.Kind) && ((x134.Purl == x139.Purl) && ((x134.A == x139.A) && ((x134.B == x139.B) && true))))))] 28 [none, some 21] rfl rfl rfl rfl rfl rfl fun G a w S => ?_
      refine sSkip 21 true 122 129 S rfl rfl rfl hc144 rfl (lb rfl) fun a S => ?_
      exact leafL ⟨rfl, S⟩
    · refine fI 130 undef [(129, undef), (122, .bool (!((x134.Kind == x139.Kind) && ((x134.Purl == x139.Purl) && ((x134.A == x139.A) && ((x134.B == x139.B) && true))))))] 29 [some 28, some 21] rfl rfl rfl rfl rfl rfl fun G a w S => ?_
      refine sSkip 21 true 122 130 S rfl rfl rfl hc144 rfl (lb rfl) fun a S => ?_
      exact leafL ⟨rfl, S⟩
    · refine fI 131 undef [(128, undef), (130, undef), (122, .bool (!((x134.Kind == x139.Kind) && ((x134.Purl == x139.Purl) && ((x134.A == x139.A) && ((x134.B == x139.B) && true))))))] 30 [some 27, some 29, some 21] rfl rfl rfl rfl rfl rfl fun G a w S => ?_
      refine sSkip 21 true 122 131 S rfl rfl rfl hc144 rfl (lb rfl) fun a S => ?_
      exact leafL ⟨rfl, S⟩
    · refine fI 132 undef [(131, undef), (122, .bool (!((x134.Kind == x139.Kind) && ((x134.Purl == x139.Purl) && ((x134.A == x139.A) && ((x134.B == x139.B) && true))))))] 31 [some 30, some 21] rfl rfl rfl rfl rfl rfl fun G a w S => ?_
      refine sSkip 21 true 122 132 S rfl rfl rfl hc144 rfl (lb rfl) fun a S => ?_
      exact leafL ⟨rfl, S⟩
    · refine fI 133 undef [(132, undef), (122, .bool (!((x134.Kind == x139.Kind) && ((x134.Purl == x139.Purl) && ((x134.A == x139.A) && ((x134.B == x139.B) && true))))))] 32 [some 31, some 21] rfl rfl rfl rfl rfl rfl fun G a w S => ?_
      refine sSkip 21 true 122 133 S rfl rfl rfl hc144 rfl (lb rfl) fun a S => ?_
      exact leafL ⟨rfl, S⟩
    · refine fI 134 undef [(123, undef), (133, undef), (122, .bool (!((x134.Kind == x139.Kind) && ((x134.Purl == x139.Purl) && ((x134.A == x139.A) && ((x134.B == x139.B) && true))))))] 33 [some 22, some 32, some 21] rfl rfl rfl rfl rfl rfl fun G a w S => ?_
      refine sSkip 21 true 122 134 S rfl rfl rfl hc144 rfl (lb rfl) fun a S => ?_
      exact leafL ⟨rfl, S⟩
    · refine fI 135 (.bool false) [(122, .bool (!((x134.Kind == x139.Kind) && ((x134.Purl == x139.Purl) && ((x134.A == x139.A) && ((x134.B == x139.B) && true)))))), (134, undef)] 34 [some 21, some 33] rfl rfl rfl rfl rfl rfl fun G a w S => ?_
      refine sPickF (.bool false) S (wN rfl) rfl rfl hc144 rfl rfl (lb rfl) fun a S => ?_
      exact leafL ⟨rfl, S⟩
    · refine fI 100 (.bool false) [(135, .bool false)] 35 [some 34] rfl rfl rfl rfl rfl rfl fun G a w S => ?_
      refine sMove (.bool false) S (wN rfl) (.inr rfl) rfl rfl (lb rfl) fun a S => ?_
      exact leafL ⟨rfl, S⟩
    exact leafT (⟨false, Option.some.inj h, S.fix [0] [6, 7, 8] (by decide) rfl rfl rfl⟩)
  obtain ⟨x145, hx146, h⟩ := bindSome h
  obtain ⟨x152, hx153, h⟩ := bindSome h
  obtain ⟨q157, hq158, S⟩ := pIdx (P := Try.prog) (r := r_api_Stitch) (v := .slice ad1 p0.length cp2) (xs := p0) (j := s45) 47 81 0 S Try.underlying47 rfl rfl hx135
  obtain ⟨u159, S⟩ := pLoad (r := r_api_Stitch) (q := q157) (x := x134) 0 S rfl
  obtain rfl : u159 = .agg #[.int .u8 x134.Kind, .bool x134.Purl, iv x134.A, iv x134.B] := S.mem.know (i := 1) (e := fRep r_api_Stitch (u159) x134) rfl
  obtain ⟨q160, hq161, S⟩ := pIdx (P := Try.prog) (r := r_api_Stitch) (v := .slice ad3 p1.length cp4) (xs := p1) (j := s46) 47 81 4 S Try.underlying47 rfl rfl hx140
  obtain ⟨u162, S⟩ := pLoad (r := r_api_Stitch) (q := q160) (x := x139) 0 S rfl
  obtain rfl : u162 = .agg #[.int .u8 x139.Kind, .bool x139.Purl, iv x139.A, iv x139.B] := S.mem.know (i := 1) (e := fRep r_api_Stitch (u162) x139) rfl
  obtain ⟨q163, hq164, S⟩ := pIdx (P := Try.prog) (r := (rL (rI .i64))) (v := .slice ad33 r30.length cp34) (xs := r30) (j := w64 (s45 + 1)) 98 101 8 S Try.underlying98 rfl rfl hx146
  obtain ⟨u165, S⟩ := pLoad (r := (rL (rI .i64))) (q := q163) (x := x145) 0 S rfl
  obtain ⟨ad166, cp167, _, rfl, _⟩ := S.mem.know (i := 1) (e := fRep (rL (rI .i64)) (u165) x145) rfl
  obtain ⟨q168, hq169, S⟩ := pIdx (P := Try.prog) (r := (rI .i64)) (v := .slice ad166 x145.length cp167) (xs := x145) (j := w64 (s46 + 1)) 101 3 1 S Try.underlying101 rfl rfl hx153
  obtain ⟨u170, S⟩ := pLoad (r := (rI .i64)) (q := q168) (x := x152) 0 S rfl
  obtain rfl : u170 = iv x152 := S.mem.know (i := 1) (e := fRep (rI .i64) (u170) x152) rfl
  refine sDraw (nf := []) (W := [(0, 101, iv s45), (1, 102, .slice ad1 p0.length cp2), (2, 103, iv (p0.length : Int)), (3, 104, .bool (decide (s45 < (p0.length : Int)))), (4, 105, .bool (decide (s45 < (p0.length : Int)))), (5, 106, iv s46), (6, 107, .slice ad3 p1.length cp4), (7, 108, iv (p1.length : Int)), (8, 109, .bool (decide (s46 < (p1.length : Int)))), (9, 110, .bool (decide (s46 < (p1.length : Int)))), (10, 111, .bool (decide (s46 < (p1.length : Int)))), (11, 112, .slice ad1 p0.length cp2), (12, 113, iv s45), (13, 114, q157), (14, 115, .agg #[.int .u8 x134.Kind, .bool x134.Purl, iv x134.A, iv x134.B]), (15, 116, .slice ad3 p1.length cp4), (16, 117, iv s46), (17, 118, q160), (18, 119, .agg #[.int .u8 x139.Kind, .bool x139.Purl, iv x139.A, iv x139.B]), (19, 120, .bool (!((x134.Kind == x139.Kind) && ((x134.Purl == x139.Purl) && ((x134.A == x139.A) && ((x134.B == x139.B) && true)))))), (20, 121, .bool (!((x134.Kind == x139.Kind) && ((x134.Purl == x139.Purl) && ((x134.A == x139.A) && ((x134.B == x139.B) && true)))))), (21, 122, .bool (!((x134.Kind == x139.Kind) && ((x134.Purl == x139.Purl) && ((x134.A == x139.A) && ((x134.B == x139.B) && true)))))), (22, 123, iv x67), (23, 124, .slice ad33 r30.length cp34), (24, 125, iv s45), (25, 126, iv (w64 (s45 + 1))), (26, 127, q163), (27, 128, .slice ad166 x145.length cp167), (28, 129, iv s46), (29, 130, iv (w64 (s46 + 1))), (30, 131, q168), (31, 132, iv x152), (32, 133, iv (w64 (1 + x152))), (33, 134, .bool (x67 == (w64 (1 + x152)))), (34, 135, .bool (x67 == (w64 (1 + x152)))), (35, 100, .bool (x67 == (w64 (1 + x152))))]) rfl S ?_
  refine node_by (A := anc_compare_Edits_1) (nf := []) (Y := []) (W := [(0, 101, iv s45), (1, 102, .slice ad1 p0.length cp2), (2, 103, iv (p0.length : Int)), (3, 104, .bool (decide (s45 < (p0.length : Int)))), (4, 105, .bool (decide (s45 < (p0.length : Int)))), (5, 106, iv s46), (6, 107, .slice ad3 p1.length cp4), (7, 108, iv (p1.length : Int)), (8, 109, .bool (decide (s46 < (p1.length : Int)))), (9, 110, .bool (decide (s46 < (p1.length : Int)))), (10, 111, .bool (decide (s46 < (p1.length : Int)))), (11, 112, .slice ad1 p0.length cp2), (12, 113, iv s45), (13, 114, q157), (14, 115, .agg #[.int .u8 x134.Kind, .bool x134.Purl, iv x134.A, iv x134.B]), (15, 116, .slice ad3 p1.length cp4), (16, 117, iv s46), (17, 118, q160), (18, 119, .agg #[.int .u8 x139.Kind, .bool x139.Purl, iv x139.A, iv x139.B]), (19, 120, .bool (!((x134.Kind == x139.Kind) && ((x134.Purl == x139.Purl) && ((x134.A == x139.A) && ((x134.B == x139.B) && true)))))), (20, 121, .bool (!((x134.Kind == x139.Kind) && ((x134.Purl == x139.Purl) && ((x134.A == x139.A) && ((x134.B == x139.B) && true)))))), (21, 122, .bool (!((x134.Kind == x139.Kind) && ((x134.Purl == x139.Purl) && ((x134.A == x139.A) && ((x134.B == x139.B) && true)))))), (22, 123, iv x67), (23, 124, .slice ad33 r30.length cp34), (24, 125, iv s45), (25, 126, iv (w64 (s45 + 1))), (26, 127, q163), (27, 128, .slice ad166 x145.length cp167), (28, 129, iv s46), (29, 130, iv (w64 (s46 + 1))), (30, 131, q168), (31, 132, iv x152), (32, 133, iv (w64 (1 + x152))), (33, 134, .bool (x67 == (w64 (1 + x152)))), (34, 135, .bool (x67 == (w64 (1 + x152)))), (35, 100, .bool (x67 == (w64 (1 + x152))))]) 36 (by kernel_rfl) (by kernel_rfl) (by kernel_rfl) (by kernel_rfl) (by kernel_rfl) [0, 1, 2, 3, 4, 5, 6, 7, 8, 9, 10, 11, 12, 13, 14, 15, 16, 17, 18, 19, 20, 21, 22, 23, 24, 25, 26, 27, 28, 29, 30, 31, 32, 33, 34, 35] (by kernel_rfl) (by decide) (by decide) (aF 0 35 (by decide) ?_ (aF 1 34 (by decide) ?_ (aF 2 33 (by decide) ?_ (aF 3 32 (by decide) ?_ (aF 4 31 (by decide) ?_ (aF 5 30 (by decide) ?_ (aF 6 29 (by decide) ?_ (aF 7 28 (by decide) ?_ (aF 8 27 (by decide) ?_ (aF 9 26 (by decide) ?_ (aF 10 25 (by decide) ?_ (aF 11 24 (by decide) ?_ (aF 12 23 (by decide) ?_ (aF 13 22 (by decide) ?_ (aF 14 21 (by decide) ?_ (aF 15 20 (by decide) ?_ (aF 16 19 (by decide) ?_ (aF 17 18 (by decide) ?_ (aF 18 17 (by decide) ?_ (aF 19 16 (by decide) ?_ (aF 20 15 (by decide) ?_ (aF 21 14 (by decide) ?_ (aF 22 13 (by decide) ?_ (aF 23 12 (by decide) ?_ (aF 24 11 (by decide) ?_ (aF 25 10 (by decide) ?_ (aF 26 9 (by decide) ?_ (aF 27 8 (by decide) ?_ (aF 28 7 (by decide) ?_ (aF 29 6 (by decide) ?_ (aF 30 5 (by decide) ?_ (aF 31 4 (by decide) ?_ (aF 32 3 (by decide) ?_ (aF 33 2 (by decide) ?_ (aF 34 1 (by decide) ?_ (aF 35 0 (by decide) ?_ (trivial))))))))))))))))))))))))))))))))))))) [(0, .slice ad1 p0.length cp2), (1, .slice ad3 p1.length cp4), (10, .slice ad33 r30.length cp34), (11, .slice ad43 s42.length cp44), (12, iv s45), (13, iv s46), (14, iv x67), (100, .bool (x67 == (w64 (1 + x152)))), (106, iv s46), (107, .slice ad3 p1.length cp4), (108, iv (p1.length : Int)), (109, .bool (decide (s46 < (p1.length : Int)))), (112, .slice ad1 p0.length cp2), (113, iv s45), (114, q157), (115, .agg #[.int .u8 x134.Kind, .bool x134.Purl, iv x134.A, iv x134.B]), (116, .slice ad3 p1.length cp4), (117, iv s46), (118, q160), (119, .agg #[.int .u8 x139.Kind, .bool x139.Purl, iv x139.A, iv x139.B]), (120, .bool (!((x134.Kind == x139.Kind) && ((x134.Purl == x139.Purl) && ((x134.A == x139.A) && ((x134.B == x139.B) && true)))))), (123, iv x67), (124, .slice ad33 r30.length cp34), (125, iv s45), (126, iv (w64 (s45 + 1))), (127, q163), (128, .slice ad166 x145.length cp167), (129, iv s46), (130, iv (w64 (s46 + 1))), (131, q168), (132, iv x152), (133, iv (w64 (1 + x152))), (134, .bool (x67 == (w64 (1 + x152))))] (fin_of [none, none, none, none, none, none, none, some 35, some 5, some 6, some 7, some 8, some 11, some 12, some 13, some 14, some 15, some 16, some 17, some 18, some 19, some 22, some 23, some 24, some 25, some 26, some 27, some 28, some 29, some 30, some 31, some 32, some 33] rfl (by kernel_rfl) (by kernel_rfl)) (fun _ a w S => ?_)
  · refine fI 101 (iv s45) [(12, iv s45)] 0 [none] rfl rfl rfl rfl rfl rfl fun G a w S => ?_
    refine sMove (iv s45) S (wN rfl) (.inl rfl) rfl rfl (lb rfl) fun a S => ?_
    exact leafL ⟨rfl, S⟩
  · refine fI 102 (.slice ad1 p0.length cp2) [(0, .slice ad1 p0.length cp2)] 1 [none] rfl rfl rfl rfl rfl rfl fun G a w S => ?_
    refine sMove (.slice ad1 p0.length cp2) S (wN rfl) (.inl rfl) rfl rfl (lb rfl) fun a S => ?_
    exact leafL ⟨rfl, S⟩
  · refine fI 103 (iv (p0.length : Int)) [(102, .slice ad1 p0.length cp2)] 2 [some 1] rfl rfl rfl rfl rfl rfl fun G a w S => ?_
    refine sLen (ad := ad1) (m := p0.length) (c := cp2) S (wN rfl) rfl Try.underlying47 rfl rfl (lb rfl) fun a S => ?_
    exact leafL ⟨rfl, S⟩
  · refine fI 104 (.bool (decide (s45 < (p0.length : Int)))) [(101, iv s45), (103, iv (p0.length : Int))] 3 [some 0, some 2] rfl rfl rfl rfl rfl rfl fun G a w S => ?_
    refine sBin (.bool (decide (s45 < (p0.length : Int)))) S (wN rfl) rfl rfl rfl (bLt _ _ _ _ .i64 s45 (p0.length : Int)) rfl (lb rfl) fun a S => ?_
    exact leafL ⟨rfl, S⟩
  · refine fI 105 (.bool (decide (s45 < (p0.length : Int)))) [(104, .bool (decide (s45 < (p0.length : Int))))] 4 [some 3] rfl rfl rfl rfl rfl rfl fun G a w S => ?_
    refine sMove (.bool (decide (s45 < (p0.length : Int)))) S (wN rfl) (.inl rfl) rfl rfl (lb rfl) fun a S => ?_
    exact leafL ⟨rfl, S⟩
  · refine fI 106 (iv s46) [(13, iv s46), (105, .bool (decide (s45 < (p0.length : Int))))] 5 [none, some 4] rfl rfl rfl rfl rfl rfl fun G a w S => ?_
    refine sMove (iv s46) S (wG 4 true 105 rfl rfl rfl hc132) (.inl rfl) rfl rfl (lb rfl) fun a S => ?_
    exact leafL ⟨rfl, S⟩
  · refine fI 107 (.slice ad3 p1.length cp4) [(1, .slice ad3 p1.length cp4), (105, .bool (decide (s45 < (p0.length : Int))))] 6 [none, some 4] rfl rfl rfl rfl rfl rfl fun G a w S => ?_
    refine sMove (.slice ad3 p1.length cp4) S (wG 4 true 105 rfl rfl rfl hc132) (.inl rfl) rfl rfl (lb rfl) fun a S => ?_
    exact leafL ⟨rfl, S⟩
  · refine fI 108 (iv (p1.length : Int)) [(107, .slice ad3 p1.length cp4), (105, .bool (decide (s45 < (p0.length : Int))))] 7 [some 6, some 4] rfl rfl rfl rfl rfl rfl fun G a w S => ?_
    refine sLen (ad := ad3) (m := p1.length) (c := cp4) S (wG 4 true 105 rfl rfl rfl hc132) rfl Try.underlying47 rfl rfl (lb rfl) fun a S => ?_
    exact leafL ⟨rfl, S⟩
  · refine fI 109 (.bool (decide (s46 < (p1.length : Int)))) [(106, iv s46), (108, iv (p1.length : Int)), (105, .bool (decide (s45 < (p0.length : Int))))] 8 [some 5, some 7, some 4] rfl rfl rfl rfl rfl rfl fun G a w S => ?_
    refine sBin (.bool (decide (s46 < (p1.length : Int)))) S (wG 4 true 105 rfl rfl rfl hc132) rfl rfl rfl (bLt _ _ _ _ .i64 s46 (p1.length : Int)) rfl (lb rfl) fun a S => ?_
    exact leafL ⟨rfl, S⟩
  · refine fI 110 (.bool (decide (s46 < (p1.length : Int)))) [(105, .bool (decide (s45 < (p0.length : Int)))), (109, .bool (decide (s46 < (p1.length : Int))))] 9 [some 4, some 8] rfl rfl rfl rfl rfl rfl fun G a w S => ?_
    refine sPickT (.bool (decide (s46 < (p1.length : Int)))) S (wN rfl) rfl rfl hc132 rfl rfl (lb rfl) fun a S => ?_
    exact leafL ⟨rfl, S⟩
  · refine fI 111 (.bool (decide (s46 < (p1.length : Int)))) [(110, .bool (decide (s46 < (p1.length : Int))))] 10 [some 9] rfl rfl rfl rfl rfl rfl fun G a w S => ?_
    refine sMove (.bool (decide (s46 < (p1.length : Int)))) S (wN rfl) (.inl rfl) rfl rfl (lb rfl) fun a S => ?_
    exact leafL ⟨rfl, S⟩
  · refine fI 112 (.slice ad1 p0.length cp2) [(0, .slice ad1 p0.length cp2), (111, .bool (decide (s46 < (p1.length : Int))))] 11 [none, some 10] rfl rfl rfl rfl rfl rfl fun G a w S => ?_
    refine sMove (.slice ad1 p0.length cp2) S (wG 10 true 111 rfl rfl rfl hc133) (.inl rfl) rfl rfl (lb rfl) fun a S => ?_
    exact leafL ⟨rfl, S⟩
  · refine fI 113 (iv s45) [(12, iv s45), (111, .bool (decide (s46 < (p1.length : Int))))] 12 [none, some 10] rfl rfl rfl rfl rfl rfl fun G a w S => ?_
    refine sMove (iv s45) S (wG 10 true 111 rfl rfl rfl hc133) (.inl rfl) rfl rfl (lb rfl) fun a S => ?_
    exact leafL ⟨rfl, S⟩
  · refine fI 114 q157 [(112, .slice ad1 p0.length cp2), (113, iv s45), (111, .bool (decide (s46 < (p1.length : Int))))] 13 [some 11, some 12, some 10] rfl rfl rfl rfl rfl rfl fun G a w S => ?_
    refine sIdxV (v := .slice ad1 p0.length cp2) (k := .i64) (j := s45) S (wG 10 true 111 rfl rfl rfl hc133) rfl rfl rfl hq158 rfl (lb rfl) fun a S => ?_
    exact leafL ⟨rfl, S⟩
  · refine fI 115 (.agg #[.int .u8 x134.Kind, .bool x134.Purl, iv x134.A, iv x134.B]) [(114, q157), (111, .bool (decide (s46 < (p1.length : Int))))] 14 [some 13, some 10] rfl rfl rfl rfl rfl rfl fun G a w S => ?_
    refine sLoadVN (vq := q157) 9 [.int .u8 x134.Kind, .bool x134.Purl, iv x134.A, iv x134.B] S (wG 10 true 111 rfl rfl rfl hc133) rfl rfl rfl rfl rfl rfl (lb rfl) fun a S => ?_
    exact leafL ⟨rfl, S⟩
  · refine fI 116 (.slice ad3 p1.length cp4) [(1, .slice ad3 p1.length cp4), (111, .bool (decide (s46 < (p1.length : Int))))] 15 [none, some 10] rfl rfl rfl rfl rfl rfl fun G a w S => ?_
    refine sMove (.slice ad3 p1.length cp4) S (wG 10 true 111 rfl rfl rfl hc133) (.inl rfl) rfl rfl (lb rfl) fun a S => ?_
    exact leafL ⟨rfl, S⟩
  · refine fI 117 (iv s46) [(13, iv s46), (111, .bool (decide (s46 < (p1.length : Int))))] 16 [none, some 10] rfl rfl rfl rfl rfl rfl fun G a w S => ?_
    refine sMove (iv s46) S (wG 10 true 111 rfl rfl rfl hc133) (.inl rfl) rfl rfl (lb rfl) fun a S => ?_
    exact leafL ⟨rfl, S⟩
  · refine fI 118 q160 [(116, .slice ad3 p1.length cp4), (117, iv s46), (111, .bool (decide (s46 < (p1.length : Int))))] 17 [some 15, some 16, some 10] rfl rfl rfl rfl rfl rfl fun G a w S => ?_
    refine sIdxV (v := .slice ad3 p1.length cp4) (k := .i64) (j := s46) S (wG 10 true 111 rfl rfl rfl hc133) rfl rfl rfl hq161 rfl (lb rfl) fun a S => ?_
    exact leafL ⟨rfl, S⟩
  · refine fI 119 (.agg #[.int .u8 x139.Kind, .bool x139.Purl, iv x139.A, iv x139.B]) [(118, q160), (111, .bool (decide (s46 < (p1.length : Int))))] 18 [some 17, some 10] rfl rfl rfl rfl rfl rfl fun G a w S => ?_
    refine sLoadVN (vq := q160) 6 [.int .u8 x139.Kind, .bool x139.Purl, iv x139.A, iv x139.B] S (wG 10 true 111 rfl rfl rfl hc133) rfl rfl rfl rfl rfl rfl (lb rfl) fun a S => ?_
    exact leafL ⟨rfl, S⟩
  · refine fI 120 (.bool (!((x134.Kind == x139.Kind) && ((x134.Purl == x139.Purl) && ((x134.A == x139.A) && ((x134.B == x139.B) && true)))))) [(115, .agg #[.int .u8 x134.Kind, .bool x134.Purl, iv x134.A, iv x134.B]), (119, .agg #[.int .u8 x139.Kind, .bool x139.Purl, iv x139.A, iv x139.B]), (111, .bool (decide (s46 < (p1.length : Int))))] 19 [some 14, some 18, some 10] rfl rfl rfl rfl rfl rfl fun G a w S => ?_
    refine sBin (.bool (!((x134.Kind == x139.Kind) && ((x134.Purl == x139.Purl) && ((x134.A == x139.A) && ((x134.B == x139.B) && true)))))) S (wG 10 true 111 rfl rfl rfl hc133) rfl rfl rfl (bNeV _ _ _ _ #[.int .u8 x134.Kind, .bool x134.Purl, iv x134.A, iv x134.B] #[.int .u8 x139.Kind, .bool x139.Purl, iv x139.A, iv x139.B] ((x134.Kind == x139.Kind) && ((x134.Purl == x139.Purl) && ((x134.A == x139.A) && ((x134.B == x139.B) && true)))) (by kernel_rfl) (eqlV_of (by kernel_rfl))) rfl (lb rfl) fun a S => ?_
    exact leafL ⟨rfl, S⟩
  · refine fI 121 (.bool (!((x134.Kind == x139.Kind) && ((x134.Purl == x139.Purl) && ((x134.A == x139.A) && ((x134.B == x139.B) && true)))))) [(111, .bool (decide (s46 < (p1.length : Int)))), (120, .bool (!((x134.Kind == x139.Kind) && ((x134.Purl == x139.Purl) && ((x134.A == x139.A) && ((x134.B == x139.B) && true))))))] 20 [some 10, some 19] rfl rfl rfl rfl rfl rfl fun G a w S => ?_
    refine sPickT (.bool (!((x134.Kind == x139.Kind) && ((x134.Purl == x139.Purl) && ((x134.A == x139.A) && ((x134.B == x139.B) && true)))))) S (wN rfl) rfl rfl hc133 rfl rfl (lb rfl) fun a S => ?_
    exact leafL ⟨rfl, S⟩
  · refine fI 122 (.bool (!((x134.Kind == x139.Kind) && ((x134.Purl == x139.Purl) && ((x134.A == x139.A) && ((x134.B == x139.B) && true)))))) [(121, .bool (!((x134.Kind == x139.Kind) && ((x134.Purl == x139.Purl) && ((x134.A == x139.A) && ((x134.B == x139.B) && true))))))] 21 [some 20] rfl rfl rfl rfl rfl rfl fun G a w S => ?_
    refine sMove (.bool (!((x134.Kind == x139.Kind) && ((x134.Purl == x139.Purl) && ((x134.A == x139.A) && ((x134.B == x139.B) && true)))))) S (wN rfl) (.inl rfl) rfl rfl (lb rfl) fun a S => ?_
    exact leafL ⟨rfl, S⟩
  · refine fI 123 (iv x67) [(14, iv x67), (122, .bool (!((x134.Kind == x139.Kind) && ((x134.Purl == x139.Purl) && ((x134.A == x139.A) && ((x134.B == x139.B) && true))))))] 22 [none, some 21] rfl rfl rfl rfl rfl rfl fun G a w S => ?_
    refine sMove (iv x67) S (wG 21 true 122 rfl rfl rfl hc144) (.inl rfl) rfl rfl (lb rfl) fun a S => ?_
    exact leafL ⟨rfl, S⟩
  · refine fI 124 (.slice ad33 r30.length cp34) [(10, .slice ad33 r30.length cp34), (122, .bool (!((x134.Kind == x139.Kind) && ((x134.Purl == x139.Purl) && ((x134.A == x139.A) && ((x134.B == x139.B) && true))))))] 23 [none, some 21] rfl rfl rfl rfl rfl rfl fun G a w S => ?_
    refine sMove (.slice ad33 r30.length cp34) S (wG 21 true 122 rfl rfl rfl hc144) (.inl rfl) rfl rfl (lb rfl) fun a S => ?_
    exact leafL ⟨rfl, S⟩
  · refine fI 125 (iv s45) [(12, iv s45), (122, .bool (!((x134.Kind == x139.Kind) && ((x134.Purl == x139.Purl) && ((x134.A == x139.A) && ((x134.B == x139.B) && true))))))] 24 [none, some 21] rfl rfl rfl rfl rfl rfl fun G a w S => ?_
    refine sMove (iv s45) S (wG 21 true 122 rfl rfl rfl hc144) (.inl rfl) rfl rfl (lb rfl) fun a S => ?_
    exact leafL ⟨rfl, S⟩
  · refine fI 126 (iv (w64 (s45 + 1))) [(125, iv s45), (122, .bool (!((x134.Kind == x139.Kind) && ((x134.Purl == x139.Purl) && ((x134.A == x139.A) && ((x134.B == x139.B) && true))))))] 25 [some 24, some 21] rfl rfl rfl rfl rfl rfl fun G a w S => ?_
    refine sBin (iv (w64 (s45 + 1))) S (wG 21 true 122 rfl rfl rfl hc144) rfl rfl rfl (bAdd _ _ _ _ s45 1) rfl (lb rfl) fun a S => ?_
    exact leafL ⟨rfl, S⟩
  · refine fI 127 q163 [(124, .slice ad33 r30.length cp34), (126, iv (w64 (s45 + 1))), (122, .bool (!((x134.Kind == x139.Kind) && ((x134.Purl == x139.Purl) && ((x134.A == x139.A) && ((x134.B == x139.B) && true))))))] 26 [some 23, some 25, some 21] rfl rfl rfl rfl rfl rfl fun G a w S => ?_
    refine sIdxV (v := .slice ad33 r30.length cp34) (k := .i64) (j := w64 (s45 + 1)) S (wG 21 true 122 rfl rfl rfl hc144) rfl rfl rfl hq164 rfl (lb rfl) fun a S => ?_
    exact leafL ⟨rfl, S⟩
  · refine fI 128 (.slice ad166 x145.length cp167) [(127, q163), (122, .bool (!((x134.Kind == x139.Kind) && ((x134.Purl == x139.Purl) && ((x134.A == x139.A) && ((x134.B == x139.B) && true))))))] 27 [some 26, some 21] rfl rfl rfl rfl rfl rfl fun G a w S => ?_
    refine sLoadV1 (vq := q163) 3 (.slice ad166 x145.length cp167) S (wG 21 true 122 rfl rfl rfl hc144) rfl rfl rfl rfl rfl (lb rfl) fun a S => ?_
    exact leafL ⟨rfl, S⟩
  · refine fI 129 (iv s46) [(13, iv s46), (122, .bool (!((x134.Kind == x139.Kind) && ((x134.Purl == x139.Purl) && ((x134.A == x139.A) && ((x134.B == x139.B) && true))))))] 28 [none, some 21] rfl rfl rfl rfl rfl rfl fun G a w S => ?_
    refine sMove (iv s46) S (wG 21 true 122 rfl rfl rfl hc144) (.inl rfl) rfl rfl (lb rfl) fun a S => ?_
    exact leafL ⟨rfl, S⟩
  · refine fI 130 (iv (w64 (s46 + 1))) [(129, iv s46), (122, .bool (!((x134.Kind == x139.Kind) && ((x134.Purl == x139.Purl) && ((x134.A == x139.A) && ((x134.B == x139.B) && true))))))] 29 [some 28, some 21] rfl rfl rfl rfl rfl rfl fun G a w S => ?_
    refine sBin (iv (w64 (s46 + 1))) S (wG 21 true 122 rfl rfl rfl hc144) rfl rfl rfl (bAdd _ _ _ _ s46 1) rfl (lb rfl) fun a S => ?_
    exact leafL ⟨rfl, S⟩
  · refine fI 131 q168 [(128, .slice ad166 x145.length cp167), (130, iv (w64 (s46 + 1))), (122, .bool (!((x134.Kind == x139.Kind) && ((x134.Purl == x139.Purl) && ((x134.A == x139.A) && ((x134.B == x139.B) && true))))))] 30 [some 27, some 29, some 21] rfl rfl rfl rfl rfl rfl fun G a w S => ?_
    refine sIdxV (v := .slice ad166 x145.length cp167) (k := .i64) (j := w64 (s46 + 1)) S (wG 21 true 122 rfl rfl rfl hc144) rfl rfl rfl hq169 rfl (lb rfl) fun a S => ?_
    exact leafL ⟨rfl, S⟩
  · refine fI 132 (iv x152) [(131, q168), (122, .bool (!((x134.Kind == x139.Kind) && ((x134.Purl == x139.Purl) && ((x134.A == x139.A) && ((x134.B == x139.B) && true))))))] 31 [some 30, some 21] rfl rfl rfl rfl rfl rfl fun G a w S => ?_
    refine sLoadV1 (vq := q168) 0 (iv x152) S (wG 21 true 122 rfl rfl rfl hc144) rfl rfl rfl rfl rfl (lb rfl) fun a S => ?_
    exact leafL ⟨rfl, S⟩
  · refine fI 133 (iv (w64 (1 + x152))) [(132, iv x152), (122, .bool (!((x134.Kind == x139.Kind) && ((x134.Purl == x139.Purl) && ((x134.A == x139.A) && ((x134.B == x139.B) && true))))))] 32 [some 31, some 21] rfl rfl rfl rfl rfl rfl fun G a w S => ?_
    refine sBin (iv (w64 (1 + x152))) S (wG 21 true 122 rfl rfl rfl hc144) rfl rfl rfl (bAdd _ _ _ _ 1 x152) rfl (lb rfl) fun a S => ?_
    exact leafL ⟨rfl, S⟩
  · refine fI 134 (.bool (x67 == (w64 (1 + x152)))) [(123, iv x67), (133, iv (w64 (1 + x152))), (122, .bool (!((x134.Kind == x139.Kind) && ((x134.Purl == x139.Purl) && ((x134.A == x139.A) && ((x134.B == x139.B) && true))))))] 33 [some 22, some 32, some 21] rfl rfl rfl rfl rfl rfl fun G a w S => ?_
    refine sBin (.bool (x67 == (w64 (1 + x152)))) S (wG 21 true 122 rfl rfl rfl hc144) rfl rfl rfl (bEq _ _ _ _ .i64 x67 (w64 (1 + x152))) rfl (lb rfl) fun a S => ?_
    exact leafL ⟨rfl, S⟩
  · refine fI 135 (.bool (x67 == (w64 (1 + x152)))) [(122, .bool (!((x134.Kind == x139.Kind) && ((x134.Purl == x139.Purl) && ((x134.A == x139.A) && ((x134.B == x139.B) && true)))))), (134, .bool (x67 == (w64 (1 + x152))))] 34 [some 21, some 33] rfl rfl rfl rfl rfl rfl fun G a w S => ?_
    refine sPickT (.bool (x67 == (w64 (1 + x152)))) S (wN rfl) rfl rfl hc144 rfl rfl (lb rfl) fun a S => ?_
    exact leafL ⟨rfl, S⟩
  · refine fI 100 (.bool (x67 == (w64 (1 + x152)))) [(135, .bool (x67 == (w64 (1 + x152))))] 35 [some 34] rfl rfl rfl rfl rfl rfl fun G a w S => ?_
    refine sMove (.bool (x67 == (w64 (1 + x152)))) S (wN rfl) (.inr rfl) rfl rfl (lb rfl) fun a S => ?_
    exact leafL ⟨rfl, S⟩
  exact leafT (⟨x67 == (w64 (1 + x152)), Option.some.inj h, S.fix [0] [12, 13, 14] (by decide) rfl rfl rfl⟩)

end Go.Proofs.Ytffikfajljbmnaa
namespace Go.Proofs.Ytffikfajljbmnaa
open Go.RowKit
set_option linter.unusedVariables false

def anc_raddleref46_Table_0 : List (List Nat) := [[], [], [0, 1], [0, 1, 2], [], [], [4, 5], [4, 5, 6], [0, 1, 2, 3, 4, 5, 6, 7]]
def anc_raddleref46_Table_1 : List (List Nat) := [[], [], [], [2], [1, 2, 3], [1, 2, 3, 4], [], [1, 2, 3, 4, 5, 6], [1, 2, 3, 4, 5, 6, 7], [1, 2, 3, 4, 5, 6, 7, 8], [], [], [11], [10, 11, 12], [10, 11, 12, 13], [10, 11, 12, 13, 14], [0, 1, 2, 3, 4, 5, 6, 7, 8, 9, 10, 11, 12, 13, 14, 15], [0, 1, 2, 3, 4, 5, 6, 7, 8, 9, 10, 11, 12, 13, 14, 15, 16]]
noncomputable def raddleref46_Table_l1 (s16 : Int) (p0 : (List api_Stitch)) (p1 : (List api_Stitch)) (s15 : List (List Int)) : (List Int × Int) → Option ((List Int × Int) ⊕ List Int) := fun s0 => match s0 with
  | (s36, s37) =>
    if decide (0 ≤ s37) then
      Option.bind (α := Int) (
        Option.bind (α := Bool) (
          if decide (s16 < (p0.length : Int)) then
            some (decide (s37 < (p1.length : Int)))
          else
            some false) fun o50 =>
        if o50 then
          Option.bind (idxO s15 (w64 (s16 + 1))) fun x56 =>
          Option.bind (idxO x56 (w64 (s37 + 1))) fun x64 =>
          Option.bind (α := Int) (
            Option.bind (idxO p0 s16) fun x73 =>
            Option.bind (idxO p1 s37) fun x78 =>
            if !((x73.Kind == x78.Kind) && ((x73.Purl == x78.Purl) && ((x73.A == x78.A) && ((x73.B == x78.B) && true)))) then
              some (w64 (x64 + 1))
            else
              some x64) fun o69 =>
          Option.bind (idxO x56 s37) fun x96 =>
          Option.bind (idxO s36 (w64 (s37 + 1))) fun x101 =>
          some (min3 o69 (w64 (x96 + 1)) (w64 (x101 + 1)))
        else
          some (w64 ((w64 ((w64 ((p0.length : Int) - s16)) + (p1.length : Int))) - s37))) fun o47 =>
      Option.bind (idxO s36 s37) fun x118 =>
      Option.bind (setO s36 s37 o47) fun l123 =>
      some (.inl (l123, w64 (s37 - 1)))
    else
      some (.inr s36)
noncomputable def raddleref46_Table_l2 (p1 : (List api_Stitch)) (p0 : (List api_Stitch)) : (List (List Int) × Int) → Option ((List (List Int) × Int) ⊕ List (List Int)) := fun s0 => match s0 with
  | (s15, s16) =>
    if decide (0 ≤ s16) then
      Option.bind (α := List (List Int)) (
        Option.bind (makeO (w64 ((p1.length : Int) + 1)) (0 : Int)) fun m30 =>
        Option.bind (α := List Int) (
          Option.bind (whileO (raddleref46_Table_l1 s16 p0 p1 s15) (m30, (p1.length : Int))) fun e41 =>
            some e41) fun o32 =>
        Option.bind (idxO s15 s16) fun x125 =>
        Option.bind (setO s15 s16 o32) fun l130 =>
        some l130) fun o24 =>
      some (.inl (o24, w64 (s16 - 1)))
    else
      some (.inr s15)
noncomputable def F_raddleref46_Table (p0 : (List api_Stitch)) (p1 : (List api_Stitch)) : Option (List (List Int)) :=
  Option.bind (makeO (w64 ((p0.length : Int) + 1)) ([] : (List Int))) fun m9 =>
  Option.bind (α := List (List Int)) (
    Option.bind (whileO (raddleref46_Table_l2 p1 p0) (m9, (p0.length : Int))) fun e20 =>
      some e20) fun o11 =>
  some o11
def c_raddleref46_Table_val (r : (List (List Int))) (x : Value) : Value := x
def c_raddleref46_Table_D (r : (List (List Int))) (x : Value) : List Fact := [fRep (rL (rL (rI .i64))) x r]
set_option maxHeartbeats 4000000 in
set_option maxRecDepth 100000 in
theorem c_raddleref46_Table (E : Nat → Prop) (w0 : World) (p0 : (List api_Stitch)) (v0 : Value) (p1 : (List api_Stitch)) (v1 : Value) (r : (List (List Int))) (h : F_raddleref46_Table p0 p1 = some r) (S : St0 E [] w0 w0 [] [fRep (rL r_api_Stitch) (v0) p0, fRep (rL r_api_Stitch) (v1) p1]) :
    Calls Try.prog 57 #[v0, v1] w0 (Ret (X := Value) E [] w0 (c_raddleref46_Table_val r) (fun _ => []) (c_raddleref46_Table_D r)) := by
  unfold F_raddleref46_Table at h
  obtain ⟨ad1, cp2, _, rfl, _⟩ := S.know (i := 0) (e := fRep (rL r_api_Stitch) (v0) p0) rfl
  obtain ⟨ad3, cp4, _, rfl, _⟩ := S.know (i := 1) (e := fRep (rL r_api_Stitch) (v1) p1) rfl
  refine sEnter (args := [.slice ad1 p0.length cp2, .slice ad3 p1.length cp4]) 95 Try.func57 rfl rfl (by simp) S (fun a S => ?_)
  refine sSeq (fun K5 hK5 => ?_)
  refine sRegion ?_
  refine sMove (.slice none 0 0) S (wN rfl) (.inr rfl) rfl rfl (lb rfl) fun a S => ?_
  refine leafL (leafT (hK5 _ _ ?_))
  refine sSeq (fun K6 hK6 => ?_)
  refine sRegion ?_
  refine sMove (.slice ad1 p0.length cp2) S (wN rfl) (.inl rfl) rfl rfl (lb rfl) fun a S => ?_
  refine sLen (ad := ad1) (m := p0.length) (c := cp2) S (wN rfl) rfl Try.underlying47 rfl rfl (lb rfl) fun a S => ?_
  refine sBin (iv (w64 ((p0.length : Int) + 1))) S (wN rfl) rfl rfl rfl (bAdd _ _ _ _ (p0.length : Int) 1) rfl (lb rfl) fun a S => ?_
  obtain ⟨m9, hx10, h⟩ := bindSome h
  refine sMake (r := (rL (rI .i64))) (m := w64 ((p0.length : Int) + 1)) (xs := m9) (.slice none 0 0) ([] : (List Int)) 24 S (wN rfl) rfl Try.underlying98 rfl rfl (by decide) (fun E w => rL_nil _ E w) rfl rfl hx10 rfl (lb rfl) fun a w ad7 cp8 S => ?_
  refine sMove (.slice ad7 m9.length cp8) S (wN rfl) (.inr rfl) rfl rfl (lb rfl) fun a S => ?_
  refine leafL (leafT (hK6 _ _ ?_))
  obtain ⟨t12, h, g13⟩ := bindSome h
  refine sCut (fun a w => ∃ o11, o11 = t12 ∧ St [] E [] w0 95 a w [(5, .slice ad7 o11.length cp8)] [eRow (rL (rI .i64)) 101 (.slice ad7 o11.length cp8) o11] []) ?_ (fun a w hI => ?_)
  rotate_left
  · obtain ⟨o11, rfl, S⟩ := hI
    have h := g13
    clear g13
    try dsimp only at h
    refine sSeq (fun K132 hK132 => ?_)
    refine sRegion ?_
    refine sMove (.slice ad7 o11.length cp8) S (wN rfl) (.inl rfl) rfl rfl (lb rfl) fun a S => ?_
    refine sMove (.slice ad7 o11.length cp8) S (wN rfl) (.inr rfl) rfl rfl (lb rfl) fun a S => ?_
    refine leafL (leafT (hK132 _ _ ?_))
    obtain rfl := Option.some.inj h
    have S := S.shutR (r := (rL (rI .i64))) (T := 101) (v := .slice ad7 o11.length cp8) (xs := o11) 0 rfl
    exact wp_ret (sRet (.slice ad7 o11.length cp8) S (rsl1 rfl (rvT (t := 4) (v := .slice ad7 o11.length cp8) S rfl)) ⟨(.slice ad7 o11.length cp8), rfl, S.mem.sel [] [0] (by decide) rfl rfl⟩)
  refine sSeq (fun K14 hK14 => ?_)
  refine sRegion ?_
  refine sMove (.slice ad1 p0.length cp2) S (wN rfl) (.inl rfl) rfl rfl (lb rfl) fun a S => ?_
  refine sLen (ad := ad1) (m := p0.length) (c := cp2) S (wN rfl) rfl Try.underlying47 rfl rfl (lb rfl) fun a S => ?_
  refine sMove (iv (p0.length : Int)) S (wN rfl) (.inr rfl) rfl rfl (lb rfl) fun a S => ?_
  refine leafL (leafT (hK14 _ _ ?_))
  refine wp_block ?_
  obtain ⟨t19, hl, g18⟩ := bindSome h
  refine sLoop hl (fun s0 a w => match s0 with | (s15, s16) => St [] E [] w0 95 a w [(0, .slice ad1 p0.length cp2), (1, .slice ad3 p1.length cp4), (5, .slice ad7 s15.length cp8), (6, iv s16)] [eRow (rL (rI .i64)) 101 (.slice ad7 s15.length cp8) s15] [fRep (rL r_api_Stitch) (.slice ad1 p0.length cp2) p0, fRep (rL r_api_Stitch) (.slice ad3 p1.length cp4) p1]) (S.fix [0] [0, 1] (by decide) rfl rfl rfl) ?_
  clear hl h
  intro s0 a w c0 hI h hu17
  obtain ⟨s15, s16⟩ := s0
  unfold raddleref46_Table_l2 at h
  dsimp only at h hI
  have S := hI
  refine sSeq (fun K21 hK21 => ?_)
  refine sSeq (fun K22 hK22 => ?_)
  refine sRegion ?_
  refine sMove (iv s16) S (wN rfl) (.inl rfl) rfl rfl (lb rfl) fun a S => ?_
  refine sBin (.bool (decide (0 ≤ s16))) S (wN rfl) rfl rfl rfl (bGe _ _ _ _ .i64 s16 0) rfl (lb rfl) fun a S => ?_
  refine leafL (leafT (hK22 _ _ ?_))
  rcases iteSome h with ⟨hc23, h⟩ | ⟨hc23, h⟩
  rotate_left
  · refine sCondF S rfl hc23 ?_
    obtain rfl := Option.some.inj h
    obtain rfl := hu17 _ rfl
    have h := g18
    clear g18
    try dsimp only at h
    exact wp_exit (xThen (xThen (xHit (leafT (⟨s15, Option.some.inj h, S.fix [0] [] (by decide) rfl rfl rfl⟩)))))
  refine sCondT S rfl hc23 ?_
  refine wp_skip (leafT (hK21 _ _ ?_))
  obtain ⟨t25, h, g26⟩ := bindSome h
  refine sCut (fun a w => ∃ o24, o24 = t25 ∧ St [] E [] w0 95 a w [(0, .slice ad1 p0.length cp2), (1, .slice ad3 p1.length cp4), (5, .slice ad7 o24.length cp8), (6, iv s16)] [eRow (rL (rI .i64)) 101 (.slice ad7 o24.length cp8) o24] [fRep (rL r_api_Stitch) (.slice ad1 p0.length cp2) p0, fRep (rL r_api_Stitch) (.slice ad3 p1.length cp4) p1]) ?_ (fun a w hI => ?_)
  rotate_left
  · obtain ⟨o24, rfl, S⟩ := hI
    have h := g26
    clear g26
    try dsimp only at h
    refine sRegion ?_
    refine sMove (iv s16) S (wN rfl) (.inl rfl) rfl rfl (lb rfl) fun a S => ?_
    refine sBin (iv (w64 (s16 - 1))) S (wN rfl) rfl rfl rfl (bSub _ _ _ _ s16 1) rfl (lb rfl) fun a S => ?_
    refine sMove (iv (w64 (s16 - 1))) S (wN rfl) (.inr rfl) rfl rfl (lb rfl) fun a S => ?_
    exact leafL (leafT (⟨(o24, w64 (s16 - 1)), (Option.some.inj h).symm, (S.fix [0] [0, 1] (by decide) rfl rfl rfl)⟩))
  refine wp_block ?_
  refine sSeq (fun K27 hK27 => ?_)
  refine sRegion ?_
  refine sMove (.slice ad3 p1.length cp4) S (wN rfl) (.inl rfl) rfl rfl (lb rfl) fun a S => ?_
  refine sLen (ad := ad3) (m := p1.length) (c := cp4) S (wN rfl) rfl Try.underlying47 rfl rfl (lb rfl) fun a S => ?_
  refine sBin (iv (w64 ((p1.length : Int) + 1))) S (wN rfl) rfl rfl rfl (bAdd _ _ _ _ (p1.length : Int) 1) rfl (lb rfl) fun a S => ?_
  obtain ⟨m30, hx31, h⟩ := bindSome h
  refine sMake (r := (rI .i64)) (m := w64 ((p1.length : Int) + 1)) (xs := m30) (iv 0) (0 : Int) 8 S (wN rfl) rfl Try.underlying101 rfl rfl (by decide) (fun _ _ => rfl) rfl rfl hx31 rfl (lb rfl) fun a w ad28 cp29 S => ?_
  refine sMove (.slice ad28 m30.length cp29) S (wN rfl) (.inr rfl) rfl rfl (lb rfl) fun a S => ?_
  refine leafL (leafT (hK27 _ _ ?_))
  obtain ⟨t33, h, g34⟩ := bindSome h
  refine sCut (fun a w => ∃ o32, o32 = t33 ∧ St [] E [] w0 95 a w [(0, .slice ad1 p0.length cp2), (1, .slice ad3 p1.length cp4), (5, .slice ad7 s15.length cp8), (6, iv s16), (7, .slice ad28 o32.length cp29)] [eRow (rL (rI .i64)) 101 (.slice ad7 s15.length cp8) s15, eRow (rI .i64) 3 (.slice ad28 o32.length cp29) o32] [fRep (rL r_api_Stitch) (.slice ad1 p0.length cp2) p0, fRep (rL r_api_Stitch) (.slice ad3 p1.length cp4) p1]) ?_ (fun a w hI => ?_)
  rotate_left
  · obtain ⟨o32, rfl, S⟩ := hI
    have h := g34
    clear g34
    try dsimp only at h
    refine sRegion ?_
    refine sMove (.slice ad7 s15.length cp8) S (wN rfl) (.inl rfl) rfl rfl (lb rfl) fun a S => ?_
    refine sMove (iv s16) S (wN rfl) (.inl rfl) rfl rfl (lb rfl) fun a S => ?_
    refine sMove (.slice ad28 o32.length cp29) S (wN rfl) (.inl rfl) rfl rfl (lb rfl) fun a S => ?_
    obtain ⟨x125, hx126, h⟩ := bindSome h
    obtain ⟨q127, hq128, hp129⟩ := pIdxR (P := Try.prog) (r := (rL (rI .i64))) (T := 101) (v := .slice ad7 s15.length cp8) (xs := s15) (j := s16) 98 101 0 S Try.underlying98 rfl rfl hx126
    refine sIdxV (v := .slice ad7 s15.length cp8) (k := .i64) (j := s16) S (wN rfl) rfl rfl rfl hq128 rfl (lb rfl) fun a S => ?_
    obtain ⟨l130, hx131, h⟩ := bindSome h
    have S := S.shutR (r := (rI .i64)) (T := 3) (v := .slice ad28 o32.length cp29) (xs := o32) 1 rfl
    refine sStoreR (r := (rL (rI .i64))) (T := 101) (xs := s15) (ys := l130) (y := o32) (v := .slice ad7 s15.length cp8) (vq := q127) (u := .slice ad28 o32.length cp29) (j := s16) 0 S hp129 (wN rfl) rfl rfl rfl rfl (S.mem.know (i := 0) (e := fRep (rL (rI .i64)) (.slice ad28 o32.length cp29) o32) rfl) hx131 rfl rfl fun a w S => ?_
    rw [setO_v hx131 ad7 cp8] at S
    exact leafL (leafB (leafT (⟨l130, Option.some.inj h, S.fix [0] [1, 2] (by decide) rfl rfl rfl⟩)))
  refine sSeq (fun K35 hK35 => ?_)
  refine sRegion ?_
  refine sMove (.slice ad3 p1.length cp4) S (wN rfl) (.inl rfl) rfl rfl (lb rfl) fun a S => ?_
  refine sLen (ad := ad3) (m := p1.length) (c := cp4) S (wN rfl) rfl Try.underlying47 rfl rfl (lb rfl) fun a S => ?_
  refine sMove (iv (p1.length : Int)) S (wN rfl) (.inr rfl) rfl rfl (lb rfl) fun a S => ?_
  refine leafL (leafT (hK35 _ _ ?_))
  refine wp_block ?_
  obtain ⟨t40, hl, g39⟩ := bindSome h
  refine sLoop hl (fun s0 a w => match s0 with | (s36, s37) => St [] E [] w0 95 a w [(0, .slice ad1 p0.length cp2), (1, .slice ad3 p1.length cp4), (5, .slice ad7 s15.length cp8), (6, iv s16), (7, .slice ad28 s36.length cp29), (8, iv s37)] [eRow (rL (rI .i64)) 101 (.slice ad7 s15.length cp8) s15, eRow (rI .i64) 3 (.slice ad28 s36.length cp29) s36] [fRep (rL r_api_Stitch) (.slice ad1 p0.length cp2) p0, fRep (rL r_api_Stitch) (.slice ad3 p1.length cp4) p1]) (S.fix [1, 0] [0, 1] (by decide) rfl rfl rfl) ?_
  clear hl h
  intro s0 a w c0 hI h hu38
  obtain ⟨s36, s37⟩ := s0
  unfold raddleref46_Table_l1 at h
  dsimp only at h hI
  have S := hI
  refine sSeq (fun K42 hK42 => ?_)
  refine sSeq (fun K43 hK43 => ?_)
  refine sRegion ?_
  refine sMove (iv s37) S (wN rfl) (.inl rfl) rfl rfl (lb rfl) fun a S => ?_
  refine sBin (.bool (decide (0 ≤ s37))) S (wN rfl) rfl rfl rfl (bGe _ _ _ _ .i64 s37 0) rfl (lb rfl) fun a S => ?_
  refine leafL (leafT (hK43 _ _ ?_))
  rcases iteSome h with ⟨hc44, h⟩ | ⟨hc44, h⟩
  rotate_left
  · refine sCondF S rfl hc44 ?_
    obtain rfl := Option.some.inj h
    obtain rfl := hu38 _ rfl
    have h := g39
    clear g39
    try dsimp only at h
    exact wp_exit (xThen (xThen (xHit (leafT (⟨s36, Option.some.inj h, S.fix [0, 1] [0, 1] (by decide) rfl rfl rfl⟩)))))
  refine sCondT S rfl hc44 ?_
  refine wp_skip (leafT (hK42 _ _ ?_))
  refine sSeq (fun K45 hK45 => ?_)
  refine wp_block ?_
  refine sSeq (fun K46 hK46 => ?_)
  refine sRegion ?_
  refine sMove (.slice ad1 p0.length cp2) S (wN rfl) (.inl rfl) rfl rfl (lb rfl) fun a S => ?_
  refine sLen (ad := ad1) (m := p0.length) (c := cp2) S (wN rfl) rfl Try.underlying47 rfl rfl (lb rfl) fun a S => ?_
  refine sMove (iv s16) S (wN rfl) (.inl rfl) rfl rfl (lb rfl) fun a S => ?_
  refine sBin (iv (w64 ((p0.length : Int) - s16))) S (wN rfl) rfl rfl rfl (bSub _ _ _ _ (p0.length : Int) s16) rfl (lb rfl) fun a S => ?_
  refine sMove (.slice ad3 p1.length cp4) S (wN rfl) (.inl rfl) rfl rfl (lb rfl) fun a S => ?_
  refine sLen (ad := ad3) (m := p1.length) (c := cp4) S (wN rfl) rfl Try.underlying47 rfl rfl (lb rfl) fun a S => ?_
  refine sBin (iv (w64 ((w64 ((p0.length : Int) - s16)) + (p1.length : Int)))) S (wN rfl) rfl rfl rfl (bAdd _ _ _ _ (w64 ((p0.length : Int) - s16)) (p1.length : Int)) rfl (lb rfl) fun a S => ?_
  refine sMove (iv s37) S (wN rfl) (.inl rfl) rfl rfl (lb rfl) fun a S => ?_
  refine sBin (iv (w64 ((w64 ((w64 ((p0.length : Int) - s16)) + (p1.length : Int))) - s37))) S (wN rfl) rfl rfl rfl (bSub _ _ _ _ (w64 ((w64 ((p0.length : Int) - s16)) + (p1.length : Int))) s37) rfl (lb rfl) fun a S => ?_
  refine sMove (iv (w64 ((w64 ((w64 ((p0.length : Int) - s16)) + (p1.length : Int))) - s37))) S (wN rfl) (.inr rfl) rfl rfl (lb rfl) fun a S => ?_
  refine leafL (leafT (hK46 _ _ ?_))
  obtain ⟨t48, h, g49⟩ := bindSome h
  refine sCut (fun a w => ∃ o47, o47 = t48 ∧ St [] E [] w0 95 a w [(0, .slice ad1 p0.length cp2), (1, .slice ad3 p1.length cp4), (5, .slice ad7 s15.length cp8), (6, iv s16), (7, .slice ad28 s36.length cp29), (8, iv s37), (9, iv o47)] [eRow (rL (rI .i64)) 101 (.slice ad7 s15.length cp8) s15, eRow (rI .i64) 3 (.slice ad28 s36.length cp29) s36] [fRep (rL r_api_Stitch) (.slice ad1 p0.length cp2) p0, fRep (rL r_api_Stitch) (.slice ad3 p1.length cp4) p1]) ?_ (fun a w hI => ?_)
  rotate_left
  · obtain ⟨o47, rfl, S⟩ := hI
    have h := g49
    clear g49
    try dsimp only at h
    refine sRegion ?_
    refine sMove (.slice ad28 s36.length cp29) S (wN rfl) (.inl rfl) rfl rfl (lb rfl) fun a S => ?_
    refine sMove (iv s37) S (wN rfl) (.inl rfl) rfl rfl (lb rfl) fun a S => ?_
    refine sMove (iv o47) S (wN rfl) (.inl rfl) rfl rfl (lb rfl) fun a S => ?_
    obtain ⟨x118, hx119, h⟩ := bindSome h
    obtain ⟨q120, hq121, hp122⟩ := pIdxR (P := Try.prog) (r := (rI .i64)) (T := 3) (v := .slice ad28 s36.length cp29) (xs := s36) (j := s37) 101 3 1 S Try.underlying101 rfl rfl hx119
    refine sIdxV (v := .slice ad28 s36.length cp29) (k := .i64) (j := s37) S (wN rfl) rfl rfl rfl hq121 rfl (lb rfl) fun a S => ?_
    obtain ⟨l123, hx124, h⟩ := bindSome h
    refine sStoreR (r := (rI .i64)) (T := 3) (xs := s36) (ys := l123) (y := o47) (v := .slice ad28 s36.length cp29) (vq := q120) (u := iv o47) (j := s37) 1 S hp122 (wN rfl) rfl rfl rfl rfl rfl hx124 rfl rfl fun a w S => ?_
    rw [setO_v hx124 ad28 cp29] at S
    refine leafL (leafB (leafT (hK45 _ _ ?_)))
    refine sRegion ?_
    refine sMove (iv s37) S (wN rfl) (.inl rfl) rfl rfl (lb rfl) fun a S => ?_
    refine sBin (iv (w64 (s37 - 1))) S (wN rfl) rfl rfl rfl (bSub _ _ _ _ s37 1) rfl (lb rfl) fun a S => ?_
    refine sMove (iv (w64 (s37 - 1))) S (wN rfl) (.inr rfl) rfl rfl (lb rfl) fun a S => ?_
    exact leafL (leafT (⟨(l123, w64 (s37 - 1)), (Option.some.inj h).symm, (S.fix [1, 0] [0, 1] (by decide) rfl rfl rfl)⟩))
  obtain ⟨t51, h, g52⟩ := bindSome h
  refine sCut (fun a w => ∃ o50, o50 = t51 ∧ St [] E [] w0 95 a w [(0, .slice ad1 p0.length cp2), (1, .slice ad3 p1.length cp4), (5, .slice ad7 s15.length cp8), (6, iv s16), (7, .slice ad28 s36.length cp29), (8, iv s37), (9, iv (w64 ((w64 ((w64 ((p0.length : Int) - s16)) + (p1.length : Int))) - s37))), (48, .bool o50)] [eRow (rL (rI .i64)) 101 (.slice ad7 s15.length cp8) s15, eRow (rI .i64) 3 (.slice ad28 s36.length cp29) s36] [fRep (rL r_api_Stitch) (.slice ad1 p0.length cp2) p0, fRep (rL r_api_Stitch) (.slice ad3 p1.length cp4) p1]) ?_ (fun a w hI => ?_)
  · refine sRegion ?_
    refine sMove (iv s16) S (wN rfl) (.inl rfl) rfl rfl (lb rfl) fun a S => ?_
    refine sMove (.slice ad1 p0.length cp2) S (wN rfl) (.inl rfl) rfl rfl (lb rfl) fun a S => ?_
    refine sLen (ad := ad1) (m := p0.length) (c := cp2) S (wN rfl) rfl Try.underlying47 rfl rfl (lb rfl) fun a S => ?_
    refine sBin (.bool (decide (s16 < (p0.length : Int)))) S (wN rfl) rfl rfl rfl (bLt _ _ _ _ .i64 s16 (p0.length : Int)) rfl (lb rfl) fun a S => ?_
    refine sMove (.bool (decide (s16 < (p0.length : Int)))) S (wN rfl) (.inl rfl) rfl rfl (lb rfl) fun a S => ?_
    rcases iteSome h with ⟨hc53, h⟩ | ⟨hc53, h⟩
    rotate_left
    · refine sSkip 4 true 43 44 S rfl rfl rfl hc53 rfl (lb rfl) fun a S => ?_
      refine sSkip 4 true 43 45 S rfl rfl rfl hc53 rfl (lb rfl) fun a S => ?_
      refine sSkip 4 true 43 46 S rfl rfl rfl hc53 rfl (lb rfl) fun a S => ?_
      refine sSkip 4 true 43 47 S rfl rfl rfl hc53 rfl (lb rfl) fun a S => ?_
      refine sPickF (.bool false) S (wN rfl) rfl rfl hc53 rfl rfl (lb rfl) fun a S => ?_
      exact leafL (leafT (⟨false, Option.some.inj h, S.fix [0, 1] [0, 1] (by decide) rfl rfl rfl⟩))
    refine sMove (iv s37) S (wG 4 true 43 rfl rfl rfl hc53) (.inl rfl) rfl rfl (lb rfl) fun a S => ?_
    refine sMove (.slice ad3 p1.length cp4) S (wG 4 true 43 rfl rfl rfl hc53) (.inl rfl) rfl rfl (lb rfl) fun a S => ?_
    refine sLen (ad := ad3) (m := p1.length) (c := cp4) S (wG 4 true 43 rfl rfl rfl hc53) rfl Try.underlying47 rfl rfl (lb rfl) fun a S => ?_
    refine sBin (.bool (decide (s37 < (p1.length : Int)))) S (wG 4 true 43 rfl rfl rfl hc53) rfl rfl rfl (bLt _ _ _ _ .i64 s37 (p1.length : Int)) rfl (lb rfl) fun a S => ?_
    refine sPickT (.bool (decide (s37 < (p1.length : Int)))) S (wN rfl) rfl rfl hc53 rfl rfl (lb rfl) fun a S => ?_
    exact leafL (leafT (⟨decide (s37 < (p1.length : Int)), Option.some.inj h, S.fix [0, 1] [0, 1] (by decide) rfl rfl rfl⟩))
  obtain ⟨o50, rfl, S⟩ := hI
  have h := g52
  clear g52
  try dsimp only at h
  rcases iteSome h with ⟨hc54, h⟩ | ⟨hc54, h⟩
  rotate_left
  · refine sCondF S rfl hc54 ?_
    exact wp_skip (leafT (⟨w64 ((w64 ((w64 ((p0.length : Int) - s16)) + (p1.length : Int))) - s37), Option.some.inj h, S.fix [0, 1] [0, 1] (by decide) rfl rfl rfl⟩))
  refine sCondT S rfl hc54 ?_
  refine sSeq (fun K55 hK55 => ?_)
  refine sRegion ?_
  refine sMove (.slice ad7 s15.length cp8) S (wN rfl) (.inl rfl) rfl rfl (lb rfl) fun a S => ?_
  refine sMove (iv s16) S (wN rfl) (.inl rfl) rfl rfl (lb rfl) fun a S => ?_
  refine sBin (iv (w64 (s16 + 1))) S (wN rfl) rfl rfl rfl (bAdd _ _ _ _ s16 1) rfl (lb rfl) fun a S => ?_
  obtain ⟨x56, hx57, h⟩ := bindSome h
  obtain ⟨q58, hq59, hp60⟩ := pIdxR (P := Try.prog) (r := (rL (rI .i64))) (T := 101) (v := .slice ad7 s15.length cp8) (xs := s15) (j := w64 (s16 + 1)) 98 101 0 S Try.underlying98 rfl rfl hx57
  refine sIdxV (v := .slice ad7 s15.length cp8) (k := .i64) (j := w64 (s16 + 1)) S (wN rfl) rfl rfl rfl hq59 rfl (lb rfl) fun a S => ?_
  refine sLoadRS (r := (rL (rI .i64))) (T := 101) (xs := s15) (x := x56) (v := .slice ad7 s15.length cp8) (vq := q58) (j := w64 (s16 + 1)) 0 S hp60 (wN rfl) rfl rfl rfl hx57 (scal_L _) rfl rfl (lb rfl) fun a u61 S => ?_
  obtain ⟨ad62, cp63, _, rfl, _⟩ := S.mem.know (i := 0) (e := fRep (rL (rI .i64)) (u61) x56) rfl
  refine sMove (iv s37) S (wN rfl) (.inl rfl) rfl rfl (lb rfl) fun a S => ?_
  refine sBin (iv (w64 (s37 + 1))) S (wN rfl) rfl rfl rfl (bAdd _ _ _ _ s37 1) rfl (lb rfl) fun a S => ?_
  obtain ⟨x64, hx65, h⟩ := bindSome h
  obtain ⟨q66, hq67, S⟩ := pIdx (P := Try.prog) (r := (rI .i64)) (v := .slice ad62 x56.length cp63) (xs := x56) (j := w64 (s37 + 1)) 101 3 0 S Try.underlying101 rfl rfl hx65
  refine sIdxV (v := .slice ad62 x56.length cp63) (k := .i64) (j := w64 (s37 + 1)) S (wN rfl) rfl rfl rfl hq67 rfl (lb rfl) fun a S => ?_
  obtain ⟨u68, S⟩ := pLoad (r := (rI .i64)) (q := q66) (x := x64) 0 S rfl
  obtain rfl : u68 = iv x64 := S.mem.know (i := 1) (e := fRep (rI .i64) (u68) x64) rfl
  refine sLoadV1 (vq := q66) 0 (iv x64) S (wN rfl) rfl rfl rfl rfl rfl (lb rfl) fun a S => ?_
  refine sMove (iv x64) S (wN rfl) (.inr rfl) rfl rfl (lb rfl) fun a S => ?_
  refine leafL (leafT (hK55 _ _ ?_))
  obtain ⟨t70, h, g71⟩ := bindSome h
  refine sCut (fun a w => ∃ o69, o69 = t70 ∧ St [] E [] w0 95 a w [(0, .slice ad1 p0.length cp2), (1, .slice ad3 p1.length cp4), (5, .slice ad7 s15.length cp8), (6, iv s16), (7, .slice ad28 s36.length cp29), (8, iv s37), (9, iv o69)] [eRow (rL (rI .i64)) 101 (.slice ad7 s15.length cp8) s15, eRow (rI .i64) 3 (.slice ad28 s36.length cp29) s36] [fRep (rL r_api_Stitch) (.slice ad1 p0.length cp2) p0, fRep (rL r_api_Stitch) (.slice ad3 p1.length cp4) p1]) ?_ (fun a w hI => ?_)
  · refine sSeq (fun K72 hK72 => ?_)
    obtain ⟨x73, hx74, h⟩ := bindSome h
    obtain ⟨x78, hx79, h⟩ := bindSome h
    obtain ⟨q83, hq84, S⟩ := pIdx (P := Try.prog) (r := r_api_Stitch) (v := .slice ad1 p0.length cp2) (xs := p0) (j := s16) 47 81 4 S Try.underlying47 rfl rfl hx74
    obtain ⟨u85, S⟩ := pLoad (r := r_api_Stitch) (q := q83) (x := x73) 0 S rfl
    obtain rfl : u85 = .agg #[.int .u8 x73.Kind, .bool x73.Purl, iv x73.A, iv x73.B] := S.mem.know (i := 1) (e := fRep r_api_Stitch (u85) x73) rfl
    obtain ⟨q86, hq87, S⟩ := pIdx (P := Try.prog) (r := r_api_Stitch) (v := .slice ad3 p1.length cp4) (xs := p1) (j := s37) 47 81 8 S Try.underlying47 rfl rfl hx79
    obtain ⟨u88, S⟩ := pLoad (r := r_api_Stitch) (q := q86) (x := x78) 0 S rfl
    obtain rfl : u88 = .agg #[.int .u8 x78.Kind, .bool x78.Purl, iv x78.A, iv x78.B] := S.mem.know (i := 1) (e := fRep r_api_Stitch (u88) x78) rfl
    refine sDraw (nf := []) (W := [(0, 58, .slice ad1 p0.length cp2), (1, 59, iv s16), (2, 60, q83), (3, 61, .agg #[.int .u8 x73.Kind, .bool x73.Purl, iv x73.A, iv x73.B]), (4, 62, .slice ad3 p1.length cp4), (5, 63, iv s37), (6, 64, q86), (7, 65, .agg #[.int .u8 x78.Kind, .bool x78.Purl, iv x78.A, iv x78.B]), (8, 66, .bool (!((x73.Kind == x78.Kind) && ((x73.Purl == x78.Purl) && ((x73.A == x78.A) && ((x73.B == x78.B) && true))))))]) rfl S ?_
    refine node_by (A := anc_raddleref46_Table_0) (nf := []) (Y := []) (W := [(0, 58, .slice ad1 p0.length cp2), (1, 59, iv s16), (2, 60, q83), (3, 61, .agg #[.int .u8 x73.Kind, .bool x73.Purl, iv x73.A, iv x73.B]), (4, 62, .slice ad3 p1.length cp4), (5, 63, iv s37), (6, 64, q86), (7, 65, .agg #[.int .u8 x78.Kind, .bool x78.Purl, iv x78.A, iv x78.B]), (8, 66, .bool (!((x73.Kind == x78.Kind) && ((x73.Purl == x78.Purl) && ((x73.A == x78.A) && ((x73.B == x78.B) && true))))))]) 9 (by kernel_rfl) (by kernel_rfl) (by kernel_rfl) (by kernel_rfl) (by kernel_rfl) [0, 1, 2, 3, 4, 5, 6, 7, 8] (by kernel_rfl) (by decide) (by decide) (aF 0 8 (by decide) ?_ (aF 1 7 (by decide) ?_ (aF 2 6 (by decide) ?_ (aF 3 5 (by decide) ?_ (aF 4 4 (by decide) ?_ (aF 5 3 (by decide) ?_ (aF 6 2 (by decide) ?_ (aF 7 1 (by decide) ?_ (aF 8 0 (by decide) ?_ (trivial)))))))))) [(0, .slice ad1 p0.length cp2), (1, .slice ad3 p1.length cp4), (5, .slice ad7 s15.length cp8), (6, iv s16), (7, .slice ad28 s36.length cp29), (8, iv s37), (9, iv x64), (66, .bool (!((x73.Kind == x78.Kind) && ((x73.Purl == x78.Purl) && ((x73.A == x78.A) && ((x73.B == x78.B) && true))))))] (fin_of [none, none, none, none, none, none, none, some 8] rfl (by kernel_rfl) (by kernel_rfl)) (fun _ a w S => ?_)
    · refine fI 58 (.slice ad1 p0.length cp2) [(0, .slice ad1 p0.length cp2)] 0 [none] rfl rfl rfl rfl rfl rfl fun G a w S => ?_
      refine sMove (.slice ad1 p0.length cp2) S (wN rfl) (.inl rfl) rfl rfl (lb rfl) fun a S => ?_
      exact leafL ⟨rfl, S⟩
    · refine fI 59 (iv s16) [(6, iv s16)] 1 [none] rfl rfl rfl rfl rfl rfl fun G a w S => ?_
      refine sMove (iv s16) S (wN rfl) (.inl rfl) rfl rfl (lb rfl) fun a S => ?_
      exact leafL ⟨rfl, S⟩
    · refine fI 60 q83 [(58, .slice ad1 p0.length cp2), (59, iv s16)] 2 [some 0, some 1] rfl rfl rfl rfl rfl rfl fun G a w S => ?_
      refine sIdxV (v := .slice ad1 p0.length cp2) (k := .i64) (j := s16) S (wN rfl) rfl rfl rfl hq84 rfl (lb rfl) fun a S => ?_
      exact leafL ⟨rfl, S⟩
    · refine fI 61 (.agg #[.int .u8 x73.Kind, .bool x73.Purl, iv x73.A, iv x73.B]) [(60, q83)] 3 [some 2] rfl rfl rfl rfl rfl rfl fun G a w S => ?_
      refine sLoadVN (vq := q83) 3 [.int .u8 x73.Kind, .bool x73.Purl, iv x73.A, iv x73.B] S (wN rfl) rfl rfl rfl rfl rfl rfl (lb rfl) fun a S => ?_
      exact leafL ⟨rfl, S⟩
    · refine fI 62 (.slice ad3 p1.length cp4) [(1, .slice ad3 p1.length cp4)] 4 [none] rfl rfl rfl rfl rfl rfl fun G a w S => ?_
      refine sMove (.slice ad3 p1.length cp4) S (wN rfl) (.inl rfl) rfl rfl (lb rfl) fun a S => ?_
      exact leafL ⟨rfl, S⟩
    · refine fI 63 (iv s37) [(8, iv s37)] 5 [none] rfl rfl rfl rfl rfl rfl fun G a w S => ?_
      refine sMove (iv s37) S (wN rfl) (.inl rfl) rfl rfl (lb rfl) fun a S => ?_
      exact leafL ⟨rfl, S⟩
    · refine fI 64 q86 [(62, .slice ad3 p1.length cp4), (63, iv s37)] 6 [some 4, some 5] rfl rfl rfl rfl rfl rfl fun G a w S => ?_
      refine sIdxV (v := .slice ad3 p1.length cp4) (k := .i64) (j := s37) S (wN rfl) rfl rfl rfl hq87 rfl (lb rfl) fun a S => ?_
      exact leafL ⟨rfl, S⟩
    · refine fI 65 (.agg #[.int .u8 x78.Kind, .bool x78.Purl, iv x78.A, iv x78.B]) [(64, q86)] 7 [some 6] rfl rfl rfl rfl rfl rfl fun G a w S => ?_
      refine sLoadVN (vq := q86) 0 [.int .u8 x78.Kind, .bool x78.Purl, iv x78.A, iv x78.B] S (wN rfl) rfl rfl rfl rfl rfl rfl (lb rfl) fun a S => ?_
      exact leafL ⟨rfl, S⟩
    · refine fI 66 (.bool (!((x73.Kind == x78.Kind) && ((x73.Purl == x78.Purl) && ((x73.A == x78.A) && ((x73.B == x78.B) && true)))))) [(61, .agg #[.int .u8 x73.Kind, .bool x73.Purl, iv x73.A, iv x73.B]), (65, .agg #[.int .u8 x78.Kind, .bool x78.Purl, iv x78.A, iv x78.B])] 8 [some 3, some 7] rfl rfl rfl rfl rfl rfl fun G a w S => ?_
      refine sBin (.bool (!((x73.Kind == x78.Kind) && ((x73.Purl == x78.Purl) && ((x73.A == x78.A) && ((x73.B == x78.B) && true)))))) S (wN rfl) rfl rfl rfl (bNeV _ _ _ _ #[.int .u8 x73.Kind, .bool x73.Purl, iv x73.A, iv x73.B] #[.int .u8 x78.Kind, .bool x78.Purl, iv x78.A, iv x78.B] ((x73.Kind == x78.Kind) && ((x73.Purl == x78.Purl) && ((x73.A == x78.A) && ((x73.B == x78.B) && true)))) (by kernel_rfl) (eqlV_of (by kernel_rfl))) rfl (lb rfl) fun a S => ?_
      exact leafL ⟨rfl, S⟩
    refine leafT (hK72 _ _ ?_)
    rcases iteSome h with ⟨hc89, h⟩ | ⟨hc89, h⟩
    rotate_left
    · refine sCondF S rfl hc89 ?_
      exact wp_skip (leafT (⟨x64, Option.some.inj h, S.fix [0, 1] [10, 11] (by decide) rfl rfl rfl⟩))
    refine sCondT S rfl hc89 ?_
    refine sRegion ?_
    refine sMove (iv x64) S (wN rfl) (.inl rfl) rfl rfl (lb rfl) fun a S => ?_
    refine sBin (iv (w64 (x64 + 1))) S (wN rfl) rfl rfl rfl (bAdd _ _ _ _ x64 1) rfl (lb rfl) fun a S => ?_
    refine sMove (iv (w64 (x64 + 1))) S (wN rfl) (.inr rfl) rfl rfl (lb rfl) fun a S => ?_
    exact leafL (leafT (⟨w64 (x64 + 1), Option.some.inj h, S.fix [0, 1] [10, 11] (by decide) rfl rfl rfl⟩))
  obtain ⟨o69, rfl, S⟩ := hI
  have h := g71
  clear g71
  try dsimp only at h
  obtain ⟨x96, hx97, h⟩ := bindSome h
  obtain ⟨x101, hx102, h⟩ := bindSome h
  obtain ⟨q106, hq107, hp108⟩ := pIdxR (P := Try.prog) (r := (rL (rI .i64))) (T := 101) (v := .slice ad7 s15.length cp8) (xs := s15) (j := w64 (s16 + 1)) 98 101 0 S Try.underlying98 rfl rfl hx57
  obtain ⟨q109, hq110, hp111⟩ := pIdxR (P := Try.prog) (r := (rI .i64)) (T := 3) (v := .slice ad28 s36.length cp29) (xs := s36) (j := w64 (s37 + 1)) 101 3 1 S Try.underlying101 rfl rfl hx102
  refine sDraw (nf := [5]) (W := [(0, 69, iv o69), (1, 70, .slice ad7 s15.length cp8), (2, 71, iv s16), (3, 72, iv (w64 (s16 + 1))), (4, 73, q106), (6, 75, iv s37), (10, 79, .slice ad28 s36.length cp29), (11, 80, iv s37), (12, 81, iv (w64 (s37 + 1))), (13, 82, q109), (14, 83, iv x101), (15, 84, iv (w64 (x101 + 1)))]) rfl S ?_
  refine node_by (A := anc_raddleref46_Table_1) (nf := [5]) (Y := []) (W := [(0, 69, iv o69), (1, 70, .slice ad7 s15.length cp8), (2, 71, iv s16), (3, 72, iv (w64 (s16 + 1))), (4, 73, q106), (6, 75, iv s37), (10, 79, .slice ad28 s36.length cp29), (11, 80, iv s37), (12, 81, iv (w64 (s37 + 1))), (13, 82, q109), (14, 83, iv x101), (15, 84, iv (w64 (x101 + 1)))]) 18 (by kernel_rfl) (by kernel_rfl) (by kernel_rfl) (by kernel_rfl) (by kernel_rfl) [0, 1, 2, 3, 4, 6, 10, 11, 12, 13, 14, 15] (by kernel_rfl) (by decide) (by decide) (aF 0 17 (by decide) ?_ (aF 1 16 (by decide) ?_ (aF 2 15 (by decide) ?_ (aF 3 14 (by decide) ?_ (aF 4 13 (by decide) ?_ (aN 5 12 (by decide) ?_ (aF 6 11 (by decide) ?_ (aE 7 10 5 (by decide) (aE 8 9 5 (by decide) (aE 9 8 5 (by decide) (aF 10 7 (by decide) ?_ (aF 11 6 (by decide) ?_ (aF 12 5 (by decide) ?_ (aF 13 4 (by decide) ?_ (aF 14 3 (by decide) ?_ (aF 15 2 (by decide) ?_ (aE 16 1 5 (by decide) (aE 17 0 5 (by decide) (trivial))))))))))))))))))) [] (fun q hq => by cases hq) (fun hY => absurd (hY 5 (by decide)) (by decide))
  · refine fI 69 (iv o69) [(9, iv o69)] 0 [none] rfl rfl rfl rfl rfl rfl fun G a w S => ?_
    refine sMove (iv o69) S (wN rfl) (.inl rfl) rfl rfl (lb rfl) fun a S => ?_
    exact leafL ⟨rfl, S⟩
  · refine fI 70 (.slice ad7 s15.length cp8) [(5, .slice ad7 s15.length cp8)] 1 [none] rfl rfl rfl rfl rfl rfl fun G a w S => ?_
    refine sMove (.slice ad7 s15.length cp8) S (wN rfl) (.inl rfl) rfl rfl (lb rfl) fun a S => ?_
    exact leafL ⟨rfl, S⟩
  · refine fI 71 (iv s16) [(6, iv s16)] 2 [none] rfl rfl rfl rfl rfl rfl fun G a w S => ?_
    refine sMove (iv s16) S (wN rfl) (.inl rfl) rfl rfl (lb rfl) fun a S => ?_
    exact leafL ⟨rfl, S⟩
  · refine fI 72 (iv (w64 (s16 + 1))) [(71, iv s16)] 3 [some 2] rfl rfl rfl rfl rfl rfl fun G a w S => ?_
    refine sBin (iv (w64 (s16 + 1))) S (wN rfl) rfl rfl rfl (bAdd _ _ _ _ s16 1) rfl (lb rfl) fun a S => ?_
    exact leafL ⟨rfl, S⟩
  · refine fI 73 q106 [(70, .slice ad7 s15.length cp8), (72, iv (w64 (s16 + 1)))] 4 [some 1, some 3] rfl rfl rfl rfl rfl rfl fun G a w S => ?_
    refine sIdxV (v := .slice ad7 s15.length cp8) (k := .i64) (j := w64 (s16 + 1)) S (wN rfl) rfl rfl rfl hq107 rfl (lb rfl) fun a S => ?_
    exact leafL ⟨rfl, S⟩
  · refine ⟨_, [(73, q106)], rfl, (srcs_of [some 4] rfl rfl rfl), fun G a w S => ?_⟩
    refine sLoadRS (r := (rL (rI .i64))) (T := 101) (xs := s15) (x := x56) (v := .slice ad7 s15.length cp8) (vq := q106) (j := w64 (s16 + 1)) 0 S hp108 (wN rfl) rfl rfl rfl hx57 (scal_L _) rfl rfl (lb rfl) fun a u112 S => ?_
    obtain ⟨ad113, cp114, _, rfl, _⟩ := S.mem.know (i := 0) (e := fRep (rL (rI .i64)) (u112) x56) rfl
    obtain ⟨q115, hq116, S⟩ := pIdx (P := Try.prog) (r := (rI .i64)) (v := .slice ad113 x56.length cp114) (xs := x56) (j := s37) 101 3 0 S Try.underlying101 rfl rfl hx97
    obtain ⟨u117, S⟩ := pLoad (r := (rI .i64)) (q := q115) (x := x96) 0 S rfl
    obtain rfl : u117 = iv x96 := S.mem.know (i := 1) (e := fRep (rI .i64) (u117) x96) rfl
    refine leafL ⟨rfl, _, _, .inl ⟨74, (.slice ad113 x56.length cp114), [(7, 76, q115), (8, 77, iv x96), (9, 78, iv (w64 (x96 + 1))), (16, 85, iv (min3 o69 (w64 (x96 + 1)) (w64 (x101 + 1)))), (17, 9, iv (min3 o69 (w64 (x96 + 1)) (w64 (x101 + 1))))], rfl, S, hz_of rfl, ?_⟩⟩
    refine node_by (A := anc_raddleref46_Table_1) (nf := [5]) (Y := [5]) 18 (by kernel_rfl) (by kernel_rfl) (by kernel_rfl) (by kernel_rfl) (by kernel_rfl) [7, 8, 9, 16, 17, 5, 0, 1, 2, 3, 4, 6, 10, 11, 12, 13, 14, 15] (by kernel_rfl) (by decide) (by decide) (aF 0 17 (by decide) ?_ (aD 1 16 5 (by decide) (aD 2 15 5 (by decide) (aD 3 14 5 (by decide) (aD 4 13 5 (by decide) (aY 5 12 (by decide) (aF 6 11 (by decide) ?_ (aF 7 10 (by decide) ?_ (aF 8 9 (by decide) ?_ (aF 9 8 (by decide) ?_ (aF 10 7 (by decide) ?_ (aF 11 6 (by decide) ?_ (aF 12 5 (by decide) ?_ (aF 13 4 (by decide) ?_ (aF 14 3 (by decide) ?_ (aF 15 2 (by decide) ?_ (aF 16 1 (by decide) ?_ (aF 17 0 (by decide) ?_ (trivial))))))))))))))))))) [(0, .slice ad1 p0.length cp2), (1, .slice ad3 p1.length cp4), (5, .slice ad7 s15.length cp8), (6, iv s16), (7, .slice ad28 s36.length cp29), (8, iv s37), (9, iv (min3 o69 (w64 (x96 + 1)) (w64 (x101 + 1))))] (fin_of [none, none, none, none, none, none, some 4] rfl (by kernel_rfl) (by kernel_rfl)) (fun _ a w S => ?_)
    · refine fI 69 (iv o69) [(9, iv o69)] 6 [none] rfl rfl rfl rfl rfl rfl fun G a w S => ?_
      refine sMove (iv o69) S (wN rfl) (.inl rfl) rfl rfl (lb rfl) fun a S => ?_
      exact leafL ⟨rfl, S⟩
    · refine fI 75 (iv s37) [(8, iv s37)] 11 [none] rfl rfl rfl rfl rfl rfl fun G a w S => ?_
      refine sMove (iv s37) S (wN rfl) (.inl rfl) rfl rfl (lb rfl) fun a S => ?_
      exact leafL ⟨rfl, S⟩
    · refine fI 76 q115 [(74, .slice ad113 x56.length cp114), (75, iv s37)] 0 [some 5, some 11] rfl rfl rfl rfl rfl rfl fun G a w S => ?_
      refine sIdxV (v := .slice ad113 x56.length cp114) (k := .i64) (j := s37) S (wN rfl) rfl rfl rfl hq116 rfl (lb rfl) fun a S => ?_
      exact leafL ⟨rfl, S⟩
    · refine fI 77 (iv x96) [(76, q115)] 1 [some 0] rfl rfl rfl rfl rfl rfl fun G a w S => ?_
      refine sLoadV1 (vq := q115) 0 (iv x96) S (wN rfl) rfl rfl rfl rfl rfl (lb rfl) fun a S => ?_
      exact leafL ⟨rfl, S⟩
    · refine fI 78 (iv (w64 (x96 + 1))) [(77, iv x96)] 2 [some 1] rfl rfl rfl rfl rfl rfl fun G a w S => ?_
      refine sBin (iv (w64 (x96 + 1))) S (wN rfl) rfl rfl rfl (bAdd _ _ _ _ x96 1) rfl (lb rfl) fun a S => ?_
      exact leafL ⟨rfl, S⟩
    · refine fI 79 (.slice ad28 s36.length cp29) [(7, .slice ad28 s36.length cp29)] 12 [none] rfl rfl rfl rfl rfl rfl fun G a w S => ?_
      refine sMove (.slice ad28 s36.length cp29) S (wN rfl) (.inl rfl) rfl rfl (lb rfl) fun a S => ?_
      exact leafL ⟨rfl, S⟩
    · refine fI 80 (iv s37) [(8, iv s37)] 13 [none] rfl rfl rfl rfl rfl rfl fun G a w S => ?_
      refine sMove (iv s37) S (wN rfl) (.inl rfl) rfl rfl (lb rfl) fun a S => ?_
      exact leafL ⟨rfl, S⟩
    · refine fI 81 (iv (w64 (s37 + 1))) [(80, iv s37)] 14 [some 13] rfl rfl rfl rfl rfl rfl fun G a w S => ?_
      refine sBin (iv (w64 (s37 + 1))) S (wN rfl) rfl rfl rfl (bAdd _ _ _ _ s37 1) rfl (lb rfl) fun a S => ?_
      exact leafL ⟨rfl, S⟩
    · refine fI 82 q109 [(79, .slice ad28 s36.length cp29), (81, iv (w64 (s37 + 1)))] 15 [some 12, some 14] rfl rfl rfl rfl rfl rfl fun G a w S => ?_
      refine sIdxV (v := .slice ad28 s36.length cp29) (k := .i64) (j := w64 (s37 + 1)) S (wN rfl) rfl rfl rfl hq110 rfl (lb rfl) fun a S => ?_
      exact leafL ⟨rfl, S⟩
    · refine fI 83 (iv x101) [(82, q109)] 16 [some 15] rfl rfl rfl rfl rfl rfl fun G a w S => ?_
      refine sLoadR (r := (rI .i64)) (T := 3) (xs := s36) (x := x101) (v := .slice ad28 s36.length cp29) (vq := q109) (j := w64 (s37 + 1)) 1 (iv x101) S hp111 (wN rfl) rfl rfl rfl hx102 (fun _ _ _ h => h) (scal_I _) rfl rfl (lb rfl) fun a S => ?_
      exact leafL ⟨rfl, S⟩
    · refine fI 84 (iv (w64 (x101 + 1))) [(83, iv x101)] 17 [some 16] rfl rfl rfl rfl rfl rfl fun G a w S => ?_
      refine sBin (iv (w64 (x101 + 1))) S (wN rfl) rfl rfl rfl (bAdd _ _ _ _ x101 1) rfl (lb rfl) fun a S => ?_
      exact leafL ⟨rfl, S⟩
    · refine fI 85 (iv (min3 o69 (w64 (x96 + 1)) (w64 (x101 + 1)))) [(69, iv o69), (78, iv (w64 (x96 + 1))), (84, iv (w64 (x101 + 1)))] 3 [some 6, some 2, some 17] rfl rfl rfl rfl rfl rfl fun G a w S => ?_
      refine sMin3 (p := o69) (q := w64 (x96 + 1)) (r := w64 (x101 + 1)) S (wN rfl) rfl rfl rfl rfl rfl (lb rfl) fun a S => ?_
      exact leafL ⟨rfl, S⟩
    · refine fI 9 (iv (min3 o69 (w64 (x96 + 1)) (w64 (x101 + 1)))) [(85, iv (min3 o69 (w64 (x96 + 1)) (w64 (x101 + 1))))] 4 [some 3] rfl rfl rfl rfl rfl rfl fun G a w S => ?_
      refine sMove (iv (min3 o69 (w64 (x96 + 1)) (w64 (x101 + 1)))) S (wN rfl) (.inr rfl) rfl rfl (lb rfl) fun a S => ?_
      exact leafL ⟨rfl, S⟩
    exact leafT (⟨min3 o69 (w64 (x96 + 1)) (w64 (x101 + 1)), Option.some.inj h, S.fix [0, 1] [4, 5] (by decide) rfl rfl rfl⟩)
  · refine fI 75 (iv s37) [(8, iv s37)] 5 [none] rfl rfl rfl rfl rfl rfl fun G a w S => ?_
    refine sMove (iv s37) S (wN rfl) (.inl rfl) rfl rfl (lb rfl) fun a S => ?_
    exact leafL ⟨rfl, S⟩
  · refine fI 79 (.slice ad28 s36.length cp29) [(7, .slice ad28 s36.length cp29)] 6 [none] rfl rfl rfl rfl rfl rfl fun G a w S => ?_
    refine sMove (.slice ad28 s36.length cp29) S (wN rfl) (.inl rfl) rfl rfl (lb rfl) fun a S => ?_
    exact leafL ⟨rfl, S⟩
  · refine fI 80 (iv s37) [(8, iv s37)] 7 [none] rfl rfl rfl rfl rfl rfl fun G a w S => ?_
    refine sMove (iv s37) S (wN rfl) (.inl rfl) rfl rfl (lb rfl) fun a S => ?_
    exact leafL ⟨rfl, S⟩
  · refine fI 81 (iv (w64 (s37 + 1))) [(80, iv s37)] 8 [some 7] rfl rfl rfl rfl rfl rfl fun G a w S => ?_
    refine sBin (iv (w64 (s37 + 1))) S (wN rfl) rfl rfl rfl (bAdd _ _ _ _ s37 1) rfl (lb rfl) fun a S => ?_
    exact leafL ⟨rfl, S⟩
  · refine fI 82 q109 [(79, .slice ad28 s36.length cp29), (81, iv (w64 (s37 + 1)))] 9 [some 6, some 8] rfl rfl rfl rfl rfl rfl fun G a w S => ?_
    refine sIdxV (v := .slice ad28 s36.length cp29) (k := .i64) (j := w64 (s37 + 1)) S (wN rfl) rfl rfl rfl hq110 rfl (lb rfl) fun a S => ?_
    exact leafL ⟨rfl, S⟩
  · refine fI 83 (iv x101) [(82, q109)] 10 [some 9] rfl rfl rfl rfl rfl rfl fun G a w S => ?_
    refine sLoadR (r := (rI .i64)) (T := 3) (xs := s36) (x := x101) (v := .slice ad28 s36.length cp29) (vq := q109) (j := w64 (s37 + 1)) 1 (iv x101) S hp111 (wN rfl) rfl rfl rfl hx102 (fun _ _ _ h => h) (scal_I _) rfl rfl (lb rfl) fun a S => ?_
    exact leafL ⟨rfl, S⟩
  refine fI 84 (iv (w64 (x101 + 1))) [(83, iv x101)] 11 [some 10] rfl rfl rfl rfl rfl rfl fun G a w S => ?_
  refine sBin (iv (w64 (x101 + 1))) S (wN rfl) rfl rfl rfl (bAdd _ _ _ _ x101 1) rfl (lb rfl) fun a S => ?_
  exact leafL ⟨rfl, S⟩

end Go.Proofs.Ytffikfajljbmnaa
