/- Several texts in one: G24 G90 G58 G25 -/
import Derived.WalkKit
import Derived.Maps.AppendAt
import Derived.Deep.AppendLies
import Derived.KernelRfl
import Derived.Laws.OwnMore
import Derived.Great.BuildSlice
import Derived.Orders
import Derived.Laws.StructEq
import Derived.ChangeKeysEq
import Derived.Defers
import Derived.Laws.BytesString
import Derived.RangeFuncNested
import Derived.RangeFuncBound
import Derived.RangeFuncCalls
import Derived.RangeFuncLeaves
import Derived.OrdersIn
import Derived.LoopNIn
import Derived.ArgAppend
import Derived.Test.YtffikfajljbmnaaProg
import Derived.ProofKit
import Derived.OpenShut
import Derived.ChangeOld
import Derived.Deep.Slices
import Derived.Lib.SmallJoins
import Derived.JoinedOf
import Derived.JoinedAt
import Derived.Below
import Derived.Test.YtffikfajljbmnaaRows
import Derived.Test.YtffikfajljbmnaaMCompareSteps4
namespace Go.Proofs.Ytffikfajljbmnaa
open Go.RowKit
set_option linter.unusedVariables false

def anc_raddleref46_Edits_0 : List (List Nat) := [[], [0], [0, 1], [0, 1], [0, 1, 2, 3], [0, 1, 2, 3, 4], [0, 1], [0, 1], [0, 1, 6, 7], [0, 1, 6, 7, 8], [0, 1, 2, 3, 4, 5, 6, 7, 8, 9], [0, 1, 2, 3, 4, 5, 6, 7, 8, 9, 10], [0, 1, 2, 3, 4, 5, 6, 7, 8, 9, 10, 11], [0, 1, 2, 3, 4, 5, 6, 7, 8, 9, 10, 11, 12], [0, 1, 2, 3, 4, 5, 6, 7, 8, 9, 10, 11, 12], [0, 1, 2, 3, 4, 5, 6, 7, 8, 9, 10, 11, 12, 13, 14], [0, 1, 2, 3, 4, 5, 6, 7, 8, 9, 10, 11, 12, 13, 14, 15], [0, 1, 2, 3, 4, 5, 6, 7, 8, 9, 10, 11, 12], [0, 1, 2, 3, 4, 5, 6, 7, 8, 9, 10, 11, 12, 13, 14, 15, 16, 17], [0, 1, 2, 3, 4, 5, 6, 7, 8, 9, 10, 11, 12, 13, 14, 15, 16, 17, 18], [0, 1, 2, 3, 4, 5, 6, 7, 8, 9, 10, 11, 12], [0, 1, 2, 3, 4, 5, 6, 7, 8, 9, 10, 11, 12], [0, 1, 2, 3, 4, 5, 6, 7, 8, 9, 10, 11, 12, 21], [0, 1, 2, 3, 4, 5, 6, 7, 8, 9, 10, 11, 12, 20, 21, 22], [0, 1, 2, 3, 4, 5, 6, 7, 8, 9, 10, 11, 12, 20, 21, 22, 23], [0, 1, 2, 3, 4, 5, 6, 7, 8, 9, 10, 11, 12], [0, 1, 2, 3, 4, 5, 6, 7, 8, 9, 10, 11, 12, 25], [0, 1, 2, 3, 4, 5, 6, 7, 8, 9, 10, 11, 12, 20, 21, 22, 23, 24, 25, 26], [0, 1, 2, 3, 4, 5, 6, 7, 8, 9, 10, 11, 12, 20, 21, 22, 23, 24, 25, 26, 27], [0, 1, 2, 3, 4, 5, 6, 7, 8, 9, 10, 11, 12, 13, 14, 15, 16, 17, 18, 19, 20, 21, 22, 23, 24, 25, 26, 27, 28], [0, 1, 2, 3, 4, 5, 6, 7, 8, 9, 10, 11, 12, 13, 14, 15, 16, 17, 18, 19, 20, 21, 22, 23, 24, 25, 26, 27, 28, 29], [0, 1, 2, 3, 4, 5, 6, 7, 8, 9, 10, 11, 12, 13, 14, 15, 16, 17, 18, 19, 20, 21, 22, 23, 24, 25, 26, 27, 28, 29, 30]]
def anc_raddleref46_Edits_1 : List (List Nat) := [[], [0], [0, 1], [0, 1], [0, 1, 2, 3], [0, 1, 2, 3, 4], [0, 1], [0, 1], [0, 1, 6, 7], [0, 1, 6, 7, 8], [0, 1, 2, 3, 4, 5, 6, 7, 8, 9], [0, 1, 2, 3, 4, 5, 6, 7, 8, 9, 10], [0, 1, 2, 3, 4, 5, 6, 7, 8, 9, 10, 11], [0, 1, 2, 3, 4, 5, 6, 7, 8, 9, 10, 11, 12], [0, 1, 2, 3, 4, 5, 6, 7, 8, 9, 10, 11, 12], [0, 1, 2, 3, 4, 5, 6, 7, 8, 9, 10, 11, 12, 13, 14], [0, 1, 2, 3, 4, 5, 6, 7, 8, 9, 10, 11, 12, 13, 14, 15], [0, 1, 2, 3, 4, 5, 6, 7, 8, 9, 10, 11, 12], [0, 1, 2, 3, 4, 5, 6, 7, 8, 9, 10, 11, 12, 13, 14, 15, 16, 17], [0, 1, 2, 3, 4, 5, 6, 7, 8, 9, 10, 11, 12, 13, 14, 15, 16, 17, 18], [0, 1, 2, 3, 4, 5, 6, 7, 8, 9, 10, 11, 12], [0, 1, 2, 3, 4, 5, 6, 7, 8, 9, 10, 11, 12], [0, 1, 2, 3, 4, 5, 6, 7, 8, 9, 10, 11, 12, 21], [0, 1, 2, 3, 4, 5, 6, 7, 8, 9, 10, 11, 12, 20, 21, 22], [0, 1, 2, 3, 4, 5, 6, 7, 8, 9, 10, 11, 12, 20, 21, 22, 23], [0, 1, 2, 3, 4, 5, 6, 7, 8, 9, 10, 11, 12], [0, 1, 2, 3, 4, 5, 6, 7, 8, 9, 10, 11, 12, 25], [0, 1, 2, 3, 4, 5, 6, 7, 8, 9, 10, 11, 12, 20, 21, 22, 23, 24, 25, 26], [0, 1, 2, 3, 4, 5, 6, 7, 8, 9, 10, 11, 12, 20, 21, 22, 23, 24, 25, 26, 27], [0, 1, 2, 3, 4, 5, 6, 7, 8, 9, 10, 11, 12, 20, 21, 22, 23, 24, 25, 26, 27, 28], [0, 1, 2, 3, 4, 5, 6, 7, 8, 9, 10, 11, 12, 13, 14, 15, 16, 17, 18, 19, 20, 21, 22, 23, 24, 25, 26, 27, 28, 29], [0, 1, 2, 3, 4, 5, 6, 7, 8, 9, 10, 11, 12, 13, 14, 15, 16, 17, 18, 19, 20, 21, 22, 23, 24, 25, 26, 27, 28, 29, 30], [0, 1, 2, 3, 4, 5, 6, 7, 8, 9, 10, 11, 12, 13, 14, 15, 16, 17, 18, 19, 20, 21, 22, 23, 24, 25, 26, 27, 28, 29, 30, 31]]
def anc_raddleref46_Edits_2 : List (List Nat) := [[], [], [1], [0, 1, 2], [0, 1, 2, 3], [0, 1, 2, 3, 4], [0, 1, 2, 3, 4], [0, 1, 2, 3, 4, 5, 6], [0, 1, 2, 3, 4, 5, 6, 7], [0, 1, 2, 3, 4], [0, 1, 2, 3, 4, 5, 6, 7, 8, 9], [0, 1, 2, 3, 4, 5, 6, 7, 8, 9, 10], [0, 1, 2, 3, 4], [0, 1, 2, 3, 4], [0, 1, 2, 3, 4, 13], [0, 1, 2, 3, 4, 12, 13, 14], [0, 1, 2, 3, 4, 12, 13, 14, 15], [0, 1, 2, 3, 4], [0, 1, 2, 3, 4, 12, 13, 14, 15, 16, 17], [0, 1, 2, 3, 4, 12, 13, 14, 15, 16, 17, 18], [0, 1, 2, 3, 4, 12, 13, 14, 15, 16, 17, 18, 19], [0, 1, 2, 3, 4, 5, 6, 7, 8, 9, 10, 11, 12, 13, 14, 15, 16, 17, 18, 19, 20], [0, 1, 2, 3, 4, 5, 6, 7, 8, 9, 10, 11, 12, 13, 14, 15, 16, 17, 18, 19, 20, 21], [0, 1, 2, 3, 4, 5, 6, 7, 8, 9, 10, 11, 12, 13, 14, 15, 16, 17, 18, 19, 20, 21, 22]]
def anc_raddleref46_Edits_3 : List (List Nat) := [[], [], [1], [1, 2], [1, 2, 3], [1, 2, 3, 4], [0], [0, 1, 2, 3, 4, 5, 6], [0, 1, 2, 3, 4, 5, 6, 7]]
noncomputable def raddleref46_Edits_l1 (p0 : (List api_Stitch)) (p1 : (List api_Stitch)) (r21 : (List (List Int))) : (List api_CellStep × Int × Int) → Option ((List api_CellStep × Int × Int) ⊕ List api_CellStep) := fun s0 => match s0 with
  | (s33, s36, s37) =>
    Option.bind (α := Bool) (
      if decide (s36 < (p0.length : Int)) then
        some true
      else
        some (decide (s37 < (p1.length : Int)))) fun o45 =>
    if o45 then
      Option.bind (α := Bool) (
        if decide (s36 < (p0.length : Int)) then
          some (decide (s37 < (p1.length : Int)))
        else
          some false) fun o50 =>
      Option.bind (α := Bool) (
        if o50 then
          Option.bind (idxO p0 s36) fun x58 =>
          Option.bind (idxO p1 s37) fun x63 =>
          if ((x58.Kind == x63.Kind) && ((x58.Purl == x63.Purl) && ((x58.A == x63.A) && ((x58.B == x63.B) && true)))) then
            Option.bind (idxO r21 s36) fun x69 =>
            Option.bind (idxO x69 s37) fun x76 =>
            Option.bind (idxO r21 (w64 (s36 + 1))) fun x81 =>
            Option.bind (idxO x81 (w64 (s37 + 1))) fun x88 =>
            some (x76 == x88)
          else
            some false
        else
          some false) fun o54 =>
      if o54 then
        Option.bind (appO s33 [(api_CellStep.mk 1 (api_Stitch.mk 0 false 0 0))]) fun l125 =>
        some (.inl (l125, w64 (s36 + 1), w64 (s37 + 1)))
      else
        Option.bind (α := Bool) (
          if o50 then
            Option.bind (idxO p0 s36) fun x133 =>
            Option.bind (idxO p1 s37) fun x138 =>
            if !((x133.Kind == x138.Kind) && ((x133.Purl == x138.Purl) && ((x133.A == x138.A) && ((x133.B == x138.B) && true)))) then
              Option.bind (idxO r21 s36) fun x144 =>
              Option.bind (idxO x144 s37) fun x151 =>
              Option.bind (idxO r21 (w64 (s36 + 1))) fun x156 =>
              Option.bind (idxO x156 (w64 (s37 + 1))) fun x163 =>
              some (x151 == (w64 (x163 + 1)))
            else
              some false
          else
            some false) fun o129 =>
        if o129 then
          Option.bind (idxO p1 s37) fun x198 =>
          Option.bind (appO s33 [(api_CellStep.mk 2 x198)]) fun l205 =>
          some (.inl (l205, w64 (s36 + 1), w64 (s37 + 1)))
        else
          Option.bind (α := Bool) (
            if decide (s36 < (p0.length : Int)) then
              Option.bind (idxO r21 s36) fun x213 =>
              Option.bind (idxO x213 s37) fun x220 =>
              Option.bind (idxO r21 (w64 (s36 + 1))) fun x225 =>
              Option.bind (idxO x225 s37) fun x232 =>
              some (x220 == (w64 (x232 + 1)))
            else
              some false) fun o209 =>
          if o209 then
            Option.bind (appO s33 [(api_CellStep.mk 4 (api_Stitch.mk 0 false 0 0))]) fun l257 =>
            some (.inl (l257, w64 (s36 + 1), s37))
          else
            Option.bind (idxO p1 s37) fun x262 =>
            Option.bind (appO s33 [(api_CellStep.mk 3 x262)]) fun l269 =>
            some (.inl (l269, s36, w64 (s37 + 1)))
    else
      some (.inr s33)
noncomputable def F_raddleref46_Edits (p0 : (List api_Stitch)) (p1 : (List api_Stitch)) : Option ((List api_CellStep) × Int × Int) :=
  Option.bind (F_raddleref25_All p0) fun r8 =>
  if r8 != 0 then
    some (([] : (List api_CellStep)), 0, r8)
  else
    Option.bind (F_raddleref25_All p1) fun r15 =>
    if r15 != 0 then
      some (([] : (List api_CellStep)), 0, r15)
    else
      Option.bind (F_raddleref46_Table p0 p1) fun r21 =>
      Option.bind (α := List api_CellStep) (
        Option.bind (whileO (raddleref46_Edits_l1 p0 p1 r21) (([] : List api_CellStep), 0, 0)) fun e41 =>
          some e41) fun o28 =>
      Option.bind (idxO r21 0) fun x274 =>
      Option.bind (idxO x274 0) fun x281 =>
      some (o28, x281, 0)
def c_raddleref46_Edits_val (r : ((List api_CellStep) × Int × Int)) (x : Value) : Value := .tuple #[x, .int .i64 r.2.1, .int .i64 r.2.2]
def c_raddleref46_Edits_D (r : ((List api_CellStep) × Int × Int)) (x : Value) : List Fact := [fRep (rL r_api_CellStep) x r.1]
set_option maxHeartbeats 4000000 in
set_option maxRecDepth 100000 in
theorem c_raddleref46_Edits (E : Nat → Prop) (w0 : World) (p0 : (List api_Stitch)) (v0 : Value) (p1 : (List api_Stitch)) (v1 : Value) (r : ((List api_CellStep) × Int × Int)) (h : F_raddleref46_Edits p0 p1 = some r) (S : St0 E [] w0 w0 [] [fRep (rL r_api_Stitch) (v0) p0, fRep (rL r_api_Stitch) (v1) p1]) :
    Calls Try.prog 24 #[v0, v1] w0 (Ret (X := Value) E [] w0 (c_raddleref46_Edits_val r) (fun _ => []) (c_raddleref46_Edits_D r)) := by
  unfold F_raddleref46_Edits at h
  obtain ⟨ad1, cp2, _, rfl, _⟩ := S.know (i := 0) (e := fRep (rL r_api_Stitch) (v0) p0) rfl
  obtain ⟨ad3, cp4, _, rfl, _⟩ := S.know (i := 1) (e := fRep (rL r_api_Stitch) (v1) p1) rfl
  refine sEnter (args := [.slice ad1 p0.length cp2, .slice ad3 p1.length cp4]) 178 Try.func24 rfl rfl (by simp) S (fun a S => ?_)
  refine sSeq (fun K5 hK5 => ?_)
  refine sRegion ?_
  refine sMove (.slice none 0 0) S (wN rfl) (.inr rfl) rfl rfl (lb rfl) fun a S => ?_
  refine sMove (iv 0) S (wN rfl) (.inr rfl) rfl rfl (lb rfl) fun a S => ?_
  refine sMove (iv 0) S (wN rfl) (.inr rfl) rfl rfl (lb rfl) fun a S => ?_
  refine leafL (leafT (hK5 _ _ ?_))
  refine sSeq (fun K6 hK6 => ?_)
  refine sSeq (fun K7 hK7 => ?_)
  refine sRegion ?_
  refine sMove (.slice ad1 p0.length cp2) S (wN rfl) (.inl rfl) rfl rfl (lb rfl) fun a S => ?_
  obtain ⟨r8, hx9, h⟩ := bindSome h
  have S1 := S.mem
  refine sCallQ (X := Unit) (f := 38) (vs := [.slice ad1 p0.length cp2]) (val := fun _ => iv r8) S (wN rfl) rfl callee38 rfl (S1.quiet [0] rfl) (fun E1 w1 S1 => c_raddleref25_All E1 w1 p0 (.slice ad1 p0.length cp2) r8 hx9 S1) rfl (lb rfl) fun _ a w S => ?_
  refine sMove (iv r8) S (wN rfl) (.inr rfl) rfl rfl (lb rfl) fun a S => ?_
  refine leafL (leafT (hK7 _ _ ?_))
  refine sSeq (fun K10 hK10 => ?_)
  refine sRegion ?_
  refine sMove (iv r8) S (wN rfl) (.inl rfl) rfl rfl (lb rfl) fun a S => ?_
  refine sBin (.bool (r8 != 0)) S (wN rfl) rfl rfl rfl (bNe _ _ _ _ .i64 r8 0) rfl (lb rfl) fun a S => ?_
  refine leafL (leafT (hK10 _ _ ?_))
  rcases iteSome h with ⟨hc11, h⟩ | ⟨hc11, h⟩
  · refine sCondT S rfl hc11 ?_
    refine sSeq (fun K12 hK12 => ?_)
    refine sRegion ?_
    refine sMove (iv r8) S (wN rfl) (.inl rfl) rfl rfl (lb rfl) fun a S => ?_
    refine sMove (.slice none 0 0) S (wN rfl) (.inr rfl) rfl rfl (lb rfl) fun a S => ?_
    refine sMove (iv 0) S (wN rfl) (.inr rfl) rfl rfl (lb rfl) fun a S => ?_
    refine sMove (iv r8) S (wN rfl) (.inr rfl) rfl rfl (lb rfl) fun a S => ?_
    refine leafL (leafT (hK12 _ _ ?_))
    obtain rfl := Option.some.inj h
    have S := S.learn (fRep (rL r_api_CellStep) (.slice none 0 0) ([] : (List api_CellStep))) (rL_nil _ _ _)
    exact wp_ret (rThen (sRet (.tuple #[.slice none 0 0, iv 0, iv r8]) S (rsl3 rfl (rvT (t := 4) (v := .slice none 0 0) S rfl) (rvT (t := 5) (v := iv 0) S rfl) (rvT (t := 6) (v := iv r8) S rfl)) ⟨(.slice none 0 0), rfl, S.mem.sel [] [0] (by decide) rfl rfl⟩))
  refine sCondF S rfl hc11 ?_
  refine wp_skip (leafT (hK6 _ _ ?_))
  refine sSeq (fun K13 hK13 => ?_)
  refine sSeq (fun K14 hK14 => ?_)
  refine sRegion ?_
  refine sMove (.slice ad3 p1.length cp4) S (wN rfl) (.inl rfl) rfl rfl (lb rfl) fun a S => ?_
  obtain ⟨r15, hx16, h⟩ := bindSome h
  have S1 := S.mem
  refine sCallQ (X := Unit) (f := 38) (vs := [.slice ad3 p1.length cp4]) (val := fun _ => iv r15) S (wN rfl) rfl callee38 rfl (S1.quiet [1] rfl) (fun E1 w1 S1 => c_raddleref25_All E1 w1 p1 (.slice ad3 p1.length cp4) r15 hx16 S1) rfl (lb rfl) fun _ a w S => ?_
  refine sMove (iv r15) S (wN rfl) (.inr rfl) rfl rfl (lb rfl) fun a S => ?_
  refine leafL (leafT (hK14 _ _ ?_))
  refine sSeq (fun K17 hK17 => ?_)
  refine sRegion ?_
  refine sMove (iv r15) S (wN rfl) (.inl rfl) rfl rfl (lb rfl) fun a S => ?_
  refine sBin (.bool (r15 != 0)) S (wN rfl) rfl rfl rfl (bNe _ _ _ _ .i64 r15 0) rfl (lb rfl) fun a S => ?_
  refine leafL (leafT (hK17 _ _ ?_))
  rcases iteSome h with ⟨hc18, h⟩ | ⟨hc18, h⟩
  · refine sCondT S rfl hc18 ?_
    refine sSeq (fun K19 hK19 => ?_)
    refine sRegion ?_
    refine sMove (iv r15) S (wN rfl) (.inl rfl) rfl rfl (lb rfl) fun a S => ?_
    refine sMove (.slice none 0 0) S (wN rfl) (.inr rfl) rfl rfl (lb rfl) fun a S => ?_
    refine sMove (iv 0) S (wN rfl) (.inr rfl) rfl rfl (lb rfl) fun a S => ?_
    refine sMove (iv r15) S (wN rfl) (.inr rfl) rfl rfl (lb rfl) fun a S => ?_
    refine leafL (leafT (hK19 _ _ ?_))
    obtain rfl := Option.some.inj h
    have S := S.learn (fRep (rL r_api_CellStep) (.slice none 0 0) ([] : (List api_CellStep))) (rL_nil _ _ _)
    exact wp_ret (rThen (sRet (.tuple #[.slice none 0 0, iv 0, iv r15]) S (rsl3 rfl (rvT (t := 4) (v := .slice none 0 0) S rfl) (rvT (t := 5) (v := iv 0) S rfl) (rvT (t := 6) (v := iv r15) S rfl)) ⟨(.slice none 0 0), rfl, S.mem.sel [] [0] (by decide) rfl rfl⟩))
  refine sCondF S rfl hc18 ?_
  refine wp_skip (leafT (hK13 _ _ ?_))
  refine sSeq (fun K20 hK20 => ?_)
  refine sRegion ?_
  refine sMove (.slice ad1 p0.length cp2) S (wN rfl) (.inl rfl) rfl rfl (lb rfl) fun a S => ?_
  refine sMove (.slice ad3 p1.length cp4) S (wN rfl) (.inl rfl) rfl rfl (lb rfl) fun a S => ?_
  obtain ⟨r21, hx22, h⟩ := bindSome h
  refine sCall (X := Value) (f := 57) (vs := [.slice ad1 p0.length cp2, .slice ad3 p1.length cp4]) (val := c_raddleref46_Table_val r21) (B' := fun _ => []) (D' := c_raddleref46_Table_D r21) [] [] [fRep (rL r_api_Stitch) (.slice ad1 p0.length cp2) p0, fRep (rL r_api_Stitch) (.slice ad3 p1.length cp4) p1] [] [0, 1] S (wN rfl) rfl callee57 rfl (by decide) rfl rfl (fun E1 w1 S1 => c_raddleref46_Table E1 w1 p0 (.slice ad1 p0.length cp2) p1 (.slice ad3 p1.length cp4) r21 hx22 S1) rfl (lb rfl) fun u23 a w S => ?_
  obtain ⟨ad24, cp25, _, rfl, _⟩ := S.mem.know (i := 0) (e := fRep (rL (rL (rI .i64))) (u23) r21) rfl
  refine sMove (.slice ad24 r21.length cp25) S (wN rfl) (.inr rfl) rfl rfl (lb rfl) fun a S => ?_
  refine leafL (leafT (hK20 _ _ ?_))
  refine sSeq (fun K26 hK26 => ?_)
  refine sRegion ?_
  refine sMove (.slice none 0 0) S (wN rfl) (.inr rfl) rfl rfl (lb rfl) fun a S => ?_
  refine leafL (leafT (hK26 _ _ ?_))
  refine sSeq (fun K27 hK27 => ?_)
  refine sRegion ?_
  refine sMove (iv 0) S (wN rfl) (.inr rfl) rfl rfl (lb rfl) fun a S => ?_
  refine sMove (iv 0) S (wN rfl) (.inr rfl) rfl rfl (lb rfl) fun a S => ?_
  refine leafL (leafT (hK27 _ _ ?_))
  obtain ⟨t31, h, g32⟩ := bindSome h
  refine sCut (fun a w => ∃ o28, o28 = t31 ∧ ∃ ad29, ∃ cp30, St [] E [] w0 178 a w [(9, .slice ad24 r21.length cp25), (10, .slice ad29 o28.length cp30)] [eRow r_api_CellStep 83 (.slice ad29 o28.length cp30) o28] [fRep (rL (rL (rI .i64))) (.slice ad24 r21.length cp25) r21]) ?_ (fun a w hI => ?_)
  rotate_left
  · obtain ⟨o28, rfl, ad29, cp30, S⟩ := hI
    have h := g32
    clear g32
    try dsimp only at h
    refine sSeq (fun K273 hK273 => ?_)
    obtain ⟨x274, hx275, h⟩ := bindSome h
    obtain ⟨x281, hx282, h⟩ := bindSome h
    obtain ⟨q286, hq287, S⟩ := pIdx (P := Try.prog) (r := (rL (rI .i64))) (v := .slice ad24 r21.length cp25) (xs := r21) (j := 0) 98 101 0 S Try.underlying98 rfl rfl hx275
    obtain ⟨u288, S⟩ := pLoad (r := (rL (rI .i64))) (q := q286) (x := x274) 0 S rfl
    obtain ⟨ad289, cp290, _, rfl, _⟩ := S.mem.know (i := 1) (e := fRep (rL (rI .i64)) (u288) x274) rfl
    obtain ⟨q291, hq292, S⟩ := pIdx (P := Try.prog) (r := (rI .i64)) (v := .slice ad289 x274.length cp290) (xs := x274) (j := 0) 101 3 1 S Try.underlying101 rfl rfl hx282
    obtain ⟨u293, S⟩ := pLoad (r := (rI .i64)) (q := q291) (x := x281) 0 S rfl
    obtain rfl : u293 = iv x281 := S.mem.know (i := 1) (e := fRep (rI .i64) (u293) x281) rfl
    refine sDraw (nf := []) (W := [(0, 172, .slice ad29 o28.length cp30), (1, 173, .slice ad24 r21.length cp25), (2, 174, q286), (3, 175, .slice ad289 x274.length cp290), (4, 176, q291), (5, 177, iv x281), (6, 4, .slice ad29 o28.length cp30), (7, 5, iv x281), (8, 6, iv 0)]) rfl S ?_
    refine node_by (A := anc_raddleref46_Edits_3) (nf := []) (Y := []) (W := [(0, 172, .slice ad29 o28.length cp30), (1, 173, .slice ad24 r21.length cp25), (2, 174, q286), (3, 175, .slice ad289 x274.length cp290), (4, 176, q291), (5, 177, iv x281), (6, 4, .slice ad29 o28.length cp30), (7, 5, iv x281), (8, 6, iv 0)]) 9 (by kernel_rfl) (by kernel_rfl) (by kernel_rfl) (by kernel_rfl) (by kernel_rfl) [0, 1, 2, 3, 4, 5, 6, 7, 8] (by kernel_rfl) (by decide) (by decide) (aF 0 8 (by decide) ?_ (aF 1 7 (by decide) ?_ (aF 2 6 (by decide) ?_ (aF 3 5 (by decide) ?_ (aF 4 4 (by decide) ?_ (aF 5 3 (by decide) ?_ (aF 6 2 (by decide) ?_ (aF 7 1 (by decide) ?_ (aF 8 0 (by decide) ?_ (trivial)))))))))) [(4, .slice ad29 o28.length cp30), (5, iv x281), (6, iv 0)] (fin_of [some 6, some 7, some 8] rfl (by kernel_rfl) (by kernel_rfl)) (fun _ a w S => ?_)
    · refine fI 172 (.slice ad29 o28.length cp30) [(10, .slice ad29 o28.length cp30)] 0 [none] rfl rfl rfl rfl rfl rfl fun G a w S => ?_
      refine sMove (.slice ad29 o28.length cp30) S (wN rfl) (.inl rfl) rfl rfl (lb rfl) fun a S => ?_
      exact leafL ⟨rfl, S⟩
    · refine fI 173 (.slice ad24 r21.length cp25) [(9, .slice ad24 r21.length cp25)] 1 [none] rfl rfl rfl rfl rfl rfl fun G a w S => ?_
      refine sMove (.slice ad24 r21.length cp25) S (wN rfl) (.inl rfl) rfl rfl (lb rfl) fun a S => ?_
      exact leafL ⟨rfl, S⟩
    · refine fI 174 q286 [(173, .slice ad24 r21.length cp25)] 2 [some 1] rfl rfl rfl rfl rfl rfl fun G a w S => ?_
      refine sIdxV (v := .slice ad24 r21.length cp25) (k := .i64) (j := 0) S (wN rfl) rfl rfl rfl hq287 rfl (lb rfl) fun a S => ?_
      exact leafL ⟨rfl, S⟩
    · refine fI 175 (.slice ad289 x274.length cp290) [(174, q286)] 3 [some 2] rfl rfl rfl rfl rfl rfl fun G a w S => ?_
      refine sLoadV1 (vq := q286) 3 (.slice ad289 x274.length cp290) S (wN rfl) rfl rfl rfl rfl rfl (lb rfl) fun a S => ?_
      exact leafL ⟨rfl, S⟩
    · refine fI 176 q291 [(175, .slice ad289 x274.length cp290)] 4 [some 3] rfl rfl rfl rfl rfl rfl fun G a w S => ?_
      refine sIdxV (v := .slice ad289 x274.length cp290) (k := .i64) (j := 0) S (wN rfl) rfl rfl rfl hq292 rfl (lb rfl) fun a S => ?_
      exact leafL ⟨rfl, S⟩
    · refine fI 177 (iv x281) [(176, q291)] 5 [some 4] rfl rfl rfl rfl rfl rfl fun G a w S => ?_
      refine sLoadV1 (vq := q291) 0 (iv x281) S (wN rfl) rfl rfl rfl rfl rfl (lb rfl) fun a S => ?_
      exact leafL ⟨rfl, S⟩
    · refine fI 4 (.slice ad29 o28.length cp30) [(172, .slice ad29 o28.length cp30)] 6 [some 0] rfl rfl rfl rfl rfl rfl fun G a w S => ?_
      refine sMove (.slice ad29 o28.length cp30) S (wN rfl) (.inr rfl) rfl rfl (lb rfl) fun a S => ?_
      exact leafL ⟨rfl, S⟩
    · refine fI 5 (iv x281) [(177, iv x281)] 7 [some 5] rfl rfl rfl rfl rfl rfl fun G a w S => ?_
      refine sMove (iv x281) S (wN rfl) (.inr rfl) rfl rfl (lb rfl) fun a S => ?_
      exact leafL ⟨rfl, S⟩
    · refine fI 6 (iv 0) [] 8 [] rfl rfl rfl rfl rfl rfl fun G a w S => ?_
      refine sMove (iv 0) S (wN rfl) (.inr rfl) rfl rfl (lb rfl) fun a S => ?_
      exact leafL ⟨rfl, S⟩
    refine leafT (hK273 _ _ ?_)
    obtain rfl := Option.some.inj h
    have S := S.shutR (r := r_api_CellStep) (T := 83) (v := .slice ad29 o28.length cp30) (xs := o28) 0 rfl
    exact wp_ret (sRet (.tuple #[.slice ad29 o28.length cp30, iv x281, iv 0]) S (rsl3 rfl (rvT (t := 4) (v := .slice ad29 o28.length cp30) S rfl) (rvT (t := 5) (v := iv x281) S rfl) (rvT (t := 6) (v := iv 0) S rfl)) ⟨(.slice ad29 o28.length cp30), rfl, S.mem.sel [] [0] (by decide) rfl rfl⟩)
  refine wp_block ?_
  have S := S.nilRow r_api_CellStep 83 (α := api_CellStep)
  obtain ⟨t40, hl, g39⟩ := bindSome h
  refine sLoop hl (fun s0 a w => match s0 with | (s33, s36, s37) => ∃ ad34, ∃ cp35, St [] E [] w0 178 a w [(0, .slice ad1 p0.length cp2), (1, .slice ad3 p1.length cp4), (9, .slice ad24 r21.length cp25), (10, .slice ad34 s33.length cp35), (11, iv s36), (12, iv s37)] [eRow r_api_CellStep 83 (.slice ad34 s33.length cp35) s33] [fRep (rL r_api_Stitch) (.slice ad1 p0.length cp2) p0, fRep (rL r_api_Stitch) (.slice ad3 p1.length cp4) p1, fRep (rL (rL (rI .i64))) (.slice ad24 r21.length cp25) r21]) ⟨none, 0, S.fix [0] [1, 2, 0] (by decide) rfl rfl rfl⟩ ?_
  clear hl h
  intro s0 a w c0 hI h hu38
  obtain ⟨s33, s36, s37⟩ := s0
  unfold raddleref46_Edits_l1 at h
  dsimp only at h hI
  obtain ⟨ad34, cp35, S⟩ := hI
  refine sSeq (fun K44 hK44 => ?_)
  obtain ⟨t46, h, g47⟩ := bindSome h
  refine sCut (fun a w => ∃ o45, o45 = t46 ∧ St [] E [] w0 178 a w [(0, .slice ad1 p0.length cp2), (1, .slice ad3 p1.length cp4), (9, .slice ad24 r21.length cp25), (10, .slice ad34 s33.length cp35), (11, iv s36), (12, iv s37), (36, .bool o45)] [eRow r_api_CellStep 83 (.slice ad34 s33.length cp35) s33] [fRep (rL r_api_Stitch) (.slice ad1 p0.length cp2) p0, fRep (rL r_api_Stitch) (.slice ad3 p1.length cp4) p1, fRep (rL (rL (rI .i64))) (.slice ad24 r21.length cp25) r21]) ?_ (fun a w hI => ?_)
  · refine sRegion ?_
    refine sMove (iv s36) S (wN rfl) (.inl rfl) rfl rfl (lb rfl) fun a S => ?_
    refine sMove (.slice ad1 p0.length cp2) S (wN rfl) (.inl rfl) rfl rfl (lb rfl) fun a S => ?_
    refine sLen (ad := ad1) (m := p0.length) (c := cp2) S (wN rfl) rfl Try.underlying47 rfl rfl (lb rfl) fun a S => ?_
    refine sBin (.bool (decide (s36 < (p0.length : Int)))) S (wN rfl) rfl rfl rfl (bLt _ _ _ _ .i64 s36 (p0.length : Int)) rfl (lb rfl) fun a S => ?_
    refine sMove (.bool (decide (s36 < (p0.length : Int)))) S (wN rfl) (.inl rfl) rfl rfl (lb rfl) fun a S => ?_
    rcases iteSome h with ⟨hc48, h⟩ | ⟨hc48, h⟩
    · refine sSkip 4 false 31 32 S rfl rfl rfl hc48 rfl (lb rfl) fun a S => ?_
      refine sSkip 4 false 31 33 S rfl rfl rfl hc48 rfl (lb rfl) fun a S => ?_
      refine sSkip 4 false 31 34 S rfl rfl rfl hc48 rfl (lb rfl) fun a S => ?_
      refine sSkip 4 false 31 35 S rfl rfl rfl hc48 rfl (lb rfl) fun a S => ?_
      refine sPickT (.bool true) S (wN rfl) rfl rfl hc48 rfl rfl (lb rfl) fun a S => ?_
      exact leafL (leafT (⟨true, Option.some.inj h, S.fix [0] [0, 1, 2] (by decide) rfl rfl rfl⟩))
    refine sMove (iv s37) S (wG 4 false 31 rfl rfl rfl hc48) (.inl rfl) rfl rfl (lb rfl) fun a S => ?_
    refine sMove (.slice ad3 p1.length cp4) S (wG 4 false 31 rfl rfl rfl hc48) (.inl rfl) rfl rfl (lb rfl) fun a S => ?_
    refine sLen (ad := ad3) (m := p1.length) (c := cp4) S (wG 4 false 31 rfl rfl rfl hc48) rfl Try.underlying47 rfl rfl (lb rfl) fun a S => ?_
    refine sBin (.bool (decide (s37 < (p1.length : Int)))) S (wG 4 false 31 rfl rfl rfl hc48) rfl rfl rfl (bLt _ _ _ _ .i64 s37 (p1.length : Int)) rfl (lb rfl) fun a S => ?_
    refine sPickF (.bool (decide (s37 < (p1.length : Int)))) S (wN rfl) rfl rfl hc48 rfl rfl (lb rfl) fun a S => ?_
    exact leafL (leafT (⟨decide (s37 < (p1.length : Int)), Option.some.inj h, S.fix [0] [0, 1, 2] (by decide) rfl rfl rfl⟩))
  obtain ⟨o45, rfl, S⟩ := hI
  have h := g47
  clear g47
  try dsimp only at h
  rcases iteSome h with ⟨hc49, h⟩ | ⟨hc49, h⟩
  rotate_left
  · refine sCondF S rfl hc49 ?_
    obtain rfl := Option.some.inj h
    obtain rfl := hu38 _ rfl
    have h := g39
    clear g39
    try dsimp only at h
    exact wp_exit (xThen (xThen (xHit (leafT (⟨s33, Option.some.inj h, ad34, cp35, S.fix [0] [2] (by decide) rfl rfl rfl⟩)))))
  refine sCondT S rfl hc49 ?_
  refine wp_skip (leafT (hK44 _ _ ?_))
  refine wp_block ?_
  obtain ⟨t51, h, g52⟩ := bindSome h
  refine sCut (fun a w => ∃ o50, o50 = t51 ∧ St [] E [] w0 178 a w [(0, .slice ad1 p0.length cp2), (1, .slice ad3 p1.length cp4), (9, .slice ad24 r21.length cp25), (10, .slice ad34 s33.length cp35), (11, iv s36), (12, iv s37), (13, .bool o50)] [eRow r_api_CellStep 83 (.slice ad34 s33.length cp35) s33] [fRep (rL r_api_Stitch) (.slice ad1 p0.length cp2) p0, fRep (rL r_api_Stitch) (.slice ad3 p1.length cp4) p1, fRep (rL (rL (rI .i64))) (.slice ad24 r21.length cp25) r21]) ?_ (fun a w hI => ?_)
  · refine sRegion ?_
    refine sMove (iv s36) S (wN rfl) (.inl rfl) rfl rfl (lb rfl) fun a S => ?_
    refine sMove (.slice ad1 p0.length cp2) S (wN rfl) (.inl rfl) rfl rfl (lb rfl) fun a S => ?_
    refine sLen (ad := ad1) (m := p0.length) (c := cp2) S (wN rfl) rfl Try.underlying47 rfl rfl (lb rfl) fun a S => ?_
    refine sBin (.bool (decide (s36 < (p0.length : Int)))) S (wN rfl) rfl rfl rfl (bLt _ _ _ _ .i64 s36 (p0.length : Int)) rfl (lb rfl) fun a S => ?_
    refine sMove (.bool (decide (s36 < (p0.length : Int)))) S (wN rfl) (.inl rfl) rfl rfl (lb rfl) fun a S => ?_
    rcases iteSome h with ⟨hc53, h⟩ | ⟨hc53, h⟩
    rotate_left
    · refine sSkip 4 true 41 42 S rfl rfl rfl hc53 rfl (lb rfl) fun a S => ?_
      refine sSkip 4 true 41 43 S rfl rfl rfl hc53 rfl (lb rfl) fun a S => ?_
      refine sSkip 4 true 41 44 S rfl rfl rfl hc53 rfl (lb rfl) fun a S => ?_
      refine sSkip 4 true 41 45 S rfl rfl rfl hc53 rfl (lb rfl) fun a S => ?_
      refine sPickF (.bool false) S (wN rfl) rfl rfl hc53 rfl rfl (lb rfl) fun a S => ?_
      refine sMove (.bool false) S (wN rfl) (.inr rfl) rfl rfl (lb rfl) fun a S => ?_
      exact leafL (leafT (⟨false, Option.some.inj h, S.fix [0] [0, 1, 2] (by decide) rfl rfl rfl⟩))
    refine sMove (iv s37) S (wG 4 true 41 rfl rfl rfl hc53) (.inl rfl) rfl rfl (lb rfl) fun a S => ?_
    refine sMove (.slice ad3 p1.length cp4) S (wG 4 true 41 rfl rfl rfl hc53) (.inl rfl) rfl rfl (lb rfl) fun a S => ?_
    refine sLen (ad := ad3) (m := p1.length) (c := cp4) S (wG 4 true 41 rfl rfl rfl hc53) rfl Try.underlying47 rfl rfl (lb rfl) fun a S => ?_
    refine sBin (.bool (decide (s37 < (p1.length : Int)))) S (wG 4 true 41 rfl rfl rfl hc53) rfl rfl rfl (bLt _ _ _ _ .i64 s37 (p1.length : Int)) rfl (lb rfl) fun a S => ?_
    refine sPickT (.bool (decide (s37 < (p1.length : Int)))) S (wN rfl) rfl rfl hc53 rfl rfl (lb rfl) fun a S => ?_
    refine sMove (.bool (decide (s37 < (p1.length : Int)))) S (wN rfl) (.inr rfl) rfl rfl (lb rfl) fun a S => ?_
    exact leafL (leafT (⟨decide (s37 < (p1.length : Int)), Option.some.inj h, S.fix [0] [0, 1, 2] (by decide) rfl rfl rfl⟩))
  obtain ⟨o50, rfl, S⟩ := hI
  have h := g52
  clear g52
  try dsimp only at h
  refine wp_block ?_
  obtain ⟨t55, h, g56⟩ := bindSome h
  refine sCut (fun a w => ∃ o54, o54 = t55 ∧ St [] E [] w0 178 a w [(0, .slice ad1 p0.length cp2), (1, .slice ad3 p1.length cp4), (9, .slice ad24 r21.length cp25), (10, .slice ad34 s33.length cp35), (11, iv s36), (12, iv s37), (13, .bool o50), (57, .bool o54)] [eRow r_api_CellStep 83 (.slice ad34 s33.length cp35) s33] [fRep (rL r_api_Stitch) (.slice ad1 p0.length cp2) p0, fRep (rL r_api_Stitch) (.slice ad3 p1.length cp4) p1, fRep (rL (rL (rI .i64))) (.slice ad24 r21.length cp25) r21]) ?_ (fun a w hI => ?_)
  · rcases iteSome h with ⟨hc57, h⟩ | ⟨hc57, h⟩
    rotate_left
    · refine sDraw (nf := []) (W := [(0, 58, .bool o50), (1, 59, .bool o50), (2, 60, undef), (3, 61, undef), (4, 62, undef), (5, 63, undef), (6, 64, undef), (7, 65, undef), (8, 66, undef), (9, 67, undef), (10, 68, undef), (11, 69, .bool false), (12, 70, .bool false), (13, 71, undef), (14, 72, undef), (15, 73, undef), (16, 74, undef), (17, 75, undef), (18, 76, undef), (19, 77, undef), (20, 78, undef), (21, 79, undef), (22, 80, undef), (23, 81, undef), (24, 82, undef), (25, 83, undef), (26, 84, undef), (27, 85, undef), (28, 86, undef), (29, 87, undef), (30, 88, .bool false), (31, 57, .bool false)]) rfl S ?_
      refine node_by (A := anc_raddleref46_Edits_0) (nf := []) (Y := []) (W := [(0, 58, .bool o50), (1, 59, .bool o50), (2, 60, undef), (3, 61, undef), (4, 62, undef), (5, 63, undef), (6, 64, undef), (7, 65, undef), (8, 66, undef), (9, 67, undef), (10, 68, undef), (11, 69, .bool false), (12, 70, .bool false), (13, 71, undef), (14, 72, undef), (15, 73, undef), (16, 74, undef), (17, 75, undef), (18, 76, undef), (19, 77, undef), (20, 78, undef), (21, 79, undef), (22, 80, undef), (23, 81, undef), (24, 82, undef), (25, 83, undef), (26, 84, undef), (27, 85, undef), (28, 86, undef), (29, 87, undef), (30, 88, .bool false), (31, 57, .bool false)]) 32 (by kernel_rfl) (by kernel_rfl) (by kernel_rfl) (by kernel_rfl) (by kernel_rfl) [0, 1, 2, 3, 4, 5, 6, 7, 8, 9, 10, 11, 12, 13, 14, 15, 16, 17, 18, 19, 20, 21, 22, 23, 24, 25, 26, 27, 28, 29, 30, 31] (by kernel_rfl) (by decide) (by decide) (aF 0 31 (by decide) ?_ (aF 1 30 (by decide) ?_ (aF 2 29 (by decide) ?_ (aF 3 28 (by decide) ?_ (aF 4 27 (by decide) ?_ (aF 5 26 (by decide) ?_ (aF 6 25 (by decide) ?_ (aF 7 24 (by decide) ?_ (aF 8 23 (by decide) ?_ (aF 9 22 (by decide) ?_ (aF 10 21 (by decide) ?_ (aF 11 20 (by decide) ?_ (aF 12 19 (by decide) ?_ (aF 13 18 (by decide) ?_ (aF 14 17 (by decide) ?_ (aF 15 16 (by decide) ?_ (aF 16 15 (by decide) ?_ (aF 17 14 (by decide) ?_ (aF 18 13 (by decide) ?_ (aF 19 12 (by decide) ?_ (aF 20 11 (by decide) ?_ (aF 21 10 (by decide) ?_ (aF 22 9 (by decide) ?_ (aF 23 8 (by decide) ?_ (aF 24 7 (by decide) ?_ (aF 25 6 (by decide) ?_ (aF 26 5 (by decide) ?_ (aF 27 4 (by decide) ?_ (aF 28 3 (by decide) ?_ (aF 29 2 (by decide) ?_ (aF 30 1 (by decide) ?_ (aF 31 0 (by decide) ?_ (trivial))))))))))))))))))))))))))))))))) [(0, .slice ad1 p0.length cp2), (1, .slice ad3 p1.length cp4), (9, .slice ad24 r21.length cp25), (10, .slice ad34 s33.length cp35), (11, iv s36), (12, iv s37), (13, .bool o50), (57, .bool false), (60, undef), (61, undef), (62, undef), (63, undef), (64, undef), (65, undef), (66, undef), (67, undef), (68, undef), (71, undef), (72, undef), (73, undef), (74, undef), (75, undef), (76, undef), (77, undef), (78, undef), (79, undef), (80, undef), (81, undef), (82, undef), (83, undef), (84, undef), (85, undef), (86, undef), (87, undef)] (fin_of [none, none, none, none, none, none, none, some 31, some 2, some 3, some 4, some 5, some 6, some 7, some 8, some 9, some 10, some 13, some 14, some 15, some 16, some 17, some 18, some 19, some 20, some 21, some 22, some 23, some 24, some 25, some 26, some 27, some 28, some 29] rfl (by kernel_rfl) (by kernel_rfl)) (fun _ a w S => ?_)
      · refine fI 58 (.bool o50) [(13, .bool o50)] 0 [none] rfl rfl rfl rfl rfl rfl fun G a w S => ?_
        refine sMove (.bool o50) S (wN rfl) (.inl rfl) rfl rfl (lb rfl) fun a S => ?_
        exact leafL ⟨rfl, S⟩
      · refine fI 59 (.bool o50) [(58, .bool o50)] 1 [some 0] rfl rfl rfl rfl rfl rfl fun G a w S => ?_
        refine sMove (.bool o50) S (wN rfl) (.inl rfl) rfl rfl (lb rfl) fun a S => ?_
        exact leafL ⟨rfl, S⟩
      · refine fI 60 undef [(0, .slice ad1 p0.length cp2), (59, .bool o50)] 2 [none, some 1] rfl rfl rfl rfl rfl rfl fun G a w S => ?_
        refine sSkip 1 true 59 60 S rfl rfl rfl hc57 rfl (lb rfl) fun a S => ?_
        exact leafL ⟨rfl, S⟩
      · refine fI 61 undef [(11, iv s36), (59, .bool o50)] 3 [none, some 1] rfl rfl rfl rfl rfl rfl fun G a w S => ?_
        refine sSkip 1 true 59 61 S rfl rfl rfl hc57 rfl (lb rfl) fun a S => ?_
        exact leafL ⟨rfl, S⟩
      · refine fI 62 undef [(60, undef), (61, undef), (59, .bool o50)] 4 [some 2, some 3, some 1] rfl rfl rfl rfl rfl rfl fun G a w S => ?_
        refine sSkip 1 true 59 62 S rfl rfl rfl hc57 rfl (lb rfl) fun a S => ?_
        exact leafL ⟨rfl, S⟩
      · refine fI 63 undef [(62, undef), (59, .bool o50)] 5 [some 4, some 1] rfl rfl rfl rfl rfl rfl fun G a w S => ?_
        refine sSkip 1 true 59 63 S rfl rfl rfl hc57 rfl (lb rfl) fun a S => ?_
        exact leafL ⟨rfl, S⟩
      · refine fI 64 undef [(1, .slice ad3 p1.length cp4), (59, .bool o50)] 6 [none, some 1] rfl rfl rfl rfl rfl rfl fun G a w S => ?_
        refine sSkip 1 true 59 64 S rfl rfl rfl hc57 rfl (lb rfl) fun a S => ?_
        exact leafL ⟨rfl, S⟩
      · refine fI 65 undef [(12, iv s37), (59, .bool o50)] 7 [none, some 1] rfl rfl rfl rfl rfl rfl fun G a w S => ?_
        refine sSkip 1 true 59 65 S rfl rfl rfl hc57 rfl (lb rfl) fun a S => ?_
        exact leafL ⟨rfl, S⟩
      · refine fI 66 undef [(64, undef), (65, undef), (59, .bool o50)] 8 [some 6, some 7, some 1] rfl rfl rfl rfl rfl rfl fun G a w S => ?_
        refine sSkip 1 true 59 66 S rfl rfl rfl hc57 rfl (lb rfl) fun a S => ?_
        exact leafL ⟨rfl, S⟩
      · refine fI 67 undef [(66, undef), (59, .bool o50)] 9 [some 8, some 1] rfl rfl rfl rfl rfl rfl fun G a w S => ?_
        refine sSkip 1 true 59 67 S rfl rfl rfl hc57 rfl (lb rfl) fun a S => ?_
        exact leafL ⟨rfl, S⟩
      · refine fI 68 undef [(63, undef), (67, undef), (59, .bool o50)] 10 [some 5, some 9, some 1] rfl rfl rfl rfl rfl rfl fun G a w S => ?_
        refine sSkip 1 true 59 68 S rfl rfl rfl hc57 rfl (lb rfl) fun a S => ?_
        exact leafL ⟨rfl, S⟩
      · refine fI 69 (.bool false) [(59, .bool o50), (68, undef)] 11 [some 1, some 10] rfl rfl rfl rfl rfl rfl fun G a w S => ?_
        refine sPickF (.bool false) S (wN rfl) rfl rfl hc57 rfl rfl (lb rfl) fun a S => ?_
        exact leafL ⟨rfl, S⟩
      · refine fI 70 (.bool false) [(69, .bool false)] 12 [some 11] rfl rfl rfl rfl rfl rfl fun G a w S => ?_
        refine sMove (.bool false) S (wN rfl) (.inl rfl) rfl rfl (lb rfl) fun a S => ?_
        exact leafL ⟨rfl, S⟩
      · refine fI 71 undef [(9, .slice ad24 r21.length cp25), (70, .bool false)] 13 [none, some 12] rfl rfl rfl rfl rfl rfl fun G a w S => ?_
        refine sSkip 12 true 70 71 S rfl rfl rfl rfl rfl (lb rfl) fun a S => ?_
        exact leafL ⟨rfl, S⟩
      · refine fI 72 undef [(11, iv s36), (70, .bool false)] 14 [none, some 12] rfl rfl rfl rfl rfl rfl fun G a w S => ?_
        refine sSkip 12 true 70 72 S rfl rfl rfl rfl rfl (lb rfl) fun a S => ?_
        exact leafL ⟨rfl, S⟩
      · refine fI 73 undef [(71, undef), (72, undef), (70, .bool false)] 15 [some 13, some 14, some 12] rfl rfl rfl rfl rfl rfl fun G a w S => ?_
        refine sSkip 12 true 70 73 S rfl rfl rfl rfl rfl (lb rfl) fun a S => ?_
        exact leafL ⟨rfl, S⟩
      · refine fI 74 undef [(73, undef), (70, .bool false)] 16 [some 15, some 12] rfl rfl rfl rfl rfl rfl fun G a w S => ?_
        refine sSkip 12 true 70 74 S rfl rfl rfl rfl rfl (lb rfl) fun a S => ?_
        exact leafL ⟨rfl, S⟩
      · refine fI 75 undef [(12, iv s37), (70, .bool false)] 17 [none, some 12] rfl rfl rfl rfl rfl rfl fun G a w S => ?_
        refine sSkip 12 true 70 75 S rfl rfl rfl rfl rfl (lb rfl) fun a S => ?_
        exact leafL ⟨rfl, S⟩
      · refine fI 76 undef [(74, undef), (75, undef), (70, .bool false)] 18 [some 16, some 17, some 12] rfl rfl rfl rfl rfl rfl fun G a w S => ?_
        refine sSkip 12 true 70 76 S rfl rfl rfl rfl rfl (lb rfl) fun a S => ?_
        exact leafL ⟨rfl, S⟩
      · refine fI 77 undef [(76, undef), (70, .bool false)] 19 [some 18, some 12] rfl rfl rfl rfl rfl rfl fun G a w S => ?_
        refine sSkip 12 true 70 77 S rfl rfl rfl rfl rfl (lb rfl) fun a S => ?_
        exact leafL ⟨rfl, S⟩
      · refine fI 78 undef [(9, .slice ad24 r21.length cp25), (70, .bool false)] 20 [none, some 12] rfl rfl rfl rfl rfl rfl fun G a w S => ?_
        refine sSkip 12 true 70 78 S rfl rfl rfl rfl rfl (lb rfl) fun a S => ?_
        exact leafL ⟨rfl, S⟩
      · refine fI 79 undef [(11, iv s36), (70, .bool false)] 21 [none, some 12] rfl rfl rfl rfl rfl rfl fun G a w S => ?_
        refine sSkip 12 true 70 79 S rfl rfl rfl rfl rfl (lb rfl) fun a S => ?_
        exact leafL ⟨rfl, S⟩
      · refine fI 80 undef [(79, undef), (70, .bool false)] 22 [some 21, some 12] rfl rfl rfl rfl rfl rfl fun G a w S => ?_
        refine sSkip 12 true 70 80 S rfl rfl rfl rfl rfl (lb rfl) fun a S => ?_
        exact leafL ⟨rfl, S⟩
      · refine fI 81 undef [(78, undef), (80, undef), (70, .bool false)] 23 [some 20, some 22, some 12] rfl rfl rfl rfl rfl rfl fun G a w S => ?_
        refine sSkip 12 true 70 81 S rfl rfl rfl rfl rfl (lb rfl) fun a S => ?_
        exact leafL ⟨rfl, S⟩
      · refine fI 82 undef [(81, undef), (70, .bool false)] 24 [some 23, some 12] rfl rfl rfl rfl rfl rfl fun G a w S => ?_
        refine sSkip 12 true 70 82 S rfl rfl rfl rfl rfl (lb rfl) fun a S => ?_
        exact leafL ⟨rfl, S⟩
      · refine fI 83 undef [(12, iv s37), (70, .bool false)] 25 [none, some 12] rfl rfl rfl rfl rfl rfl fun G a w S => ?_
        refine sSkip 12 true 70 83 S rfl rfl rfl rfl rfl (lb rfl) fun a S => ?_
        exact leafL ⟨rfl, S⟩
      · refine fI 84 undef [(83, undef), (70, .bool false)] 26 [some 25, some 12] rfl rfl rfl rfl rfl rfl fun G a w S => ?_
        refine sSkip 12 true 70 84 S rfl rfl rfl rfl rfl (lb rfl) fun a S => ?_
        exact leafL ⟨rfl, S⟩
      · refine fI 85 undef [(82, undef), (84, undef), (70, .bool false)] 27 [some 24, some 26, some 12] rfl rfl rfl rfl rfl rfl fun G a w S => ?_
        refine sSkip 12 true 70 85 S rfl rfl rfl rfl rfl (lb rfl) fun a S => ?_
        exact leafL ⟨rfl, S⟩
      · refine fI 86 undef [(85, undef), (70, .bool false)] 28 [some 27, some 12] rfl rfl rfl rfl rfl rfl fun G a w S => ?_
        refine sSkip 12 true 70 86 S rfl rfl rfl rfl rfl (lb rfl) fun a S => ?_
        exact leafL ⟨rfl, S⟩
      · refine fI 87 undef [(77, undef), (86, undef), (70, .bool false)] 29 [some 19, some 28, some 12] rfl rfl rfl rfl rfl rfl fun G a w S => ?_
        refine sSkip 12 true 70 87 S rfl rfl rfl rfl rfl (lb rfl) fun a S => ?_
        exact leafL ⟨rfl, S⟩
      · refine fI 88 (.bool false) [(70, .bool false), (87, undef)] 30 [some 12, some 29] rfl rfl rfl rfl rfl rfl fun G a w S => ?_
        refine sPickF (.bool false) S (wN rfl) rfl rfl rfl rfl rfl (lb rfl) fun a S => ?_
        exact leafL ⟨rfl, S⟩
      · refine fI 57 (.bool false) [(88, .bool false)] 31 [some 30] rfl rfl rfl rfl rfl rfl fun G a w S => ?_
        refine sMove (.bool false) S (wN rfl) (.inr rfl) rfl rfl (lb rfl) fun a S => ?_
        exact leafL ⟨rfl, S⟩
      exact leafT (⟨false, Option.some.inj h, S.fix [0] [0, 1, 2] (by decide) rfl rfl rfl⟩)
    obtain ⟨x58, hx59, h⟩ := bindSome h
    obtain ⟨x63, hx64, h⟩ := bindSome h
    rcases iteSome h with ⟨hc68, h⟩ | ⟨hc68, h⟩
    rotate_left
    · obtain ⟨q115, hq116, S⟩ := pIdx (P := Try.prog) (r := r_api_Stitch) (v := .slice ad1 p0.length cp2) (xs := p0) (j := s36) 47 81 0 S Try.underlying47 rfl rfl hx59
      obtain ⟨u117, S⟩ := pLoad (r := r_api_Stitch) (q := q115) (x := x58) 0 S rfl
      obtain rfl : u117 = .agg #[.int .u8 x58.Kind, .bool x58.Purl, iv x58.A, iv x58.B] := S.mem.know (i := 1) (e := fRep r_api_Stitch (u117) x58) rfl
      obtain ⟨q118, hq119, S⟩ := pIdx (P := Try.prog) (r := r_api_Stitch) (v := .slice ad3 p1.length cp4) (xs := p1) (j := s37) 47 81 4 S Try.underlying47 rfl rfl hx64
      obtain ⟨u120, S⟩ := pLoad (r := r_api_Stitch) (q := q118) (x := x63) 0 S rfl
      obtain rfl : u120 = .agg #[.int .u8 x63.Kind, .bool x63.Purl, iv x63.A, iv x63.B] := S.mem.know (i := 1) (e := fRep r_api_Stitch (u120) x63) rfl
      refine sDraw (nf := []) (W := [(0, 58, .bool o50), (1, 59, .bool o50), (2, 60, .slice ad1 p0.length cp2), (3, 61, iv s36), (4, 62, q115), (5, 63, .agg #[.int .u8 x58.Kind, .bool x58.Purl, iv x58.A, iv x58.B]), (6, 64, .slice ad3 p1.length cp4), (7, 65, iv s37), (8, 66, q118), (9, 67, .agg #[.int .u8 x63.Kind, .bool x63.Purl, iv x63.A, iv x63.B]), (10, 68, .bool ((x58.Kind == x63.Kind) && ((x58.Purl == x63.Purl) && ((x58.A == x63.A) && ((x58.B == x63.B) && true))))), (11, 69, .bool ((x58.Kind == x63.Kind) && ((x58.Purl == x63.Purl) && ((x58.A == x63.A) && ((x58.B == x63.B) && true))))), (12, 70, .bool ((x58.Kind == x63.Kind) && ((x58.Purl == x63.Purl) && ((x58.A == x63.A) && ((x58.B == x63.B) && true))))), (13, 71, undef), (14, 72, undef), (15, 73, undef), (16, 74, undef), (17, 75, undef), (18, 76, undef), (19, 77, undef), (20, 78, undef), (21, 79, undef), (22, 80, undef), (23, 81, undef), (24, 82, undef), (25, 83, undef), (26, 84, undef), (27, 85, undef), (28, 86, undef), (29, 87, undef), (30, 88, .bool false), (31, 57, .bool false)]) rfl S ?_
      refine node_by (A := anc_raddleref46_Edits_0) (nf := []) (Y := []) (W := [(0, 58, .bool o50), (1, 59, .bool o50), (2, 60, .slice ad1 p0.length cp2), (3, 61, iv s36), (4, 62, q115), (5, 63, .agg #[.int .u8 x58.Kind, .bool x58.Purl, iv x58.A, iv x58.B]), (6, 64, .slice ad3 p1.length cp4), (7, 65, iv s37), (8, 66, q118), (9, 67, .agg #[.int .u8 x63.Kind, .bool x63.Purl, iv x63.A, iv x63.B]), (10, 68, .bool ((x58.Kind == x63.Kind) && ((x58.Purl == x63.Purl) && ((x58.A == x63.A) && ((x58.B == x63.B) && true))))), (11, 69, .bool ((x58.Kind == x63.Kind) && ((x58.Purl == x63.Purl) && ((x58.A == x63.A) && ((x58.B == x63.B) && true))))), (12, 70, .bool ((x58.Kind == x63.Kind) && ((x58.Purl == x63.Purl) && ((x58.A == x63.A) && ((x58.B == x63.B) && true))))), (13, 71, undef), (14, 72, undef), (15, 73, undef), (16, 74, undef), (17, 75, undef), (18, 76, undef), (19, 77, undef), (20, 78, undef), (21, 79, undef), (22, 80, undef), (23, 81, undef), (24, 82, undef), (25, 83, undef), (26, 84, undef), (27, 85, undef), (28, 86, undef), (29, 87, undef), (30, 88, .bool false), (31, 57, .bool false)]) 32 (by kernel_rfl) (by kernel_rfl) (by kernel_rfl) (by kernel_rfl) (by kernel_rfl) [0, 1, 2, 3, 4, 5, 6, 7, 8, 9, 10, 11, 12, 13, 14, 15, 16, 17, 18, 19, 20, 21, 22, 23, 24, 25, 26, 27, 28, 29, 30, 31] (by kernel_rfl) (by decide) (by decide) (aF 0 31 (by decide) ?_ (aF 1 30 (by decide) ?_ (aF 2 29 (by decide) ?_ (aF 3 28 (by decide) ?_ (aF 4 27 (by decide) ?_ (aF 5 26 (by decide) ?_ (aF 6 25 (by decide) ?_ (aF 7 24 (by decide) ?_ (aF 8 23 (by decide) ?_ (aF 9 22 (by decide) ?_ (aF 10 21 (by decide) ?_ (aF 11 20 (by decide) ?_ (aF 12 19 (by decide) ?_ (aF 13 18 (by decide) ?_ (aF 14 17 (by decide) ?_ (aF 15 16 (by decide) ?_ (aF 16 15 (by decide) ?_ (aF 17 14 (by decide) ?_ (aF 18 13 (by decide) ?_ (aF 19 12 (by decide) ?_ (aF 20 11 (by decide) ?_ (aF 21 10 (by decide) ?_ (aF 22 9 (by decide) ?_ (aF 23 8 (by decide) ?_ (aF 24 7 (by decide) ?_ (aF 25 6 (by decide) ?_ (aF 26 5 (by decide) ?_ (aF 27 4 (by decide) ?_ (aF 28 3 (by decide) ?_ (aF 29 2 (by decide) ?_ (aF 30 1 (by decide) ?_ (aF 31 0 (by decide) ?_ (trivial))))))))))))))))))))))))))))))))) [(0, .slice ad1 p0.length cp2), (1, .slice ad3 p1.length cp4), (9, .slice ad24 r21.length cp25), (10, .slice ad34 s33.length cp35), (11, iv s36), (12, iv s37), (13, .bool o50), (57, .bool false), (60, .slice ad1 p0.length cp2), (61, iv s36), (62, q115), (63, .agg #[.int .u8 x58.Kind, .bool x58.Purl, iv x58.A, iv x58.B]), (64, .slice ad3 p1.length cp4), (65, iv s37), (66, q118), (67, .agg #[.int .u8 x63.Kind, .bool x63.Purl, iv x63.A, iv x63.B]), (68, .bool ((x58.Kind == x63.Kind) && ((x58.Purl == x63.Purl) && ((x58.A == x63.A) && ((x58.B == x63.B) && true))))), (71, undef), (72, undef), (73, undef), (74, undef), (75, undef), (76, undef), (77, undef), (78, undef), (79, undef), (80, undef), (81, undef), (82, undef), (83, undef), (84, undef), (85, undef), (86, undef), (87, undef)] (fin_of [none, none, none, none, none, none, none, some 31, some 2, some 3, some 4, some 5, some 6, some 7, some 8, some 9, some 10, some 13, some 14, some 15, some 16, some 17, some 18, some 19, some 20, some 21, some 22, some 23, some 24, some 25, some 26, some 27, some 28, some 29] rfl (by kernel_rfl) (by kernel_rfl)) (fun _ a w S => ?_)
      · refine fI 58 (.bool o50) [(13, .bool o50)] 0 [none] rfl rfl rfl rfl rfl rfl fun G a w S => ?_
        refine sMove (.bool o50) S (wN rfl) (.inl rfl) rfl rfl (lb rfl) fun a S => ?_
        exact leafL ⟨rfl, S⟩
      · refine fI 59 (.bool o50) [(58, .bool o50)] 1 [some 0] rfl rfl rfl rfl rfl rfl fun G a w S => ?_
        refine sMove (.bool o50) S (wN rfl) (.inl rfl) rfl rfl (lb rfl) fun a S => ?_
        exact leafL ⟨rfl, S⟩
      · refine fI 60 (.slice ad1 p0.length cp2) [(0, .slice ad1 p0.length cp2), (59, .bool o50)] 2 [none, some 1] rfl rfl rfl rfl rfl rfl fun G a w S => ?_
        refine sMove (.slice ad1 p0.length cp2) S (wG 1 true 59 rfl rfl rfl hc57) (.inl rfl) rfl rfl (lb rfl) fun a S => ?_
        exact leafL ⟨rfl, S⟩
      · refine fI 61 (iv s36) [(11, iv s36), (59, .bool o50)] 3 [none, some 1] rfl rfl rfl rfl rfl rfl fun G a w S => ?_
        refine sMove (iv s36) S (wG 1 true 59 rfl rfl rfl hc57) (.inl rfl) rfl rfl (lb rfl) fun a S => ?_
        exact leafL ⟨rfl, S⟩
      · refine fI 62 q115 [(60, .slice ad1 p0.length cp2), (61, iv s36), (59, .bool o50)] 4 [some 2, some 3, some 1] rfl rfl rfl rfl rfl rfl fun G a w S => ?_
        refine sIdxV (v := .slice ad1 p0.length cp2) (k := .i64) (j := s36) S (wG 1 true 59 rfl rfl rfl hc57) rfl rfl rfl hq116 rfl (lb rfl) fun a S => ?_
        exact leafL ⟨rfl, S⟩
      · refine fI 63 (.agg #[.int .u8 x58.Kind, .bool x58.Purl, iv x58.A, iv x58.B]) [(62, q115), (59, .bool o50)] 5 [some 4, some 1] rfl rfl rfl rfl rfl rfl fun G a w S => ?_
        refine sLoadVN (vq := q115) 3 [.int .u8 x58.Kind, .bool x58.Purl, iv x58.A, iv x58.B] S (wG 1 true 59 rfl rfl rfl hc57) rfl rfl rfl rfl rfl rfl (lb rfl) fun a S => ?_
        exact leafL ⟨rfl, S⟩
      · refine fI 64 (.slice ad3 p1.length cp4) [(1, .slice ad3 p1.length cp4), (59, .bool o50)] 6 [none, some 1] rfl rfl rfl rfl rfl rfl fun G a w S => ?_
        refine sMove (.slice ad3 p1.length cp4) S (wG 1 true 59 rfl rfl rfl hc57) (.inl rfl) rfl rfl (lb rfl) fun a S => ?_
        exact leafL ⟨rfl, S⟩
      · refine fI 65 (iv s37) [(12, iv s37), (59, .bool o50)] 7 [none, some 1] rfl rfl rfl rfl rfl rfl fun G a w S => ?_
        refine sMove (iv s37) S (wG 1 true 59 rfl rfl rfl hc57) (.inl rfl) rfl rfl (lb rfl) fun a S => ?_
        exact leafL ⟨rfl, S⟩
      · refine fI 66 q118 [(64, .slice ad3 p1.length cp4), (65, iv s37), (59, .bool o50)] 8 [some 6, some 7, some 1] rfl rfl rfl rfl rfl rfl fun G a w S => ?_
        refine sIdxV (v := .slice ad3 p1.length cp4) (k := .i64) (j := s37) S (wG 1 true 59 rfl rfl rfl hc57) rfl rfl rfl hq119 rfl (lb rfl) fun a S => ?_
        exact leafL ⟨rfl, S⟩
      · refine fI 67 (.agg #[.int .u8 x63.Kind, .bool x63.Purl, iv x63.A, iv x63.B]) [(66, q118), (59, .bool o50)] 9 [some 8, some 1] rfl rfl rfl rfl rfl rfl fun G a w S => ?_
        refine sLoadVN (vq := q118) 0 [.int .u8 x63.Kind, .bool x63.Purl, iv x63.A, iv x63.B] S (wG 1 true 59 rfl rfl rfl hc57) rfl rfl rfl rfl rfl rfl (lb rfl) fun a S => ?_
        exact leafL ⟨rfl, S⟩
      · refine fI 68 (.bool ((x58.Kind == x63.Kind) && ((x58.Purl == x63.Purl) && ((x58.A == x63.A) && ((x58.B == x63.B) && true))))) [(63, .agg #[.int .u8 x58.Kind, .bool x58.Purl, iv x58.A, iv x58.B]), (67, .agg #[.int .u8 x63.Kind, .bool x63.Purl, iv x63.A, iv x63.B]), (59, .bool o50)] 10 [some 5, some 9, some 1] rfl rfl rfl rfl rfl rfl fun G a w S => ?_
        refine sBin (.bool ((x58.Kind == x63.Kind) && ((x58.Purl == x63.Purl) && ((x58.A == x63.A) && ((x58.B == x63.B) && true))))) S (wG 1 true 59 rfl rfl rfl hc57) rfl rfl rfl (bEqV _ _ _ _ #[.int .u8 x58.Kind, .bool x58.Purl, iv x58.A, iv x58.B] #[.int .u8 x63.Kind, .bool x63.Purl, iv x63.A, iv x63.B] ((x58.Kind == x63.Kind) && ((x58.Purl == x63.Purl) && ((x58.A == x63.A) && ((x58.B == x63.B) && true)))) (by kernel_rfl) (eqlV_of (by kernel_rfl))) rfl (lb rfl) fun a S => ?_
        exact leafL ⟨rfl, S⟩
      · refine fI 69 (.bool ((x58.Kind == x63.Kind) && ((x58.Purl == x63.Purl) && ((x58.A == x63.A) && ((x58.B == x63.B) && true))))) [(59, .bool o50), (68, .bool ((x58.Kind == x63.Kind) && ((x58.Purl == x63.Purl) && ((x58.A == x63.A) && ((x58.B == x63.B) && true)))))] 11 [some 1, some 10] rfl rfl rfl rfl rfl rfl fun G a w S => ?_
        refine sPickT (.bool ((x58.Kind == x63.Kind) && ((x58.Purl == x63.Purl) && ((x58.A == x63.A) && ((x58.B == x63.B) && true))))) S (wN rfl) rfl rfl hc57 rfl rfl (lb rfl) fun a S => ?_
        exact leafL ⟨rfl, S⟩
      · refine fI 70 (.bool ((x58.Kind == x63.Kind) && ((x58.Purl == x63.Purl) && ((x58.A == x63.A) && ((x58.B == x63.B) && true))))) [(69, .bool ((x58.Kind == x63.Kind) && ((x58.Purl == x63.Purl) && ((x58.A == x63.A) && ((x58.B == x63.B) && true)))))] 12 [some 11] rfl rfl rfl rfl rfl rfl fun G a w S => ?_
        refine sMove (.bool ((x58.Kind == x63.Kind) && ((x58.Purl == x63.Purl) && ((x58.A == x63.A) && ((x58.B == x63.B) && true))))) S (wN rfl) (.inl rfl) rfl rfl (lb rfl) fun a S => ?_
        exact leafL ⟨rfl, S⟩
      · refine fI 71 undef [(9, .slice ad24 r21.length cp25), (70, .bool ((x58.Kind == x63.Kind) && ((x58.Purl == x63.Purl) && ((x58.A == x63.A) && ((x58.B == x63.B) && true)))))] 13 [none, some 12] rfl rfl rfl rfl rfl rfl fun G a w S => ?_
        refine sSkip 12 true 70 71 S rfl rfl rfl hc68 rfl (lb rfl) fun a S => ?_
        exact leafL ⟨rfl, S⟩
      · refine fI 72 undef [(11, iv s36), (70, .bool ((x58.Kind == x63.Kind) && ((x58.Purl == x63.Purl) && ((x58.A == x63.A) && ((x58.B == x63.B) && true)))))] 14 [none, some 12] rfl rfl rfl rfl rfl rfl fun G a w S => ?_
        refine sSkip 12 true 70 72 S rfl rfl rfl hc68 rfl (lb rfl) fun a S => ?_
        exact leafL ⟨rfl, S⟩
      · refine fI 73 undef [(71, undef), (72, undef), (70, .bool ((x58.Kind == x63.Kind) && ((x58.Purl == x63.Purl) && ((x58.A == x63.A) && ((x58.B == x63.B) && true)))))] 15 [some 13, some 14, some 12] rfl rfl rfl rfl rfl rfl fun G a w S => ?_
        refine sSkip 12 true 70 73 S rfl rfl rfl hc68 rfl (lb rfl) fun a S => ?_
        exact leafL ⟨rfl, S⟩
      · refine fI 74 undef [(73, undef), (70, .bool ((x58.Kind == x63.Kind) && ((x58.Purl == x63.Purl) && ((x58.A == x63.A) && ((x58.B == x63.B) && true)))))] 16 [some 15, some 12] rfl rfl rfl rfl rfl rfl fun G a w S => ?_
        refine sSkip 12 true 70 74 S rfl rfl rfl hc68 rfl (lb rfl) fun a S => ?_
        exact leafL ⟨rfl, S⟩
      · refine fI 75 undef [(12, iv s37), (70, .bool ((x58.Kind == x63.Kind) && ((x58.Purl == x63.Purl) && ((x58.A == x63.A) && ((x58.B == x63.B) && true)))))] 17 [none, some 12] rfl rfl rfl rfl rfl rfl fun G a w S => ?_
        refine sSkip 12 true 70 75 S rfl rfl rfl hc68 rfl (lb rfl) fun a S => ?_
        exact leafL ⟨rfl, S⟩
      · refine fI 76 undef [(74, undef), (75, undef), (70, .bool ((x58.Kind == x63.Kind) && ((x58.Purl == x63.Purl) && ((x58.A == x63.A) && ((x58.B == x63.B) && true)))))] 18 [some 16, some 17, some 12] rfl rfl rfl rfl rfl rfl fun G a w S => ?_
        refine sSkip 12 true 70 76 S rfl rfl rfl hc68 rfl (lb rfl) fun a S => ?_
        exact leafL ⟨rfl, S⟩
      · refine fI 77 undef [(76, undef), (70, .bool ((x58.Kind == x63.Kind) && ((x58.Purl == x63.Purl) && ((x58.A == x63.A) && ((x58.B == x63.B) && true)))))] 19 [some 18, some 12] rfl rfl rfl rfl rfl rfl fun G a w S => ?_
        refine sSkip 12 true 70 77 S rfl rfl rfl hc68 rfl (lb rfl) fun a S => ?_
        exact leafL ⟨rfl, S⟩
      · refine fI 78 undef [(9, .slice ad24 r21.length cp25), (70, .bool ((x58.Kind == x63.Kind) && ((x58.Purl == x63.Purl) && ((x58.A == x63.A) && ((x58.B == x63.B) && true)))))] 20 [none, some 12] rfl rfl rfl rfl rfl rfl fun G a w S => ?_
        refine sSkip 12 true 70 78 S rfl rfl rfl hc68 rfl (lb rfl) fun a S => ?_
        exact leafL ⟨rfl, S⟩
      · refine fI 79 undef [(11, iv s36), (70, .bool ((x58.Kind == x63.Kind) && ((x58.Purl == x63.Purl) && ((x58.A == x63.A) && ((x58.B == x63.B) && true)))))] 21 [none, some 12] rfl rfl rfl rfl rfl rfl fun G a w S => ?_
        refine sSkip 12 true 70 79 S rfl rfl rfl hc68 rfl (lb rfl) fun a S => ?_
        exact leafL ⟨rfl, S⟩
      · refine fI 80 undef [(79, undef), (70, .bool ((x58.Kind == x63.Kind) && ((x58.Purl == x63.Purl) && ((x58.A == x63.A) && ((x58.B == x63.B) && true)))))] 22 [some 21, some 12] rfl rfl rfl rfl rfl rfl fun G a w S => ?_
        refine sSkip 12 true 70 80 S rfl rfl rfl hc68 rfl (lb rfl) fun a S => ?_
        exact leafL ⟨rfl, S⟩
      · refine fI 81 undef [(78, undef), (80, undef), (70, .bool ((x58.Kind == x63.Kind) && ((x58.Purl == x63.Purl) && ((x58.A == x63.A) && ((x58.B == x63.B) && true)))))] 23 [some 20, some 22, some 12] rfl rfl rfl rfl rfl rfl fun G a w S => ?_
        refine sSkip 12 true 70 81 S rfl rfl rfl hc68 rfl (lb rfl) fun a S => ?_
        exact leafL ⟨rfl, S⟩
      · refine fI 82 undef [(81, undef), (70, .bool ((x58.Kind == x63.Kind) && ((x58.Purl == x63.Purl) && ((x58.A == x63.A) && ((x58.B == x63.B) && true)))))] 24 [some 23, some 12] rfl rfl rfl rfl rfl rfl fun G a w S => ?_
        refine sSkip 12 true 70 82 S rfl rfl rfl hc68 rfl (lb rfl) fun a S => ?_
        exact leafL ⟨rfl, S⟩
      · refine fI 83 undef [(12, iv s37), (70, .bool ((x58.Kind == x63.Kind) && ((x58.Purl == x63.Purl) && ((x58.A == x63.A) && ((x58.B == x63.B) && true)))))] 25 [none, some 12] rfl rfl rfl rfl rfl rfl fun G a w S => ?_
        refine sSkip 12 true 70 83 S rfl rfl rfl hc68 rfl (lb rfl) fun a S => ?_
        exact leafL ⟨rfl, S⟩
      · refine fI 84 undef [(83, undef), (70, .bool ((x58.Kind == x63.Kind) && ((x58.Purl == x63.Purl) && ((x58.A == x63.A) && ((x58.B == x63.B) && true)))))] 26 [some 25, some 12] rfl rfl rfl rfl rfl rfl fun G a w S => ?_
        refine sSkip 12 true 70 84 S rfl rfl rfl hc68 rfl (lb rfl) fun a S => ?_
        exact leafL ⟨rfl, S⟩
      · refine fI 85 undef [(82, undef), (84, undef), (70, .bool ((x58.Kind == x63.Kind) && ((x58.Purl == x63.Purl) && ((x58.A == x63.A) && ((x58.B == x63.B) && true)))))] 27 [some 24, some 26, some 12] rfl rfl rfl rfl rfl rfl fun G a w S => ?_
        refine sSkip 12 true 70 85 S rfl rfl rfl hc68 rfl (lb rfl) fun a S => ?_
        exact leafL ⟨rfl, S⟩
      · refine fI 86 undef [(85, undef), (70, .bool ((x58.Kind == x63.Kind) && ((x58.Purl == x63.Purl) && ((x58.A == x63.A) && ((x58.B == x63.B) && true)))))] 28 [some 27, some 12] rfl rfl rfl rfl rfl rfl fun G a w S => ?_
        refine sSkip 12 true 70 86 S rfl rfl rfl hc68 rfl (lb rfl) fun a S => ?_
        exact leafL ⟨rfl, S⟩
      · refine fI 87 undef [(77, undef), (86, undef), (70, .bool ((x58.Kind == x63.Kind) && ((x58.Purl == x63.Purl) && ((x58.A == x63.A) && ((x58.B == x63.B) && true)))))] 29 [some 19, some 28, some 12] rfl rfl rfl rfl rfl rfl fun G a w S => ?_
        refine sSkip 12 true 70 87 S rfl rfl rfl hc68 rfl (lb rfl) fun a S => ?_
        exact leafL ⟨rfl, S⟩
      · refine fI 88 (.bool false) [(70, .bool ((x58.Kind == x63.Kind) && ((x58.Purl == x63.Purl) && ((x58.A == x63.A) && ((x58.B == x63.B) && true))))), (87, undef)] 30 [some 12, some 29] rfl rfl rfl rfl rfl rfl fun G a w S => ?_
        refine sPickF (.bool false) S (wN rfl) rfl rfl hc68 rfl rfl (lb rfl) fun a S => ?_
        exact leafL ⟨rfl, S⟩
      · refine fI 57 (.bool false) [(88, .bool false)] 31 [some 30] rfl rfl rfl rfl rfl rfl fun G a w S => ?_
        refine sMove (.bool false) S (wN rfl) (.inr rfl) rfl rfl (lb rfl) fun a S => ?_
        exact leafL ⟨rfl, S⟩
      exact leafT (⟨false, Option.some.inj h, S.fix [0] [6, 7, 8] (by decide) rfl rfl rfl⟩)
    obtain ⟨x69, hx70, h⟩ := bindSome h
    obtain ⟨x76, hx77, h⟩ := bindSome h
    obtain ⟨x81, hx82, h⟩ := bindSome h
    obtain ⟨x88, hx89, h⟩ := bindSome h
    obtain ⟨q93, hq94, S⟩ := pIdx (P := Try.prog) (r := r_api_Stitch) (v := .slice ad1 p0.length cp2) (xs := p0) (j := s36) 47 81 0 S Try.underlying47 rfl rfl hx59
    obtain ⟨u95, S⟩ := pLoad (r := r_api_Stitch) (q := q93) (x := x58) 0 S rfl
    obtain rfl : u95 = .agg #[.int .u8 x58.Kind, .bool x58.Purl, iv x58.A, iv x58.B] := S.mem.know (i := 1) (e := fRep r_api_Stitch (u95) x58) rfl
    obtain ⟨q96, hq97, S⟩ := pIdx (P := Try.prog) (r := r_api_Stitch) (v := .slice ad3 p1.length cp4) (xs := p1) (j := s37) 47 81 4 S Try.underlying47 rfl rfl hx64
    obtain ⟨u98, S⟩ := pLoad (r := r_api_Stitch) (q := q96) (x := x63) 0 S rfl
    obtain rfl : u98 = .agg #[.int .u8 x63.Kind, .bool x63.Purl, iv x63.A, iv x63.B] := S.mem.know (i := 1) (e := fRep r_api_Stitch (u98) x63) rfl
    obtain ⟨q99, hq100, S⟩ := pIdx (P := Try.prog) (r := (rL (rI .i64))) (v := .slice ad24 r21.length cp25) (xs := r21) (j := s36) 98 101 8 S Try.underlying98 rfl rfl hx70
    obtain ⟨u101, S⟩ := pLoad (r := (rL (rI .i64))) (q := q99) (x := x69) 0 S rfl
    obtain ⟨ad102, cp103, _, rfl, _⟩ := S.mem.know (i := 1) (e := fRep (rL (rI .i64)) (u101) x69) rfl
    obtain ⟨q104, hq105, S⟩ := pIdx (P := Try.prog) (r := (rI .i64)) (v := .slice ad102 x69.length cp103) (xs := x69) (j := s37) 101 3 1 S Try.underlying101 rfl rfl hx77
    obtain ⟨u106, S⟩ := pLoad (r := (rI .i64)) (q := q104) (x := x76) 0 S rfl
    obtain rfl : u106 = iv x76 := S.mem.know (i := 1) (e := fRep (rI .i64) (u106) x76) rfl
    obtain ⟨q107, hq108, S⟩ := pIdx (P := Try.prog) (r := (rL (rI .i64))) (v := .slice ad24 r21.length cp25) (xs := r21) (j := w64 (s36 + 1)) 98 101 14 S Try.underlying98 rfl rfl hx82
    obtain ⟨u109, S⟩ := pLoad (r := (rL (rI .i64))) (q := q107) (x := x81) 0 S rfl
    obtain ⟨ad110, cp111, _, rfl, _⟩ := S.mem.know (i := 1) (e := fRep (rL (rI .i64)) (u109) x81) rfl
    obtain ⟨q112, hq113, S⟩ := pIdx (P := Try.prog) (r := (rI .i64)) (v := .slice ad110 x81.length cp111) (xs := x81) (j := w64 (s37 + 1)) 101 3 1 S Try.underlying101 rfl rfl hx89
    obtain ⟨u114, S⟩ := pLoad (r := (rI .i64)) (q := q112) (x := x88) 0 S rfl
    obtain rfl : u114 = iv x88 := S.mem.know (i := 1) (e := fRep (rI .i64) (u114) x88) rfl
    refine sDraw (nf := []) (W := [(0, 58, .bool o50), (1, 59, .bool o50), (2, 60, .slice ad1 p0.length cp2), (3, 61, iv s36), (4, 62, q93), (5, 63, .agg #[.int .u8 x58.Kind, .bool x58.Purl, iv x58.A, iv x58.B]), (6, 64, .slice ad3 p1.length cp4), (7, 65, iv s37), (8, 66, q96), (9, 67, .agg #[.int .u8 x63.Kind, .bool x63.Purl, iv x63.A, iv x63.B]), (10, 68, .bool ((x58.Kind == x63.Kind) && ((x58.Purl == x63.Purl) && ((x58.A == x63.A) && ((x58.B == x63.B) && true))))), (11, 69, .bool ((x58.Kind == x63.Kind) && ((x58.Purl == x63.Purl) && ((x58.A == x63.A) && ((x58.B == x63.B) && true))))), (12, 70, .bool ((x58.Kind == x63.Kind) && ((x58.Purl == x63.Purl) && ((x58.A == x63.A) && ((x58.B == x63.B) && true))))), (13, 71, .slice ad24 r21.length cp25), (14, 72, iv s36), (15, 73, q99), (16, 74, .slice ad102 x69.length cp103), (17, 75, iv s37), (18, 76, q104), (19, 77, iv x76), (20, 78, .slice ad24 r21.length cp25), (21, 79, iv s36), (22, 80, iv (w64 (s36 + 1))), (23, 81, q107), (24, 82, .slice ad110 x81.length cp111), (25, 83, iv s37), (26, 84, iv (w64 (s37 + 1))), (27, 85, q112), (28, 86, iv x88), (29, 87, .bool (x76 == x88)), (30, 88, .bool (x76 == x88)), (31, 57, .bool (x76 == x88))]) rfl S ?_
    refine node_by (A := anc_raddleref46_Edits_0) (nf := []) (Y := []) (W := [(0, 58, .bool o50), (1, 59, .bool o50), (2, 60, .slice ad1 p0.length cp2), (3, 61, iv s36), (4, 62, q93), (5, 63, .agg #[.int .u8 x58.Kind, .bool x58.Purl, iv x58.A, iv x58.B]), (6, 64, .slice ad3 p1.length cp4), (7, 65, iv s37), (8, 66, q96), (9, 67, .agg #[.int .u8 x63.Kind, .bool x63.Purl, iv x63.A, iv x63.B]), (10, 68, .bool ((x58.Kind == x63.Kind) && ((x58.Purl == x63.Purl) && ((x58.A == x63.A) && ((x58.B == x63.B) && true))))), (11, 69, .bool ((x58.Kind == x63.Kind) && ((x58.Purl == x63.Purl) && ((x58.A == x63.A) && ((x58.B == x63.B) && true))))), (12, 70, .bool ((x58.Kind == x63.Kind) && ((x58.Purl == x63.Purl) && ((x58.A == x63.A) && ((x58.B == x63.B) && true))))), (13, 71, .slice ad24 r21.length cp25), (14, 72, iv s36), (15, 73, q99), (16, 74, .slice ad102 x69.length cp103), (17, 75, iv s37), (18, 76, q104), (19, 77, iv x76), (20, 78, .slice ad24 r21.length cp25), (21, 79, iv s36), (22, 80, iv (w64 (s36 + 1))), (23, 81, q107), (24, 82, .slice ad110 x81.length cp111), (25, 83, iv s37), (26, 84, iv (w64 (s37 + 1))), (27, 85, q112), (28, 86, iv x88), (29, 87, .bool (x76 == x88)), (30, 88, .bool (x76 == x88)), (31, 57, .bool (x76 == x88))]) 32 (by kernel_rfl) (by kernel_rfl) (by kernel_rfl) (by kernel_rfl) (by kernel_rfl) [0, 1, 2, 3, 4, 5, 6, 7, 8, 9, 10, 11, 12, 13, 14, 15, 16, 17, 18, 19, 20, 21, 22, 23, 24, 25, 26, 27, 28, 29, 30, 31] (by kernel_rfl) (by decide) (by decide) (aF 0 31 (by decide) ?_ (aF 1 30 (by decide) ?_ (aF 2 29 (by decide) ?_ (aF 3 28 (by decide) ?_ (aF 4 27 (by decide) ?_ (aF 5 26 (by decide) ?_ (aF 6 25 (by decide) ?_ (aF 7 24 (by decide) ?_ (aF 8 23 (by decide) ?_ (aF 9 22 (by decide) ?_ (aF 10 21 (by decide) ?_ (aF 11 20 (by decide) ?_ (aF 12 19 (by decide) ?_ (aF 13 18 (by decide) ?_ (aF 14 17 (by decide) ?_ (aF 15 16 (by decide) ?_ (aF 16 15 (by decide) ?_ (aF 17 14 (by decide) ?_ (aF 18 13 (by decide) ?_ (aF 19 12 (by decide) ?_ (aF 20 11 (by decide) ?_ (aF 21 10 (by decide) ?_ (aF 22 9 (by decide) ?_ (aF 23 8 (by decide) ?_ (aF 24 7 (by decide) ?_ (aF 25 6 (by decide) ?_ (aF 26 5 (by decide) ?_ (aF 27 4 (by decide) ?_ (aF 28 3 (by decide) ?_ (aF 29 2 (by decide) ?_ (aF 30 1 (by decide) ?_ (aF 31 0 (by decide) ?_ (trivial))))))))))))))))))))))))))))))))) [(0, .slice ad1 p0.length cp2), (1, .slice ad3 p1.length cp4), (9, .slice ad24 r21.length cp25), (10, .slice ad34 s33.length cp35), (11, iv s36), (12, iv s37), (13, .bool o50), (57, .bool (x76 == x88)), (60, .slice ad1 p0.length cp2), (61, iv s36), (62, q93), (63, .agg #[.int .u8 x58.Kind, .bool x58.Purl, iv x58.A, iv x58.B]), (64, .slice ad3 p1.length cp4), (65, iv s37), (66, q96), (67, .agg #[.int .u8 x63.Kind, .bool x63.Purl, iv x63.A, iv x63.B]), (68, .bool ((x58.Kind == x63.Kind) && ((x58.Purl == x63.Purl) && ((x58.A == x63.A) && ((x58.B == x63.B) && true))))), (71, .slice ad24 r21.length cp25), (72, iv s36), (73, q99), (74, .slice ad102 x69.length cp103), (75, iv s37), (76, q104), (77, iv x76), (78, .slice ad24 r21.length cp25), (79, iv s36), (80, iv (w64 (s36 + 1))), (81, q107), (82, .slice ad110 x81.length cp111), (83, iv s37), (84, iv (w64 (s37 + 1))), (85, q112), (86, iv x88), (87, .bool (x76 == x88))] (fin_of [none, none, none, none, none, none, none, some 31, some 2, some 3, some 4, some 5, some 6, some 7, some 8, some 9, some 10, some 13, some 14, some 15, some 16, some 17, some 18, some 19, some 20, some 21, some 22, some 23, some 24, some 25, some 26, some 27, some 28, some 29] rfl (by kernel_rfl) (by kernel_rfl)) (fun _ a w S => ?_)
    · refine fI 58 (.bool o50) [(13, .bool o50)] 0 [none] rfl rfl rfl rfl rfl rfl fun G a w S => ?_
      refine sMove (.bool o50) S (wN rfl) (.inl rfl) rfl rfl (lb rfl) fun a S => ?_
      exact leafL ⟨rfl, S⟩
    · refine fI 59 (.bool o50) [(58, .bool o50)] 1 [some 0] rfl rfl rfl rfl rfl rfl fun G a w S => ?_
      refine sMove (.bool o50) S (wN rfl) (.inl rfl) rfl rfl (lb rfl) fun a S => ?_
      exact leafL ⟨rfl, S⟩
    · refine fI 60 (.slice ad1 p0.length cp2) [(0, .slice ad1 p0.length cp2), (59, .bool o50)] 2 [none, some 1] rfl rfl rfl rfl rfl rfl fun G a w S => ?_
      refine sMove (.slice ad1 p0.length cp2) S (wG 1 true 59 rfl rfl rfl hc57) (.inl rfl) rfl rfl (lb rfl) fun a S => ?_
      exact leafL ⟨rfl, S⟩
    · refine fI 61 (iv s36) [(11, iv s36), (59, .bool o50)] 3 [none, some 1] rfl rfl rfl rfl rfl rfl fun G a w S => ?_
      refine sMove (iv s36) S (wG 1 true 59 rfl rfl rfl hc57) (.inl rfl) rfl rfl (lb rfl) fun a S => ?_
      exact leafL ⟨rfl, S⟩
    · refine fI 62 q93 [(60, .slice ad1 p0.length cp2), (61, iv s36), (59, .bool o50)] 4 [some 2, some 3, some 1] rfl rfl rfl rfl rfl rfl fun G a w S => ?_
      refine sIdxV (v := .slice ad1 p0.length cp2) (k := .i64) (j := s36) S (wG 1 true 59 rfl rfl rfl hc57) rfl rfl rfl hq94 rfl (lb rfl) fun a S => ?_
      exact leafL ⟨rfl, S⟩
    · refine fI 63 (.agg #[.int .u8 x58.Kind, .bool x58.Purl, iv x58.A, iv x58.B]) [(62, q93), (59, .bool o50)] 5 [some 4, some 1] rfl rfl rfl rfl rfl rfl fun G a w S => ?_
      refine sLoadVN (vq := q93) 15 [.int .u8 x58.Kind, .bool x58.Purl, iv x58.A, iv x58.B] S (wG 1 true 59 rfl rfl rfl hc57) rfl rfl rfl rfl rfl rfl (lb rfl) fun a S => ?_
      exact leafL ⟨rfl, S⟩
    · refine fI 64 (.slice ad3 p1.length cp4) [(1, .slice ad3 p1.length cp4), (59, .bool o50)] 6 [none, some 1] rfl rfl rfl rfl rfl rfl fun G a w S => ?_
      refine sMove (.slice ad3 p1.length cp4) S (wG 1 true 59 rfl rfl rfl hc57) (.inl rfl) rfl rfl (lb rfl) fun a S => ?_
      exact leafL ⟨rfl, S⟩
    · refine fI 65 (iv s37) [(12, iv s37), (59, .bool o50)] 7 [none, some 1] rfl rfl rfl rfl rfl rfl fun G a w S => ?_
      refine sMove (iv s37) S (wG 1 true 59 rfl rfl rfl hc57) (.inl rfl) rfl rfl (lb rfl) fun a S => ?_
      exact leafL ⟨rfl, S⟩
    · refine fI 66 q96 [(64, .slice ad3 p1.length cp4), (65, iv s37), (59, .bool o50)] 8 [some 6, some 7, some 1] rfl rfl rfl rfl rfl rfl fun G a w S => ?_
      refine sIdxV (v := .slice ad3 p1.length cp4) (k := .i64) (j := s37) S (wG 1 true 59 rfl rfl rfl hc57) rfl rfl rfl hq97 rfl (lb rfl) fun a S => ?_
      exact leafL ⟨rfl, S⟩
    · refine fI 67 (.agg #[.int .u8 x63.Kind, .bool x63.Purl, iv x63.A, iv x63.B]) [(66, q96), (59, .bool o50)] 9 [some 8, some 1] rfl rfl rfl rfl rfl rfl fun G a w S => ?_
      refine sLoadVN (vq := q96) 12 [.int .u8 x63.Kind, .bool x63.Purl, iv x63.A, iv x63.B] S (wG 1 true 59 rfl rfl rfl hc57) rfl rfl rfl rfl rfl rfl (lb rfl) fun a S => ?_
      exact leafL ⟨rfl, S⟩
    · refine fI 68 (.bool ((x58.Kind == x63.Kind) && ((x58.Purl == x63.Purl) && ((x58.A == x63.A) && ((x58.B == x63.B) && true))))) [(63, .agg #[.int .u8 x58.Kind, .bool x58.Purl, iv x58.A, iv x58.B]), (67, .agg #[.int .u8 x63.Kind, .bool x63.Purl, iv x63.A, iv x63.B]), (59, .bool o50)] 10 [some 5, some 9, some 1] rfl rfl rfl rfl rfl rfl fun G a w S => ?_
      refine sBin (.bool ((x58.Kind == x63.Kind) && ((x58.Purl == x63.Purl) && ((x58.A == x63.A) && ((x58.B == x63.B) && true))))) S (wG 1 true 59 rfl rfl rfl hc57) rfl rfl rfl (bEqV _ _ _ _ #[.int .u8 x58.Kind, .bool x58.Purl, iv x58.A, iv x58.B] #[.int .u8 x63.Kind, .bool x63.Purl, iv x63.A, iv x63.B] ((x58.Kind == x63.Kind) && ((x58.Purl == x63.Purl) && ((x58.A == x63.A) && ((x58.B == x63.B) && true)))) (by kernel_rfl) (eqlV_of (by kernel_rfl))) rfl (lb rfl) fun a S => ?_
      exact leafL ⟨rfl, S⟩
    · refine fI 69 (.bool ((x58.Kind == x63.Kind) && ((x58.Purl == x63.Purl) && ((x58.A == x63.A) && ((x58.B == x63.B) && true))))) [(59, .bool o50), (68, .bool ((x58.Kind == x63.Kind) && ((x58.Purl == x63.Purl) && ((x58.A == x63.A) && ((x58.B == x63.B) && true)))))] 11 [some 1, some 10] rfl rfl rfl rfl rfl rfl fun G a w S => ?_
      refine sPickT (.bool ((x58.Kind == x63.Kind) && ((x58.Purl == x63.Purl) && ((x58.A == x63.A) && ((x58.B == x63.B) && true))))) S (wN rfl) rfl rfl hc57 rfl rfl (lb rfl) fun a S => ?_
      exact leafL ⟨rfl, S⟩
    · refine fI 70 (.bool ((x58.Kind == x63.Kind) && ((x58.Purl == x63.Purl) && ((x58.A == x63.A) && ((x58.B == x63.B) && true))))) [(69, .bool ((x58.Kind == x63.Kind) && ((x58.Purl == x63.Purl) && ((x58.A == x63.A) && ((x58.B == x63.B) && true)))))] 12 [some 11] rfl rfl rfl rfl rfl rfl fun G a w S => ?_
      refine sMove (.bool ((x58.Kind == x63.Kind) && ((x58.Purl == x63.Purl) && ((x58.A == x63.A) && ((x58.B == x63.B) && true))))) S (wN rfl) (.inl rfl) rfl rfl (lb rfl) fun a S => ?_
      exact leafL ⟨rfl, S⟩
    · refine fI 71 (.slice ad24 r21.length cp25) [(9, .slice ad24 r21.length cp25), (70, .bool ((x58.Kind == x63.Kind) && ((x58.Purl == x63.Purl) && ((x58.A == x63.A) && ((x58.B == x63.B) && true)))))] 13 [none, some 12] rfl rfl rfl rfl rfl rfl fun G a w S => ?_
      refine sMove (.slice ad24 r21.length cp25) S (wG 12 true 70 rfl rfl rfl hc68) (.inl rfl) rfl rfl (lb rfl) fun a S => ?_
      exact leafL ⟨rfl, S⟩
    · refine fI 72 (iv s36) [(11, iv s36), (70, .bool ((x58.Kind == x63.Kind) && ((x58.Purl == x63.Purl) && ((x58.A == x63.A) && ((x58.B == x63.B) && true)))))] 14 [none, some 12] rfl rfl rfl rfl rfl rfl fun G a w S => ?_
      refine sMove (iv s36) S (wG 12 true 70 rfl rfl rfl hc68) (.inl rfl) rfl rfl (lb rfl) fun a S => ?_
      exact leafL ⟨rfl, S⟩
    · refine fI 73 q99 [(71, .slice ad24 r21.length cp25), (72, iv s36), (70, .bool ((x58.Kind == x63.Kind) && ((x58.Purl == x63.Purl) && ((x58.A == x63.A) && ((x58.B == x63.B) && true)))))] 15 [some 13, some 14, some 12] rfl rfl rfl rfl rfl rfl fun G a w S => ?_
      refine sIdxV (v := .slice ad24 r21.length cp25) (k := .i64) (j := s36) S (wG 12 true 70 rfl rfl rfl hc68) rfl rfl rfl hq100 rfl (lb rfl) fun a S => ?_
      exact leafL ⟨rfl, S⟩
    · refine fI 74 (.slice ad102 x69.length cp103) [(73, q99), (70, .bool ((x58.Kind == x63.Kind) && ((x58.Purl == x63.Purl) && ((x58.A == x63.A) && ((x58.B == x63.B) && true)))))] 16 [some 15, some 12] rfl rfl rfl rfl rfl rfl fun G a w S => ?_
      refine sLoadV1 (vq := q99) 9 (.slice ad102 x69.length cp103) S (wG 12 true 70 rfl rfl rfl hc68) rfl rfl rfl rfl rfl (lb rfl) fun a S => ?_
      exact leafL ⟨rfl, S⟩
    · refine fI 75 (iv s37) [(12, iv s37), (70, .bool ((x58.Kind == x63.Kind) && ((x58.Purl == x63.Purl) && ((x58.A == x63.A) && ((x58.B == x63.B) && true)))))] 17 [none, some 12] rfl rfl rfl rfl rfl rfl fun G a w S => ?_
      refine sMove (iv s37) S (wG 12 true 70 rfl rfl rfl hc68) (.inl rfl) rfl rfl (lb rfl) fun a S => ?_
      exact leafL ⟨rfl, S⟩
    · refine fI 76 q104 [(74, .slice ad102 x69.length cp103), (75, iv s37), (70, .bool ((x58.Kind == x63.Kind) && ((x58.Purl == x63.Purl) && ((x58.A == x63.A) && ((x58.B == x63.B) && true)))))] 18 [some 16, some 17, some 12] rfl rfl rfl rfl rfl rfl fun G a w S => ?_
      refine sIdxV (v := .slice ad102 x69.length cp103) (k := .i64) (j := s37) S (wG 12 true 70 rfl rfl rfl hc68) rfl rfl rfl hq105 rfl (lb rfl) fun a S => ?_
      exact leafL ⟨rfl, S⟩
    · refine fI 77 (iv x76) [(76, q104), (70, .bool ((x58.Kind == x63.Kind) && ((x58.Purl == x63.Purl) && ((x58.A == x63.A) && ((x58.B == x63.B) && true)))))] 19 [some 18, some 12] rfl rfl rfl rfl rfl rfl fun G a w S => ?_
      refine sLoadV1 (vq := q104) 6 (iv x76) S (wG 12 true 70 rfl rfl rfl hc68) rfl rfl rfl rfl rfl (lb rfl) fun a S => ?_
      exact leafL ⟨rfl, S⟩
    · refine fI 78 (.slice ad24 r21.length cp25) [(9, .slice ad24 r21.length cp25), (70, .bool ((x58.Kind == x63.Kind) && ((x58.Purl == x63.Purl) && ((x58.A == x63.A) && ((x58.B == x63.B) && true)))))] 20 [none, some 12] rfl rfl rfl rfl rfl rfl fun G a w S => ?_
      refine sMove (.slice ad24 r21.length cp25) S (wG 12 true 70 rfl rfl rfl hc68) (.inl rfl) rfl rfl (lb rfl) fun a S => ?_
      exact leafL ⟨rfl, S⟩
    · refine fI 79 (iv s36) [(11, iv s36), (70, .bool ((x58.Kind == x63.Kind) && ((x58.Purl == x63.Purl) && ((x58.A == x63.A) && ((x58.B == x63.B) && true)))))] 21 [none, some 12] rfl rfl rfl rfl rfl rfl fun G a w S => ?_
      refine sMove (iv s36) S (wG 12 true 70 rfl rfl rfl hc68) (.inl rfl) rfl rfl (lb rfl) fun a S => ?_
      exact leafL ⟨rfl, S⟩
    · refine fI 80 (iv (w64 (s36 + 1))) [(79, iv s36), (70, .bool ((x58.Kind == x63.Kind) && ((x58.Purl == x63.Purl) && ((x58.A == x63.A) && ((x58.B == x63.B) && true)))))] 22 [some 21, some 12] rfl rfl rfl rfl rfl rfl fun G a w S => ?_
      refine sBin (iv (w64 (s36 + 1))) S (wG 12 true 70 rfl rfl rfl hc68) rfl rfl rfl (bAdd _ _ _ _ s36 1) rfl (lb rfl) fun a S => ?_
      exact leafL ⟨rfl, S⟩
    · refine fI 81 q107 [(78, .slice ad24 r21.length cp25), (80, iv (w64 (s36 + 1))), (70, .bool ((x58.Kind == x63.Kind) && ((x58.Purl == x63.Purl) && ((x58.A == x63.A) && ((x58.B == x63.B) && true)))))] 23 [some 20, some 22, some 12] rfl rfl rfl rfl rfl rfl fun G a w S => ?_
      refine sIdxV (v := .slice ad24 r21.length cp25) (k := .i64) (j := w64 (s36 + 1)) S (wG 12 true 70 rfl rfl rfl hc68) rfl rfl rfl hq108 rfl (lb rfl) fun a S => ?_
      exact leafL ⟨rfl, S⟩
    · refine fI 82 (.slice ad110 x81.length cp111) [(81, q107), (70, .bool ((x58.Kind == x63.Kind) && ((x58.Purl == x63.Purl) && ((x58.A == x63.A) && ((x58.B == x63.B) && true)))))] 24 [some 23, some 12] rfl rfl rfl rfl rfl rfl fun G a w S => ?_
      refine sLoadV1 (vq := q107) 3 (.slice ad110 x81.length cp111) S (wG 12 true 70 rfl rfl rfl hc68) rfl rfl rfl rfl rfl (lb rfl) fun a S => ?_
      exact leafL ⟨rfl, S⟩
    · refine fI 83 (iv s37) [(12, iv s37), (70, .bool ((x58.Kind == x63.Kind) && ((x58.Purl == x63.Purl) && ((x58.A == x63.A) && ((x58.B == x63.B) && true)))))] 25 [none, some 12] rfl rfl rfl rfl rfl rfl fun G a w S => ?_
      refine sMove (iv s37) S (wG 12 true 70 rfl rfl rfl hc68) (.inl rfl) rfl rfl (lb rfl) fun a S => ?_
      exact leafL ⟨rfl, S⟩
    · refine fI 84 (iv (w64 (s37 + 1))) [(83, iv s37), (70, .bool ((x58.Kind == x63.Kind) && ((x58.Purl == x63.Purl) && ((x58.A == x63.A) && ((x58.B == x63.B) && true)))))] 26 [some 25, some 12] rfl rfl rfl rfl rfl rfl fun G a w S => ?_
      refine sBin (iv (w64 (s37 + 1))) S (wG 12 true 70 rfl rfl rfl hc68) rfl rfl rfl (bAdd _ _ _ _ s37 1) rfl (lb rfl) fun a S => ?_
      exact leafL ⟨rfl, S⟩
    · refine fI 85 q112 [(82, .slice ad110 x81.length cp111), (84, iv (w64 (s37 + 1))), (70, .bool ((x58.Kind == x63.Kind) && ((x58.Purl == x63.Purl) && ((x58.A == x63.A) && ((x58.B == x63.B) && true)))))] 27 [some 24, some 26, some 12] rfl rfl rfl rfl rfl rfl fun G a w S => ?_
      refine sIdxV (v := .slice ad110 x81.length cp111) (k := .i64) (j := w64 (s37 + 1)) S (wG 12 true 70 rfl rfl rfl hc68) rfl rfl rfl hq113 rfl (lb rfl) fun a S => ?_
      exact leafL ⟨rfl, S⟩
    · refine fI 86 (iv x88) [(85, q112), (70, .bool ((x58.Kind == x63.Kind) && ((x58.Purl == x63.Purl) && ((x58.A == x63.A) && ((x58.B == x63.B) && true)))))] 28 [some 27, some 12] rfl rfl rfl rfl rfl rfl fun G a w S => ?_
      refine sLoadV1 (vq := q112) 0 (iv x88) S (wG 12 true 70 rfl rfl rfl hc68) rfl rfl rfl rfl rfl (lb rfl) fun a S => ?_
      exact leafL ⟨rfl, S⟩
    · refine fI 87 (.bool (x76 == x88)) [(77, iv x76), (86, iv x88), (70, .bool ((x58.Kind == x63.Kind) && ((x58.Purl == x63.Purl) && ((x58.A == x63.A) && ((x58.B == x63.B) && true)))))] 29 [some 19, some 28, some 12] rfl rfl rfl rfl rfl rfl fun G a w S => ?_
      refine sBin (.bool (x76 == x88)) S (wG 12 true 70 rfl rfl rfl hc68) rfl rfl rfl (bEq _ _ _ _ .i64 x76 x88) rfl (lb rfl) fun a S => ?_
      exact leafL ⟨rfl, S⟩
    · refine fI 88 (.bool (x76 == x88)) [(70, .bool ((x58.Kind == x63.Kind) && ((x58.Purl == x63.Purl) && ((x58.A == x63.A) && ((x58.B == x63.B) && true))))), (87, .bool (x76 == x88))] 30 [some 12, some 29] rfl rfl rfl rfl rfl rfl fun G a w S => ?_
      refine sPickT (.bool (x76 == x88)) S (wN rfl) rfl rfl hc68 rfl rfl (lb rfl) fun a S => ?_
      exact leafL ⟨rfl, S⟩
    · refine fI 57 (.bool (x76 == x88)) [(88, .bool (x76 == x88))] 31 [some 30] rfl rfl rfl rfl rfl rfl fun G a w S => ?_
      refine sMove (.bool (x76 == x88)) S (wN rfl) (.inr rfl) rfl rfl (lb rfl) fun a S => ?_
      exact leafL ⟨rfl, S⟩
    exact leafT (⟨x76 == x88, Option.some.inj h, S.fix [0] [18, 19, 20] (by decide) rfl rfl rfl⟩)
  obtain ⟨o54, rfl, S⟩ := hI
  have h := g56
  clear g56
  try dsimp only at h
  rcases iteSome h with ⟨hc121, h⟩ | ⟨hc121, h⟩
  · refine sCondT S rfl hc121 ?_
    refine sSeq (fun K122 hK122 => ?_)
    refine sRegion ?_
    refine sMove (.slice ad34 s33.length cp35) S (wN rfl) (.inl rfl) rfl rfl (lb rfl) fun a S => ?_
    refine sBuild [(0, .int .u8 1)] [.int .u8 1, .int .u8 0, .bool false, iv 0, iv 0] S (wN rfl) rfl rfl rfl rfl (lb rfl) fun a S => ?_
    have S := S.learn (fRep r_api_CellStep (.agg #[.int .u8 1, .int .u8 0, .bool false, iv 0, iv 0]) (api_CellStep.mk 1 (api_Stitch.mk 0 false 0 0))) rfl
    refine sLit (r := r_api_CellStep) (T := 83) (xs := [(api_CellStep.mk 1 (api_Stitch.mk 0 false 0 0))]) [(0, .agg #[.int .u8 1, .int .u8 0, .bool false, iv 0, iv 0])] 1 [.agg #[.int .u8 1, .int .u8 0, .bool false, iv 0, iv 0]] [.int .u8 1, .int .u8 0, .bool false, iv 0, iv 0] (.agg #[.int .u8 0, .int .u8 0, .bool false, iv 0, iv 0]) 32 S (wN rfl) rfl rfl Try.underlying48 rfl (by decide) (by decide) (by kernel_rfl) rfl (fun E1 w1 hE => All.cons (r_api_CellStep.mono hE (S.mem.know (i := 0) (e := fRep r_api_CellStep (.agg #[.int .u8 1, .int .u8 0, .bool false, iv 0, iv 0]) (api_CellStep.mk 1 (api_Stitch.mk 0 false 0 0))) rfl)) (All.nil _ _ _)) rfl rfl (lb rfl) fun a w ad123 cp124 S => ?_
    obtain ⟨l125, hx126, h⟩ := bindSome h
    refine sApp (r := r_api_CellStep) (T := 83) (xs := s33) (ys := [(api_CellStep.mk 1 (api_Stitch.mk 0 false 0 0))]) (v := .slice ad34 s33.length cp35) (u := .slice ad123 [(api_CellStep.mk 1 (api_Stitch.mk 0 false 0 0))].length cp124) 1 (.agg #[.int .u8 0, .int .u8 0, .bool false, iv 0, iv 0]) 32 S (wN rfl) rfl Try.underlying48 rfl rfl (by decide) rfl rfl rfl (src_R (T := 83) 0 S.mem rfl) hx126 rfl (lb rfl) fun a w ad127 cp128 S => ?_
    refine sMove (.slice ad127 l125.length cp128) S (wN rfl) (.inr rfl) rfl rfl (lb rfl) fun a S => ?_
    refine leafL (leafT (hK122 _ _ ?_))
    refine sRegion ?_
    refine sMove (iv s36) S (wN rfl) (.inl rfl) rfl rfl (lb rfl) fun a S => ?_
    refine sBin (iv (w64 (s36 + 1))) S (wN rfl) rfl rfl rfl (bAdd _ _ _ _ s36 1) rfl (lb rfl) fun a S => ?_
    refine sMove (iv s37) S (wN rfl) (.inl rfl) rfl rfl (lb rfl) fun a S => ?_
    refine sBin (iv (w64 (s37 + 1))) S (wN rfl) rfl rfl rfl (bAdd _ _ _ _ s37 1) rfl (lb rfl) fun a S => ?_
    refine sMove (iv (w64 (s36 + 1))) S (wN rfl) (.inr rfl) rfl rfl (lb rfl) fun a S => ?_
    refine sMove (iv (w64 (s37 + 1))) S (wN rfl) (.inr rfl) rfl rfl (lb rfl) fun a S => ?_
    exact leafL (leafB (leafB (leafT (⟨(l125, w64 (s36 + 1), w64 (s37 + 1)), (Option.some.inj h).symm, ⟨ad127, cp128, S.fix [0] [1, 2, 3] (by decide) rfl rfl rfl⟩⟩))))
  refine sCondF S rfl hc121 ?_
  obtain ⟨t130, h, g131⟩ := bindSome h
  refine sCut (fun a w => ∃ o129, o129 = t130 ∧ St [] E [] w0 178 a w [(0, .slice ad1 p0.length cp2), (1, .slice ad3 p1.length cp4), (9, .slice ad24 r21.length cp25), (10, .slice ad34 s33.length cp35), (11, iv s36), (12, iv s37), (97, .bool o129)] [eRow r_api_CellStep 83 (.slice ad34 s33.length cp35) s33] [fRep (rL r_api_Stitch) (.slice ad1 p0.length cp2) p0, fRep (rL r_api_Stitch) (.slice ad3 p1.length cp4) p1, fRep (rL (rL (rI .i64))) (.slice ad24 r21.length cp25) r21]) ?_ (fun a w hI => ?_)
  rotate_left
  · obtain ⟨o129, rfl, S⟩ := hI
    have h := g131
    clear g131
    try dsimp only at h
    rcases iteSome h with ⟨hc196, h⟩ | ⟨hc196, h⟩
    · refine sCondT S rfl hc196 ?_
      refine sSeq (fun K197 hK197 => ?_)
      refine sRegion ?_
      refine sMove (.slice ad34 s33.length cp35) S (wN rfl) (.inl rfl) rfl rfl (lb rfl) fun a S => ?_
      refine sMove (.slice ad3 p1.length cp4) S (wN rfl) (.inl rfl) rfl rfl (lb rfl) fun a S => ?_
      refine sMove (iv s37) S (wN rfl) (.inl rfl) rfl rfl (lb rfl) fun a S => ?_
      obtain ⟨x198, hx199, h⟩ := bindSome h
      obtain ⟨q200, hq201, S⟩ := pIdx (P := Try.prog) (r := r_api_Stitch) (v := .slice ad3 p1.length cp4) (xs := p1) (j := s37) 47 81 1 S Try.underlying47 rfl rfl hx199
      refine sIdxV (v := .slice ad3 p1.length cp4) (k := .i64) (j := s37) S (wN rfl) rfl rfl rfl hq201 rfl (lb rfl) fun a S => ?_
      obtain ⟨u202, S⟩ := pLoad (r := r_api_Stitch) (q := q200) (x := x198) 0 S rfl
      obtain rfl : u202 = .agg #[.int .u8 x198.Kind, .bool x198.Purl, iv x198.A, iv x198.B] := S.mem.know (i := 1) (e := fRep r_api_Stitch (u202) x198) rfl
      refine sLoadVN (vq := q200) 0 [.int .u8 x198.Kind, .bool x198.Purl, iv x198.A, iv x198.B] S (wN rfl) rfl rfl rfl rfl rfl rfl (lb rfl) fun a S => ?_
      refine sBuild [(0, .int .u8 2), (1, .agg #[.int .u8 x198.Kind, .bool x198.Purl, iv x198.A, iv x198.B])] [.int .u8 2, .int .u8 x198.Kind, .bool x198.Purl, iv x198.A, iv x198.B] S (wN rfl) rfl rfl rfl rfl (lb rfl) fun a S => ?_
      have S := S.learn (fRep r_api_CellStep (.agg #[.int .u8 2, .int .u8 x198.Kind, .bool x198.Purl, iv x198.A, iv x198.B]) (api_CellStep.mk 2 x198)) rfl
      refine sLit (r := r_api_CellStep) (T := 83) (xs := [(api_CellStep.mk 2 x198)]) [(0, .agg #[.int .u8 2, .int .u8 x198.Kind, .bool x198.Purl, iv x198.A, iv x198.B])] 1 [.agg #[.int .u8 2, .int .u8 x198.Kind, .bool x198.Purl, iv x198.A, iv x198.B]] [.int .u8 2, .int .u8 x198.Kind, .bool x198.Purl, iv x198.A, iv x198.B] (.agg #[.int .u8 0, .int .u8 0, .bool false, iv 0, iv 0]) 32 S (wN rfl) rfl rfl Try.underlying48 rfl (by decide) (by decide) (by kernel_rfl) rfl (fun E1 w1 hE => All.cons (r_api_CellStep.mono hE (S.mem.know (i := 0) (e := fRep r_api_CellStep (.agg #[.int .u8 2, .int .u8 x198.Kind, .bool x198.Purl, iv x198.A, iv x198.B]) (api_CellStep.mk 2 x198)) rfl)) (All.nil _ _ _)) rfl rfl (lb rfl) fun a w ad203 cp204 S => ?_
      obtain ⟨l205, hx206, h⟩ := bindSome h
      refine sApp (r := r_api_CellStep) (T := 83) (xs := s33) (ys := [(api_CellStep.mk 2 x198)]) (v := .slice ad34 s33.length cp35) (u := .slice ad203 [(api_CellStep.mk 2 x198)].length cp204) 1 (.agg #[.int .u8 0, .int .u8 0, .bool false, iv 0, iv 0]) 32 S (wN rfl) rfl Try.underlying48 rfl rfl (by decide) rfl rfl rfl (src_R (T := 83) 0 S.mem rfl) hx206 rfl (lb rfl) fun a w ad207 cp208 S => ?_
      refine sMove (.slice ad207 l205.length cp208) S (wN rfl) (.inr rfl) rfl rfl (lb rfl) fun a S => ?_
      refine leafL (leafT (hK197 _ _ ?_))
      refine sRegion ?_
      refine sMove (iv s36) S (wN rfl) (.inl rfl) rfl rfl (lb rfl) fun a S => ?_
      refine sBin (iv (w64 (s36 + 1))) S (wN rfl) rfl rfl rfl (bAdd _ _ _ _ s36 1) rfl (lb rfl) fun a S => ?_
      refine sMove (iv s37) S (wN rfl) (.inl rfl) rfl rfl (lb rfl) fun a S => ?_
      refine sBin (iv (w64 (s37 + 1))) S (wN rfl) rfl rfl rfl (bAdd _ _ _ _ s37 1) rfl (lb rfl) fun a S => ?_
      refine sMove (iv (w64 (s36 + 1))) S (wN rfl) (.inr rfl) rfl rfl (lb rfl) fun a S => ?_
      refine sMove (iv (w64 (s37 + 1))) S (wN rfl) (.inr rfl) rfl rfl (lb rfl) fun a S => ?_
      exact leafL (leafB (leafB (leafT (⟨(l205, w64 (s36 + 1), w64 (s37 + 1)), (Option.some.inj h).symm, ⟨ad207, cp208, S.fix [0] [4, 5, 6] (by decide) rfl rfl rfl⟩⟩))))
    refine sCondF S rfl hc196 ?_
    obtain ⟨t210, h, g211⟩ := bindSome h
    refine sCut (fun a w => ∃ o209, o209 = t210 ∧ St [] E [] w0 178 a w [(0, .slice ad1 p0.length cp2), (1, .slice ad3 p1.length cp4), (9, .slice ad24 r21.length cp25), (10, .slice ad34 s33.length cp35), (11, iv s36), (12, iv s37), (142, .bool o209)] [eRow r_api_CellStep 83 (.slice ad34 s33.length cp35) s33] [fRep (rL r_api_Stitch) (.slice ad1 p0.length cp2) p0, fRep (rL r_api_Stitch) (.slice ad3 p1.length cp4) p1, fRep (rL (rL (rI .i64))) (.slice ad24 r21.length cp25) r21]) ?_ (fun a w hI => ?_)
    rotate_left
    · obtain ⟨o209, rfl, S⟩ := hI
      have h := g211
      clear g211
      try dsimp only at h
      rcases iteSome h with ⟨hc253, h⟩ | ⟨hc253, h⟩
      · refine sCondT S rfl hc253 ?_
        refine sSeq (fun K254 hK254 => ?_)
        refine sRegion ?_
        refine sMove (.slice ad34 s33.length cp35) S (wN rfl) (.inl rfl) rfl rfl (lb rfl) fun a S => ?_
        refine sBuild [(0, .int .u8 4)] [.int .u8 4, .int .u8 0, .bool false, iv 0, iv 0] S (wN rfl) rfl rfl rfl rfl (lb rfl) fun a S => ?_
        have S := S.learn (fRep r_api_CellStep (.agg #[.int .u8 4, .int .u8 0, .bool false, iv 0, iv 0]) (api_CellStep.mk 4 (api_Stitch.mk 0 false 0 0))) rfl
        refine sLit (r := r_api_CellStep) (T := 83) (xs := [(api_CellStep.mk 4 (api_Stitch.mk 0 false 0 0))]) [(0, .agg #[.int .u8 4, .int .u8 0, .bool false, iv 0, iv 0])] 1 [.agg #[.int .u8 4, .int .u8 0, .bool false, iv 0, iv 0]] [.int .u8 4, .int .u8 0, .bool false, iv 0, iv 0] (.agg #[.int .u8 0, .int .u8 0, .bool false, iv 0, iv 0]) 32 S (wN rfl) rfl rfl Try.underlying48 rfl (by decide) (by decide) (by kernel_rfl) rfl (fun E1 w1 hE => All.cons (r_api_CellStep.mono hE (S.mem.know (i := 0) (e := fRep r_api_CellStep (.agg #[.int .u8 4, .int .u8 0, .bool false, iv 0, iv 0]) (api_CellStep.mk 4 (api_Stitch.mk 0 false 0 0))) rfl)) (All.nil _ _ _)) rfl rfl (lb rfl) fun a w ad255 cp256 S => ?_
        obtain ⟨l257, hx258, h⟩ := bindSome h
        refine sApp (r := r_api_CellStep) (T := 83) (xs := s33) (ys := [(api_CellStep.mk 4 (api_Stitch.mk 0 false 0 0))]) (v := .slice ad34 s33.length cp35) (u := .slice ad255 [(api_CellStep.mk 4 (api_Stitch.mk 0 false 0 0))].length cp256) 1 (.agg #[.int .u8 0, .int .u8 0, .bool false, iv 0, iv 0]) 32 S (wN rfl) rfl Try.underlying48 rfl rfl (by decide) rfl rfl rfl (src_R (T := 83) 0 S.mem rfl) hx258 rfl (lb rfl) fun a w ad259 cp260 S => ?_
        refine sMove (.slice ad259 l257.length cp260) S (wN rfl) (.inr rfl) rfl rfl (lb rfl) fun a S => ?_
        refine leafL (leafT (hK254 _ _ ?_))
        refine sRegion ?_
        refine sMove (iv s36) S (wN rfl) (.inl rfl) rfl rfl (lb rfl) fun a S => ?_
        refine sBin (iv (w64 (s36 + 1))) S (wN rfl) rfl rfl rfl (bAdd _ _ _ _ s36 1) rfl (lb rfl) fun a S => ?_
        refine sMove (iv (w64 (s36 + 1))) S (wN rfl) (.inr rfl) rfl rfl (lb rfl) fun a S => ?_
        exact leafL (leafB (leafB (leafT (⟨(l257, w64 (s36 + 1), s37), (Option.some.inj h).symm, ⟨ad259, cp260, S.fix [0] [1, 2, 3] (by decide) rfl rfl rfl⟩⟩))))
      refine sCondF S rfl hc253 ?_
      refine sSeq (fun K261 hK261 => ?_)
      refine sRegion ?_
      refine sMove (.slice ad34 s33.length cp35) S (wN rfl) (.inl rfl) rfl rfl (lb rfl) fun a S => ?_
      refine sMove (.slice ad3 p1.length cp4) S (wN rfl) (.inl rfl) rfl rfl (lb rfl) fun a S => ?_
      refine sMove (iv s37) S (wN rfl) (.inl rfl) rfl rfl (lb rfl) fun a S => ?_
      obtain ⟨x262, hx263, h⟩ := bindSome h
      obtain ⟨q264, hq265, S⟩ := pIdx (P := Try.prog) (r := r_api_Stitch) (v := .slice ad3 p1.length cp4) (xs := p1) (j := s37) 47 81 1 S Try.underlying47 rfl rfl hx263
      refine sIdxV (v := .slice ad3 p1.length cp4) (k := .i64) (j := s37) S (wN rfl) rfl rfl rfl hq265 rfl (lb rfl) fun a S => ?_
      obtain ⟨u266, S⟩ := pLoad (r := r_api_Stitch) (q := q264) (x := x262) 0 S rfl
      obtain rfl : u266 = .agg #[.int .u8 x262.Kind, .bool x262.Purl, iv x262.A, iv x262.B] := S.mem.know (i := 1) (e := fRep r_api_Stitch (u266) x262) rfl
      refine sLoadVN (vq := q264) 0 [.int .u8 x262.Kind, .bool x262.Purl, iv x262.A, iv x262.B] S (wN rfl) rfl rfl rfl rfl rfl rfl (lb rfl) fun a S => ?_
      refine sBuild [(0, .int .u8 3), (1, .agg #[.int .u8 x262.Kind, .bool x262.Purl, iv x262.A, iv x262.B])] [.int .u8 3, .int .u8 x262.Kind, .bool x262.Purl, iv x262.A, iv x262.B] S (wN rfl) rfl rfl rfl rfl (lb rfl) fun a S => ?_
      have S := S.learn (fRep r_api_CellStep (.agg #[.int .u8 3, .int .u8 x262.Kind, .bool x262.Purl, iv x262.A, iv x262.B]) (api_CellStep.mk 3 x262)) rfl
      refine sLit (r := r_api_CellStep) (T := 83) (xs := [(api_CellStep.mk 3 x262)]) [(0, .agg #[.int .u8 3, .int .u8 x262.Kind, .bool x262.Purl, iv x262.A, iv x262.B])] 1 [.agg #[.int .u8 3, .int .u8 x262.Kind, .bool x262.Purl, iv x262.A, iv x262.B]] [.int .u8 3, .int .u8 x262.Kind, .bool x262.Purl, iv x262.A, iv x262.B] (.agg #[.int .u8 0, .int .u8 0, .bool false, iv 0, iv 0]) 32 S (wN rfl) rfl rfl Try.underlying48 rfl (by decide) (by decide) (by kernel_rfl) rfl (fun E1 w1 hE => All.cons (r_api_CellStep.mono hE (S.mem.know (i := 0) (e := fRep r_api_CellStep (.agg #[.int .u8 3, .int .u8 x262.Kind, .bool x262.Purl, iv x262.A, iv x262.B]) (api_CellStep.mk 3 x262)) rfl)) (All.nil _ _ _)) rfl rfl (lb rfl) fun a w ad267 cp268 S => ?_
      obtain ⟨l269, hx270, h⟩ := bindSome h
      refine sApp (r := r_api_CellStep) (T := 83) (xs := s33) (ys := [(api_CellStep.mk 3 x262)]) (v := .slice ad34 s33.length cp35) (u := .slice ad267 [(api_CellStep.mk 3 x262)].length cp268) 1 (.agg #[.int .u8 0, .int .u8 0, .bool false, iv 0, iv 0]) 32 S (wN rfl) rfl Try.underlying48 rfl rfl (by decide) rfl rfl rfl (src_R (T := 83) 0 S.mem rfl) hx270 rfl (lb rfl) fun a w ad271 cp272 S => ?_
      refine sMove (.slice ad271 l269.length cp272) S (wN rfl) (.inr rfl) rfl rfl (lb rfl) fun a S => ?_
      refine leafL (leafT (hK261 _ _ ?_))
      refine sRegion ?_
      refine sMove (iv s37) S (wN rfl) (.inl rfl) rfl rfl (lb rfl) fun a S => ?_
      refine sBin (iv (w64 (s37 + 1))) S (wN rfl) rfl rfl rfl (bAdd _ _ _ _ s37 1) rfl (lb rfl) fun a S => ?_
      refine sMove (iv (w64 (s37 + 1))) S (wN rfl) (.inr rfl) rfl rfl (lb rfl) fun a S => ?_
      exact leafL (leafB (leafB (leafT (⟨(l269, s36, w64 (s37 + 1)), (Option.some.inj h).symm, ⟨ad271, cp272, S.fix [0] [4, 5, 6] (by decide) rfl rfl rfl⟩⟩))))
    rcases iteSome h with ⟨hc212, h⟩ | ⟨hc212, h⟩
    rotate_left
    · refine sDraw (nf := []) (W := [(0, 143, iv s36), (1, 144, .slice ad1 p0.length cp2), (2, 145, iv (p0.length : Int)), (3, 146, .bool (decide (s36 < (p0.length : Int)))), (4, 147, .bool (decide (s36 < (p0.length : Int)))), (5, 148, undef), (6, 149, undef), (7, 150, undef), (8, 151, undef), (9, 152, undef), (10, 153, undef), (11, 154, undef), (12, 155, undef), (13, 156, undef), (14, 157, undef), (15, 158, undef), (16, 159, undef), (17, 160, undef), (18, 161, undef), (19, 162, undef), (20, 163, undef), (21, 164, undef), (22, 165, .bool false), (23, 142, .bool false)]) rfl S ?_
      refine node_by (A := anc_raddleref46_Edits_2) (nf := []) (Y := []) (W := [(0, 143, iv s36), (1, 144, .slice ad1 p0.length cp2), (2, 145, iv (p0.length : Int)), (3, 146, .bool (decide (s36 < (p0.length : Int)))), (4, 147, .bool (decide (s36 < (p0.length : Int)))), (5, 148, undef), (6, 149, undef), (7, 150, undef), (8, 151, undef), (9, 152, undef), (10, 153, undef), (11, 154, undef), (12, 155, undef), (13, 156, undef), (14, 157, undef), (15, 158, undef), (16, 159, undef), (17, 160, undef), (18, 161, undef), (19, 162, undef), (20, 163, undef), (21, 164, undef), (22, 165, .bool false), (23, 142, .bool false)]) 24 (by kernel_rfl) (by kernel_rfl) (by kernel_rfl) (by kernel_rfl) (by kernel_rfl) [0, 1, 2, 3, 4, 5, 6, 7, 8, 9, 10, 11, 12, 13, 14, 15, 16, 17, 18, 19, 20, 21, 22, 23] (by kernel_rfl) (by decide) (by decide) (aF 0 23 (by decide) ?_ (aF 1 22 (by decide) ?_ (aF 2 21 (by decide) ?_ (aF 3 20 (by decide) ?_ (aF 4 19 (by decide) ?_ (aF 5 18 (by decide) ?_ (aF 6 17 (by decide) ?_ (aF 7 16 (by decide) ?_ (aF 8 15 (by decide) ?_ (aF 9 14 (by decide) ?_ (aF 10 13 (by decide) ?_ (aF 11 12 (by decide) ?_ (aF 12 11 (by decide) ?_ (aF 13 10 (by decide) ?_ (aF 14 9 (by decide) ?_ (aF 15 8 (by decide) ?_ (aF 16 7 (by decide) ?_ (aF 17 6 (by decide) ?_ (aF 18 5 (by decide) ?_ (aF 19 4 (by decide) ?_ (aF 20 3 (by decide) ?_ (aF 21 2 (by decide) ?_ (aF 22 1 (by decide) ?_ (aF 23 0 (by decide) ?_ (trivial))))))))))))))))))))))))) [(0, .slice ad1 p0.length cp2), (1, .slice ad3 p1.length cp4), (9, .slice ad24 r21.length cp25), (10, .slice ad34 s33.length cp35), (11, iv s36), (12, iv s37), (142, .bool false), (148, undef), (149, undef), (150, undef), (151, undef), (152, undef), (153, undef), (154, undef), (155, undef), (156, undef), (157, undef), (158, undef), (159, undef), (160, undef), (161, undef), (162, undef), (163, undef), (164, undef)] (fin_of [none, none, none, none, none, none, some 23, some 5, some 6, some 7, some 8, some 9, some 10, some 11, some 12, some 13, some 14, some 15, some 16, some 17, some 18, some 19, some 20, some 21] rfl (by kernel_rfl) (by kernel_rfl)) (fun _ a w S => ?_)
      · refine fI 143 (iv s36) [(11, iv s36)] 0 [none] rfl rfl rfl rfl rfl rfl fun G a w S => ?_
        refine sMove (iv s36) S (wN rfl) (.inl rfl) rfl rfl (lb rfl) fun a S => ?_
        exact leafL ⟨rfl, S⟩
      · refine fI 144 (.slice ad1 p0.length cp2) [(0, .slice ad1 p0.length cp2)] 1 [none] rfl rfl rfl rfl rfl rfl fun G a w S => ?_
        refine sMove (.slice ad1 p0.length cp2) S (wN rfl) (.inl rfl) rfl rfl (lb rfl) fun a S => ?_
        exact leafL ⟨rfl, S⟩
      · refine fI 145 (iv (p0.length : Int)) [(144, .slice ad1 p0.length cp2)] 2 [some 1] rfl rfl rfl rfl rfl rfl fun G a w S => ?_
        refine sLen (ad := ad1) (m := p0.length) (c := cp2) S (wN rfl) rfl Try.underlying47 rfl rfl (lb rfl) fun a S => ?_
        exact leafL ⟨rfl, S⟩
      · refine fI 146 (.bool (decide (s36 < (p0.length : Int)))) [(143, iv s36), (145, iv (p0.length : Int))] 3 [some 0, some 2] rfl rfl rfl rfl rfl rfl fun G a w S => ?_
        refine sBin (.bool (decide (s36 < (p0.length : Int)))) S (wN rfl) rfl rfl rfl (bLt _ _ _ _ .i64 s36 (p0.length : Int)) rfl (lb rfl) fun a S => ?_
        exact leafL ⟨rfl, S⟩
      · refine fI 147 (.bool (decide (s36 < (p0.length : Int)))) [(146, .bool (decide (s36 < (p0.length : Int))))] 4 [some 3] rfl rfl rfl rfl rfl rfl fun G a w S => ?_
        refine sMove (.bool (decide (s36 < (p0.length : Int)))) S (wN rfl) (.inl rfl) rfl rfl (lb rfl) fun a S => ?_
        exact leafL ⟨rfl, S⟩
      · refine fI 148 undef [(9, .slice ad24 r21.length cp25), (147, .bool (decide (s36 < (p0.length : Int))))] 5 [none, some 4] rfl rfl rfl rfl rfl rfl fun G a w S => ?_
        refine sSkip 4 true 147 148 S rfl rfl rfl hc212 rfl (lb rfl) fun a S => ?_
        exact leafL ⟨rfl, S⟩
      · refine fI 149 undef [(11, iv s36), (147, .bool (decide (s36 < (p0.length : Int))))] 6 [none, some 4] rfl rfl rfl rfl rfl rfl fun G a w S => ?_
        refine sSkip 4 true 147 149 S rfl rfl rfl hc212 rfl (lb rfl) fun a S => ?_
        exact leafL ⟨rfl, S⟩
      · refine fI 150 undef [(148, undef), (149, undef), (147, .bool (decide (s36 < (p0.length : Int))))] 7 [some 5, some 6, some 4] rfl rfl rfl rfl rfl rfl fun G a w S => ?_
        refine sSkip 4 true 147 150 S rfl rfl rfl hc212 rfl (lb rfl) fun a S => ?_
        exact leafL ⟨rfl, S⟩
      · refine fI 151 undef [(150, undef), (147, .bool (decide (s36 < (p0.length : Int))))] 8 [some 7, some 4] rfl rfl rfl rfl rfl rfl fun G a w S => ?_
        refine sSkip 4 true 147 151 S rfl rfl rfl hc212 rfl (lb rfl) fun a S => ?_
        exact leafL ⟨rfl, S⟩
      · refine fI 152 undef [(12, iv s37), (147, .bool (decide (s36 < (p0.length : Int))))] 9 [none, some 4] rfl rfl rfl rfl rfl rfl fun G a w S => ?_
        refine sSkip 4 true 147 152 S rfl rfl rfl hc212 rfl (lb rfl) fun a S => ?_
        exact leafL ⟨rfl, S⟩
      · refine fI 153 undef [(151, undef), (152, undef), (147, .bool (decide (s36 < (p0.length : Int))))] 10 [some 8, some 9, some 4] rfl rfl rfl rfl rfl rfl fun G a w S => ?_
        refine sSkip 4 true 147 153 S rfl rfl rfl hc212 rfl (lb rfl) fun a S => ?_
        exact leafL ⟨rfl, S⟩
      · refine fI 154 undef [(153, undef), (147, .bool (decide (s36 < (p0.length : Int))))] 11 [some 10, some 4] rfl rfl rfl rfl rfl rfl fun G a w S => ?_
        refine sSkip 4 true 147 154 S rfl rfl rfl hc212 rfl (lb rfl) fun a S => ?_
        exact leafL ⟨rfl, S⟩
      · refine fI 155 undef [(9, .slice ad24 r21.length cp25), (147, .bool (decide (s36 < (p0.length : Int))))] 12 [none, some 4] rfl rfl rfl rfl rfl rfl fun G a w S => ?_
        refine sSkip 4 true 147 155 S rfl rfl rfl hc212 rfl (lb rfl) fun a S => ?_
        exact leafL ⟨rfl, S⟩
      · refine fI 156 undef [(11, iv s36), (147, .bool (decide (s36 < (p0.length : Int))))] 13 [none, some 4] rfl rfl rfl rfl rfl rfl fun G a w S => ?_
        refine sSkip 4 true 147 156 S rfl rfl rfl hc212 rfl (lb rfl) fun a S => ?_
        exact leafL ⟨rfl, S⟩
      · refine fI 157 undef [(156, undef), (147, .bool (decide (s36 < (p0.length : Int))))] 14 [some 13, some 4] rfl rfl rfl rfl rfl rfl fun G a w S => ?_
        refine sSkip 4 true 147 157 S rfl rfl rfl hc212 rfl (lb rfl) fun a S => ?_
        exact leafL ⟨rfl, S⟩
      · refine fI 158 undef [(155, undef), (157, undef), (147, .bool (decide (s36 < (p0.length : Int))))] 15 [some 12, some 14, some 4] rfl rfl rfl rfl rfl rfl fun G a w S => ?_
        refine sSkip 4 true 147 158 S rfl rfl rfl hc212 rfl (lb rfl) fun a S => ?_
        exact leafL ⟨rfl, S⟩
      · refine fI 159 undef [(158, undef), (147, .bool (decide (s36 < (p0.length : Int))))] 16 [some 15, some 4] rfl rfl rfl rfl rfl rfl fun G a w S => ?_
        refine sSkip 4 true 147 159 S rfl rfl rfl hc212 rfl (lb rfl) fun a S => ?_
        exact leafL ⟨rfl, S⟩
      · refine fI 160 undef [(12, iv s37), (147, .bool (decide (s36 < (p0.length : Int))))] 17 [none, some 4] rfl rfl rfl rfl rfl rfl fun G a w S => ?_
        refine sSkip 4 true 147 160 S rfl rfl rfl hc212 rfl (lb rfl) fun a S => ?_
        exact leafL ⟨rfl, S⟩
      · refine fI 161 undef [(159, undef), (160, undef), (147, .bool (decide (s36 < (p0.length : Int))))] 18 [some 16, some 17, some 4] rfl rfl rfl rfl rfl rfl fun G a w S => ?_
        refine sSkip 4 true 147 161 S rfl rfl rfl hc212 rfl (lb rfl) fun a S => ?_
        exact leafL ⟨rfl, S⟩
      · refine fI 162 undef [(161, undef), (147, .bool (decide (s36 < (p0.length : Int))))] 19 [some 18, some 4] rfl rfl rfl rfl rfl rfl fun G a w S => ?_
        refine sSkip 4 true 147 162 S rfl rfl rfl hc212 rfl (lb rfl) fun a S => ?_
        exact leafL ⟨rfl, S⟩
      · refine fI 163 undef [(162, undef), (147, .bool (decide (s36 < (p0.length : Int))))] 20 [some 19, some 4] rfl rfl rfl rfl rfl rfl fun G a w S => ?_
        refine sSkip 4 true 147 163 S rfl rfl rfl hc212 rfl (lb rfl) fun a S => ?_
        exact leafL ⟨rfl, S⟩
      · refine fI 164 undef [(154, undef), (163, undef), (147, .bool (decide (s36 < (p0.length : Int))))] 21 [some 11, some 20, some 4] rfl rfl rfl rfl rfl rfl fun G a w S => ?_
        refine sSkip 4 true 147 164 S rfl rfl rfl hc212 rfl (lb rfl) fun a S => ?_
        exact leafL ⟨rfl, S⟩
      · refine fI 165 (.bool false) [(147, .bool (decide (s36 < (p0.length : Int)))), (164, undef)] 22 [some 4, some 21] rfl rfl rfl rfl rfl rfl fun G a w S => ?_
        refine sPickF (.bool false) S (wN rfl) rfl rfl hc212 rfl rfl (lb rfl) fun a S => ?_
        exact leafL ⟨rfl, S⟩
      · refine fI 142 (.bool false) [(165, .bool false)] 23 [some 22] rfl rfl rfl rfl rfl rfl fun G a w S => ?_
        refine sMove (.bool false) S (wN rfl) (.inr rfl) rfl rfl (lb rfl) fun a S => ?_
        exact leafL ⟨rfl, S⟩
      exact leafT (⟨false, Option.some.inj h, S.fix [0] [0, 1, 2] (by decide) rfl rfl rfl⟩)
    obtain ⟨x213, hx214, h⟩ := bindSome h
    obtain ⟨x220, hx221, h⟩ := bindSome h
    obtain ⟨x225, hx226, h⟩ := bindSome h
    obtain ⟨x232, hx233, h⟩ := bindSome h
    obtain ⟨q237, hq238, S⟩ := pIdx (P := Try.prog) (r := (rL (rI .i64))) (v := .slice ad24 r21.length cp25) (xs := r21) (j := s36) 98 101 2 S Try.underlying98 rfl rfl hx214
    obtain ⟨u239, S⟩ := pLoad (r := (rL (rI .i64))) (q := q237) (x := x213) 0 S rfl
    obtain ⟨ad240, cp241, _, rfl, _⟩ := S.mem.know (i := 1) (e := fRep (rL (rI .i64)) (u239) x213) rfl
    obtain ⟨q242, hq243, S⟩ := pIdx (P := Try.prog) (r := (rI .i64)) (v := .slice ad240 x213.length cp241) (xs := x213) (j := s37) 101 3 1 S Try.underlying101 rfl rfl hx221
    obtain ⟨u244, S⟩ := pLoad (r := (rI .i64)) (q := q242) (x := x220) 0 S rfl
    obtain rfl : u244 = iv x220 := S.mem.know (i := 1) (e := fRep (rI .i64) (u244) x220) rfl
    obtain ⟨q245, hq246, S⟩ := pIdx (P := Try.prog) (r := (rL (rI .i64))) (v := .slice ad24 r21.length cp25) (xs := r21) (j := w64 (s36 + 1)) 98 101 8 S Try.underlying98 rfl rfl hx226
    obtain ⟨u247, S⟩ := pLoad (r := (rL (rI .i64))) (q := q245) (x := x225) 0 S rfl
    obtain ⟨ad248, cp249, _, rfl, _⟩ := S.mem.know (i := 1) (e := fRep (rL (rI .i64)) (u247) x225) rfl
    obtain ⟨q250, hq251, S⟩ := pIdx (P := Try.prog) (r := (rI .i64)) (v := .slice ad248 x225.length cp249) (xs := x225) (j := s37) 101 3 1 S Try.underlying101 rfl rfl hx233
    obtain ⟨u252, S⟩ := pLoad (r := (rI .i64)) (q := q250) (x := x232) 0 S rfl
    obtain rfl : u252 = iv x232 := S.mem.know (i := 1) (e := fRep (rI .i64) (u252) x232) rfl
    refine sDraw (nf := []) (W := [(0, 143, iv s36), (1, 144, .slice ad1 p0.length cp2), (2, 145, iv (p0.length : Int)), (3, 146, .bool (decide (s36 < (p0.length : Int)))), (4, 147, .bool (decide (s36 < (p0.length : Int)))), (5, 148, .slice ad24 r21.length cp25), (6, 149, iv s36), (7, 150, q237), (8, 151, .slice ad240 x213.length cp241), (9, 152, iv s37), (10, 153, q242), (11, 154, iv x220), (12, 155, .slice ad24 r21.length cp25), (13, 156, iv s36), (14, 157, iv (w64 (s36 + 1))), (15, 158, q245), (16, 159, .slice ad248 x225.length cp249), (17, 160, iv s37), (18, 161, q250), (19, 162, iv x232), (20, 163, iv (w64 (x232 + 1))), (21, 164, .bool (x220 == (w64 (x232 + 1)))), (22, 165, .bool (x220 == (w64 (x232 + 1)))), (23, 142, .bool (x220 == (w64 (x232 + 1))))]) rfl S ?_
    refine node_by (A := anc_raddleref46_Edits_2) (nf := []) (Y := []) (W := [(0, 143, iv s36), (1, 144, .slice ad1 p0.length cp2), (2, 145, iv (p0.length : Int)), (3, 146, .bool (decide (s36 < (p0.length : Int)))), (4, 147, .bool (decide (s36 < (p0.length : Int)))), (5, 148, .slice ad24 r21.length cp25), (6, 149, iv s36), (7, 150, q237), (8, 151, .slice ad240 x213.length cp241), (9, 152, iv s37), (10, 153, q242), (11, 154, iv x220), (12, 155, .slice ad24 r21.length cp25), (13, 156, iv s36), (14, 157, iv (w64 (s36 + 1))), (15, 158, q245), (16, 159, .slice ad248 x225.length cp249), (17, 160, iv s37), (18, 161, q250), (19, 162, iv x232), (20, 163, iv (w64 (x232 + 1))), (21, 164, .bool (x220 == (w64 (x232 + 1)))), (22, 165, .bool (x220 == (w64 (x232 + 1)))), (23, 142, .bool (x220 == (w64 (x232 + 1))))]) 24 (by kernel_rfl) (by kernel_rfl) (by kernel_rfl) (by kernel_rfl) (by kernel_rfl) [0, 1, 2, 3, 4, 5, 6, 7, 8, 9, 10, 11, 12, 13, 14, 15, 16, 17, 18, 19, 20, 21, 22, 23] (by kernel_rfl) (by decide) (by decide) (aF 0 23 (by decide) ?_ (aF 1 22 (by decide) ?_ (aF 2 21 (by decide) ?_ (aF 3 20 (by decide) ?_ (aF 4 19 (by decide) ?_ (aF 5 18 (by decide) ?_ (aF 6 17 (by decide) ?_ (aF 7 16 (by decide) ?_ (aF 8 15 (by decide) ?_ (aF 9 14 (by decide) ?_ (aF 10 13 (by decide) ?_ (aF 11 12 (by decide) ?_ (aF 12 11 (by decide) ?_ (aF 13 10 (by decide) ?_ (aF 14 9 (by decide) ?_ (aF 15 8 (by decide) ?_ (aF 16 7 (by decide) ?_ (aF 17 6 (by decide) ?_ (aF 18 5 (by decide) ?_ (aF 19 4 (by decide) ?_ (aF 20 3 (by decide) ?_ (aF 21 2 (by decide) ?_ (aF 22 1 (by decide) ?_ (aF 23 0 (by decide) ?_ (trivial))))))))))))))))))))))))) [(0, .slice ad1 p0.length cp2), (1, .slice ad3 p1.length cp4), (9, .slice ad24 r21.length cp25), (10, .slice ad34 s33.length cp35), (11, iv s36), (12, iv s37), (142, .bool (x220 == (w64 (x232 + 1)))), (148, .slice ad24 r21.length cp25), (149, iv s36), (150, q237), (151, .slice ad240 x213.length cp241), (152, iv s37), (153, q242), (154, iv x220), (155, .slice ad24 r21.length cp25), (156, iv s36), (157, iv (w64 (s36 + 1))), (158, q245), (159, .slice ad248 x225.length cp249), (160, iv s37), (161, q250), (162, iv x232), (163, iv (w64 (x232 + 1))), (164, .bool (x220 == (w64 (x232 + 1))))] (fin_of [none, none, none, none, none, none, some 23, some 5, some 6, some 7, some 8, some 9, some 10, some 11, some 12, some 13, some 14, some 15, some 16, some 17, some 18, some 19, some 20, some 21] rfl (by kernel_rfl) (by kernel_rfl)) (fun _ a w S => ?_)
    · refine fI 143 (iv s36) [(11, iv s36)] 0 [none] rfl rfl rfl rfl rfl rfl fun G a w S => ?_
      refine sMove (iv s36) S (wN rfl) (.inl rfl) rfl rfl (lb rfl) fun a S => ?_
      exact leafL ⟨rfl, S⟩
    · refine fI 144 (.slice ad1 p0.length cp2) [(0, .slice ad1 p0.length cp2)] 1 [none] rfl rfl rfl rfl rfl rfl fun G a w S => ?_
      refine sMove (.slice ad1 p0.length cp2) S (wN rfl) (.inl rfl) rfl rfl (lb rfl) fun a S => ?_
      exact leafL ⟨rfl, S⟩
    · refine fI 145 (iv (p0.length : Int)) [(144, .slice ad1 p0.length cp2)] 2 [some 1] rfl rfl rfl rfl rfl rfl fun G a w S => ?_
      refine sLen (ad := ad1) (m := p0.length) (c := cp2) S (wN rfl) rfl Try.underlying47 rfl rfl (lb rfl) fun a S => ?_
      exact leafL ⟨rfl, S⟩
    · refine fI 146 (.bool (decide (s36 < (p0.length : Int)))) [(143, iv s36), (145, iv (p0.length : Int))] 3 [some 0, some 2] rfl rfl rfl rfl rfl rfl fun G a w S => ?_
      refine sBin (.bool (decide (s36 < (p0.length : Int)))) S (wN rfl) rfl rfl rfl (bLt _ _ _ _ .i64 s36 (p0.length : Int)) rfl (lb rfl) fun a S => ?_
      exact leafL ⟨rfl, S⟩
    · refine fI 147 (.bool (decide (s36 < (p0.length : Int)))) [(146, .bool (decide (s36 < (p0.length : Int))))] 4 [some 3] rfl rfl rfl rfl rfl rfl fun G a w S => ?_
      refine sMove (.bool (decide (s36 < (p0.length : Int)))) S (wN rfl) (.inl rfl) rfl rfl (lb rfl) fun a S => ?_
      exact leafL ⟨rfl, S⟩
    · refine fI 148 (.slice ad24 r21.length cp25) [(9, .slice ad24 r21.length cp25), (147, .bool (decide (s36 < (p0.length : Int))))] 5 [none, some 4] rfl rfl rfl rfl rfl rfl fun G a w S => ?_
      refine sMove (.slice ad24 r21.length cp25) S (wG 4 true 147 rfl rfl rfl hc212) (.inl rfl) rfl rfl (lb rfl) fun a S => ?_
      exact leafL ⟨rfl, S⟩
    · refine fI 149 (iv s36) [(11, iv s36), (147, .bool (decide (s36 < (p0.length : Int))))] 6 [none, some 4] rfl rfl rfl rfl rfl rfl fun G a w S => ?_
      refine sMove (iv s36) S (wG 4 true 147 rfl rfl rfl hc212) (.inl rfl) rfl rfl (lb rfl) fun a S => ?_
      exact leafL ⟨rfl, S⟩
    · refine fI 150 q237 [(148, .slice ad24 r21.length cp25), (149, iv s36), (147, .bool (decide (s36 < (p0.length : Int))))] 7 [some 5, some 6, some 4] rfl rfl rfl rfl rfl rfl fun G a w S => ?_
      refine sIdxV (v := .slice ad24 r21.length cp25) (k := .i64) (j := s36) S (wG 4 true 147 rfl rfl rfl hc212) rfl rfl rfl hq238 rfl (lb rfl) fun a S => ?_
      exact leafL ⟨rfl, S⟩
    · refine fI 151 (.slice ad240 x213.length cp241) [(150, q237), (147, .bool (decide (s36 < (p0.length : Int))))] 8 [some 7, some 4] rfl rfl rfl rfl rfl rfl fun G a w S => ?_
      refine sLoadV1 (vq := q237) 9 (.slice ad240 x213.length cp241) S (wG 4 true 147 rfl rfl rfl hc212) rfl rfl rfl rfl rfl (lb rfl) fun a S => ?_
      exact leafL ⟨rfl, S⟩
    · refine fI 152 (iv s37) [(12, iv s37), (147, .bool (decide (s36 < (p0.length : Int))))] 9 [none, some 4] rfl rfl rfl rfl rfl rfl fun G a w S => ?_
      refine sMove (iv s37) S (wG 4 true 147 rfl rfl rfl hc212) (.inl rfl) rfl rfl (lb rfl) fun a S => ?_
      exact leafL ⟨rfl, S⟩
    · refine fI 153 q242 [(151, .slice ad240 x213.length cp241), (152, iv s37), (147, .bool (decide (s36 < (p0.length : Int))))] 10 [some 8, some 9, some 4] rfl rfl rfl rfl rfl rfl fun G a w S => ?_
      refine sIdxV (v := .slice ad240 x213.length cp241) (k := .i64) (j := s37) S (wG 4 true 147 rfl rfl rfl hc212) rfl rfl rfl hq243 rfl (lb rfl) fun a S => ?_
      exact leafL ⟨rfl, S⟩
    · refine fI 154 (iv x220) [(153, q242), (147, .bool (decide (s36 < (p0.length : Int))))] 11 [some 10, some 4] rfl rfl rfl rfl rfl rfl fun G a w S => ?_
      refine sLoadV1 (vq := q242) 6 (iv x220) S (wG 4 true 147 rfl rfl rfl hc212) rfl rfl rfl rfl rfl (lb rfl) fun a S => ?_
      exact leafL ⟨rfl, S⟩
    · refine fI 155 (.slice ad24 r21.length cp25) [(9, .slice ad24 r21.length cp25), (147, .bool (decide (s36 < (p0.length : Int))))] 12 [none, some 4] rfl rfl rfl rfl rfl rfl fun G a w S => ?_
      refine sMove (.slice ad24 r21.length cp25) S (wG 4 true 147 rfl rfl rfl hc212) (.inl rfl) rfl rfl (lb rfl) fun a S => ?_
      exact leafL ⟨rfl, S⟩
    · refine fI 156 (iv s36) [(11, iv s36), (147, .bool (decide (s36 < (p0.length : Int))))] 13 [none, some 4] rfl rfl rfl rfl rfl rfl fun G a w S => ?_
      refine sMove (iv s36) S (wG 4 true 147 rfl rfl rfl hc212) (.inl rfl) rfl rfl (lb rfl) fun a S => ?_
      exact leafL ⟨rfl, S⟩
    · refine fI 157 (iv (w64 (s36 + 1))) [(156, iv s36), (147, .bool (decide (s36 < (p0.length : Int))))] 14 [some 13, some 4] rfl rfl rfl rfl rfl rfl fun G a w S => ?_
      refine sBin (iv (w64 (s36 + 1))) S (wG 4 true 147 rfl rfl rfl hc212) rfl rfl rfl (bAdd _ _ _ _ s36 1) rfl (lb rfl) fun a S => ?_
      exact leafL ⟨rfl, S⟩
    · refine fI 158 q245 [(155, .slice ad24 r21.length cp25), (157, iv (w64 (s36 + 1))), (147, .bool (decide (s36 < (p0.length : Int))))] 15 [some 12, some 14, some 4] rfl rfl rfl rfl rfl rfl fun G a w S => ?_
      refine sIdxV (v := .slice ad24 r21.length cp25) (k := .i64) (j := w64 (s36 + 1)) S (wG 4 true 147 rfl rfl rfl hc212) rfl rfl rfl hq246 rfl (lb rfl) fun a S => ?_
      exact leafL ⟨rfl, S⟩
    · refine fI 159 (.slice ad248 x225.length cp249) [(158, q245), (147, .bool (decide (s36 < (p0.length : Int))))] 16 [some 15, some 4] rfl rfl rfl rfl rfl rfl fun G a w S => ?_
      refine sLoadV1 (vq := q245) 3 (.slice ad248 x225.length cp249) S (wG 4 true 147 rfl rfl rfl hc212) rfl rfl rfl rfl rfl (lb rfl) fun a S => ?_
      exact leafL ⟨rfl, S⟩
    · refine fI 160 (iv s37) [(12, iv s37), (147, .bool (decide (s36 < (p0.length : Int))))] 17 [none, some 4] rfl rfl rfl rfl rfl rfl fun G a w S => ?_
      refine sMove (iv s37) S (wG 4 true 147 rfl rfl rfl hc212) (.inl rfl) rfl rfl (lb rfl) fun a S => ?_
      exact leafL ⟨rfl, S⟩
    · refine fI 161 q250 [(159, .slice ad248 x225.length cp249), (160, iv s37), (147, .bool (decide (s36 < (p0.length : Int))))] 18 [some 16, some 17, some 4] rfl rfl rfl rfl rfl rfl fun G a w S => ?_
      refine sIdxV (v := .slice ad248 x225.length cp249) (k := .i64) (j := s37) S (wG 4 true 147 rfl rfl rfl hc212) rfl rfl rfl hq251 rfl (lb rfl) fun a S => ?_
      exact leafL ⟨rfl, S⟩
    · refine fI 162 (iv x232) [(161, q250), (147, .bool (decide (s36 < (p0.length : Int))))] 19 [some 18, some 4] rfl rfl rfl rfl rfl rfl fun G a w S => ?_
      refine sLoadV1 (vq := q250) 0 (iv x232) S (wG 4 true 147 rfl rfl rfl hc212) rfl rfl rfl rfl rfl (lb rfl) fun a S => ?_
      exact leafL ⟨rfl, S⟩
    · refine fI 163 (iv (w64 (x232 + 1))) [(162, iv x232), (147, .bool (decide (s36 < (p0.length : Int))))] 20 [some 19, some 4] rfl rfl rfl rfl rfl rfl fun G a w S => ?_
      refine sBin (iv (w64 (x232 + 1))) S (wG 4 true 147 rfl rfl rfl hc212) rfl rfl rfl (bAdd _ _ _ _ x232 1) rfl (lb rfl) fun a S => ?_
      exact leafL ⟨rfl, S⟩
    · refine fI 164 (.bool (x220 == (w64 (x232 + 1)))) [(154, iv x220), (163, iv (w64 (x232 + 1))), (147, .bool (decide (s36 < (p0.length : Int))))] 21 [some 11, some 20, some 4] rfl rfl rfl rfl rfl rfl fun G a w S => ?_
      refine sBin (.bool (x220 == (w64 (x232 + 1)))) S (wG 4 true 147 rfl rfl rfl hc212) rfl rfl rfl (bEq _ _ _ _ .i64 x220 (w64 (x232 + 1))) rfl (lb rfl) fun a S => ?_
      exact leafL ⟨rfl, S⟩
    · refine fI 165 (.bool (x220 == (w64 (x232 + 1)))) [(147, .bool (decide (s36 < (p0.length : Int)))), (164, .bool (x220 == (w64 (x232 + 1))))] 22 [some 4, some 21] rfl rfl rfl rfl rfl rfl fun G a w S => ?_
      refine sPickT (.bool (x220 == (w64 (x232 + 1)))) S (wN rfl) rfl rfl hc212 rfl rfl (lb rfl) fun a S => ?_
      exact leafL ⟨rfl, S⟩
    · refine fI 142 (.bool (x220 == (w64 (x232 + 1)))) [(165, .bool (x220 == (w64 (x232 + 1))))] 23 [some 22] rfl rfl rfl rfl rfl rfl fun G a w S => ?_
      refine sMove (.bool (x220 == (w64 (x232 + 1)))) S (wN rfl) (.inr rfl) rfl rfl (lb rfl) fun a S => ?_
      exact leafL ⟨rfl, S⟩
    exact leafT (⟨x220 == (w64 (x232 + 1)), Option.some.inj h, S.fix [0] [12, 13, 14] (by decide) rfl rfl rfl⟩)
  rcases iteSome h with ⟨hc132, h⟩ | ⟨hc132, h⟩
  rotate_left
  · refine sDraw (nf := []) (W := [(0, 98, .bool o50), (1, 99, .bool o50), (2, 100, undef), (3, 101, undef), (4, 102, undef), (5, 103, undef), (6, 104, undef), (7, 105, undef), (8, 106, undef), (9, 107, undef), (10, 108, undef), (11, 109, .bool false), (12, 110, .bool false), (13, 111, undef), (14, 112, undef), (15, 113, undef), (16, 114, undef), (17, 115, undef), (18, 116, undef), (19, 117, undef), (20, 118, undef), (21, 119, undef), (22, 120, undef), (23, 121, undef), (24, 122, undef), (25, 123, undef), (26, 124, undef), (27, 125, undef), (28, 126, undef), (29, 127, undef), (30, 128, undef), (31, 129, .bool false), (32, 97, .bool false)]) rfl S ?_
    refine node_by (A := anc_raddleref46_Edits_1) (nf := []) (Y := []) (W := [(0, 98, .bool o50), (1, 99, .bool o50), (2, 100, undef), (3, 101, undef), (4, 102, undef), (5, 103, undef), (6, 104, undef), (7, 105, undef), (8, 106, undef), (9, 107, undef), (10, 108, undef), (11, 109, .bool false), (12, 110, .bool false), (13, 111, undef), (14, 112, undef), (15, 113, undef), (16, 114, undef), (17, 115, undef), (18, 116, undef), (19, 117, undef), (20, 118, undef), (21, 119, undef), (22, 120, undef), (23, 121, undef), (24, 122, undef), (25, 123, undef), (26, 124, undef), (27, 125, undef), (28, 126, undef), (29, 127, undef), (30, 128, undef), (31, 129, .bool false), (32, 97, .bool false)]) 33 (by kernel_rfl) (by kernel_rfl) (by kernel_rfl) (by kernel_rfl) (by kernel_rfl) [0, 1, 2, 3, 4, 5, 6, 7, 8, 9, 10, 11, 12, 13, 14, 15, 16, 17, 18, 19, 20, 21, 22, 23, 24, 25, 26, 27, 28, 29, 30, 31, 32] (by kernel_rfl) (by decide) (by decide) (aF 0 32 (by decide) ?_ (aF 1 31 (by decide) ?_ (aF 2 30 (by decide) ?_ (aF 3 29 (by decide) ?_ (aF 4 28 (by decide) ?_ (aF 5 27 (by decide) ?_ (aF 6 26 (by decide) ?_ (aF 7 25 (by decide) ?_ (aF 8 24 (by decide) ?_ (aF 9 23 (by decide) ?_ (aF 10 22 (by decide) ?_ (aF 11 21 (by decide) ?_ (aF 12 20 (by decide) ?_ (aF 13 19 (by decide) ?_ (aF 14 18 (by decide) ?_ (aF 15 17 (by decide) ?_ (aF 16 16 (by decide) ?_ (aF 17 15 (by decide) ?_ (aF 18 14 (by decide) ?_ (aF 19 13 (by decide) ?_ (aF 20 12 (by decide) ?_ (aF 21 11 (by decide) ?_ (aF 22 10 (by decide) ?_ (aF 23 9 (by decide) ?_ (aF 24 8 (by decide) ?_ (aF 25 7 (by decide) ?_ (aF 26 6 (by decide) ?_ (aF 27 5 (by decide) ?_ (aF 28 4 (by decide) ?_ (aF 29 3 (by decide) ?_ (aF 30 2 (by decide) ?_ (aF 31 1 (by decide) ?_ (aF 32 0 (by decide) ?_ (trivial)))))))))))))))))))))))))))))))))) [(0, .slice ad1 p0.length cp2), (1, .slice ad3 p1.length cp4), (9, .slice ad24 r21.length cp25), (10, .slice ad34 s33.length cp35), (11, iv s36), (12, iv s37), (97, .bool false), (100, undef), (101, undef), (102, undef), (103, undef), (104, undef), (105, undef), (106, undef), (107, undef), (108, undef), (111, undef), (112, undef), (113, undef), (114, undef), (115, undef), (116, undef), (117, undef), (118, undef), (119, undef), (120, undef), (121, undef), (122, undef), (123, undef), (124, undef), (125, undef), (126, undef), (127, undef), (128, undef)] (fin_of [none, none, none, none, none, none, some 32, some 2, some 3, some 4, some 5, some 6, some 7, some 8, some 9, some 10, some 13, some 14, some 15, some 16, some 17, some 18, some 19, some 20, some 21, some 22, some 23, some 24, some 25, some 26, some 27, some 28, some 29, some 30] rfl (by kernel_rfl) (by kernel_rfl)) (fun _ a w S => ?_)
    · refine fI 98 (.bool o50) [(13, .bool o50)] 0 [none] rfl rfl rfl rfl rfl rfl fun G a w S => ?_
      refine sMove (.bool o50) S (wN rfl) (.inl rfl) rfl rfl (lb rfl) fun a S => ?_
      exact leafL ⟨rfl, S⟩
    · refine fI 99 (.bool o50) [(98, .bool o50)] 1 [some 0] rfl rfl rfl rfl rfl rfl fun G a w S => ?_
      refine sMove (.bool o50) S (wN rfl) (.inl rfl) rfl rfl (lb rfl) fun a S => ?_
      exact leafL ⟨rfl, S⟩
    · refine fI 100 undef [(0, .slice ad1 p0.length cp2), (99, .bool o50)] 2 [none, some 1] rfl rfl rfl rfl rfl rfl fun G a w S => ?_
      refine sSkip 1 true 99 100 S rfl rfl rfl hc132 rfl (lb rfl) fun a S => ?_
      exact leafL ⟨rfl, S⟩
    · refine fI 101 undef [(11, iv s36), (99, .bool o50)] 3 [none, some 1] rfl rfl rfl rfl rfl rfl fun G a w S => ?_
      refine sSkip 1 true 99 101 S rfl rfl rfl hc132 rfl (lb rfl) fun a S => ?_
      exact leafL ⟨rfl, S⟩
    · refine fI 102 undef [(100, undef), (101, undef), (99, .bool o50)] 4 [some 2, some 3, some 1] rfl rfl rfl rfl rfl rfl fun G a w S => ?_
      refine sSkip 1 true 99 102 S rfl rfl rfl hc132 rfl (lb rfl) fun a S => ?_
      exact leafL ⟨rfl, S⟩
    · refine fI 103 undef [(102, undef), (99, .bool o50)] 5 [some 4, some 1] rfl rfl rfl rfl rfl rfl fun G a w S => ?_
      refine sSkip 1 true 99 103 S rfl rfl rfl hc132 rfl (lb rfl) fun a S => ?_
      exact leafL ⟨rfl, S⟩
    · refine fI 104 undef [(1, .slice ad3 p1.length cp4), (99, .bool o50)] 6 [none, some 1] rfl rfl rfl rfl rfl rfl fun G a w S => ?_
      refine sSkip 1 true 99 104 S rfl rfl rfl hc132 rfl (lb rfl) fun a S => ?_
      exact leafL ⟨rfl, S⟩
    · refine fI 105 undef [(12, iv s37), (99, .bool o50)] 7 [none, some 1] rfl rfl rfl rfl rfl rfl fun G a w S => ?_
      refine sSkip 1 true 99 105 S rfl rfl rfl hc132 rfl (lb rfl) fun a S => ?_
      exact leafL ⟨rfl, S⟩
    · refine fI 106 undef [(104, undef), (105, undef), (99, .bool o50)] 8 [some 6, some 7, some 1] rfl rfl rfl rfl rfl rfl fun G a w S => ?_
      refine sSkip 1 true 99 106 S rfl rfl rfl hc132 rfl (lb rfl) fun a S => ?_
      exact leafL ⟨rfl, S⟩
    · refine fI 107 undef [(106, undef), (99, .bool o50)] 9 [some 8, some 1] rfl rfl rfl rfl rfl rfl fun G a w S => ?_
      refine sSkip 1 true 99 107 S rfl rfl rfl hc132 rfl (lb rfl) fun a S => ?_
      exact leafL ⟨rfl, S⟩
    · refine fI 108 undef [(103, undef), (107, undef), (99, .bool o50)] 10 [some 5, some 9, some 1] rfl rfl rfl rfl rfl rfl fun G a w S => ?_
      refine sSkip 1 true 99 108 S rfl rfl rfl hc132 rfl (lb rfl) fun a S => ?_
      exact leafL ⟨rfl, S⟩
    · refine fI 109 (.bool false) [(99, .bool o50), (108, undef)] 11 [some 1, some 10] rfl rfl rfl rfl rfl rfl fun G a w S => ?_
      refine sPickF (.bool false) S (wN rfl) rfl rfl hc132 rfl rfl (lb rfl) fun a S => ?_
      exact leafL ⟨rfl, S⟩
    · refine fI 110 (.bool false) [(109, .bool false)] 12 [some 11] rfl rfl rfl rfl rfl rfl fun G a w S => ?_
      refine sMove (.bool false) S (wN rfl) (.inl rfl) rfl rfl (lb rfl) fun a S => ?_
      exact leafL ⟨rfl, S⟩
    · refine fI 111 undef [(9, .slice ad24 r21.length cp25), (110, .bool false)] 13 [none, some 12] rfl rfl rfl rfl rfl rfl fun G a w S => ?_
      refine sSkip 12 true 110 111 S rfl rfl rfl rfl rfl (lb rfl) fun a S => ?_
      exact leafL ⟨rfl, S⟩
    · refine fI 112 undef [(11, iv s36), (110, .bool false)] 14 [none, some 12] rfl rfl rfl rfl rfl rfl fun G a w S => ?_
      refine sSkip 12 true 110 112 S rfl rfl rfl rfl rfl (lb rfl) fun a S => ?_
      exact leafL ⟨rfl, S⟩
    · refine fI 113 undef [(111, undef), (112, undef), (110, .bool false)] 15 [some 13, some 14, some 12] rfl rfl rfl rfl rfl rfl fun G a w S => ?_
      refine sSkip 12 true 110 113 S rfl rfl rfl rfl rfl (lb rfl) fun a S => ?_
      exact leafL ⟨rfl, S⟩
    · refine fI 114 undef [(113, undef), (110, .bool false)] 16 [some 15, some 12] rfl rfl rfl rfl rfl rfl fun G a w S => ?_
      refine sSkip 12 true 110 114 S rfl rfl rfl rfl rfl (lb rfl) fun a S => ?_
      exact leafL ⟨rfl, S⟩
    · refine fI 115 undef [(12, iv s37), (110, .bool false)] 17 [none, some 12] rfl rfl rfl rfl rfl rfl fun G a w S => ?_
      refine sSkip 12 true 110 115 S rfl rfl rfl rfl rfl (lb rfl) fun a S => ?_
      exact leafL ⟨rfl, S⟩
    · refine fI 116 undef [(114, undef), (115, undef), (110, .bool false)] 18 [some 16, some 17, some 12] rfl rfl rfl rfl rfl rfl fun G a w S => ?_
      refine sSkip 12 true 110 116 S rfl rfl rfl rfl rfl (lb rfl) fun a S => ?_
      exact leafL ⟨rfl, S⟩
    · refine fI 117 undef [(116, undef), (110, .bool false)] 19 [some 18, some 12] rfl rfl rfl rfl rfl rfl fun G a w S => ?_
      refine sSkip 12 true 110 117 S rfl rfl rfl rfl rfl (lb rfl) fun a S => ?_
      exact leafL ⟨rfl, S⟩
    · refine fI 118 undef [(9, .slice ad24 r21.length cp25), (110, .bool false)] 20 [none, some 12] rfl rfl rfl rfl rfl rfl fun G a w S => ?_
      refine sSkip 12 true 110 118 S rfl rfl rfl rfl rfl (lb rfl) fun a S => ?_
      exact leafL ⟨rfl, S⟩
    · refine fI 119 undef [(11, iv s36), (110, .bool false)] 21 [none, some 12] rfl rfl rfl rfl rfl rfl fun G a w S => ?_
      refine sSkip 12 true 110 119 S rfl rfl rfl rfl rfl (lb rfl) fun a S => ?_
      exact leafL ⟨rfl, S⟩
    · refine fI 120 undef [(119, undef), (110, .bool false)] 22 [some 21, some 12] rfl rfl rfl rfl rfl rfl fun G a w S => ?_
      refine sSkip 12 true 110 120 S rfl rfl rfl rfl rfl (lb rfl) fun a S => ?_
      exact leafL ⟨rfl, S⟩
    · refine fI 121 undef [(118, undef), (120, undef), (110, .bool false)] 23 [some 20, some 22, some 12] rfl rfl rfl rfl rfl rfl fun G a w S => ?_
      refine sSkip 12 true 110 121 S rfl rfl rfl rfl rfl (lb rfl) fun a S => ?_
      exact leafL ⟨rfl, S⟩
    · refine fI 122 undef [(121, undef), (110, .bool false)] 24 [some 23, some 12] rfl rfl rfl rfl rfl rfl fun G a w S => ?_
      refine sSkip 12 true 110 122 S rfl rfl rfl rfl rfl (lb rfl) fun a S => ?_
      exact leafL ⟨rfl, S⟩
    · refine fI 123 undef [(12, iv s37), (110, .bool false)] 25 [none, some 12] rfl rfl rfl rfl rfl rfl fun G a w S => ?_
      refine sSkip 12 true 110 123 S rfl rfl rfl rfl rfl (lb rfl) fun a S => ?_
      exact leafL ⟨rfl, S⟩
    · refine fI 124 undef [(123, undef), (110, .bool false)] 26 [some 25, some 12] rfl rfl rfl rfl rfl rfl fun G a w S => ?_
      refine sSkip 12 true 110 124 S rfl rfl rfl rfl rfl (lb rfl) fun a S => ?_
      exact leafL ⟨rfl, S⟩
    · refine fI 125 undef [(122, undef), (124, undef), (110, .bool false)] 27 [some 24, some 26, some 12] rfl rfl rfl rfl rfl rfl fun G a w S => ?_
      refine sSkip 12 true 110 125 S rfl rfl rfl rfl rfl (lb rfl) fun a S => ?_
      exact leafL ⟨rfl, S⟩
    · refine fI 126 undef [(125, undef), (110, .bool false)] 28 [some 27, some 12] rfl rfl rfl rfl rfl rfl fun G a w S => ?_
      refine sSkip 12 true 110 126 S rfl rfl rfl rfl rfl (lb rfl) fun a S => ?_
      exact leafL ⟨rfl, S⟩
    · refine fI 127 undef [(126, undef), (110, .bool false)] 29 [some 28, some 12] rfl rfl rfl rfl rfl rfl fun G a w S => ?_
      refine sSkip 12 true 110 127 S rfl rfl rfl rfl rfl (lb rfl) fun a S => ?_
      exact leafL ⟨rfl, S⟩
    · refine fI 128 undef [(117, undef), (127, undef), (110, .bool false)] 30 [some 19, some 29, some 12] rfl rfl rfl rfl rfl rfl fun G a w S => ?_
      refine sSkip 12 true 110 128 S rfl rfl rfl rfl rfl (lb rfl) fun a S => ?_
      exact leafL ⟨rfl, S⟩
    · refine fI 129 (.bool false) [(110, .bool false), (128, undef)] 31 [some 12, some 30] rfl rfl rfl rfl rfl rfl fun G a w S => ?_
      refine sPickF (.bool false) S (wN rfl) rfl rfl rfl rfl rfl (lb rfl) fun a S => ?_
      exact leafL ⟨rfl, S⟩
    · refine fI 97 (.bool false) [(129, .bool false)] 32 [some 31] rfl rfl rfl rfl rfl rfl fun G a w S => ?_
      refine sMove (.bool false) S (wN rfl) (.inr rfl) rfl rfl (lb rfl) fun a S => ?_
      exact leafL ⟨rfl, S⟩
    exact leafT (⟨false, Option.some.inj h, S.fix [0] [0, 1, 2] (by decide) rfl rfl rfl⟩)
  obtain ⟨x133, hx134, h⟩ := bindSome h
  obtain ⟨x138, hx139, h⟩ := bindSome h
  rcases iteSome h with ⟨hc143, h⟩ | ⟨hc143, h⟩
  rotate_left
  · obtain ⟨q190, hq191, S⟩ := pIdx (P := Try.prog) (r := r_api_Stitch) (v := .slice ad1 p0.length cp2) (xs := p0) (j := s36) 47 81 0 S Try.underlying47 rfl rfl hx134
    obtain ⟨u192, S⟩ := pLoad (r := r_api_Stitch) (q := q190) (x := x133) 0 S rfl
    obtain rfl : u192 = .agg #[.int .u8 x133.Kind, .bool x133.Purl, iv x133.A, iv x133.B] := S.mem.know (i := 1) (e := fRep r_api_Stitch (u192) x133) rfl
    obtain ⟨q193, hq194, S⟩ := pIdx (P := Try.prog) (r := r_api_Stitch) (v := .slice ad3 p1.length cp4) (xs := p1) (j := s37) 47 81 4 S Try.underlying47 rfl rfl hx139
    obtain ⟨u195, S⟩ := pLoad (r := r_api_Stitch) (q := q193) (x := x138) 0 S rfl
    obtain rfl : u195 = .agg #[.int .u8 x138.Kind, .bool x138.Purl, iv x138.A, iv x138.B] := S.mem.know (i := 1) (e := fRep r_api_Stitch (u195) x138) rfl
    refine sDraw (nf := []) (W := [(0, 98, .bool o50), (1, 99, .bool o50), (2, 100, .slice ad1 p0.length cp2), (3, 101, iv s36), (4, 102, q190), (5, 103, .agg #[.int .u8 x133.Kind, .bool x133.Purl, iv x133.A, iv x133.B]), (6, 104, .slice ad3 p1.length cp4), (7, 105, iv s37), (8, 106, q193), (9, 107, .agg #[.int .u8 x138.Kind, .bool x138.Purl, iv x138.A, iv x138.B]), (10, 108, .bool (!((x133.Kind == x138.Kind) && ((x133.Purl == x138.Purl) && ((x133.A == x138.A) && ((x133.B == x138.B) && true)))))), (11, 109, .bool (!((x133.Kind == x138.Kind) && ((x133.Purl == x138.Purl) && ((x133.A == x138.A) && ((x133.B == x138.B) && true)))))), (12, 110, .bool (!((x133.Kind == x138.Kind) && ((x133.Purl == x138.Purl) && ((x133.A == x138.A) && ((x133.B == x138.B) && true)))))), (13, 111, undef), (14, 112, undef), (15, 113, undef), (16, 114, undef), (17, 115, undef), (18, 116, undef), (19, 117, undef), (20, 118, undef), (21, 119, undef), (22, 120, undef), (23, 121, undef), (24, 122, undef), (25, 123, undef), (26, 124, undef), (27, 125, undef), (28, 126, undef), (29, 127, undef), (30, 128, undef), (31, 129, .bool false), (32, 97, .bool false)]) rfl S ?_
    refine node_by (A := anc_raddleref46_Edits_1) (nf := []) (Y := []) (W := [(0, 98, .bool o50), (1, 99, .bool o50), (2, 100, .slice ad1 p0.length cp2), (3, 101, iv s36), (4, 102, q190), (5, 103, .agg #[.int .u8 x133.Kind, .bool x133.Purl, iv x133.A, iv x133.B]), (6, 104, .slice ad3 p1.length cp4), (7, 105, iv s37), (8, 106, q193), (9, 107, .agg #[.int .u8 x138.Kind, .bool x138.Purl, iv x138.A, iv x138.B]), (10, 108, .bool (!((x133.Kind == x138.Kind) && ((x133.Purl == x138.Purl) && ((x133.A == x138.A) && ((x133.B == x138.B) && true)))))), (11, 109, .bool (!((x133.Kind == x138.Kind) && ((x133.Purl == x138.Purl) && ((x133.A == x138.A) && ((x133.B == x138.B) && true)))))), (12, 110, .bool (!((x133.Kind == x138.Kind) && ((x133.Purl == x138.Purl) && ((x133.A == x138.A) && ((x133.B == x138.B) && true)))))), (13, 111, undef), (14, 112, undef), (15, 113, undef), (16, 114, undef), (17, 115, undef), (18, 116, undef), (19, 117, undef), (20, 118, undef), (21, 119, undef), (22, 120, undef), (23, 121, undef), (24, 122, undef), (25, 123, undef), (26, 124, undef), (27, 125, undef), (28, 126, undef), (29, 127, undef), (30, 128, undef), (31, 129, .bool false), (32, 97, .bool false)]) 33 (by kernel_rfl) (by kernel_rfl) (by kernel_rfl) (by kernel_rfl) (by kernel_rfl) [0, 1, 2, 3, 4, 5, 6, 7, 8, 9, 10, 11, 12, 13, 14, 15, 16, 17, 18, 19, 20, 21, 22, 23, 24, 25, 26, 27, 28, 29, 30, 31, 32] (by kernel_rfl) (by decide) (by decide) (aF 0 32 (by decide) ?_ (aF 1 31 (by decide) ?_ (aF 2 30 (by decide) ?_ (aF 3 29 (by decide) ?_ (aF 4 28 (by decide) ?_ (aF 5 27 (by decide) ?_ (aF 6 26 (by decide) ?_ (aF 7 25 (by decide) ?_ (aF 8 24 (by decide) ?_ (aF 9 23 (by decide) ?_ (aF 10 22 (by decide) ?_ (aF 11 21 (by decide) ?_ (aF 12 20 (by decide) ?_ (aF 13 19 (by decide) ?_ (aF 14 18 (by decide) ?_ (aF 15 17 (by decide) ?_ (aF 16 16 (by decide) ?_ (aF 17 15 (by decide) ?_ (aF 18 14 (by decide) ?_ (aF 19 13 (by decide) ?_ (aF 20 12 (by decide) ?_ (aF 21 11 (by decide) ?_ (aF 22 10 (by decide) ?_ (aF 23 9 (by decide) ?_ (aF 24 8 (by decide) ?_ (aF 25 7 (by decide) ?_ (aF 26 6 (by decide) ?_ (aF 27 5 (by decide) ?_ (aF 28 4 (by decide) ?_ (aF 29 3 (by decide) ?_ (aF 30 2 (by decide) ?_ (aF 31 1 (by decide) ?_ (aF 32 0 (by decide) ?_ (trivial)))))))))))))))))))))))))))))))))) [(0, .slice ad1 p0.length cp2), (1, .slice ad3 p1.length cp4), (9, .slice ad24 r21.length cp25), (10, .slice ad34 s33.length cp35), (11, iv s36), (12, iv s37), (97, .bool false), (100, .slice ad1 p0.length cp2), (101, iv s36), (102, q190), (103, .agg #[.int .u8 x133.Kind, .bool x133.Purl, iv x133.A, iv x133.B]), (104, .slice ad3 p1.length cp4), (105, iv s37), (106, q193), (107, .agg #[.int .u8 x138.Kind, .bool x138.Purl, iv x138.A, iv x138.B]), (108, .bool (!((x133.Kind == x138.Kind) && ((x133.Purl == x138.Purl) && ((x133.A == x138.A) && ((x133.B == x138.B) && true)))))), (111, undef), (112, undef), (113, undef), (114, undef), (115, undef), (116, undef), (117, undef), (118, undef), (119, undef), (120, undef), (121, undef), (122, undef), (123, undef), (124, undef), (125, undef), (126, undef), (127, undef), (128, undef)] (fin_of [none, none, none, none, none, none, some 32, some 2, some 3, some 4, some 5, some 6, some 7, some 8, some 9, some 10, some 13, some 14, some 15, some 16, some 17, some 18, some 19, some 20, some 21, some 22, some 23, some 24, some 25, some 26, some 27, some 28, some 29, some 30] rfl (by kernel_rfl) (by kernel_rfl)) (fun _ a w S => ?_)
    · refine fI 98 (.bool o50) [(13, .bool o50)] 0 [none] rfl rfl rfl rfl rfl rfl fun G a w S => ?_
      refine sMove (.bool o50) S (wN rfl) (.inl rfl) rfl rfl (lb rfl) fun a S => ?_
      exact leafL ⟨rfl, S⟩
    · refine fI 99 (.bool o50) [(98, .bool o50)] 1 [some 0] rfl rfl rfl rfl rfl rfl fun G a w S => ?_
      refine sMove (.bool o50) S (wN rfl) (.inl rfl) rfl rfl (lb rfl) fun a S => ?_
      exact leafL ⟨rfl, S⟩
    · refine fI 100 (.slice ad1 p0.length cp2) [(0, .slice ad1 p0.length cp2), (99, .bool o50)] 2 [none, some 1] rfl rfl rfl rfl rfl rfl fun G a w S => ?_
      refine sMove (.slice ad1 p0.length cp2) S (wG 1 true 99 rfl rfl rfl hc132) (.inl rfl) rfl rfl (lb rfl) fun a S => ?_
      exact leafL ⟨rfl, S⟩
    · refine fI 101 (iv s36) [(11, iv s36), (99, .bool o50)] 3 [none, some 1] rfl rfl rfl rfl rfl rfl fun G a w S => ?_
      refine sMove (iv s36) S (wG 1 true 99 rfl rfl rfl hc132) (.inl rfl) rfl rfl (lb rfl) fun a S => ?_
      exact leafL ⟨rfl, S⟩
    · refine fI 102 q190 [(100, .slice ad1 p0.length cp2), (101, iv s36), (99, .bool o50)] 4 [some 2, some 3, some 1] rfl rfl rfl rfl rfl rfl fun G a w S => ?_
      refine sIdxV (v := .slice ad1 p0.length cp2) (k := .i64) (j := s36) S (wG 1 true 99 rfl rfl rfl hc132) rfl rfl rfl hq191 rfl (lb rfl) fun a S => ?_
      exact leafL ⟨rfl, S⟩
    · refine fI 103 (.agg #[.int .u8 x133.Kind, .bool x133.Purl, iv x133.A, iv x133.B]) [(102, q190), (99, .bool o50)] 5 [some 4, some 1] rfl rfl rfl rfl rfl rfl fun G a w S => ?_
      refine sLoadVN (vq := q190) 3 [.int .u8 x133.Kind, .bool x133.Purl, iv x133.A, iv x133.B] S (wG 1 true 99 rfl rfl rfl hc132) rfl rfl rfl rfl rfl rfl (lb rfl) fun a S => ?_
      exact leafL ⟨rfl, S⟩
    · refine fI 104 (.slice ad3 p1.length cp4) [(1, .slice ad3 p1.length cp4), (99, .bool o50)] 6 [none, some 1] rfl rfl rfl rfl rfl rfl fun G a w S => ?_
      refine sMove (.slice ad3 p1.length cp4) S (wG 1 true 99 rfl rfl rfl hc132) (.inl rfl) rfl rfl (lb rfl) fun a S => ?_
      exact leafL ⟨rfl, S⟩
    · refine fI 105 (iv s37) [(12, iv s37), (99, .bool o50)] 7 [none, some 1] rfl rfl rfl rfl rfl rfl fun G a w S => ?_
      refine sMove (iv s37) S (wG 1 true 99 rfl rfl rfl hc132) (.inl rfl) rfl rfl (lb rfl) fun a S => ?_
      exact leafL ⟨rfl, S⟩
    · refine fI 106 q193 [(104, .slice ad3 p1.length cp4), (105, iv s37), (99, .bool o50)] 8 [some 6, some 7, some 1] rfl rfl rfl rfl rfl rfl fun G a w S => ?_
      refine sIdxV (v := .slice ad3 p1.length cp4) (k := .i64) (j := s37) S (wG 1 true 99 rfl rfl rfl hc132) rfl rfl rfl hq194 rfl (lb rfl) fun a S => ?_
      exact leafL ⟨rfl, S⟩
    · refine fI 107 (.agg #[.int .u8 x138.Kind, .bool x138.Purl, iv x138.A, iv x138.B]) [(106, q193), (99, .bool o50)] 9 [some 8, some 1] rfl rfl rfl rfl rfl rfl fun G a w S => ?_
      refine sLoadVN (vq := q193) 0 [.int .u8 x138.Kind, .bool x138.Purl, iv x138.A, iv x138.B] S (wG 1 true 99 rfl rfl rfl hc132) rfl rfl rfl rfl rfl rfl (lb rfl) fun a S => ?_
      exact leafL ⟨rfl, S⟩
    · refine fI 108 (.bool (!((x133.Kind == x138.Kind) && ((x133.Purl == x138.Purl) && ((x133.A == x138.A) && ((x133.B == x138.B) && true)))))) [(103, .agg #[.int .u8 x133.Kind, .bool x133.Purl, iv x133.A, iv x133.B]), (107, .agg #[.int .u8 x138.Kind, .bool x138.Purl, iv x138.A, iv x138.B]), (99, .bool o50)] 10 [some 5, some 9, some 1] rfl rfl rfl rfl rfl rfl fun G a w S => ?_
      refine sBin (.bool (!((x133.Kind == x138.Kind) && ((x133.Purl == x138.Purl) && ((x133.A == x138.A) && ((x133.B == x138.B) && true)))))) S (wG 1 true 99 rfl rfl rfl hc132) rfl rfl rfl (bNeV _ _ _ _ #[.int .u8 x133.Kind, .bool x133.Purl, iv x133.A, iv x133.B] #[.int .u8 x138.Kind, .bool x138.Purl, iv x138.A, iv x138.B] ((x133.Kind == x138.Kind) && ((x133.Purl == x138.Purl) && ((x133.A == x138.A) && ((x133.B == x138.B) && true)))) (by kernel_rfl) (eqlV_of (by kernel_rfl))) rfl (lb rfl) fun a S => ?_
      exact leafL ⟨rfl, S⟩
    · refine fI 109 (.bool (!((x133.Kind == x138.Kind) && ((x133.Purl == x138.Purl) && ((x133.A == x138.A) && ((x133.B == x138.B) && true)))))) [(99, .bool o50), (108, .bool (!((x133.Kind == x138.Kind) && ((x133.Purl == x138.Purl) && ((x133.A == x138.A) && ((x133.B == x138.B) && true))))))] 11 [some 1, some 10] rfl rfl rfl rfl rfl rfl fun G a w S => ?_
      refine sPickT (.bool (!((x133.Kind == x138.Kind) && ((x133.Purl == x138.Purl) && ((x133.A == x138.A) && ((x133.B == x138.B) && true)))))) S (wN rfl) rfl rfl hc132 rfl rfl (lb rfl) fun a S => ?_
      exact leafL ⟨rfl, S⟩
    · refine fI 110 (.bool (!((x133.Kind == x138.Kind) && ((x133.Purl == x138.Purl) && ((x133.A == x138.A) && ((x133.B == x138.B) && true)))))) [(109, .bool (!((x133.Kind == x138.Kind) && ((x133.Purl == x138.Purl) && ((x133.A == x138.A) && ((x133.B == x138.B) && true))))))] 12 [some 11] rfl rfl rfl rfl rfl rfl fun G a w S => ?_
      refine sMove (.bool (!((x133.Kind == x138.Kind) && ((x133.Purl == x138.Purl) && ((x133.A == x138.A) && ((x133.B == x138.B) && true)))))) S (wN rfl) (.inl rfl) rfl rfl (lb rfl) fun a S => ?_
      exact leafL ⟨rfl, S⟩
    · refine fI 111 undef [(9, .slice ad24 r21.length cp25), (110, .bool (!((x133.Kind == x138.Kind) && ((x133.Purl == x138.Purl) && ((x133.A == x138.A) && ((x133.B == x138.B) && true))))))] 13 [none, some 12] rfl rfl rfl rfl rfl rfl fun G a w S => ?_
      refine sSkip 12 true 110 111 S rfl rfl rfl hc143 rfl (lb rfl) fun a S => ?_
      exact leafL ⟨rfl, S⟩
    · refine fI 112 undef [(11, iv s36), (110, .bool (!((x133.Kind == x138.Kind) && ((x133.Purl == x138.Purl) && ((x133.A == x138.A) && ((x133.B == x138.B) && true))))))] 14 [none, some 12] rfl rfl rfl rfl rfl rfl fun G a w S => ?_
      refine sSkip 12 true 110 112 S rfl rfl rfl hc143 rfl (lb rfl) fun a S => ?_
      exact leafL ⟨rfl, S⟩
    · refine fI 113 undef [(111, undef), (112, undef), (110, .bool (!((x133.Kind == x138.Kind) && ((x133.Purl == x138.Purl) && ((x133.A == x138.A) && ((x133.B == x138.B) && true))))))] 15 [some 13, some 14, some 12] rfl rfl rfl rfl rfl rfl fun G a w S => ?_
      refine sSkip 12 true 110 113 S rfl rfl rfl hc143 rfl (lb rfl) fun a S => ?_
      exact leafL ⟨rfl, S⟩
    · refine fI 114 undef [(113, undef), (110, .bool (!((x133.Kind == x138.Kind) && ((x133.Purl == x138.Purl) && ((x133.A == x138.A) && ((x133.B == x138.B) && true))))))] 16 [some 15, some 12] rfl rfl rfl rfl rfl rfl fun G a w S => ?_
      refine sSkip 12 true 110 114 S rfl rfl rfl hc143 rfl (lb rfl) fun a S => ?_
      exact leafL ⟨rfl, S⟩
    · refine fI 115 undef [(12, iv s37), (110, .bool (!((x133.Kind == x138.Kind) && ((x133.Purl == x138.Purl) && ((x133.A == x138.A) && ((x133.B == x138.B) && true))))))] 17 [none, some 12] rfl rfl rfl rfl rfl rfl fun G a w S => ?_
      refine sSkip 12 true 110 115 S rfl rfl rfl hc143 rfl (lb rfl) fun a S => ?_
      exact leafL ⟨rfl, S⟩
    · refine fI 116 undef [(114, undef), (115, undef), (110, .bool (!((x133.Kind == x138.Kind) && ((x133.Purl == x138.Purl) && ((x133.A == x138.A) && ((x133.B == x138.B) && true))))))] 18 [some 16, some 17, some 12] rfl rfl rfl rfl rfl rfl fun G a w S => ?_
      refine sSkip 12 true 110 116 S rfl rfl rfl hc143 rfl (lb rfl) fun a S => ?_
      exact leafL ⟨rfl, S⟩
    · refine fI 117 undef [(116, undef), (110, .bool (!((x133.Kind == x138.Kind) && ((x133.Purl == x138.Purl) && ((x133.A == x138.A) && ((x133.B == x138.B) && true))))))] 19 [some 18, some 12] rfl rfl rfl rfl rfl rfl fun G a w S => ?_
      refine sSkip 12 true 110 117 S rfl rfl rfl hc143 rfl (lb rfl) fun a S => ?_
      exact leafL ⟨rfl, S⟩
    · refine fI 118 undef [(9, .slice ad24 r21.length cp25), (110, .bool (!((x133.Kind == x138.Kind) && ((x133.Purl == x138.Purl) && ((x133.A == x138.A) && ((x133.B == x138.B) && true))))))] 20 [none, some 12] rfl rfl rfl rfl rfl rfl fun G a w S => ?_
      refine sSkip 12 true 110 118 S rfl rfl rfl hc143 rfl (lb rfl) fun a S => ?_
      exact leafL ⟨rfl, S⟩
    · refine fI 119 undef [(11, iv s36), (110, .bool (!((x133.Kind == x138.Kind) && ((x133.Purl == x138.Purl) && ((x133.A == x138.A) && ((x133.B == x138.B) && true))))))] 21 [none, some 12] rfl rfl rfl rfl rfl rfl fun G a w S => ?_
      refine sSkip 12 true 110 119 S rfl rfl rfl hc143 rfl (lb rfl) fun a S => ?_
      exact leafL ⟨rfl, S⟩
    · refine fI 120 undef [(119, undef), (110, .bool (!((x133.Kind == x138.Kind) && ((x133.Purl == x138.Purl) && ((x133.A == x138.A) && ((x133.B == x138.B) && true))))))] 22 [some 21, some 12] rfl rfl rfl rfl rfl rfl fun G a w S => ?_
      refine sSkip 12 true 110 120 S rfl rfl rfl hc143 rfl (lb rfl) fun a S => ?_
      exact leafL ⟨rfl, S⟩
    · refine fI 121 undef [(118, undef), (120, undef), (110, .bool (!((x133.Kind == x138.Kind) && ((x133.Purl == x138.Purl) && ((x133.A == x138.A) && ((x133.B == x138.B) && true))))))] 23 [some 20, some 22, some 12] rfl rfl rfl rfl rfl rfl fun G a w S => ?_
      refine sSkip 12 true 110 121 S rfl rfl rfl hc143 rfl (lb rfl) fun a S => ?_
      exact leafL ⟨rfl, S⟩
    · refine fI 122 undef [(121, undef), (110, .bool (!((x133.Kind == x138.Kind) && ((x133.Purl == x138.Purl) && ((x133.A == x138.A) && ((x133.B == x138.B) && true))))))] 24 [some 23, some 12] rfl rfl rfl rfl rfl rfl fun G a w S => ?_
      refine sSkip 12 true 110 122 S rfl rfl rfl hc143 rfl (lb rfl) fun a S => ?_
      exact leafL ⟨rfl, S⟩
    · refine fI 123 undef [(12, iv s37), (110, .bool (!((x133.Kind == x138.Kind) && ((x133.Purl == x138.Purl) && ((x133.A == x138.A) && ((x133.B == x138.B) && true))))))] 25 [none, some 12] rfl rfl rfl rfl rfl rfl fun G a w S => ?_
      refine sSkip 12 true 110 123 S rfl rfl rfl hc143 rfl (lb rfl) fun a S => ?_
      exact leafL ⟨rfl, S⟩
    · refine fI 124 undef [(123, undef), (110, .bool (!((x133.Kind == x138.Kind) && ((x133.Purl == x138.Purl) && ((x133.A == x138.A) && ((x133.B == x138.B) && true))))))] 26 [some 25, some 12] rfl rfl rfl rfl rfl rfl fun G a w S => ?_
      refine sSkip 12 true 110 124 S rfl rfl rfl hc143 rfl (lb rfl) fun a S => ?_
      exact leafL ⟨rfl, S⟩
    · refine fI 125 undef [(122, undef), (124, undef), (110, .bool (!((x133.Kind == x138.Kind) && ((x133.Purl == x138.Purl) && ((x133.A == x138.A) && ((x133.B == x138.B) && true))))))] 27 [some 24, some 26, some 12] rfl rfl rfl rfl rfl rfl fun G a w S => ?_
      refine sSkip 12 true 110 125 S rfl rfl rfl hc143 rfl (lb rfl) fun a S => ?_
      exact leafL ⟨rfl, S⟩
    · refine fI 126 undef [(125, undef), (110, .bool (!((x133.Kind == x138.Kind) && ((x133.Purl == x138.Purl) && ((x133.A == x138.A) && ((x133.B == x138.B) && true))))))] 28 [some 27, some 12] rfl rfl rfl rfl rfl rfl fun G a w S => ?_
      refine sSkip 12 true 110 126 S rfl rfl rfl hc143 rfl (lb rfl) fun a S => ?_
      exact leafL ⟨rfl, S⟩
    · refine fI 127 undef [(126, undef), (110, .bool (!((x133.Kind == x138.Kind) && ((x133.Purl == x138.Purl) && ((x133.A == x138.A) && ((x133.B == x138.B) && true))))))] 29 [some 28, some 12] rfl rfl rfl rfl rfl rfl fun G a w S => ?_
      refine sSkip 12 true 110 127 S rfl rfl rfl hc143 rfl (lb rfl) fun a S => ?_
      exact leafL ⟨rfl, S⟩
    · refine fI 128 undef [(117, undef), (127, undef), (110, .bool (!((x133.Kind == x138.Kind) && ((x133.Purl == x138.Purl) && ((x133.A == x138.A) && ((x133.B == x138.B) && true))))))] 30 [some 19, some 29, some 12] rfl rfl rfl rfl rfl rfl fun G a w S => ?_
      refine sSkip 12 true 110 128 S rfl rfl rfl hc143 rfl (lb rfl) fun a S => ?_
      exact leafL ⟨rfl, S⟩
    · refine fI 129 (.bool false) [(110, .bool (!((x133.Kind == x138.Kind) && ((x133.Purl == x138.Purl) && ((x133.A == x138.A) && ((x133.B == x138.B) && true)))))), (128, undef)] 31 [some 12, some 30] rfl rfl rfl rfl rfl rfl fun G a w S => ?_
      refine sPickF (.bool false) S (wN rfl) rfl rfl hc143 rfl rfl (lb rfl) fun a S => ?_
      exact leafL ⟨rfl, S⟩
    · refine fI 97 (.bool false) [(129, .bool false)] 32 [some 31] rfl rfl rfl rfl rfl rfl fun G a w S => ?_
      refine sMove (.bool false) S (wN rfl) (.inr rfl) rfl rfl (lb rfl) fun a S => ?_
      exact leafL ⟨rfl, S⟩
    exact leafT (⟨false, Option.some.inj h, S.fix [0] [6, 7, 8] (by decide) rfl rfl rfl⟩)
  obtain ⟨x144, hx145, h⟩ := bindSome h
  obtain ⟨x151, hx152, h⟩ := bindSome h
  obtain ⟨x156, hx157, h⟩ := bindSome h
  obtain ⟨x163, hx164, h⟩ := bindSome h
  obtain ⟨q168, hq169, S⟩ := pIdx (P := Try.prog) (r := r_api_Stitch) (v := .slice ad1 p0.length cp2) (xs := p0) (j := s36) 47 81 0 S Try.underlying47 rfl rfl hx134
  obtain ⟨u170, S⟩ := pLoad (r := r_api_Stitch) (q := q168) (x := x133) 0 S rfl
  obtain rfl : u170 = .agg #[.int .u8 x133.Kind, .bool x133.Purl, iv x133.A, iv x133.B] := S.mem.know (i := 1) (e := fRep r_api_Stitch (u170) x133) rfl
  obtain ⟨q171, hq172, S⟩ := pIdx (P := Try.prog) (r := r_api_Stitch) (v := .slice ad3 p1.length cp4) (xs := p1) (j := s37) 47 81 4 S Try.underlying47 rfl rfl hx139
  obtain ⟨u173, S⟩ := pLoad (r := r_api_Stitch) (q := q171) (x := x138) 0 S rfl
  obtain rfl : u173 = .agg #[.int .u8 x138.Kind, .bool x138.Purl, iv x138.A, iv x138.B] := S.mem.know (i := 1) (e := fRep r_api_Stitch (u173) x138) rfl
  obtain ⟨q174, hq175, S⟩ := pIdx (P := Try.prog) (r := (rL (rI .i64))) (v := .slice ad24 r21.length cp25) (xs := r21) (j := s36) 98 101 8 S Try.underlying98 rfl rfl hx145
  obtain ⟨u176, S⟩ := pLoad (r := (rL (rI .i64))) (q := q174) (x := x144) 0 S rfl
  obtain ⟨ad177, cp178, _, rfl, _⟩ := S.mem.know (i := 1) (e := fRep (rL (rI .i64)) (u176) x144) rfl
  obtain ⟨q179, hq180, S⟩ := pIdx (P := Try.prog) (r := (rI .i64)) (v := .slice ad177 x144.length cp178) (xs := x144) (j := s37) 101 3 1 S Try.underlying101 rfl rfl hx152
  obtain ⟨u181, S⟩ := pLoad (r := (rI .i64)) (q := q179) (x := x151) 0 S rfl
  obtain rfl : u181 = iv x151 := S.mem.know (i := 1) (e := fRep (rI .i64) (u181) x151) rfl
  obtain ⟨q182, hq183, S⟩ := pIdx (P := Try.prog) (r := (rL (rI .i64))) (v := .slice ad24 r21.length cp25) (xs := r21) (j := w64 (s36 + 1)) 98 101 14 S Try.underlying98 rfl rfl hx157
  obtain ⟨u184, S⟩ := pLoad (r := (rL (rI .i64))) (q := q182) (x := x156) 0 S rfl
  obtain ⟨ad185, cp186, _, rfl, _⟩ := S.mem.know (i := 1) (e := fRep (rL (rI .i64)) (u184) x156) rfl
  obtain ⟨q187, hq188, S⟩ := pIdx (P := Try.prog) (r := (rI .i64)) (v := .slice ad185 x156.length cp186) (xs := x156) (j := w64 (s37 + 1)) 101 3 1 S Try.underlying101 rfl rfl hx164
  obtain ⟨u189, S⟩ := pLoad (r := (rI .i64)) (q := q187) (x := x163) 0 S rfl
  obtain rfl : u189 = iv x163 := S.mem.know (i := 1) (e := fRep (rI .i64) (u189) x163) rfl
  refine sDraw (nf := []) (W := [(0, 98, .bool o50), (1, 99, .bool o50), (2, 100, .slice ad1 p0.length cp2), (3, 101, iv s36), (4, 102, q168), (5, 103, .agg #[.int .u8 x133.Kind, .bool x133.Purl, iv x133.A, iv x133.B]), (6, 104, .slice ad3 p1.length cp4), (7, 105, iv s37), (8, 106, q171), (9, 107, .agg #[.int .u8 x138.Kind, .bool x138.Purl, iv x138.A, iv x138.B]), (10, 108, .bool (!((x133.Kind == x138.Kind) && ((x133.Purl == x138.Purl) && ((x133.A == x138.A) && ((x133.B == x138.B) && true)))))), (11, 109, .bool (!((x133.Kind == x138.Kind) && ((x133.Purl == x138.Purl) && ((x133.A == x138.A) && ((x133.B == x138.B) && true)))))), (12, 110, .bool (!((x133.Kind == x138.Kind) && ((x133.Purl == x138.Purl) && ((x133.A == x138.A) && ((x133.B == x138.B) && true)))))), (13, 111, .slice ad24 r21.length cp25), (14, 112, iv s36), (15, 113, q174), (16, 114, .slice ad177 x144.length cp178), (17, 115, iv s37), (18, 116, q179), (19, 117, iv x151), (20, 118, .slice ad24 r21.length cp25), (21, 119, iv s36), (22, 120, iv (w64 (s36 + 1))), (23, 121, q182), (24, 122, .slice ad185 x156.length cp186), (25, 123, iv s37), (26, 124, iv (w64 (s37 + 1))), (27, 125, q187), (28, 126, iv x163), (29, 127, iv (w64 (x163 + 1))), (30, 128, .bool (x151 == (w64 (x163 + 1)))), (31, 129, .bool (x151 == (w64 (x163 + 1)))), (32, 97, .bool (x151 == (w64 (x163 + 1))))]) rfl S ?_
  refine node_by (A := anc_raddleref46_Edits_1) (nf := []) (Y := []) (W := [(0, 98, .bool o50), (1, 99, .bool o50), (2, 100, .slice ad1 p0.length cp2), (3, 101, iv s36), (4, 102, q168), (5, 103, .agg #[.int .u8 x133.Kind, .bool x133.Purl, iv x133.A, iv x133.B]), (6, 104, .slice ad3 p1.length cp4), (7, 105, iv s37), (8, 106, q171), (9, 107, .agg #[.int .u8 x138.Kind, .bool x138.Purl, iv x138.A, iv x138.B]), (10, 108, .bool (!((x133.Kind == x138.Kind) && ((x133.Purl == x138.Purl) && ((x133.A == x138.A) && ((x133.B == x138.B) && true)))))), (11, 109, .bool (!((x133.Kind == x138.Kind) && ((x133.Purl == x138.Purl) && ((x133.A == x138.A) && ((x133.B == x138.B) && true)))))), (12, 110, .bool (!((x133.Kind == x138.Kind) && ((x133.Purl == x138.Purl) && ((x133.A == x138.A) && ((x133.B == x138.B) && true)))))), (13, 111, .slice ad24 r21.length cp25), (14, 112, iv s36), (15, 113, q174), (16, 114, .slice ad177 x144.length cp178), (17, 115, iv s37), (18, 116, q179), (19, 117, iv x151), (20, 118, .slice ad24 r21.length cp25), (21, 119, iv s36), (22, 120, iv (w64 (s36 + 1))), (23, 121, q182), (24, 122, .slice ad185 x156.length cp186), (25, 123, iv s37), (26, 124, iv (w64 (s37 + 1))), (27, 125, q187), (28, 126, iv x163), (29, 127, iv (w64 (x163 + 1))), (30, 128, .bool (x151 == (w64 (x163 + 1)))), (31, 129, .bool (x151 == (w64 (x163 + 1)))), (32, 97, .bool (x151 == (w64 (x163 + 1))))]) 33 (by kernel_rfl) (by kernel_rfl) (by kernel_rfl) (by kernel_rfl) (by kernel_rfl) [0, 1, 2, 3, 4, 5, 6, 7, 8, 9, 10, 11, 12, 13, 14, 15, 16, 17, 18, 19, 20, 21, 22, 23, 24, 25, 26, 27, 28, 29, 30, 31, 32] (by kernel_rfl) (by decide) (by decide) (aF 0 32 (by decide) ?_ (aF 1 31 (by decide) ?_ (aF 2 30 (by decide) ?_ (aF 3 29 (by decide) ?_ (aF 4 28 (by decide) ?_ (aF 5 27 (by decide) ?_ (aF 6 26 (by decide) ?_ (aF 7 25 (by decide) ?_ (aF 8 24 (by decide) ?_ (aF 9 23 (by decide) ?_ (aF 10 22 (by decide) ?_ (aF 11 21 (by decide) ?_ (aF 12 20 (by decide) ?_ (aF 13 19 (by decide) ?_ (aF 14 18 (by decide) ?_ (aF 15 17 (by decide) ?_ (aF 16 16 (by decide) ?_ (aF 17 15 (by decide) ?_ (aF 18 14 (by decide) ?_ (aF 19 13 (by decide) ?_ (aF 20 12 (by decide) ?_ (aF 21 11 (by decide) ?_ (aF 22 10 (by decide) ?_ (aF 23 9 (by decide) ?_ (aF 24 8 (by decide) ?_ (aF 25 7 (by decide) ?_ (aF 26 6 (by decide) ?_ (aF 27 5 (by decide) ?_ (aF 28 4 (by decide) ?_ (aF 29 3 (by decide) ?_ (aF 30 2 (by decide) ?_ (aF 31 1 (by decide) ?_ (aF 32 0 (by decide) ?_ (trivial)))))))))))))))))))))))))))))))))) [(0, .slice ad1 p0.length cp2), (1, .slice ad3 p1.length cp4), (9, .slice ad24 r21.length cp25), (10, .slice ad34 s33.length cp35), (11, iv s36), (12, iv s37), (97, .bool (x151 == (w64 (x163 + 1)))), (100, .slice ad1 p0.length cp2), (101, iv s36), (102, q168), (103, .agg #[.int .u8 x133.Kind, .bool x133.Purl, iv x133.A, iv x133.B]), (104, .slice ad3 p1.length cp4), (105, iv s37), (106, q171), (107, .agg #[.int .u8 x138.Kind, .bool x138.Purl, iv x138.A, iv x138.B]), (108, .bool (!((x133.Kind == x138.Kind) && ((x133.Purl == x138.Purl) && ((x133.A == x138.A) && ((x133.B == x138.B) && true)))))), (111, .slice ad24 r21.length cp25), (112, iv s36), (113, q174), (114, .slice ad177 x144.length cp178), (115, iv s37), (116, q179), (117, iv x151), (118, .slice ad24 r21.length cp25), (119, iv s36), (120, iv (w64 (s36 + 1))), (121, q182), (122, .slice ad185 x156.length cp186), (123, iv s37), (124, iv (w64 (s37 + 1))), (125, q187), (126, iv x163), (127, iv (w64 (x163 + 1))), (128, .bool (x151 == (w64 (x163 + 1))))] (fin_of [none, none, none, none, none, none, some 32, some 2, some 3, some 4, some 5, some 6, some 7, some 8, some 9, some 10, some 13, some 14, some 15, some 16, some 17, some 18, some 19, some 20, some 21, some 22, some 23, some 24, some 25, some 26, some 27, some 28, some 29, some 30] rfl (by kernel_rfl) (by kernel_rfl)) (fun _ a w S => ?_)
  · refine fI 98 (.bool o50) [(13, .bool o50)] 0 [none] rfl rfl rfl rfl rfl rfl fun G a w S => ?_
    refine sMove (.bool o50) S (wN rfl) (.inl rfl) rfl rfl (lb rfl) fun a S => ?_
    exact leafL ⟨rfl, S⟩
  · refine fI 99 (.bool o50) [(98, .bool o50)] 1 [some 0] rfl rfl rfl rfl rfl rfl fun G a w S => ?_
    refine sMove (.bool o50) S (wN rfl) (.inl rfl) rfl rfl (lb rfl) fun a S => ?_
    exact leafL ⟨rfl, S⟩
  · refine fI 100 (.slice ad1 p0.length cp2) [(0, .slice ad1 p0.length cp2), (99, .bool o50)] 2 [none, some 1] rfl rfl rfl rfl rfl rfl fun G a w S => ?_
    refine sMove (.slice ad1 p0.length cp2) S (wG 1 true 99 rfl rfl rfl hc132) (.inl rfl) rfl rfl (lb rfl) fun a S => ?_
    exact leafL ⟨rfl, S⟩
  · refine fI 101 (iv s36) [(11, iv s36), (99, .bool o50)] 3 [none, some 1] rfl rfl rfl rfl rfl rfl fun G a w S => ?_
    refine sMove (iv s36) S (wG 1 true 99 rfl rfl rfl hc132) (.inl rfl) rfl rfl (lb rfl) fun a S => ?_
    exact leafL ⟨rfl, S⟩
  · refine fI 102 q168 [(100, .slice ad1 p0.length cp2), (101, iv s36), (99, .bool o50)] 4 [some 2, some 3, some 1] rfl rfl rfl rfl rfl rfl fun G a w S => ?_
    refine sIdxV (v := .slice ad1 p0.length cp2) (k := .i64) (j := s36) S (wG 1 true 99 rfl rfl rfl hc132) rfl rfl rfl hq169 rfl (lb rfl) fun a S => ?_
    exact leafL ⟨rfl, S⟩
  · refine fI 103 (.agg #[.int .u8 x133.Kind, .bool x133.Purl, iv x133.A, iv x133.B]) [(102, q168), (99, .bool o50)] 5 [some 4, some 1] rfl rfl rfl rfl rfl rfl fun G a w S => ?_
    refine sLoadVN (vq := q168) 15 [.int .u8 x133.Kind, .bool x133.Purl, iv x133.A, iv x133.B] S (wG 1 true 99 rfl rfl rfl hc132) rfl rfl rfl rfl rfl rfl (lb rfl) fun a S => ?_
    exact leafL ⟨rfl, S⟩
  · refine fI 104 (.slice ad3 p1.length cp4) [(1, .slice ad3 p1.length cp4), (99, .bool o50)] 6 [none, some 1] rfl rfl rfl rfl rfl rfl fun G a w S => ?_
    refine sMove (.slice ad3 p1.length cp4) S (wG 1 true 99 rfl rfl rfl hc132) (.inl rfl) rfl rfl (lb rfl) fun a S => ?_
    exact leafL ⟨rfl, S⟩
  · refine fI 105 (iv s37) [(12, iv s37), (99, .bool o50)] 7 [none, some 1] rfl rfl rfl rfl rfl rfl fun G a w S => ?_
    refine sMove (iv s37) S (wG 1 true 99 rfl rfl rfl hc132) (.inl rfl) rfl rfl (lb rfl) fun a S => ?_
    exact leafL ⟨rfl, S⟩
  · refine fI 106 q171 [(104, .slice ad3 p1.length cp4), (105, iv s37), (99, .bool o50)] 8 [some 6, some 7, some 1] rfl rfl rfl rfl rfl rfl fun G a w S => ?_
    refine sIdxV (v := .slice ad3 p1.length cp4) (k := .i64) (j := s37) S (wG 1 true 99 rfl rfl rfl hc132) rfl rfl rfl hq172 rfl (lb rfl) fun a S => ?_
    exact leafL ⟨rfl, S⟩
  · refine fI 107 (.agg #[.int .u8 x138.Kind, .bool x138.Purl, iv x138.A, iv x138.B]) [(106, q171), (99, .bool o50)] 9 [some 8, some 1] rfl rfl rfl rfl rfl rfl fun G a w S => ?_
    refine sLoadVN (vq := q171) 12 [.int .u8 x138.Kind, .bool x138.Purl, iv x138.A, iv x138.B] S (wG 1 true 99 rfl rfl rfl hc132) rfl rfl rfl rfl rfl rfl (lb rfl) fun a S => ?_
    exact leafL ⟨rfl, S⟩
  · refine fI 108 (.bool (!((x133.Kind == x138.Kind) && ((x133.Purl == x138.Purl) && ((x133.A == x138.A) && ((x133.B == x138.B) && true)))))) [(103, .agg #[.int .u8 x133.Kind, .bool x133.Purl, iv x133.A, iv x133.B]), (107, .agg #[.int .u8 x138.Kind, .bool x138.Purl, iv x138.A, iv x138.B]), (99, .bool o50)] 10 [some 5, some 9, some 1] rfl rfl rfl rfl rfl rfl fun G a w S => ?_
    refine sBin (.bool (!((x133.Kind == x138.Kind) && ((x133.Purl == x138.Purl) && ((x133.A == x138.A) && ((x133.B == x138.B) && true)))))) S (wG 1 true 99 rfl rfl rfl hc132) rfl rfl rfl (bNeV _ _ _ _ #[.int .u8 x133.Kind, .bool x133.Purl, iv x133.A, iv x133.B] #[.int .u8 x138.Kind, .bool x138.Purl, iv x138.A, iv x138.B] ((x133.Kind == x138.Kind) && ((x133.Purl == x138.Purl) && ((x133.A == x138.A) && ((x133.B == x138.B) && true)))) (by kernel_rfl) (eqlV_of (by kernel_rfl))) rfl (lb rfl) fun a S => ?_
    exact leafL ⟨rfl, S⟩
  · refine fI 109 (.bool (!((x133.Kind == x138.Kind) && ((x133.Purl == x138.Purl) && ((x133.A == x138.A) && ((x133.B == x138.B) && true)))))) [(99, .bool o50), (108, .bool (!((x133.Kind == x138.Kind) && ((x133.Purl == x138.Purl) && ((x133.A == x138.A) && ((x133.B == x138.B) && true))))))] 11 [some 1, some 10] rfl rfl rfl rfl rfl rfl fun G a w S => ?_
    refine sPickT (.bool (!((x133.Kind == x138.Kind) && ((x133.Purl == x138.Purl) && ((x133.A == x138.A) && ((x133.B == x138.B) && true)))))) S (wN rfl) rfl rfl hc132 rfl rfl (lb rfl) fun a S => ?_
    exact leafL ⟨rfl, S⟩
  · refine fI 110 (.bool (!((x133.Kind == x138.Kind) && ((x133.Purl == x138.Purl) && ((x133.A == x138.A) && ((x133.B == x138.B) && true)))))) [(109, .bool (!((x133.Kind == x138.Kind) && ((x133.Purl == x138.Purl) && ((x133.A == x138.A) && ((x133.B == x138.B) && true))))))] 12 [some 11] rfl rfl rfl rfl rfl rfl fun G a w S => ?_
    refine sMove (.bool (!((x133.Kind == x138.Kind) && ((x133.Purl == x138.Purl) && ((x133.A == x138.A) && ((x133.B == x138.B) && true)))))) S (wN rfl) (.inl rfl) rfl rfl (lb rfl) fun a S => ?_
    exact leafL ⟨rfl, S⟩
  · refine fI 111 (.slice ad24 r21.length cp25) [(9, .slice ad24 r21.length cp25), (110, .bool (!((x133.Kind == x138.Kind) && ((x133.Purl == x138.Purl) && ((x133.A == x138.A) && ((x133.B == x138.B) && true))))))] 13 [none, some 12] rfl rfl rfl rfl rfl rfl fun G a w S => ?_
    refine sMove (.slice ad24 r21.length cp25) S (wG 12 true 110 rfl rfl rfl hc143) (.inl rfl) rfl rfl (lb rfl) fun a S => ?_
    exact leafL ⟨rfl, S⟩
  · refine fI 112 (iv s36) [(11, iv s36), (110, .bool (!((x133.Kind == x138.Kind) && ((x133.Purl == x138.Purl) && ((x133.A == x138.A) && ((x133.B == x138.B) && true))))))] 14 [none, some 12] rfl rfl rfl rfl rfl rfl fun G a w S => ?_
    refine sMove (iv s36) S (wG 12 true 110 rfl rfl rfl hc143) (.inl rfl) rfl rfl (lb rfl) fun a S => ?_
    exact leafL ⟨rfl, S⟩
  · refine fI 113 q174 [(111, .slice ad24 r21.length cp25), (112, iv s36), (110, .bool (!((x133.Kind == x138.Kind) && ((x133.Purl == x138.Purl) && ((x133.A == x138.A) && ((x133.B == x138.B) && true))))))] 15 [some 13, some 14, some 12] rfl rfl rfl rfl rfl rfl fun G a w S => ?_
    refine sIdxV (v := .slice ad24 r21.length cp25) (k := .i64) (j := s36) S (wG 12 true 110 rfl rfl rfl hc143) rfl rfl rfl hq175 rfl (lb rfl) fun a S => ?_
    exact leafL ⟨rfl, S⟩
  · refine fI 114 (.slice ad177 x144.length cp178) [(113, q174), (110, .bool (!((x133.Kind == x138.Kind) && ((x133.Purl == x138.Purl) && ((x133.A == x138.A) && ((x133.B == x138.B) && true))))))] 16 [some 15, some 12] rfl rfl rfl rfl rfl rfl fun G a w S => ?_
    refine sLoadV1 (vq := q174) 9 (.slice ad177 x144.length cp178) S (wG 12 true 110 rfl rfl rfl hc143) rfl rfl rfl rfl rfl (lb rfl) fun a S => ?_
    exact leafL ⟨rfl, S⟩
  · refine fI 115 (iv s37) [(12, iv s37), (110, .bool (!((x133.Kind == x138.Kind) && ((x133.Purl == x138.Purl) && ((x133.A == x138.A) && ((x133.B == x138.B) && true))))))] 17 [none, some 12] rfl rfl rfl rfl rfl rfl fun G a w S => ?_
    refine sMove (iv s37) S (wG 12 true 110 rfl rfl rfl hc143) (.inl rfl) rfl rfl (lb rfl) fun a S => ?_
    exact leafL ⟨rfl, S⟩
  · refine fI 116 q179 [(114, .slice ad177 x144.length cp178), (115, iv s37), (110, .bool (!((x133.Kind == x138.Kind) && ((x133.Purl == x138.Purl) && ((x133.A == x138.A) && ((x133.B == x138.B) && true))))))] 18 [some 16, some 17, some 12] rfl rfl rfl rfl rfl rfl fun G a w S => ?_
    refine sIdxV (v := .slice ad177 x144.length cp178) (k := .i64) (j := s37) S (wG 12 true 110 rfl rfl rfl hc143) rfl rfl rfl hq180 rfl (lb rfl) fun a S => ?_
    exact leafL ⟨rfl, S⟩
  · refine fI 117 (iv x151) [(116, q179), (110, .bool (!((x133.Kind == x138.Kind) && ((x133.Purl == x138.Purl) && ((x133.A == x138.A) && ((x133.B == x138.B) && true))))))] 19 [some 18, some 12] rfl rfl rfl rfl rfl rfl fun G a w S => ?_
    refine sLoadV1 (vq := q179) 6 (iv x151) S (wG 12 true 110 rfl rfl rfl hc143) rfl rfl rfl rfl rfl (lb rfl) fun a S => ?_
    exact leafL ⟨rfl, S⟩
  · refine fI 118 (.slice ad24 r21.length cp25) [(9, .slice ad24 r21.length cp25), (110, .bool (!((x133.Kind == x138.Kind) && ((x133.Purl == x138.Purl) && ((x133.A == x138.A) && ((x133.B == x138.B) && true))))))] 20 [none, some 12] rfl rfl rfl rfl rfl rfl fun G a w S => ?_
    refine sMove (.slice ad24 r21.length cp25) S (wG 12 true 110 rfl rfl rfl hc143) (.inl rfl) rfl rfl (lb rfl) fun a S => ?_
    exact leafL ⟨rfl, S⟩
  · refine fI 119 (iv s36) [(11, iv s36), (110, .bool (!((x133.Kind == x138.Kind) && ((x133.Purl == x138.Purl) && ((x133.A == x138.A) && ((x133.B == x138.B) && true))))))] 21 [none, some 12] rfl rfl rfl rfl rfl rfl fun G a w S => ?_
    refine sMove (iv s36) S (wG 12 true 110 rfl rfl rfl hc143) (.inl rfl) rfl rfl (lb rfl) fun a S => ?_
    exact leafL ⟨rfl, S⟩
  · refine fI 120 (iv (w64 (s36 + 1))) [(119, iv s36), (110, .bool (!((x133.Kind == x138.Kind) && ((x133.Purl == x138.Purl) && ((x133.A == x138.A) && ((x133.B == x138.B) && true))))))] 22 [some 21, some 12] rfl rfl rfl rfl rfl rfl fun G a w S => ?_
    refine sBin (iv (w64 (s36 + 1))) S (wG 12 true 110 rfl rfl rfl hc143) rfl rfl rfl (bAdd _ _ _ _ s36 1) rfl (lb rfl) fun a S => ?_
    exact leafL ⟨rfl, S⟩
  · refine fI 121 q182 [(118, .slice ad24 r21.length cp25), (120, iv (w64 (s36 + 1))), (110, .bool (!((x133.Kind == x138.Kind) && ((x133.Purl == x138.Purl) && ((x133.A == x138.A) && ((x133.B == x138.B) && true))))))] 23 [some 20, some 22, some 12] rfl rfl rfl rfl rfl rfl fun G a w S => ?_
    refine sIdxV (v := .slice ad24 r21.length cp25) (k := .i64) (j := w64 (s36 + 1)) S (wG 12 true 110 rfl rfl rfl hc143) rfl rfl rfl hq183 rfl (lb rfl) fun a S => ?_
    exact leafL ⟨rfl, S⟩
  · refine fI 122 (.slice ad185 x156.length cp186) [(121, q182), (110, .bool (!((x133.Kind == x138.Kind) && ((x133.Purl == x138.Purl) && ((x133.A == x138.A) && ((x133.B == x138.B) && true))))))] 24 [some 23, some 12] rfl rfl rfl rfl rfl rfl fun G a w S => ?_
    refine sLoadV1 (vq := q182) 3 (.slice ad185 x156.length cp186) S (wG 12 true 110 rfl rfl rfl hc143) rfl rfl rfl rfl rfl (lb rfl) fun a S => ?_
    exact leafL ⟨rfl, S⟩
  · refine fI 123 (iv s37) [(12, iv s37), (110, .bool (!((x133.Kind == x138.Kind) && ((x133.Purl == x138.Purl) && ((x133.A == x138.A) && ((x133.B == x138.B) && true))))))] 25 [none, some 12] rfl rfl rfl rfl rfl rfl fun G a w S => ?_
    refine sMove (iv s37) S (wG 12 true 110 rfl rfl rfl hc143) (.inl rfl) rfl rfl (lb rfl) fun a S => ?_
    exact leafL ⟨rfl, S⟩
  · refine fI 124 (iv (w64 (s37 + 1))) [(123, iv s37), (110, .bool (!((x133.Kind == x138.Kind) && ((x133.Purl == x138.Purl) && ((x133.A == x138.A) && ((x133.B == x138.B) && true))))))] 26 [some 25, some 12] rfl rfl rfl rfl rfl rfl fun G a w S => ?_
    refine sBin (iv (w64 (s37 + 1))) S (wG 12 true 110 rfl rfl rfl hc143) rfl rfl rfl (bAdd _ _ _ _ s37 1) rfl (lb rfl) fun a S => ?_
    exact leafL ⟨rfl, S⟩
  · refine fI 125 q187 [(122, .slice ad185 x156.length cp186), (124, iv (w64 (s37 + 1))), (110, .bool (!((x133.Kind == x138.Kind) && ((x133.Purl == x138.Purl) && ((x133.A == x138.A) && ((x133.B == x138.B) && true))))))] 27 [some 24, some 26, some 12] rfl rfl rfl rfl rfl rfl fun G a w S => ?_
    refine sIdxV (v := .slice ad185 x156.length cp186) (k := .i64) (j := w64 (s37 + 1)) S (wG 12 true 110 rfl rfl rfl hc143) rfl rfl rfl hq188 rfl (lb rfl) fun a S => ?_
    exact leafL ⟨rfl, S⟩
  · refine fI 126 (iv x163) [(125, q187), (110, .bool (!((x133.Kind == x138.Kind) && ((x133.Purl == x138.Purl) && ((x133.A == x138.A) && ((x133.B == x138.B) && true))))))] 28 [some 27, some 12] rfl rfl rfl rfl rfl rfl fun G a w S => ?_
    refine sLoadV1 (vq := q187) 0 (iv x163) S (wG 12 true 110 rfl rfl rfl hc143) rfl rfl rfl rfl rfl (lb rfl) fun a S => ?_
    exact leafL ⟨rfl, S⟩
  · refine fI 127 (iv (w64 (x163 + 1))) [(126, iv x163), (110, .bool (!((x133.Kind == x138.Kind) && ((x133.Purl == x138.Purl) && ((x133.A == x138.A) && ((x133.B == x138.B) && true))))))] 29 [some 28, some 12] rfl rfl rfl rfl rfl rfl fun G a w S => ?_
    refine sBin (iv (w64 (x163 + 1))) S (wG 12 true 110 rfl rfl rfl hc143) rfl rfl rfl (bAdd _ _ _ _ x163 1) rfl (lb rfl) fun a S => ?_
    exact leafL ⟨rfl, S⟩
  · refine fI 128 (.bool (x151 == (w64 (x163 + 1)))) [(117, iv x151), (127, iv (w64 (x163 + 1))), (110, .bool (!((x133.Kind == x138.Kind) && ((x133.Purl == x138.Purl) && ((x133.A == x138.A) && ((x133.B == x138.B) && true))))))] 30 [some 19, some 29, some 12] rfl rfl rfl rfl rfl rfl fun G a w S => ?_
    refine sBin (.bool (x151 == (w64 (x163 + 1)))) S (wG 12 true 110 rfl rfl rfl hc143) rfl rfl rfl (bEq _ _ _ _ .i64 x151 (w64 (x163 + 1))) rfl (lb rfl) fun a S => ?_
    exact leafL ⟨rfl, S⟩
  · refine fI 129 (.bool (x151 == (w64 (x163 + 1)))) [(110, .bool (!((x133.Kind == x138.Kind) && ((x133.Purl == x138.Purl) && ((x133.A == x138.A) && ((x133.B == x138.B) && true)))))), (128, .bool (x151 == (w64 (x163 + 1))))] 31 [some 12, some 30] rfl rfl rfl rfl rfl rfl fun G a w S => ?_
    refine sPickT (.bool (x151 == (w64 (x163 + 1)))) S (wN rfl) rfl rfl hc143 rfl rfl (lb rfl) fun a S => ?_
    exact leafL ⟨rfl, S⟩
  · refine fI 97 (.bool (x151 == (w64 (x163 + 1)))) [(129, .bool (x151 == (w64 (x163 + 1))))] 32 [some 31] rfl rfl rfl rfl rfl rfl fun G a w S => ?_
    refine sMove (.bool (x151 == (w64 (x163 + 1)))) S (wN rfl) (.inr rfl) rfl rfl (lb rfl) fun a S => ?_
    exact leafL ⟨rfl, S⟩
  exact leafT (⟨x151 == (w64 (x163 + 1)), Option.some.inj h, S.fix [0] [18, 19, 20] (by decide) rfl rfl rfl⟩)

end Go.Proofs.Ytffikfajljbmnaa
namespace Go.Proofs.Ytffikfajljbmnaa
open Go.RowKit
set_option linter.unusedVariables false

noncomputable def F_compare_fine (p0 : api_CellStep) : Option Bool :=
  Option.bind (α := Bool) (
    if p0.Kind == 1 then
      some (p0.Kind == 1)
    else
      some (p0.Kind == 4)) fun o5 =>
  if o5 then
    some ((p0.S.Kind == 0) && ((p0.S.Purl == false) && ((p0.S.A == 0) && ((p0.S.B == 0) && true))))
  else
    Option.bind (α := Bool) (
      if p0.Kind == 2 then
        some (p0.Kind == 2)
      else
        some (p0.Kind == 3)) fun o12 =>
    if o12 then
      Option.bind (F_stitch_Check p0.S) fun r19 =>
      some (r19 == 0)
    else
      some false
set_option maxHeartbeats 4000000 in
set_option maxRecDepth 100000 in
theorem c_compare_fine (E : Nat → Prop) (w0 : World) (p0 : api_CellStep) (v0 : Value) (r : Bool) (h : F_compare_fine p0 = some r) (S : St0 E [] w0 w0 [] [fRep r_api_CellStep (v0) p0]) :
    Calls Try.prog 90 #[v0] w0 (Ret (X := Unit) E [] w0 (fun _ => .bool r) (fun _ => []) (fun _ => [])) := by
  unfold F_compare_fine at h
  obtain rfl : v0 = .agg #[.int .u8 p0.Kind, .int .u8 p0.S.Kind, .bool p0.S.Purl, iv p0.S.A, iv p0.S.B] := S.know (i := 0) (e := fRep r_api_CellStep (v0) p0) rfl
  refine sEnter (args := [.agg #[.int .u8 p0.Kind, .int .u8 p0.S.Kind, .bool p0.S.Purl, iv p0.S.A, iv p0.S.B]]) 19 Try.func90 rfl rfl (by simp) S (fun a S => ?_)
  refine sSeq (fun K1 hK1 => ?_)
  refine sRegion ?_
  refine sBox (v := .agg #[.int .u8 p0.Kind, .int .u8 p0.S.Kind, .bool p0.S.Purl, iv p0.S.A, iv p0.S.B]) S (wN rfl) rfl rfl [.int .u8 p0.Kind, .int .u8 p0.S.Kind, .bool p0.S.Purl, iv p0.S.A, iv p0.S.B] rfl rfl (lb rfl) fun a b2 w S => ?_
  refine sMove (.bool false) S (wN rfl) (.inr rfl) rfl rfl (lb rfl) fun a S => ?_
  refine leafL (leafT (hK1 _ _ ?_))
  refine sSeq (fun K3 hK3 => ?_)
  refine sSeq (fun K4 hK4 => ?_)
  refine sRegion ?_
  refine sField (b := b2) (off := 0) 0 0 S (wN rfl) rfl rfl rfl rfl rfl (lb rfl) fun a S => ?_
  refine sLoad1 (p := b2) (off := 0) (T := 83) (vs := [.int .u8 p0.Kind, .int .u8 p0.S.Kind, .bool p0.S.Purl, iv p0.S.A, iv p0.S.B]) 0 (.int .u8 p0.Kind) S (wN rfl) rfl rfl rfl rfl rfl rfl (lb rfl) fun a S => ?_
  refine leafL (leafT (hK4 _ _ ?_))
  refine wp_block ?_
  obtain ⟨t6, h, g7⟩ := bindSome h
  refine sCut (fun a w => ∃ o5, o5 = t6 ∧ St [] E [] w0 19 a w [(1, .pointer (some ⟨b2, 0, none⟩)), (4, .int .u8 p0.Kind), (5, .bool o5)] [eBox b2 83 [.int .u8 p0.Kind, .int .u8 p0.S.Kind, .bool p0.S.Purl, iv p0.S.A, iv p0.S.B]] []) ?_ (fun a w hI => ?_)
  · refine sSeq (fun K8 hK8 => ?_)
    refine sRegion ?_
    refine sBin (.bool (p0.Kind == 1)) S (wN rfl) rfl rfl rfl (bEq _ _ _ _ .u8 p0.Kind 1) rfl (lb rfl) fun a S => ?_
    refine sMove (.bool (p0.Kind == 1)) S (wN rfl) (.inr rfl) rfl rfl (lb rfl) fun a S => ?_
    refine leafL (leafT (hK8 _ _ ?_))
    rcases iteSome h with ⟨hc9, h⟩ | ⟨hc9, h⟩
    · refine sCondT S rfl hc9 ?_
      exact wp_skip (leafT (⟨p0.Kind == 1, Option.some.inj h, S.fix [0] [] (by decide) rfl rfl rfl⟩))
    refine sCondF S rfl hc9 ?_
    refine sRegion ?_
    refine sBin (.bool (p0.Kind == 4)) S (wN rfl) rfl rfl rfl (bEq _ _ _ _ .u8 p0.Kind 4) rfl (lb rfl) fun a S => ?_
    refine sMove (.bool (p0.Kind == 4)) S (wN rfl) (.inr rfl) rfl rfl (lb rfl) fun a S => ?_
    exact leafL (leafT (⟨p0.Kind == 4, Option.some.inj h, S.fix [0] [] (by decide) rfl rfl rfl⟩))
  obtain ⟨o5, rfl, S⟩ := hI
  have h := g7
  clear g7
  try dsimp only at h
  rcases iteSome h with ⟨hc10, h⟩ | ⟨hc10, h⟩
  · refine sCondT S rfl hc10 ?_
    refine sSeq (fun K11 hK11 => ?_)
    refine sRegion ?_
    refine sField (b := b2) (off := 0) 1 1 S (wN rfl) rfl rfl rfl rfl rfl (lb rfl) fun a S => ?_
    refine sLoadN (p := b2) (off := 1) (T := 83) (vs := [.int .u8 p0.Kind, .int .u8 p0.S.Kind, .bool p0.S.Purl, iv p0.S.A, iv p0.S.B]) 0 [.int .u8 p0.S.Kind, .bool p0.S.Purl, iv p0.S.A, iv p0.S.B] S (wN rfl) rfl rfl rfl rfl rfl rfl rfl (lb rfl) fun a S => ?_
    refine sBuild [] [.int .u8 0, .bool false, iv 0, iv 0] S (wN rfl) rfl rfl rfl rfl (lb rfl) fun a S => ?_
    refine sBin (.bool ((p0.S.Kind == 0) && ((p0.S.Purl == false) && ((p0.S.A == 0) && ((p0.S.B == 0) && true))))) S (wN rfl) rfl rfl rfl (bEqV _ _ _ _ #[.int .u8 p0.S.Kind, .bool p0.S.Purl, iv p0.S.A, iv p0.S.B] #[.int .u8 0, .bool false, iv 0, iv 0] ((p0.S.Kind == 0) && ((p0.S.Purl == false) && ((p0.S.A == 0) && ((p0.S.B == 0) && true)))) (by kernel_rfl) (eqlV_of (by kernel_rfl))) rfl (lb rfl) fun a S => ?_
    refine sMove (.bool ((p0.S.Kind == 0) && ((p0.S.Purl == false) && ((p0.S.A == 0) && ((p0.S.B == 0) && true))))) S (wN rfl) (.inr rfl) rfl rfl (lb rfl) fun a S => ?_
    refine leafL (leafT (hK11 _ _ ?_))
    obtain rfl := Option.some.inj h
    exact wp_ret (rBlock (rThen (sRet (.bool ((p0.S.Kind == 0) && ((p0.S.Purl == false) && ((p0.S.A == 0) && ((p0.S.B == 0) && true))))) S (rsl1 rfl (rvT (t := 2) (v := .bool ((p0.S.Kind == 0) && ((p0.S.Purl == false) && ((p0.S.A == 0) && ((p0.S.B == 0) && true))))) S rfl)) ⟨(), rfl, S.mem.sel [] [] (by decide) rfl rfl⟩)))
  refine sCondF S rfl hc10 ?_
  obtain ⟨t13, h, g14⟩ := bindSome h
  refine sCut (fun a w => ∃ o12, o12 = t13 ∧ St [] E [] w0 19 a w [(1, .pointer (some ⟨b2, 0, none⟩)), (12, .bool o12)] [eBox b2 83 [.int .u8 p0.Kind, .int .u8 p0.S.Kind, .bool p0.S.Purl, iv p0.S.A, iv p0.S.B]] []) ?_ (fun a w hI => ?_)
  · refine sSeq (fun K15 hK15 => ?_)
    refine sRegion ?_
    refine sBin (.bool (p0.Kind == 2)) S (wN rfl) rfl rfl rfl (bEq _ _ _ _ .u8 p0.Kind 2) rfl (lb rfl) fun a S => ?_
    refine sMove (.bool (p0.Kind == 2)) S (wN rfl) (.inr rfl) rfl rfl (lb rfl) fun a S => ?_
    refine leafL (leafT (hK15 _ _ ?_))
    rcases iteSome h with ⟨hc16, h⟩ | ⟨hc16, h⟩
    · refine sCondT S rfl hc16 ?_
      exact wp_skip (leafT (⟨p0.Kind == 2, Option.some.inj h, S.fix [0] [] (by decide) rfl rfl rfl⟩))
    refine sCondF S rfl hc16 ?_
    refine sRegion ?_
    refine sBin (.bool (p0.Kind == 3)) S (wN rfl) rfl rfl rfl (bEq _ _ _ _ .u8 p0.Kind 3) rfl (lb rfl) fun a S => ?_
    refine sMove (.bool (p0.Kind == 3)) S (wN rfl) (.inr rfl) rfl rfl (lb rfl) fun a S => ?_
    exact leafL (leafT (⟨p0.Kind == 3, Option.some.inj h, S.fix [0] [] (by decide) rfl rfl rfl⟩))
  obtain ⟨o12, rfl, S⟩ := hI
  have h := g14
  clear g14
  try dsimp only at h
  rcases iteSome h with ⟨hc17, h⟩ | ⟨hc17, h⟩
  rotate_left
  · refine sCondF S rfl hc17 ?_
    refine wp_skip (leafB (leafT (hK3 _ _ ?_)))
    refine sSeq (fun K21 hK21 => ?_)
    refine sRegion ?_
    refine sMove (.bool false) S (wN rfl) (.inr rfl) rfl rfl (lb rfl) fun a S => ?_
    refine leafL (leafT (hK21 _ _ ?_))
    obtain rfl := Option.some.inj h
    exact wp_ret (sRet (.bool false) S (rsl1 rfl (rvT (t := 2) (v := .bool false) S rfl)) ⟨(), rfl, S.mem.sel [] [] (by decide) rfl rfl⟩)
  refine sCondT S rfl hc17 ?_
  refine sSeq (fun K18 hK18 => ?_)
  refine sRegion ?_
  refine sField (b := b2) (off := 0) 1 1 S (wN rfl) rfl rfl rfl rfl rfl (lb rfl) fun a S => ?_
  refine sLoadN (p := b2) (off := 1) (T := 83) (vs := [.int .u8 p0.Kind, .int .u8 p0.S.Kind, .bool p0.S.Purl, iv p0.S.A, iv p0.S.B]) 0 [.int .u8 p0.S.Kind, .bool p0.S.Purl, iv p0.S.A, iv p0.S.B] S (wN rfl) rfl rfl rfl rfl rfl rfl rfl (lb rfl) fun a S => ?_
  obtain ⟨r19, hx20, h⟩ := bindSome h
  have S1 := S.mem
  have S1 := S1.learn (fRep r_api_Stitch (.agg #[.int .u8 p0.S.Kind, .bool p0.S.Purl, iv p0.S.A, iv p0.S.B]) p0.S) rfl
  refine sCallQ (X := Unit) (f := 88) (vs := [.agg #[.int .u8 p0.S.Kind, .bool p0.S.Purl, iv p0.S.A, iv p0.S.B]]) (val := fun _ => iv r19) S (wN rfl) rfl callee88 rfl (S1.quiet [0] rfl) (fun E1 w1 S1 => c_stitch_Check E1 w1 p0.S (.agg #[.int .u8 p0.S.Kind, .bool p0.S.Purl, iv p0.S.A, iv p0.S.B]) r19 hx20 S1) rfl (lb rfl) fun _ a w S => ?_
  refine sBin (.bool (r19 == 0)) S (wN rfl) rfl rfl rfl (bEq _ _ _ _ .i64 r19 0) rfl (lb rfl) fun a S => ?_
  refine sMove (.bool (r19 == 0)) S (wN rfl) (.inr rfl) rfl rfl (lb rfl) fun a S => ?_
  refine leafL (leafT (hK18 _ _ ?_))
  obtain rfl := Option.some.inj h
  exact wp_ret (rBlock (rThen (sRet (.bool (r19 == 0)) S (rsl1 rfl (rvT (t := 2) (v := .bool (r19 == 0)) S rfl)) ⟨(), rfl, S.mem.sel [] [] (by decide) rfl rfl⟩)))

end Go.Proofs.Ytffikfajljbmnaa
namespace Go.Proofs.Ytffikfajljbmnaa
open Go.RowKit
set_option linter.unusedVariables false

noncomputable def compare_walk_l1 (p1 : (List api_CellStep)) : Int → Option (Int ⊕ (((List api_Stitch) × (List api_CellStep) × Int) ⊕ Unit)) := fun s0 => match s0 with
  | s20 =>
    if decide (s20 < (p1.length : Int)) then
      Option.bind (idxO p1 s20) fun x29 =>
      Option.bind (F_compare_fine x29) fun r36 =>
      if !r36 then
        some (.inr (.inl (([] : (List api_Stitch)), ([] : (List api_CellStep)), 8)))
      else
        some (.inl (w64 (s20 + 1)))
    else
      some (.inr (.inr ()))
noncomputable def compare_walk_l2 (p1 : (List api_CellStep)) : (List api_Stitch × List api_CellStep × List api_Stitch × Int) → Option ((List api_Stitch × List api_CellStep × List api_Stitch × Int) ⊕ (((List api_Stitch) × (List api_CellStep) × Int) ⊕ (List api_Stitch × List api_CellStep × List api_Stitch))) := fun s0 => match s0 with
  | (s53, s56, s59, s62) =>
    if decide (s62 < (p1.length : Int)) then
      Option.bind (α := (List api_Stitch × List api_CellStep × List api_Stitch) ⊕ ((List api_Stitch) × (List api_CellStep) × Int)) (
        Option.bind (idxO p1 s62) fun x90 =>
        if x90.Kind == 3 then
          Option.bind (appO s53 [x90.S]) fun l102 =>
          Option.bind (appO s56 [(api_CellStep.mk 4 (api_Stitch.mk 0 false 0 0))]) fun l109 =>
          some (.inl (l102, l109, s59))
        else
          if (s59.length : Int) == 0 then
            some (.inr (([] : (List api_Stitch)), ([] : (List api_CellStep)), 30))
          else
            Option.bind (idxO s59 0) fun x118 =>
            Option.bind (sliceO s59 1 (s59.length : Int)) fun y125 =>
            if x90.Kind == 1 then
              Option.bind (appO s53 [x118]) fun l135 =>
              Option.bind (appO s56 [x90]) fun l141 =>
              some (.inl (l135, l141, y125))
            else
              if x90.Kind == 2 then
                if ((x90.S.Kind == x118.Kind) && ((x90.S.Purl == x118.Purl) && ((x90.S.A == x118.A) && ((x90.S.B == x118.B) && true)))) then
                  some (.inr (([] : (List api_Stitch)), ([] : (List api_CellStep)), 30))
                else
                  Option.bind (appO s53 [x90.S]) fun l154 =>
                  Option.bind (appO s56 [(api_CellStep.mk 2 x118)]) fun l160 =>
                  some (.inl (l154, l160, y125))
              else
                if x90.Kind == 4 then
                  Option.bind (appO s56 [(api_CellStep.mk 3 x118)]) fun l168 =>
                  some (.inl (s53, l168, y125))
                else
                  some (.inl (s53, s56, y125))) fun z0 => match z0 with
        | .inl (o78, o81, o84) =>
          some (.inl (o78, o81, o84, w64 (s62 + 1)))
        | .inr z =>
          some (.inr (.inl z))
    else
      some (.inr (.inr (s53, s56, s59)))
noncomputable def F_compare_walk (p0 : (List api_Stitch)) (p1 : (List api_CellStep)) : Option ((List api_Stitch) × (List api_CellStep) × Int) :=
  Option.bind (F_stitch_All p0) fun r8 =>
  if r8 != 0 then
    some (([] : (List api_Stitch)), ([] : (List api_CellStep)), r8)
  else
    if decide (400 < (p1.length : Int)) then
      some (([] : (List api_Stitch)), ([] : (List api_CellStep)), 4)
    else
      Option.bind (α := Unit ⊕ ((List api_Stitch) × (List api_CellStep) × Int)) (
        Option.bind (whileO (compare_walk_l1 p1) 0) fun z0 => match z0 with
          | .inl z =>
            some (.inr z)
          | .inr _ =>
            some (.inl ())) fun z0 => match z0 with
        | .inl _ =>
          Option.bind (α := (List api_Stitch × List api_CellStep × List api_Stitch) ⊕ ((List api_Stitch) × (List api_CellStep) × Int)) (
            Option.bind (whileO (compare_walk_l2 p1) (([] : List api_Stitch), ([] : List api_CellStep), p0, 0)) fun z0 => match z0 with
              | .inl z =>
                some (.inr z)
              | .inr (e66, e69, e72) =>
                some (.inl (e66, e69, e72))) fun z0 => match z0 with
            | .inl (o41, o44, o47) =>
              if decide (0 < (o47.length : Int)) then
                some (([] : (List api_Stitch)), ([] : (List api_CellStep)), 30)
              else
                Option.bind (F_stitch_All o41) fun r178 =>
                if r178 != 0 then
                  some (([] : (List api_Stitch)), ([] : (List api_CellStep)), r178)
                else
                  some (o41, o44, 0)
            | .inr z =>
              some z
        | .inr z =>
          some z
def c_compare_walk_val (r : ((List api_Stitch) × (List api_CellStep) × Int)) (x : Value × Value) : Value := .tuple #[x.1, x.2, .int .i64 r.2.2]
def c_compare_walk_D (r : ((List api_Stitch) × (List api_CellStep) × Int)) (x : Value × Value) : List Fact := [fRep (rL r_api_Stitch) x.1 r.1, fRep (rL r_api_CellStep) x.2 r.2.1]
set_option maxHeartbeats 4000000 in
set_option maxRecDepth 100000 in
theorem c_compare_walk (E : Nat → Prop) (w0 : World) (p0 : (List api_Stitch)) (v0 : Value) (p1 : (List api_CellStep)) (v1 : Value) (r : ((List api_Stitch) × (List api_CellStep) × Int)) (h : F_compare_walk p0 p1 = some r) (S : St0 E [] w0 w0 [] [fRep (rL r_api_Stitch) (v0) p0, fRep (rL r_api_CellStep) (v1) p1]) :
    Calls Try.prog 58 #[v0, v1] w0 (Ret (X := Value × Value) E [] w0 (c_compare_walk_val r) (fun _ => []) (c_compare_walk_D r)) := by
  unfold F_compare_walk at h
  obtain ⟨ad1, cp2, _, rfl, _⟩ := S.know (i := 0) (e := fRep (rL r_api_Stitch) (v0) p0) rfl
  obtain ⟨ad3, cp4, _, rfl, _⟩ := S.know (i := 1) (e := fRep (rL r_api_CellStep) (v1) p1) rfl
  refine sEnter (args := [.slice ad1 p0.length cp2, .slice ad3 p1.length cp4]) 106 Try.func58 rfl rfl (by simp) S (fun a S => ?_)
  refine sSeq (fun K5 hK5 => ?_)
  refine sRegion ?_
  refine sMove (.slice none 0 0) S (wN rfl) (.inr rfl) rfl rfl (lb rfl) fun a S => ?_
  refine sMove (.slice none 0 0) S (wN rfl) (.inr rfl) rfl rfl (lb rfl) fun a S => ?_
  refine sMove (iv 0) S (wN rfl) (.inr rfl) rfl rfl (lb rfl) fun a S => ?_
  refine leafL (leafT (hK5 _ _ ?_))
  refine sSeq (fun K6 hK6 => ?_)
  refine sSeq (fun K7 hK7 => ?_)
  refine sRegion ?_
  refine sMove (.slice ad1 p0.length cp2) S (wN rfl) (.inl rfl) rfl rfl (lb rfl) fun a S => ?_
  obtain ⟨r8, hx9, h⟩ := bindSome h
  have S1 := S.mem
  refine sCallQ (X := Unit) (f := 56) (vs := [.slice ad1 p0.length cp2]) (val := fun _ => iv r8) S (wN rfl) rfl callee56 rfl (S1.quiet [0] rfl) (fun E1 w1 S1 => c_stitch_All E1 w1 p0 (.slice ad1 p0.length cp2) r8 hx9 S1) rfl (lb rfl) fun _ a w S => ?_
  refine sMove (iv r8) S (wN rfl) (.inr rfl) rfl rfl (lb rfl) fun a S => ?_
  refine leafL (leafT (hK7 _ _ ?_))
  refine sSeq (fun K10 hK10 => ?_)
  refine sRegion ?_
  refine sMove (iv r8) S (wN rfl) (.inl rfl) rfl rfl (lb rfl) fun a S => ?_
  refine sBin (.bool (r8 != 0)) S (wN rfl) rfl rfl rfl (bNe _ _ _ _ .i64 r8 0) rfl (lb rfl) fun a S => ?_
  refine leafL (leafT (hK10 _ _ ?_))
  rcases iteSome h with ⟨hc11, h⟩ | ⟨hc11, h⟩
  · refine sCondT S rfl hc11 ?_
    refine sSeq (fun K12 hK12 => ?_)
    refine sRegion ?_
    refine sMove (iv r8) S (wN rfl) (.inl rfl) rfl rfl (lb rfl) fun a S => ?_
    refine sMove (.slice none 0 0) S (wN rfl) (.inr rfl) rfl rfl (lb rfl) fun a S => ?_
    refine sMove (.slice none 0 0) S (wN rfl) (.inr rfl) rfl rfl (lb rfl) fun a S => ?_
    refine sMove (iv r8) S (wN rfl) (.inr rfl) rfl rfl (lb rfl) fun a S => ?_
    refine leafL (leafT (hK12 _ _ ?_))
    obtain rfl := Option.some.inj h
    have S := S.learn (fRep (rL r_api_Stitch) (.slice none 0 0) ([] : (List api_Stitch))) (rL_nil _ _ _)
    have S := S.learn (fRep (rL r_api_CellStep) (.slice none 0 0) ([] : (List api_CellStep))) (rL_nil _ _ _)
    exact wp_ret (rThen (sRet (.tuple #[.slice none 0 0, .slice none 0 0, iv r8]) S (rsl3 rfl (rvT (t := 4) (v := .slice none 0 0) S rfl) (rvT (t := 5) (v := .slice none 0 0) S rfl) (rvT (t := 6) (v := iv r8) S rfl)) ⟨((.slice none 0 0), (.slice none 0 0)), rfl, S.mem.sel [] [1, 0] (by decide) rfl rfl⟩))
  refine sCondF S rfl hc11 ?_
  refine wp_skip (leafT (hK6 _ _ ?_))
  refine sSeq (fun K13 hK13 => ?_)
  refine sSeq (fun K14 hK14 => ?_)
  refine sRegion ?_
  refine sMove (.slice ad3 p1.length cp4) S (wN rfl) (.inl rfl) rfl rfl (lb rfl) fun a S => ?_
  refine sLen (ad := ad3) (m := p1.length) (c := cp4) S (wN rfl) rfl Try.underlying48 rfl rfl (lb rfl) fun a S => ?_
  refine sBin (.bool (decide (400 < (p1.length : Int)))) S (wN rfl) rfl rfl rfl (bGt _ _ _ _ .i64 (p1.length : Int) 400) rfl (lb rfl) fun a S => ?_
  refine leafL (leafT (hK14 _ _ ?_))
  rcases iteSome h with ⟨hc15, h⟩ | ⟨hc15, h⟩
  · refine sCondT S rfl hc15 ?_
    refine sSeq (fun K16 hK16 => ?_)
    refine sRegion ?_
    refine sMove (.slice none 0 0) S (wN rfl) (.inr rfl) rfl rfl (lb rfl) fun a S => ?_
    refine sMove (.slice none 0 0) S (wN rfl) (.inr rfl) rfl rfl (lb rfl) fun a S => ?_
    refine sMove (iv 4) S (wN rfl) (.inr rfl) rfl rfl (lb rfl) fun a S => ?_
    refine leafL (leafT (hK16 _ _ ?_))
    obtain rfl := Option.some.inj h
    have S := S.learn (fRep (rL r_api_Stitch) (.slice none 0 0) ([] : (List api_Stitch))) (rL_nil _ _ _)
    have S := S.learn (fRep (rL r_api_CellStep) (.slice none 0 0) ([] : (List api_CellStep))) (rL_nil _ _ _)
    exact wp_ret (rThen (sRet (.tuple #[.slice none 0 0, .slice none 0 0, iv 4]) S (rsl3 rfl (rvT (t := 4) (v := .slice none 0 0) S rfl) (rvT (t := 5) (v := .slice none 0 0) S rfl) (rvT (t := 6) (v := iv 4) S rfl)) ⟨((.slice none 0 0), (.slice none 0 0)), rfl, S.mem.sel [] [1, 0] (by decide) rfl rfl⟩))
  refine sCondF S rfl hc15 ?_
  refine wp_skip (leafT (hK13 _ _ ?_))
  obtain ⟨t17, h, g18⟩ := bindSome h
  refine sCut (fun a w => .inl () = t17 ∧ St [] E [] w0 106 a w [(0, .slice ad1 p0.length cp2), (1, .slice ad3 p1.length cp4), (4, .slice none 0 0), (5, .slice none 0 0)] [] [fRep (rL r_api_Stitch) (.slice ad1 p0.length cp2) p0, fRep (rL r_api_CellStep) (.slice ad3 p1.length cp4) p1]) ?_ (fun a w hI => ?_)
  · refine sSeq (fun K19 hK19 => ?_)
    refine sRegion ?_
    refine sMove (.slice ad3 p1.length cp4) S (wN rfl) (.inl rfl) rfl rfl (lb rfl) fun a S => ?_
    refine sLen (ad := ad3) (m := p1.length) (c := cp4) S (wN rfl) rfl Try.underlying48 rfl rfl (lb rfl) fun a S => ?_
    refine sMove (iv 0) S (wN rfl) (.inl rfl) rfl rfl (lb rfl) fun a S => ?_
    refine leafL (leafT (hK19 _ _ ?_))
    refine wp_block ?_
    obtain ⟨t23, hl, g22⟩ := bindSome h
    refine sLoop hl (fun s0 a w => match s0 with | s20 => St [] E [] w0 106 a w [(0, .slice ad1 p0.length cp2), (1, .slice ad3 p1.length cp4), (4, .slice none 0 0), (5, .slice none 0 0), (23, .slice ad3 p1.length cp4), (24, iv (p1.length : Int)), (25, iv s20)] [] [fRep (rL r_api_Stitch) (.slice ad1 p0.length cp2) p0, fRep (rL r_api_CellStep) (.slice ad3 p1.length cp4) p1]) (S.fix [] [0, 1] (by decide) rfl rfl rfl) ?_
    clear hl h
    intro s20 a w c0 hI h hu21
    unfold compare_walk_l1 at h
    dsimp only at h hI
    have S := hI
    refine sSeq (fun K24 hK24 => ?_)
    refine sRegion ?_
    refine sBin (.bool (decide (s20 < (p1.length : Int)))) S (wN rfl) rfl rfl rfl (bLt _ _ _ _ .i64 s20 (p1.length : Int)) rfl (lb rfl) fun a S => ?_
    refine leafL (leafT (hK24 _ _ ?_))
    refine sSeq (fun K25 hK25 => ?_)
    rcases iteSome h with ⟨hc26, h⟩ | ⟨hc26, h⟩
    rotate_left
    · refine sCondF S rfl hc26 ?_
      obtain rfl := Option.some.inj h
      obtain rfl := hu21 _ rfl
      have h := g22
      clear g22
      try dsimp only at h
      exact wp_exit (xThen (xThen (xHit (leafT (⟨Option.some.inj h, S.fix [] [0, 1] (by decide) rfl rfl rfl⟩)))))
    refine sCondT S rfl hc26 ?_
    refine wp_skip (leafT (hK25 _ _ ?_))
    refine sSeq (fun K27 hK27 => ?_)
    refine wp_block ?_
    refine sSeq (fun K28 hK28 => ?_)
    refine sRegion ?_
    obtain ⟨x29, hx30, h⟩ := bindSome h
    obtain ⟨q31, hq32, S⟩ := pIdx (P := Try.prog) (r := r_api_CellStep) (v := .slice ad3 p1.length cp4) (xs := p1) (j := s20) 48 83 1 S Try.underlying48 rfl rfl hx30
    refine sIdxV (v := .slice ad3 p1.length cp4) (k := .i64) (j := s20) S (wN rfl) rfl rfl rfl hq32 rfl (lb rfl) fun a S => ?_
    obtain ⟨u33, S⟩ := pLoad (r := r_api_CellStep) (q := q31) (x := x29) 0 S rfl
    obtain rfl : u33 = .agg #[.int .u8 x29.Kind, .int .u8 x29.S.Kind, .bool x29.S.Purl, iv x29.S.A, iv x29.S.B] := S.mem.know (i := 1) (e := fRep r_api_CellStep (u33) x29) rfl
    refine sLoadVN (vq := q31) 0 [.int .u8 x29.Kind, .int .u8 x29.S.Kind, .bool x29.S.Purl, iv x29.S.A, iv x29.S.B] S (wN rfl) rfl rfl rfl rfl rfl rfl (lb rfl) fun a S => ?_
    refine sAlloc (.agg #[.int .u8 0, .int .u8 0, .bool false, iv 0, iv 0]) S (wN rfl) rfl rfl [.int .u8 0, .int .u8 0, .bool false, iv 0, iv 0] rfl rfl (lb rfl) fun a b34 w S => ?_
    refine sStore (p := b34) (off := 0) (T := 83) (vs := [.int .u8 0, .int .u8 0, .bool false, iv 0, iv 0]) (v := .agg #[.int .u8 x29.Kind, .int .u8 x29.S.Kind, .bool x29.S.Purl, iv x29.S.A, iv x29.S.B]) 0 [.int .u8 x29.Kind, .int .u8 x29.S.Kind, .bool x29.S.Purl, iv x29.S.A, iv x29.S.B] S (wN rfl) rfl rfl rfl rfl rfl rfl rfl (by simp) rfl fun a w S => ?_
    refine leafL (leafT (hK28 _ _ ?_))
    refine sSeq (fun K35 hK35 => ?_)
    refine sRegion ?_
    refine sLoadN (p := b34) (off := 0) (T := 83) (vs := [.int .u8 x29.Kind, .int .u8 x29.S.Kind, .bool x29.S.Purl, iv x29.S.A, iv x29.S.B]) 0 [.int .u8 x29.Kind, .int .u8 x29.S.Kind, .bool x29.S.Purl, iv x29.S.A, iv x29.S.B] S (wN rfl) rfl rfl rfl rfl rfl rfl rfl (lb rfl) fun a S => ?_
    obtain ⟨r36, hx37, h⟩ := bindSome h
    have S1 := S.mem
    refine sCallQ (X := Unit) (f := 90) (vs := [.agg #[.int .u8 x29.Kind, .int .u8 x29.S.Kind, .bool x29.S.Purl, iv x29.S.A, iv x29.S.B]]) (val := fun _ => .bool r36) S (wN rfl) rfl callee90 rfl (S1.quiet [1] rfl) (fun E1 w1 S1 => c_compare_fine E1 w1 x29 (.agg #[.int .u8 x29.Kind, .int .u8 x29.S.Kind, .bool x29.S.Purl, iv x29.S.A, iv x29.S.B]) r36 hx37 S1) rfl (lb rfl) fun _ a w S => ?_
    refine sNot (b := r36) S (wN rfl) rfl rfl rfl (lb rfl) fun a S => ?_
    refine leafL (leafT (hK35 _ _ ?_))
    rcases iteSome h with ⟨hc38, h⟩ | ⟨hc38, h⟩
    rotate_left
    · refine sCondF S rfl hc38 ?_
      refine wp_skip (leafB (leafT (hK27 _ _ ?_)))
      refine sRegion ?_
      refine sBin (iv (w64 (s20 + 1))) S (wN rfl) rfl rfl rfl (bAdd _ _ _ _ s20 1) rfl (lb rfl) fun a S => ?_
      refine sMove (iv (w64 (s20 + 1))) S (wN rfl) (.inl rfl) rfl rfl (lb rfl) fun a S => ?_
      exact leafL (leafT (⟨w64 (s20 + 1), (Option.some.inj h).symm, (S.fix [] [3, 4] (by decide) rfl rfl rfl)⟩))
    refine sCondT S rfl hc38 ?_
    refine sSeq (fun K39 hK39 => ?_)
    refine sRegion ?_
    refine sMove (.slice none 0 0) S (wN rfl) (.inr rfl) rfl rfl (lb rfl) fun a S => ?_
    refine sMove (.slice none 0 0) S (wN rfl) (.inr rfl) rfl rfl (lb rfl) fun a S => ?_
    refine sMove (iv 8) S (wN rfl) (.inr rfl) rfl rfl (lb rfl) fun a S => ?_
    refine leafL (leafT (hK39 _ _ ?_))
    obtain rfl := Option.some.inj h
    obtain rfl := hu21 _ rfl
    have h := g22
    clear g22
    try dsimp only at h
    obtain rfl := Option.some.inj h
    have h := g18
    clear g18
    try dsimp only at h
    obtain rfl := Option.some.inj h
    have S := S.learn (fRep (rL r_api_Stitch) (.slice none 0 0) ([] : (List api_Stitch))) (rL_nil _ _ _)
    have S := S.learn (fRep (rL r_api_CellStep) (.slice none 0 0) ([] : (List api_CellStep))) (rL_nil _ _ _)
    exact wp_ret (rBlock (rThen (rThen (rBlock (rThen (sRet (.tuple #[.slice none 0 0, .slice none 0 0, iv 8]) S (rsl3 rfl (rvT (t := 4) (v := .slice none 0 0) S rfl) (rvT (t := 5) (v := .slice none 0 0) S rfl) (rvT (t := 6) (v := iv 8) S rfl)) ⟨((.slice none 0 0), (.slice none 0 0)), rfl, S.mem.sel [] [1, 0] (by decide) rfl rfl⟩))))))
  obtain ⟨rfl, S⟩ := hI
  have h := g18
  clear g18
  try dsimp only at h
  refine sSeq (fun K40 hK40 => ?_)
  refine sRegion ?_
  refine sMove (.slice ad1 p0.length cp2) S (wN rfl) (.inl rfl) rfl rfl (lb rfl) fun a S => ?_
  refine sMove (.slice ad1 p0.length cp2) S (wN rfl) (.inr rfl) rfl rfl (lb rfl) fun a S => ?_
  refine leafL (leafT (hK40 _ _ ?_))
  obtain ⟨t50, h, g51⟩ := bindSome h
  refine sCut (fun a w => ∃ o41, ∃ o44, ∃ o47, .inl (o41, o44, o47) = t50 ∧ ∃ ad42, ∃ cp43, ∃ ad45, ∃ cp46, ∃ ad48, ∃ cp49, St [] E [] w0 106 a w [(4, .slice ad42 o41.length cp43), (5, .slice ad45 o44.length cp46), (10, .slice ad48 o47.length cp49)] [eRow r_api_Stitch 81 (.slice ad42 o41.length cp43) o41, eRow r_api_CellStep 83 (.slice ad45 o44.length cp46) o44] [fRep (rL r_api_Stitch) (.slice ad48 o47.length cp49) o47]) ?_ (fun a w hI => ?_)
  rotate_left
  · obtain ⟨o41, o44, o47, rfl, ad42, cp43, ad45, cp46, ad48, cp49, S⟩ := hI
    have h := g51
    clear g51
    try dsimp only at h
    refine sSeq (fun K172 hK172 => ?_)
    refine sSeq (fun K173 hK173 => ?_)
    refine sRegion ?_
    refine sMove (.slice ad48 o47.length cp49) S (wN rfl) (.inl rfl) rfl rfl (lb rfl) fun a S => ?_
    refine sLen (ad := ad48) (m := o47.length) (c := cp49) S (wN rfl) rfl Try.underlying47 rfl rfl (lb rfl) fun a S => ?_
    refine sBin (.bool (decide (0 < (o47.length : Int)))) S (wN rfl) rfl rfl rfl (bGt _ _ _ _ .i64 (o47.length : Int) 0) rfl (lb rfl) fun a S => ?_
    refine leafL (leafT (hK173 _ _ ?_))
    rcases iteSome h with ⟨hc174, h⟩ | ⟨hc174, h⟩
    · refine sCondT S rfl hc174 ?_
      refine sSeq (fun K175 hK175 => ?_)
      refine sRegion ?_
      refine sMove (.slice none 0 0) S (wN rfl) (.inr rfl) rfl rfl (lb rfl) fun a S => ?_
      refine sMove (.slice none 0 0) S (wN rfl) (.inr rfl) rfl rfl (lb rfl) fun a S => ?_
      refine sMove (iv 30) S (wN rfl) (.inr rfl) rfl rfl (lb rfl) fun a S => ?_
      refine leafL (leafT (hK175 _ _ ?_))
      obtain rfl := Option.some.inj h
      have S := S.learn (fRep (rL r_api_Stitch) (.slice none 0 0) ([] : (List api_Stitch))) (rL_nil _ _ _)
      have S := S.learn (fRep (rL r_api_CellStep) (.slice none 0 0) ([] : (List api_CellStep))) (rL_nil _ _ _)
      exact wp_ret (rThen (sRet (.tuple #[.slice none 0 0, .slice none 0 0, iv 30]) S (rsl3 rfl (rvT (t := 4) (v := .slice none 0 0) S rfl) (rvT (t := 5) (v := .slice none 0 0) S rfl) (rvT (t := 6) (v := iv 30) S rfl)) ⟨((.slice none 0 0), (.slice none 0 0)), rfl, S.mem.sel [] [1, 0] (by decide) rfl rfl⟩))
    refine sCondF S rfl hc174 ?_
    refine wp_skip (leafT (hK172 _ _ ?_))
    refine sSeq (fun K176 hK176 => ?_)
    refine sSeq (fun K177 hK177 => ?_)
    refine sRegion ?_
    refine sMove (.slice ad42 o41.length cp43) S (wN rfl) (.inl rfl) rfl rfl (lb rfl) fun a S => ?_
    obtain ⟨r178, hx179, h⟩ := bindSome h
    have S1 := S.mem
    have S1 := S1.shutR (r := r_api_Stitch) (T := 81) (v := .slice ad42 o41.length cp43) (xs := o41) 0 rfl
    refine sCallQ (X := Unit) (f := 56) (vs := [.slice ad42 o41.length cp43]) (val := fun _ => iv r178) S (wN rfl) rfl callee56 rfl (S1.quiet [0] rfl) (fun E1 w1 S1 => c_stitch_All E1 w1 o41 (.slice ad42 o41.length cp43) r178 hx179 S1) rfl (lb rfl) fun _ a w S => ?_
    refine sMove (iv r178) S (wN rfl) (.inr rfl) rfl rfl (lb rfl) fun a S => ?_
    refine leafL (leafT (hK177 _ _ ?_))
    refine sSeq (fun K180 hK180 => ?_)
    refine sRegion ?_
    refine sMove (iv r178) S (wN rfl) (.inl rfl) rfl rfl (lb rfl) fun a S => ?_
    refine sBin (.bool (r178 != 0)) S (wN rfl) rfl rfl rfl (bNe _ _ _ _ .i64 r178 0) rfl (lb rfl) fun a S => ?_
    refine leafL (leafT (hK180 _ _ ?_))
    rcases iteSome h with ⟨hc181, h⟩ | ⟨hc181, h⟩
    · refine sCondT S rfl hc181 ?_
      refine sSeq (fun K182 hK182 => ?_)
      refine sRegion ?_
      refine sMove (iv r178) S (wN rfl) (.inl rfl) rfl rfl (lb rfl) fun a S => ?_
      refine sMove (.slice none 0 0) S (wN rfl) (.inr rfl) rfl rfl (lb rfl) fun a S => ?_
      refine sMove (.slice none 0 0) S (wN rfl) (.inr rfl) rfl rfl (lb rfl) fun a S => ?_
      refine sMove (iv r178) S (wN rfl) (.inr rfl) rfl rfl (lb rfl) fun a S => ?_
      refine leafL (leafT (hK182 _ _ ?_))
      obtain rfl := Option.some.inj h
      have S := S.learn (fRep (rL r_api_Stitch) (.slice none 0 0) ([] : (List api_Stitch))) (rL_nil _ _ _)
      have S := S.learn (fRep (rL r_api_CellStep) (.slice none 0 0) ([] : (List api_CellStep))) (rL_nil _ _ _)
      exact wp_ret (rThen (sRet (.tuple #[.slice none 0 0, .slice none 0 0, iv r178]) S (rsl3 rfl (rvT (t := 4) (v := .slice none 0 0) S rfl) (rvT (t := 5) (v := .slice none 0 0) S rfl) (rvT (t := 6) (v := iv r178) S rfl)) ⟨((.slice none 0 0), (.slice none 0 0)), rfl, S.mem.sel [] [1, 0] (by decide) rfl rfl⟩))
    refine sCondF S rfl hc181 ?_
    refine wp_skip (leafT (hK176 _ _ ?_))
    refine sSeq (fun K183 hK183 => ?_)
    refine sRegion ?_
    refine sMove (.slice ad42 o41.length cp43) S (wN rfl) (.inl rfl) rfl rfl (lb rfl) fun a S => ?_
    refine sMove (.slice ad45 o44.length cp46) S (wN rfl) (.inl rfl) rfl rfl (lb rfl) fun a S => ?_
    refine sMove (.slice ad42 o41.length cp43) S (wN rfl) (.inr rfl) rfl rfl (lb rfl) fun a S => ?_
    refine sMove (.slice ad45 o44.length cp46) S (wN rfl) (.inr rfl) rfl rfl (lb rfl) fun a S => ?_
    refine sMove (iv 0) S (wN rfl) (.inr rfl) rfl rfl (lb rfl) fun a S => ?_
    refine leafL (leafT (hK183 _ _ ?_))
    obtain rfl := Option.some.inj h
    have S := S.shutR (r := r_api_Stitch) (T := 81) (v := .slice ad42 o41.length cp43) (xs := o41) 0 rfl
    have S := S.shutR (r := r_api_CellStep) (T := 83) (v := .slice ad45 o44.length cp46) (xs := o44) 0 rfl
    exact wp_ret (sRet (.tuple #[.slice ad42 o41.length cp43, .slice ad45 o44.length cp46, iv 0]) S (rsl3 rfl (rvT (t := 4) (v := .slice ad42 o41.length cp43) S rfl) (rvT (t := 5) (v := .slice ad45 o44.length cp46) S rfl) (rvT (t := 6) (v := iv 0) S rfl)) ⟨((.slice ad42 o41.length cp43), (.slice ad45 o44.length cp46)), rfl, S.mem.sel [] [1, 0] (by decide) rfl rfl⟩)
  refine sSeq (fun K52 hK52 => ?_)
  refine sRegion ?_
  refine sMove (.slice ad3 p1.length cp4) S (wN rfl) (.inl rfl) rfl rfl (lb rfl) fun a S => ?_
  refine sLen (ad := ad3) (m := p1.length) (c := cp4) S (wN rfl) rfl Try.underlying48 rfl rfl (lb rfl) fun a S => ?_
  refine sMove (iv 0) S (wN rfl) (.inl rfl) rfl rfl (lb rfl) fun a S => ?_
  refine leafL (leafT (hK52 _ _ ?_))
  refine wp_block ?_
  have S := S.nilRow r_api_Stitch 81 (α := api_Stitch)
  have S := S.nilRow r_api_CellStep 83 (α := api_CellStep)
  obtain ⟨t65, hl, g64⟩ := bindSome h
  refine sLoop hl (fun s0 a w => match s0 with | (s53, s56, s59, s62) => ∃ ad54, ∃ cp55, ∃ ad57, ∃ cp58, ∃ ad60, ∃ cp61, St [] E [] w0 106 a w [(4, .slice ad54 s53.length cp55), (5, .slice ad57 s56.length cp58), (10, .slice ad60 s59.length cp61), (34, .slice ad3 p1.length cp4), (35, iv (p1.length : Int)), (36, iv s62)] [eRow r_api_Stitch 81 (.slice ad54 s53.length cp55) s53, eRow r_api_CellStep 83 (.slice ad57 s56.length cp58) s56] [fRep (rL r_api_Stitch) (.slice ad60 s59.length cp61) s59, fRep (rL r_api_CellStep) (.slice ad3 p1.length cp4) p1]) ⟨none, 0, none, 0, ad1, cp2, S.fix [1, 0] [0, 1] (by decide) rfl rfl rfl⟩ ?_
  clear hl h
  intro s0 a w c0 hI h hu63
  obtain ⟨s53, s56, s59, s62⟩ := s0
  unfold compare_walk_l2 at h
  dsimp only at h hI
  obtain ⟨ad54, cp55, ad57, cp58, ad60, cp61, S⟩ := hI
  refine sSeq (fun K75 hK75 => ?_)
  refine sRegion ?_
  refine sBin (.bool (decide (s62 < (p1.length : Int)))) S (wN rfl) rfl rfl rfl (bLt _ _ _ _ .i64 s62 (p1.length : Int)) rfl (lb rfl) fun a S => ?_
  refine leafL (leafT (hK75 _ _ ?_))
  refine sSeq (fun K76 hK76 => ?_)
  rcases iteSome h with ⟨hc77, h⟩ | ⟨hc77, h⟩
  rotate_left
  · refine sCondF S rfl hc77 ?_
    obtain rfl := Option.some.inj h
    obtain rfl := hu63 _ rfl
    have h := g64
    clear g64
    try dsimp only at h
    exact wp_exit (xThen (xThen (xHit (leafT (⟨s53, s56, s59, Option.some.inj h, ad54, cp55, ad57, cp58, ad60, cp61, S.fix [0, 1] [0] (by decide) rfl rfl rfl⟩)))))
  refine sCondT S rfl hc77 ?_
  refine wp_skip (leafT (hK76 _ _ ?_))
  obtain ⟨t87, h, g88⟩ := bindSome h
  refine sCut (fun a w => ∃ o78, ∃ o81, ∃ o84, .inl (o78, o81, o84) = t87 ∧ ∃ ad79, ∃ cp80, ∃ ad82, ∃ cp83, ∃ ad85, ∃ cp86, St [] E [] w0 106 a w [(4, .slice ad79 o78.length cp80), (5, .slice ad82 o81.length cp83), (10, .slice ad85 o84.length cp86), (34, .slice ad3 p1.length cp4), (35, iv (p1.length : Int)), (36, iv s62)] [eRow r_api_Stitch 81 (.slice ad79 o78.length cp80) o78, eRow r_api_CellStep 83 (.slice ad82 o81.length cp83) o81] [fRep (rL r_api_Stitch) (.slice ad85 o84.length cp86) o84, fRep (rL r_api_CellStep) (.slice ad3 p1.length cp4) p1]) ?_ (fun a w hI => ?_)
  rotate_left
  · obtain ⟨o78, o81, o84, rfl, ad79, cp80, ad82, cp83, ad85, cp86, S⟩ := hI
    have h := g88
    clear g88
    try dsimp only at h
    refine sRegion ?_
    refine sBin (iv (w64 (s62 + 1))) S (wN rfl) rfl rfl rfl (bAdd _ _ _ _ s62 1) rfl (lb rfl) fun a S => ?_
    refine sMove (iv (w64 (s62 + 1))) S (wN rfl) (.inl rfl) rfl rfl (lb rfl) fun a S => ?_
    exact leafL (leafT (⟨(o78, o81, o84, w64 (s62 + 1)), (Option.some.inj h).symm, ⟨ad79, cp80, ad82, cp83, ad85, cp86, S.fix [0, 1] [0, 1] (by decide) rfl rfl rfl⟩⟩))
  refine wp_block ?_
  refine sSeq (fun K89 hK89 => ?_)
  refine sRegion ?_
  obtain ⟨x90, hx91, h⟩ := bindSome h
  obtain ⟨q92, hq93, S⟩ := pIdx (P := Try.prog) (r := r_api_CellStep) (v := .slice ad3 p1.length cp4) (xs := p1) (j := s62) 48 83 1 S Try.underlying48 rfl rfl hx91
  refine sIdxV (v := .slice ad3 p1.length cp4) (k := .i64) (j := s62) S (wN rfl) rfl rfl rfl hq93 rfl (lb rfl) fun a S => ?_
  obtain ⟨u94, S⟩ := pLoad (r := r_api_CellStep) (q := q92) (x := x90) 0 S rfl
  obtain rfl : u94 = .agg #[.int .u8 x90.Kind, .int .u8 x90.S.Kind, .bool x90.S.Purl, iv x90.S.A, iv x90.S.B] := S.mem.know (i := 1) (e := fRep r_api_CellStep (u94) x90) rfl
  refine sLoadVN (vq := q92) 0 [.int .u8 x90.Kind, .int .u8 x90.S.Kind, .bool x90.S.Purl, iv x90.S.A, iv x90.S.B] S (wN rfl) rfl rfl rfl rfl rfl rfl (lb rfl) fun a S => ?_
  refine sAlloc (.agg #[.int .u8 0, .int .u8 0, .bool false, iv 0, iv 0]) S (wN rfl) rfl rfl [.int .u8 0, .int .u8 0, .bool false, iv 0, iv 0] rfl rfl (lb rfl) fun a b95 w S => ?_
  refine sStore (p := b95) (off := 0) (T := 83) (vs := [.int .u8 0, .int .u8 0, .bool false, iv 0, iv 0]) (v := .agg #[.int .u8 x90.Kind, .int .u8 x90.S.Kind, .bool x90.S.Purl, iv x90.S.A, iv x90.S.B]) 0 [.int .u8 x90.Kind, .int .u8 x90.S.Kind, .bool x90.S.Purl, iv x90.S.A, iv x90.S.B] S (wN rfl) rfl rfl rfl rfl rfl rfl rfl (by simp) rfl fun a w S => ?_
  refine leafL (leafT (hK89 _ _ ?_))
  refine sSeq (fun K96 hK96 => ?_)
  refine sSeq (fun K97 hK97 => ?_)
  refine sRegion ?_
  refine sField (b := b95) (off := 0) 0 0 S (wN rfl) rfl rfl rfl rfl rfl (lb rfl) fun a S => ?_
  refine sLoad1 (p := b95) (off := 0) (T := 83) (vs := [.int .u8 x90.Kind, .int .u8 x90.S.Kind, .bool x90.S.Purl, iv x90.S.A, iv x90.S.B]) 0 (.int .u8 x90.Kind) S (wN rfl) rfl rfl rfl rfl rfl rfl (lb rfl) fun a S => ?_
  refine sBin (.bool (x90.Kind == 3)) S (wN rfl) rfl rfl rfl (bEq _ _ _ _ .u8 x90.Kind 3) rfl (lb rfl) fun a S => ?_
  refine leafL (leafT (hK97 _ _ ?_))
  rcases iteSome h with ⟨hc98, h⟩ | ⟨hc98, h⟩
  · refine sCondT S rfl hc98 ?_
    refine sSeq (fun K99 hK99 => ?_)
    refine sRegion ?_
    refine sMove (.slice ad54 s53.length cp55) S (wN rfl) (.inl rfl) rfl rfl (lb rfl) fun a S => ?_
    refine sField (b := b95) (off := 0) 1 1 S (wN rfl) rfl rfl rfl rfl rfl (lb rfl) fun a S => ?_
    refine sLoadN (p := b95) (off := 1) (T := 83) (vs := [.int .u8 x90.Kind, .int .u8 x90.S.Kind, .bool x90.S.Purl, iv x90.S.A, iv x90.S.B]) 0 [.int .u8 x90.S.Kind, .bool x90.S.Purl, iv x90.S.A, iv x90.S.B] S (wN rfl) rfl rfl rfl rfl rfl rfl rfl (lb rfl) fun a S => ?_
    have S := S.learn (fRep r_api_Stitch (.agg #[.int .u8 x90.S.Kind, .bool x90.S.Purl, iv x90.S.A, iv x90.S.B]) x90.S) rfl
    refine sLit (r := r_api_Stitch) (T := 81) (xs := [x90.S]) [(0, .agg #[.int .u8 x90.S.Kind, .bool x90.S.Purl, iv x90.S.A, iv x90.S.B])] 1 [.agg #[.int .u8 x90.S.Kind, .bool x90.S.Purl, iv x90.S.A, iv x90.S.B]] [.int .u8 x90.S.Kind, .bool x90.S.Purl, iv x90.S.A, iv x90.S.B] (.agg #[.int .u8 0, .bool false, iv 0, iv 0]) 24 S (wN rfl) rfl rfl Try.underlying47 rfl (by decide) (by decide) (by kernel_rfl) rfl (fun E1 w1 hE => All.cons (r_api_Stitch.mono hE (S.mem.know (i := 0) (e := fRep r_api_Stitch (.agg #[.int .u8 x90.S.Kind, .bool x90.S.Purl, iv x90.S.A, iv x90.S.B]) x90.S) rfl)) (All.nil _ _ _)) rfl rfl (lb rfl) fun a w ad100 cp101 S => ?_
    obtain ⟨l102, hx103, h⟩ := bindSome h
    refine sApp (r := r_api_Stitch) (T := 81) (xs := s53) (ys := [x90.S]) (v := .slice ad54 s53.length cp55) (u := .slice ad100 [x90.S].length cp101) 2 (.agg #[.int .u8 0, .bool false, iv 0, iv 0]) 24 S (wN rfl) rfl Try.underlying47 rfl rfl (by decide) rfl rfl rfl (src_R (T := 81) 0 S.mem rfl) hx103 rfl (lb rfl) fun a w ad104 cp105 S => ?_
    refine sMove (.slice ad104 l102.length cp105) S (wN rfl) (.inr rfl) rfl rfl (lb rfl) fun a S => ?_
    refine leafL (leafT (hK99 _ _ ?_))
    refine sSeq (fun K106 hK106 => ?_)
    refine sRegion ?_
    refine sMove (.slice ad57 s56.length cp58) S (wN rfl) (.inl rfl) rfl rfl (lb rfl) fun a S => ?_
    refine sBuild [(0, .int .u8 4)] [.int .u8 4, .int .u8 0, .bool false, iv 0, iv 0] S (wN rfl) rfl rfl rfl rfl (lb rfl) fun a S => ?_
    have S := S.learn (fRep r_api_CellStep (.agg #[.int .u8 4, .int .u8 0, .bool false, iv 0, iv 0]) (api_CellStep.mk 4 (api_Stitch.mk 0 false 0 0))) rfl
    refine sLit (r := r_api_CellStep) (T := 83) (xs := [(api_CellStep.mk 4 (api_Stitch.mk 0 false 0 0))]) [(0, .agg #[.int .u8 4, .int .u8 0, .bool false, iv 0, iv 0])] 1 [.agg #[.int .u8 4, .int .u8 0, .bool false, iv 0, iv 0]] [.int .u8 4, .int .u8 0, .bool false, iv 0, iv 0] (.agg #[.int .u8 0, .int .u8 0, .bool false, iv 0, iv 0]) 32 S (wN rfl) rfl rfl Try.underlying48 rfl (by decide) (by decide) (by kernel_rfl) rfl (fun E1 w1 hE => All.cons (r_api_CellStep.mono hE (S.mem.know (i := 0) (e := fRep r_api_CellStep (.agg #[.int .u8 4, .int .u8 0, .bool false, iv 0, iv 0]) (api_CellStep.mk 4 (api_Stitch.mk 0 false 0 0))) rfl)) (All.nil _ _ _)) rfl rfl (lb rfl) fun a w ad107 cp108 S => ?_
    obtain ⟨l109, hx110, h⟩ := bindSome h
    refine sApp (r := r_api_CellStep) (T := 83) (xs := s56) (ys := [(api_CellStep.mk 4 (api_Stitch.mk 0 false 0 0))]) (v := .slice ad57 s56.length cp58) (u := .slice ad107 [(api_CellStep.mk 4 (api_Stitch.mk 0 false 0 0))].length cp108) 4 (.agg #[.int .u8 0, .int .u8 0, .bool false, iv 0, iv 0]) 32 S (wN rfl) rfl Try.underlying48 rfl rfl (by decide) rfl rfl rfl (src_R (T := 83) 0 S.mem rfl) hx110 rfl (lb rfl) fun a w ad111 cp112 S => ?_
    refine sMove (.slice ad111 l109.length cp112) S (wN rfl) (.inr rfl) rfl rfl (lb rfl) fun a S => ?_
    refine leafL (leafT (hK106 _ _ ?_))
    exact wp_exit (xThen (xHit (leafT (⟨l102, l109, s59, Option.some.inj h, ad104, cp105, ad111, cp112, ad60, cp61, S.fix [2, 0] [5, 6] (by decide) rfl rfl rfl⟩))))
  refine sCondF S rfl hc98 ?_
  refine wp_skip (leafT (hK96 _ _ ?_))
  refine sSeq (fun K113 hK113 => ?_)
  refine sSeq (fun K114 hK114 => ?_)
  refine sRegion ?_
  refine sMove (.slice ad60 s59.length cp61) S (wN rfl) (.inl rfl) rfl rfl (lb rfl) fun a S => ?_
  refine sLen (ad := ad60) (m := s59.length) (c := cp61) S (wN rfl) rfl Try.underlying47 rfl rfl (lb rfl) fun a S => ?_
  refine sBin (.bool ((s59.length : Int) == 0)) S (wN rfl) rfl rfl rfl (bEq _ _ _ _ .i64 (s59.length : Int) 0) rfl (lb rfl) fun a S => ?_
  refine leafL (leafT (hK114 _ _ ?_))
  rcases iteSome h with ⟨hc115, h⟩ | ⟨hc115, h⟩
  · refine sCondT S rfl hc115 ?_
    refine sSeq (fun K116 hK116 => ?_)
    refine sRegion ?_
    refine sMove (.slice none 0 0) S (wN rfl) (.inr rfl) rfl rfl (lb rfl) fun a S => ?_
    refine sMove (.slice none 0 0) S (wN rfl) (.inr rfl) rfl rfl (lb rfl) fun a S => ?_
    refine sMove (iv 30) S (wN rfl) (.inr rfl) rfl rfl (lb rfl) fun a S => ?_
    refine leafL (leafT (hK116 _ _ ?_))
    obtain rfl := Option.some.inj h
    have h := g88
    clear g88
    try dsimp only at h
    obtain rfl := Option.some.inj h
    obtain rfl := hu63 _ rfl
    have h := g64
    clear g64
    try dsimp only at h
    obtain rfl := Option.some.inj h
    have h := g51
    clear g51
    try dsimp only at h
    obtain rfl := Option.some.inj h
    have S := S.learn (fRep (rL r_api_Stitch) (.slice none 0 0) ([] : (List api_Stitch))) (rL_nil _ _ _)
    have S := S.learn (fRep (rL r_api_CellStep) (.slice none 0 0) ([] : (List api_CellStep))) (rL_nil _ _ _)
    exact wp_ret (rThen (rBlock (rThen (rThen (rBlock (rThen (sRet (.tuple #[.slice none 0 0, .slice none 0 0, iv 30]) S (rsl3 rfl (rvT (t := 4) (v := .slice none 0 0) S rfl) (rvT (t := 5) (v := .slice none 0 0) S rfl) (rvT (t := 6) (v := iv 30) S rfl)) ⟨((.slice none 0 0), (.slice none 0 0)), rfl, S.mem.sel [] [1, 0] (by decide) rfl rfl⟩)))))))
  refine sCondF S rfl hc115 ?_
  refine wp_skip (leafT (hK113 _ _ ?_))
  refine sSeq (fun K117 hK117 => ?_)
  refine sRegion ?_
  refine sMove (.slice ad60 s59.length cp61) S (wN rfl) (.inl rfl) rfl rfl (lb rfl) fun a S => ?_
  obtain ⟨x118, hx119, h⟩ := bindSome h
  obtain ⟨q120, hq121, S⟩ := pIdx (P := Try.prog) (r := r_api_Stitch) (v := .slice ad60 s59.length cp61) (xs := s59) (j := 0) 47 81 3 S Try.underlying47 rfl rfl hx119
  refine sIdxV (v := .slice ad60 s59.length cp61) (k := .i64) (j := 0) S (wN rfl) rfl rfl rfl hq121 rfl (lb rfl) fun a S => ?_
  obtain ⟨u122, S⟩ := pLoad (r := r_api_Stitch) (q := q120) (x := x118) 0 S rfl
  obtain rfl : u122 = .agg #[.int .u8 x118.Kind, .bool x118.Purl, iv x118.A, iv x118.B] := S.mem.know (i := 1) (e := fRep r_api_Stitch (u122) x118) rfl
  refine sLoadVN (vq := q120) 0 [.int .u8 x118.Kind, .bool x118.Purl, iv x118.A, iv x118.B] S (wN rfl) rfl rfl rfl rfl rfl rfl (lb rfl) fun a S => ?_
  refine sAlloc (.agg #[.int .u8 0, .bool false, iv 0, iv 0]) S (wN rfl) rfl rfl [.int .u8 0, .bool false, iv 0, iv 0] rfl rfl (lb rfl) fun a b123 w S => ?_
  refine sStore (p := b123) (off := 0) (T := 81) (vs := [.int .u8 0, .bool false, iv 0, iv 0]) (v := .agg #[.int .u8 x118.Kind, .bool x118.Purl, iv x118.A, iv x118.B]) 0 [.int .u8 x118.Kind, .bool x118.Purl, iv x118.A, iv x118.B] S (wN rfl) rfl rfl rfl rfl rfl rfl rfl (by simp) rfl fun a w S => ?_
  refine leafL (leafT (hK117 _ _ ?_))
  refine sSeq (fun K124 hK124 => ?_)
  refine sRegion ?_
  refine sMove (.slice ad60 s59.length cp61) S (wN rfl) (.inl rfl) rfl rfl (lb rfl) fun a S => ?_
  obtain ⟨y125, hx126, h⟩ := bindSome h
  refine sSlice (r := r_api_Stitch) (v := .slice ad60 s59.length cp61) (xs := s59) (vlo := (some (.int .i64 1))) (vhi := none) (lo' := 1) (hi' := (s59.length : Int)) 6 S (wN rfl) rfl Try.underlying47 rfl rfl rfl rfl rfl (.inl rfl) (.inr ⟨rfl, rfl⟩) hx126 rfl (lb rfl) fun a ad127 cp128 S => ?_
  refine sMove (.slice ad127 y125.length cp128) S (wN rfl) (.inr rfl) rfl rfl (lb rfl) fun a S => ?_
  refine leafL (leafT (hK124 _ _ ?_))
  refine sSeq (fun K129 hK129 => ?_)
  refine sRegion ?_
  refine sField (b := b95) (off := 0) 0 0 S (wN rfl) rfl rfl rfl rfl rfl (lb rfl) fun a S => ?_
  refine sLoad1 (p := b95) (off := 0) (T := 83) (vs := [.int .u8 x90.Kind, .int .u8 x90.S.Kind, .bool x90.S.Purl, iv x90.S.A, iv x90.S.B]) 1 (.int .u8 x90.Kind) S (wN rfl) rfl rfl rfl rfl rfl rfl (lb rfl) fun a S => ?_
  refine leafL (leafT (hK129 _ _ ?_))
  refine wp_block ?_
  refine sSeq (fun K130 hK130 => ?_)
  refine sRegion ?_
  refine sBin (.bool (x90.Kind == 1)) S (wN rfl) rfl rfl rfl (bEq _ _ _ _ .u8 x90.Kind 1) rfl (lb rfl) fun a S => ?_
  refine sMove (.bool (x90.Kind == 1)) S (wN rfl) (.inr rfl) rfl rfl (lb rfl) fun a S => ?_
  refine leafL (leafT (hK130 _ _ ?_))
  rcases iteSome h with ⟨hc131, h⟩ | ⟨hc131, h⟩
  · refine sCondT S rfl hc131 ?_
    refine sSeq (fun K132 hK132 => ?_)
    refine sRegion ?_
    refine sMove (.slice ad54 s53.length cp55) S (wN rfl) (.inl rfl) rfl rfl (lb rfl) fun a S => ?_
    refine sLoadN (p := b123) (off := 0) (T := 81) (vs := [.int .u8 x118.Kind, .bool x118.Purl, iv x118.A, iv x118.B]) 0 [.int .u8 x118.Kind, .bool x118.Purl, iv x118.A, iv x118.B] S (wN rfl) rfl rfl rfl rfl rfl rfl rfl (lb rfl) fun a S => ?_
    refine sLit (r := r_api_Stitch) (T := 81) (xs := [x118]) [(0, .agg #[.int .u8 x118.Kind, .bool x118.Purl, iv x118.A, iv x118.B])] 1 [.agg #[.int .u8 x118.Kind, .bool x118.Purl, iv x118.A, iv x118.B]] [.int .u8 x118.Kind, .bool x118.Purl, iv x118.A, iv x118.B] (.agg #[.int .u8 0, .bool false, iv 0, iv 0]) 24 S (wN rfl) rfl rfl Try.underlying47 rfl (by decide) (by decide) (by kernel_rfl) rfl (fun E1 w1 hE => All.cons (r_api_Stitch.mono hE (S.mem.know (i := 2) (e := fRep r_api_Stitch (.agg #[.int .u8 x118.Kind, .bool x118.Purl, iv x118.A, iv x118.B]) x118) rfl)) (All.nil _ _ _)) rfl rfl (lb rfl) fun a w ad133 cp134 S => ?_
    obtain ⟨l135, hx136, h⟩ := bindSome h
    refine sApp (r := r_api_Stitch) (T := 81) (xs := s53) (ys := [x118]) (v := .slice ad54 s53.length cp55) (u := .slice ad133 [x118].length cp134) 3 (.agg #[.int .u8 0, .bool false, iv 0, iv 0]) 24 S (wN rfl) rfl Try.underlying47 rfl rfl (by decide) rfl rfl rfl (src_R (T := 81) 0 S.mem rfl) hx136 rfl (lb rfl) fun a w ad137 cp138 S => ?_
    refine sMove (.slice ad137 l135.length cp138) S (wN rfl) (.inr rfl) rfl rfl (lb rfl) fun a S => ?_
    refine leafL (leafT (hK132 _ _ ?_))
    refine sRegion ?_
    refine sMove (.slice ad57 s56.length cp58) S (wN rfl) (.inl rfl) rfl rfl (lb rfl) fun a S => ?_
    refine sLoadN (p := b95) (off := 0) (T := 83) (vs := [.int .u8 x90.Kind, .int .u8 x90.S.Kind, .bool x90.S.Purl, iv x90.S.A, iv x90.S.B]) 3 [.int .u8 x90.Kind, .int .u8 x90.S.Kind, .bool x90.S.Purl, iv x90.S.A, iv x90.S.B] S (wN rfl) rfl rfl rfl rfl rfl rfl rfl (lb rfl) fun a S => ?_
    refine sLit (r := r_api_CellStep) (T := 83) (xs := [x90]) [(0, .agg #[.int .u8 x90.Kind, .int .u8 x90.S.Kind, .bool x90.S.Purl, iv x90.S.A, iv x90.S.B])] 1 [.agg #[.int .u8 x90.Kind, .int .u8 x90.S.Kind, .bool x90.S.Purl, iv x90.S.A, iv x90.S.B]] [.int .u8 x90.Kind, .int .u8 x90.S.Kind, .bool x90.S.Purl, iv x90.S.A, iv x90.S.B] (.agg #[.int .u8 0, .int .u8 0, .bool false, iv 0, iv 0]) 32 S (wN rfl) rfl rfl Try.underlying48 rfl (by decide) (by decide) (by kernel_rfl) rfl (fun E1 w1 hE => All.cons (r_api_CellStep.mono hE (S.mem.know (i := 5) (e := fRep r_api_CellStep (.agg #[.int .u8 x90.Kind, .int .u8 x90.S.Kind, .bool x90.S.Purl, iv x90.S.A, iv x90.S.B]) x90) rfl)) (All.nil _ _ _)) rfl rfl (lb rfl) fun a w ad139 cp140 S => ?_
    obtain ⟨l141, hx142, h⟩ := bindSome h
    refine sApp (r := r_api_CellStep) (T := 83) (xs := s56) (ys := [x90]) (v := .slice ad57 s56.length cp58) (u := .slice ad139 [x90].length cp140) 5 (.agg #[.int .u8 0, .int .u8 0, .bool false, iv 0, iv 0]) 32 S (wN rfl) rfl Try.underlying48 rfl rfl (by decide) rfl rfl rfl (src_R (T := 83) 0 S.mem rfl) hx142 rfl (lb rfl) fun a w ad143 cp144 S => ?_
    refine sMove (.slice ad143 l141.length cp144) S (wN rfl) (.inr rfl) rfl rfl (lb rfl) fun a S => ?_
    exact leafL (leafB (leafB (leafT (⟨l135, l141, y125, Option.some.inj h, ad137, cp138, ad143, cp144, ad127, cp128, S.fix [2, 0] [0, 8] (by decide) rfl rfl rfl⟩))))
  refine sCondF S rfl hc131 ?_
  refine sSeq (fun K145 hK145 => ?_)
  refine sRegion ?_
  refine sBin (.bool (x90.Kind == 2)) S (wN rfl) rfl rfl rfl (bEq _ _ _ _ .u8 x90.Kind 2) rfl (lb rfl) fun a S => ?_
  refine sMove (.bool (x90.Kind == 2)) S (wN rfl) (.inr rfl) rfl rfl (lb rfl) fun a S => ?_
  refine leafL (leafT (hK145 _ _ ?_))
  rcases iteSome h with ⟨hc146, h⟩ | ⟨hc146, h⟩
  rotate_left
  · refine sCondF S rfl hc146 ?_
    refine sSeq (fun K164 hK164 => ?_)
    refine sRegion ?_
    refine sBin (.bool (x90.Kind == 4)) S (wN rfl) rfl rfl rfl (bEq _ _ _ _ .u8 x90.Kind 4) rfl (lb rfl) fun a S => ?_
    refine sMove (.bool (x90.Kind == 4)) S (wN rfl) (.inr rfl) rfl rfl (lb rfl) fun a S => ?_
    refine leafL (leafT (hK164 _ _ ?_))
    rcases iteSome h with ⟨hc165, h⟩ | ⟨hc165, h⟩
    rotate_left
    · refine sCondF S rfl hc165 ?_
      exact wp_skip (leafB (leafB (leafT (⟨s53, s56, y125, Option.some.inj h, ad54, cp55, ad57, cp58, ad127, cp128, S.fix [2, 3] [0, 8] (by decide) rfl rfl rfl⟩))))
    refine sCondT S rfl hc165 ?_
    refine sRegion ?_
    refine sMove (.slice ad57 s56.length cp58) S (wN rfl) (.inl rfl) rfl rfl (lb rfl) fun a S => ?_
    refine sLoadN (p := b123) (off := 0) (T := 81) (vs := [.int .u8 x118.Kind, .bool x118.Purl, iv x118.A, iv x118.B]) 0 [.int .u8 x118.Kind, .bool x118.Purl, iv x118.A, iv x118.B] S (wN rfl) rfl rfl rfl rfl rfl rfl rfl (lb rfl) fun a S => ?_
    refine sBuild [(0, .int .u8 3), (1, .agg #[.int .u8 x118.Kind, .bool x118.Purl, iv x118.A, iv x118.B])] [.int .u8 3, .int .u8 x118.Kind, .bool x118.Purl, iv x118.A, iv x118.B] S (wN rfl) rfl rfl rfl rfl (lb rfl) fun a S => ?_
    have S := S.learn (fRep r_api_CellStep (.agg #[.int .u8 3, .int .u8 x118.Kind, .bool x118.Purl, iv x118.A, iv x118.B]) (api_CellStep.mk 3 x118)) rfl
    refine sLit (r := r_api_CellStep) (T := 83) (xs := [(api_CellStep.mk 3 x118)]) [(0, .agg #[.int .u8 3, .int .u8 x118.Kind, .bool x118.Purl, iv x118.A, iv x118.B])] 1 [.agg #[.int .u8 3, .int .u8 x118.Kind, .bool x118.Purl, iv x118.A, iv x118.B]] [.int .u8 3, .int .u8 x118.Kind, .bool x118.Purl, iv x118.A, iv x118.B] (.agg #[.int .u8 0, .int .u8 0, .bool false, iv 0, iv 0]) 32 S (wN rfl) rfl rfl Try.underlying48 rfl (by decide) (by decide) (by kernel_rfl) rfl (fun E1 w1 hE => All.cons (r_api_CellStep.mono hE (S.mem.know (i := 0) (e := fRep r_api_CellStep (.agg #[.int .u8 3, .int .u8 x118.Kind, .bool x118.Purl, iv x118.A, iv x118.B]) (api_CellStep.mk 3 x118)) rfl)) (All.nil _ _ _)) rfl rfl (lb rfl) fun a w ad166 cp167 S => ?_
    obtain ⟨l168, hx169, h⟩ := bindSome h
    refine sApp (r := r_api_CellStep) (T := 83) (xs := s56) (ys := [(api_CellStep.mk 3 x118)]) (v := .slice ad57 s56.length cp58) (u := .slice ad166 [(api_CellStep.mk 3 x118)].length cp167) 4 (.agg #[.int .u8 0, .int .u8 0, .bool false, iv 0, iv 0]) 32 S (wN rfl) rfl Try.underlying48 rfl rfl (by decide) rfl rfl rfl (src_R (T := 83) 0 S.mem rfl) hx169 rfl (lb rfl) fun a w ad170 cp171 S => ?_
    refine sMove (.slice ad170 l168.length cp171) S (wN rfl) (.inr rfl) rfl rfl (lb rfl) fun a S => ?_
    exact leafL (leafB (leafB (leafT (⟨s53, l168, y125, Option.some.inj h, ad54, cp55, ad170, cp171, ad127, cp128, S.fix [4, 0] [1, 9] (by decide) rfl rfl rfl⟩))))
  refine sCondT S rfl hc146 ?_
  refine sSeq (fun K147 hK147 => ?_)
  refine sSeq (fun K148 hK148 => ?_)
  refine sRegion ?_
  refine sField (b := b95) (off := 0) 1 1 S (wN rfl) rfl rfl rfl rfl rfl (lb rfl) fun a S => ?_
  refine sLoadN (p := b95) (off := 1) (T := 83) (vs := [.int .u8 x90.Kind, .int .u8 x90.S.Kind, .bool x90.S.Purl, iv x90.S.A, iv x90.S.B]) 1 [.int .u8 x90.S.Kind, .bool x90.S.Purl, iv x90.S.A, iv x90.S.B] S (wN rfl) rfl rfl rfl rfl rfl rfl rfl (lb rfl) fun a S => ?_
  refine sLoadN (p := b123) (off := 0) (T := 81) (vs := [.int .u8 x118.Kind, .bool x118.Purl, iv x118.A, iv x118.B]) 0 [.int .u8 x118.Kind, .bool x118.Purl, iv x118.A, iv x118.B] S (wN rfl) rfl rfl rfl rfl rfl rfl rfl (lb rfl) fun a S => ?_
  refine sBin (.bool ((x90.S.Kind == x118.Kind) && ((x90.S.Purl == x118.Purl) && ((x90.S.A == x118.A) && ((x90.S.B == x118.B) && true))))) S (wN rfl) rfl rfl rfl (bEqV _ _ _ _ #[.int .u8 x90.S.Kind, .bool x90.S.Purl, iv x90.S.A, iv x90.S.B] #[.int .u8 x118.Kind, .bool x118.Purl, iv x118.A, iv x118.B] ((x90.S.Kind == x118.Kind) && ((x90.S.Purl == x118.Purl) && ((x90.S.A == x118.A) && ((x90.S.B == x118.B) && true)))) (by kernel_rfl) (eqlV_of (by kernel_rfl))) rfl (lb rfl) fun a S => ?_
  refine leafL (leafT (hK148 _ _ ?_))
  rcases iteSome h with ⟨hc149, h⟩ | ⟨hc149, h⟩
  · refine sCondT S rfl hc149 ?_
    refine sSeq (fun K150 hK150 => ?_)
    refine sRegion ?_
    refine sMove (.slice none 0 0) S (wN rfl) (.inr rfl) rfl rfl (lb rfl) fun a S => ?_
    refine sMove (.slice none 0 0) S (wN rfl) (.inr rfl) rfl rfl (lb rfl) fun a S => ?_
    refine sMove (iv 30) S (wN rfl) (.inr rfl) rfl rfl (lb rfl) fun a S => ?_
    refine leafL (leafT (hK150 _ _ ?_))
    obtain rfl := Option.some.inj h
    have h := g88
    clear g88
    try dsimp only at h
    obtain rfl := Option.some.inj h
    obtain rfl := hu63 _ rfl
    have h := g64
    clear g64
    try dsimp only at h
    obtain rfl := Option.some.inj h
    have h := g51
    clear g51
    try dsimp only at h
    obtain rfl := Option.some.inj h
    have S := S.learn (fRep (rL r_api_Stitch) (.slice none 0 0) ([] : (List api_Stitch))) (rL_nil _ _ _)
    have S := S.learn (fRep (rL r_api_CellStep) (.slice none 0 0) ([] : (List api_CellStep))) (rL_nil _ _ _)
    exact wp_ret (rThen (rBlock (rBlock (rThen (rThen (rBlock (rThen (sRet (.tuple #[.slice none 0 0, .slice none 0 0, iv 30]) S (rsl3 rfl (rvT (t := 4) (v := .slice none 0 0) S rfl) (rvT (t := 5) (v := .slice none 0 0) S rfl) (rvT (t := 6) (v := iv 30) S rfl)) ⟨((.slice none 0 0), (.slice none 0 0)), rfl, S.mem.sel [] [1, 0] (by decide) rfl rfl⟩))))))))
  refine sCondF S rfl hc149 ?_
  refine wp_skip (leafT (hK147 _ _ ?_))
  refine sSeq (fun K151 hK151 => ?_)
  refine sRegion ?_
  refine sMove (.slice ad54 s53.length cp55) S (wN rfl) (.inl rfl) rfl rfl (lb rfl) fun a S => ?_
  refine sField (b := b95) (off := 0) 1 1 S (wN rfl) rfl rfl rfl rfl rfl (lb rfl) fun a S => ?_
  refine sLoadN (p := b95) (off := 1) (T := 83) (vs := [.int .u8 x90.Kind, .int .u8 x90.S.Kind, .bool x90.S.Purl, iv x90.S.A, iv x90.S.B]) 1 [.int .u8 x90.S.Kind, .bool x90.S.Purl, iv x90.S.A, iv x90.S.B] S (wN rfl) rfl rfl rfl rfl rfl rfl rfl (lb rfl) fun a S => ?_
  have S := S.learn (fRep r_api_Stitch (.agg #[.int .u8 x90.S.Kind, .bool x90.S.Purl, iv x90.S.A, iv x90.S.B]) x90.S) rfl
  refine sLit (r := r_api_Stitch) (T := 81) (xs := [x90.S]) [(0, .agg #[.int .u8 x90.S.Kind, .bool x90.S.Purl, iv x90.S.A, iv x90.S.B])] 1 [.agg #[.int .u8 x90.S.Kind, .bool x90.S.Purl, iv x90.S.A, iv x90.S.B]] [.int .u8 x90.S.Kind, .bool x90.S.Purl, iv x90.S.A, iv x90.S.B] (.agg #[.int .u8 0, .bool false, iv 0, iv 0]) 24 S (wN rfl) rfl rfl Try.underlying47 rfl (by decide) (by decide) (by kernel_rfl) rfl (fun E1 w1 hE => All.cons (r_api_Stitch.mono hE (S.mem.know (i := 0) (e := fRep r_api_Stitch (.agg #[.int .u8 x90.S.Kind, .bool x90.S.Purl, iv x90.S.A, iv x90.S.B]) x90.S) rfl)) (All.nil _ _ _)) rfl rfl (lb rfl) fun a w ad152 cp153 S => ?_
  obtain ⟨l154, hx155, h⟩ := bindSome h
  refine sApp (r := r_api_Stitch) (T := 81) (xs := s53) (ys := [x90.S]) (v := .slice ad54 s53.length cp55) (u := .slice ad152 [x90.S].length cp153) 3 (.agg #[.int .u8 0, .bool false, iv 0, iv 0]) 24 S (wN rfl) rfl Try.underlying47 rfl rfl (by decide) rfl rfl rfl (src_R (T := 81) 0 S.mem rfl) hx155 rfl (lb rfl) fun a w ad156 cp157 S => ?_
  refine sMove (.slice ad156 l154.length cp157) S (wN rfl) (.inr rfl) rfl rfl (lb rfl) fun a S => ?_
  refine leafL (leafT (hK151 _ _ ?_))
  refine sRegion ?_
  refine sMove (.slice ad57 s56.length cp58) S (wN rfl) (.inl rfl) rfl rfl (lb rfl) fun a S => ?_
  refine sLoadN (p := b123) (off := 0) (T := 81) (vs := [.int .u8 x118.Kind, .bool x118.Purl, iv x118.A, iv x118.B]) 2 [.int .u8 x118.Kind, .bool x118.Purl, iv x118.A, iv x118.B] S (wN rfl) rfl rfl rfl rfl rfl rfl rfl (lb rfl) fun a S => ?_
  refine sBuild [(0, .int .u8 2), (1, .agg #[.int .u8 x118.Kind, .bool x118.Purl, iv x118.A, iv x118.B])] [.int .u8 2, .int .u8 x118.Kind, .bool x118.Purl, iv x118.A, iv x118.B] S (wN rfl) rfl rfl rfl rfl (lb rfl) fun a S => ?_
  have S := S.learn (fRep r_api_CellStep (.agg #[.int .u8 2, .int .u8 x118.Kind, .bool x118.Purl, iv x118.A, iv x118.B]) (api_CellStep.mk 2 x118)) rfl
  refine sLit (r := r_api_CellStep) (T := 83) (xs := [(api_CellStep.mk 2 x118)]) [(0, .agg #[.int .u8 2, .int .u8 x118.Kind, .bool x118.Purl, iv x118.A, iv x118.B])] 1 [.agg #[.int .u8 2, .int .u8 x118.Kind, .bool x118.Purl, iv x118.A, iv x118.B]] [.int .u8 2, .int .u8 x118.Kind, .bool x118.Purl, iv x118.A, iv x118.B] (.agg #[.int .u8 0, .int .u8 0, .bool false, iv 0, iv 0]) 32 S (wN rfl) rfl rfl Try.underlying48 rfl (by decide) (by decide) (by kernel_rfl) rfl (fun E1 w1 hE => All.cons (r_api_CellStep.mono hE (S.mem.know (i := 0) (e := fRep r_api_CellStep (.agg #[.int .u8 2, .int .u8 x118.Kind, .bool x118.Purl, iv x118.A, iv x118.B]) (api_CellStep.mk 2 x118)) rfl)) (All.nil _ _ _)) rfl rfl (lb rfl) fun a w ad158 cp159 S => ?_
  obtain ⟨l160, hx161, h⟩ := bindSome h
  refine sApp (r := r_api_CellStep) (T := 83) (xs := s56) (ys := [(api_CellStep.mk 2 x118)]) (v := .slice ad57 s56.length cp58) (u := .slice ad158 [(api_CellStep.mk 2 x118)].length cp159) 5 (.agg #[.int .u8 0, .int .u8 0, .bool false, iv 0, iv 0]) 32 S (wN rfl) rfl Try.underlying48 rfl rfl (by decide) rfl rfl rfl (src_R (T := 83) 0 S.mem rfl) hx161 rfl (lb rfl) fun a w ad162 cp163 S => ?_
  refine sMove (.slice ad162 l160.length cp163) S (wN rfl) (.inr rfl) rfl rfl (lb rfl) fun a S => ?_
  exact leafL (leafB (leafB (leafT (⟨l154, l160, y125, Option.some.inj h, ad156, cp157, ad162, cp163, ad127, cp128, S.fix [2, 0] [2, 10] (by decide) rfl rfl rfl⟩))))

end Go.Proofs.Ytffikfajljbmnaa
namespace Go.Proofs.Ytffikfajljbmnaa
open Go.RowKit
set_option linter.unusedVariables false

noncomputable def F_compare_Patch (p0 : (List api_Stitch)) (p1 : (List api_CellStep)) : Option ((List api_Stitch) × Int) :=
  Option.bind (F_compare_walk p0 p1) fun r7 =>
  some (r7.1, r7.2.2)
def c_compare_Patch_val (r : ((List api_Stitch) × Int)) (x : Value) : Value := .tuple #[x, .int .i64 r.2]
def c_compare_Patch_D (r : ((List api_Stitch) × Int)) (x : Value) : List Fact := [fRep (rL r_api_Stitch) x r.1]
set_option maxHeartbeats 4000000 in
set_option maxRecDepth 100000 in
theorem c_compare_Patch (E : Nat → Prop) (w0 : World) (p0 : (List api_Stitch)) (v0 : Value) (p1 : (List api_CellStep)) (v1 : Value) (r : ((List api_Stitch) × Int)) (h : F_compare_Patch p0 p1 = some r) (S : St0 E [] w0 w0 [] [fRep (rL r_api_Stitch) (v0) p0, fRep (rL r_api_CellStep) (v1) p1]) :
    Calls Try.prog 25 #[v0, v1] w0 (Ret (X := Value) E [] w0 (c_compare_Patch_val r) (fun _ => []) (c_compare_Patch_D r)) := by
  unfold F_compare_Patch at h
  obtain ⟨ad1, cp2, _, rfl, _⟩ := S.know (i := 0) (e := fRep (rL r_api_Stitch) (v0) p0) rfl
  obtain ⟨ad3, cp4, _, rfl, _⟩ := S.know (i := 1) (e := fRep (rL r_api_CellStep) (v1) p1) rfl
  refine sEnter (args := [.slice ad1 p0.length cp2, .slice ad3 p1.length cp4]) 18 Try.func25 rfl rfl (by simp) S (fun a S => ?_)
  refine sSeq (fun K5 hK5 => ?_)
  refine sRegion ?_
  refine sMove (.slice none 0 0) S (wN rfl) (.inr rfl) rfl rfl (lb rfl) fun a S => ?_
  refine sMove (iv 0) S (wN rfl) (.inr rfl) rfl rfl (lb rfl) fun a S => ?_
  refine leafL (leafT (hK5 _ _ ?_))
  refine sSeq (fun K6 hK6 => ?_)
  refine sRegion ?_
  refine sMove (.slice ad1 p0.length cp2) S (wN rfl) (.inl rfl) rfl rfl (lb rfl) fun a S => ?_
  refine sMove (.slice ad3 p1.length cp4) S (wN rfl) (.inl rfl) rfl rfl (lb rfl) fun a S => ?_
  obtain ⟨r7, hx8, h⟩ := bindSome h
  refine sCall (X := Value × Value) (f := 58) (vs := [.slice ad1 p0.length cp2, .slice ad3 p1.length cp4]) (val := c_compare_walk_val r7) (B' := fun _ => []) (D' := c_compare_walk_D r7) [] [] [fRep (rL r_api_Stitch) (.slice ad1 p0.length cp2) p0, fRep (rL r_api_CellStep) (.slice ad3 p1.length cp4) p1] [] [0, 1] S (wN rfl) rfl callee58 rfl (by decide) rfl rfl (fun E1 w1 S1 => c_compare_walk E1 w1 p0 (.slice ad1 p0.length cp2) p1 (.slice ad3 p1.length cp4) r7 hx8 S1) rfl (lb rfl) fun xx a w S => ?_
  obtain ⟨u9, u10⟩ := xx
  obtain ⟨ad11, cp12, _, rfl, _⟩ := S.mem.know (i := 0) (e := fRep (rL r_api_Stitch) (u9) r7.1) rfl
  obtain ⟨ad13, cp14, _, rfl, _⟩ := S.mem.know (i := 1) (e := fRep (rL r_api_CellStep) (u10) r7.2.1) rfl
  refine sMove (.tuple #[.slice ad11 r7.1.length cp12, .slice ad13 r7.2.1.length cp14, iv r7.2.2]) S (wN rfl) (.inl rfl) rfl rfl (lb rfl) fun a S => ?_
  refine sExtract (vs := [.slice ad11 r7.1.length cp12, .slice ad13 r7.2.1.length cp14, iv r7.2.2]) (.slice ad11 r7.1.length cp12) S (wN rfl) rfl rfl rfl rfl (lb rfl) fun a S => ?_
  refine sExtract (vs := [.slice ad11 r7.1.length cp12, .slice ad13 r7.2.1.length cp14, iv r7.2.2]) (.slice ad13 r7.2.1.length cp14) S (wN rfl) rfl rfl rfl rfl (lb rfl) fun a S => ?_
  refine sExtract (vs := [.slice ad11 r7.1.length cp12, .slice ad13 r7.2.1.length cp14, iv r7.2.2]) (iv r7.2.2) S (wN rfl) rfl rfl rfl rfl (lb rfl) fun a S => ?_
  refine sMove (.slice ad11 r7.1.length cp12) S (wN rfl) (.inr rfl) rfl rfl (lb rfl) fun a S => ?_
  refine sMove (.slice ad13 r7.2.1.length cp14) S (wN rfl) (.inr rfl) rfl rfl (lb rfl) fun a S => ?_
  refine sMove (iv r7.2.2) S (wN rfl) (.inr rfl) rfl rfl (lb rfl) fun a S => ?_
  refine leafL (leafT (hK6 _ _ ?_))
  refine sSeq (fun K15 hK15 => ?_)
  refine sRegion ?_
  refine sMove (.slice ad11 r7.1.length cp12) S (wN rfl) (.inl rfl) rfl rfl (lb rfl) fun a S => ?_
  refine sMove (iv r7.2.2) S (wN rfl) (.inl rfl) rfl rfl (lb rfl) fun a S => ?_
  refine sMove (.slice ad11 r7.1.length cp12) S (wN rfl) (.inr rfl) rfl rfl (lb rfl) fun a S => ?_
  refine sMove (iv r7.2.2) S (wN rfl) (.inr rfl) rfl rfl (lb rfl) fun a S => ?_
  refine leafL (leafT (hK15 _ _ ?_))
  obtain rfl := Option.some.inj h
  exact wp_ret (sRet (.tuple #[.slice ad11 r7.1.length cp12, iv r7.2.2]) S (rsl2 rfl (rvT (t := 4) (v := .slice ad11 r7.1.length cp12) S rfl) (rvT (t := 5) (v := iv r7.2.2) S rfl)) ⟨(.slice ad11 r7.1.length cp12), rfl, S.mem.sel [] [0] (by decide) rfl rfl⟩)

end Go.Proofs.Ytffikfajljbmnaa
