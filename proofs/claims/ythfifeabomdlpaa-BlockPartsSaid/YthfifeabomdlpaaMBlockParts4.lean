/- Several texts in one: G22 G23 G24 G4 PlBu G25 G26 G73 G57 G75s0 G61s0 G74s0 G58 G27 G37 G36 G28 G59 G60 G62s0 G61s1 G76i0 G29 G38 G30 G5 PlIx PlBj LBQ FrBlockParts -/
import Derived.WalkKit
import Derived.Maps.AppendAt
import Derived.Deep.AppendLies
import Derived.KernelRfl
import Derived.Laws.OwnMore
import Derived.Great.BuildSlice
import Derived.Orders
import Derived.Laws.StructEq
import Derived.ChangeKeysEq
import Derived.Defers
import Derived.Laws.BytesString
import Derived.RangeFuncNested
import Derived.RangeFuncBound
import Derived.RangeFuncCalls
import Derived.RangeFuncLeaves
import Derived.OrdersIn
import Derived.LoopNIn
import Derived.ArgAppend
import Derived.Test.YthfifeabomdlpaaProg
import Derived.ProofKit
import Derived.OpenShut
import Derived.ChangeOld
import Derived.Deep.Slices
import Derived.Lib.SmallJoins
import Derived.JoinedOf
import Derived.JoinedAt
import Derived.Below
import Derived.Test.YthfifeabomdlpaaRows
import Derived.Test.YthfifeabomdlpaaMBlockParts3
namespace Go.Proofs.Ythfifeabomdlpaa
open Go.RowKit
set_option linter.unusedVariables false

def anc_raddleref13_Join_0 : List (List Nat) := [[], [0], [0, 1], [0, 1, 2], [], [4], [4, 5], [4, 5, 6], [0, 1, 2, 3], [0, 1, 2, 3, 4, 5, 6, 7, 8]]
def anc_raddleref13_Join_1 : List (List Nat) := [[], [], [1], [0, 1, 2], [0, 1, 2, 3], [0, 1, 2, 3, 4], [0, 1, 2, 3, 4, 5], [0, 1, 2, 3, 4], [0, 1, 2, 3, 4, 5, 6, 7], [0, 1, 2, 3, 4], [0, 1, 2, 3, 4, 9], [0, 1, 2, 3, 4, 5, 6, 7, 8, 9, 10], [0, 1, 2, 3, 4, 5, 6, 7, 8, 9, 10, 11]]
def anc_raddleref13_Join_2 : List (List Nat) := [[], [], [], [], [], [], [], [5, 6], [], [5, 6, 7, 8], [], [], [10, 11], [5, 6, 7, 8, 9, 10, 11, 12], [4, 5, 6, 7, 8, 9, 10, 11, 12, 13], [4, 5, 6, 7, 8, 9, 10, 11, 12, 13, 14], [3, 4, 5, 6, 7, 8, 9, 10, 11, 12, 13, 14, 15], [3, 4, 5, 6, 7, 8, 9, 10, 11, 12, 13, 14, 15, 16], [], [], [18, 19], [], [], [21, 22], [3, 4, 5, 6, 7, 8, 9, 10, 11, 12, 13, 14, 15, 16, 17, 18, 19, 20, 21, 22, 23], [0, 1, 2, 3, 4, 5, 6, 7, 8, 9, 10, 11, 12, 13, 14, 15, 16, 17, 18, 19, 20, 21, 22, 23, 24]]
noncomputable def raddleref13_Join_l1 (p0 : (List api_Grid)) : Int → Option (Int ⊕ ((api_Grid × Int) ⊕ Unit)) := fun s0 => match s0 with
  | s14 =>
    if decide (s14 < (p0.length : Int)) then
      Option.bind (idxO p0 s14) fun x23 =>
      Option.bind (F_raddleref01_Check x23) fun r32 =>
      if r32 != 0 then
        some (.inr (.inl ((api_Grid.mk 0 0 ([] : (List Bool))), r32)))
      else
        some (.inl (w64 (s14 + 1)))
    else
      some (.inr (.inr ()))
noncomputable def raddleref13_Join_l2 (p0 : (List api_Grid)) (x44 : api_Grid) : Int → Option (Int ⊕ ((api_Grid × Int) ⊕ Unit)) := fun s0 => match s0 with
  | s69 =>
    if decide (s69 < (p0.length : Int)) then
      Option.bind (α := Bool) (
        Option.bind (idxO p0 s69) fun x80 =>
        if x80.W != x44.W then
          some true
        else
          some (x80.H != x44.H)) fun o77 =>
      if o77 then
        some (.inr (.inl ((api_Grid.mk 0 0 ([] : (List Bool))), 26)))
      else
        some (.inl (w64 (s69 + 1)))
    else
      some (.inr (.inr ()))
noncomputable def raddleref13_Join_l3 (p1 : (List Int)) (p0 : (List api_Grid)) : Int → Option (Int ⊕ ((api_Grid × Int) ⊕ Unit)) := fun s0 => match s0 with
  | s108 =>
    if decide (s108 < (p1.length : Int)) then
      Option.bind (α := Bool) (
        Option.bind (idxO p1 s108) fun x119 =>
        if decide (x119 < 0) then
          some true
        else
          some (decide ((p0.length : Int) ≤ x119))) fun o116 =>
      if o116 then
        some (.inr (.inl ((api_Grid.mk 0 0 ([] : (List Bool))), 8)))
      else
        some (.inl (w64 (s108 + 1)))
    else
      some (.inr (.inr ()))
noncomputable def raddleref13_Join_l4 (r146 : api_Grid) (s155 : Int) (x44 : api_Grid) (p1 : (List Int)) (p2 : Int) (p0 : (List api_Grid)) : (Int × List Bool) → Option ((Int × List Bool) ⊕ List Bool) := fun s0 => match s0 with
  | (s168, s169) =>
    if decide (s168 < r146.W) then
      Option.bind (quoI s155 x44.H) fun z178 =>
      Option.bind (quoI s168 x44.W) fun z180 =>
      Option.bind (idxO p1 (w64 ((w64 (z178 * p2)) + z180))) fun x182 =>
      Option.bind (idxO p0 x182) fun x187 =>
      Option.bind (remI s168 x44.W) fun z196 =>
      Option.bind (remI s155 x44.H) fun z198 =>
      Option.bind (F_raddleref01_At x187 z196 z198) fun r200 =>
      Option.bind (F_raddleref01_Set_s0 r146.W r146.H s169 s168 s155 r200) fun r202 =>
      some (.inl (w64 (s168 + 1), r202))
    else
      some (.inr s169)
noncomputable def raddleref13_Join_l5 (r146 : api_Grid) (x44 : api_Grid) (p1 : (List Int)) (p2 : Int) (p0 : (List api_Grid)) : (Int × List Bool) → Option ((Int × List Bool) ⊕ List Bool) := fun s0 => match s0 with
  | (s155, s156) =>
    if decide (s155 < r146.H) then
      Option.bind (α := List Bool) (
        Option.bind (whileO (raddleref13_Join_l4 r146 s155 x44 p1 p2 p0) (0, s156)) fun e173 =>
          some e173) fun o164 =>
      some (.inl (w64 (s155 + 1), o164))
    else
      some (.inr s156)
noncomputable def F_raddleref13_Join (p0 : (List api_Grid)) (p1 : (List Int)) (p2 : Int) : Option (api_Grid × Int) :=
  if (p0.length : Int) == 0 then
    some ((api_Grid.mk 0 0 ([] : (List Bool))), 6)
  else
    Option.bind (α := Unit ⊕ (api_Grid × Int)) (
      Option.bind (whileO (raddleref13_Join_l1 p0) 0) fun z0 => match z0 with
        | .inl z =>
          some (.inr z)
        | .inr _ =>
          some (.inl ())) fun z0 => match z0 with
      | .inl _ =>
        Option.bind (idxO p0 0) fun x44 =>
        Option.bind (α := Unit ⊕ (api_Grid × Int)) (
          Option.bind (whileO (raddleref13_Join_l2 p0 x44) 0) fun z0 => match z0 with
            | .inl z =>
              some (.inr z)
            | .inr _ =>
              some (.inl ())) fun z0 => match z0 with
          | .inl _ =>
            Option.bind (α := Bool) (
              if decide (p2 < 1) then
                some true
              else
                if (p1.length : Int) == 0 then
                  some true
                else
                  Option.bind (remI (p1.length : Int) p2) fun z101 =>
                  some (z101 != 0)) fun o96 =>
            if o96 then
              some ((api_Grid.mk 0 0 ([] : (List Bool))), 26)
            else
              Option.bind (α := Unit ⊕ (api_Grid × Int)) (
                Option.bind (whileO (raddleref13_Join_l3 p1 p0) 0) fun z0 => match z0 with
                  | .inl z =>
                    some (.inr z)
                  | .inr _ =>
                    some (.inl ())) fun z0 => match z0 with
                | .inl _ =>
                  Option.bind (α := Bool) (
                    Option.bind (quoI 64 x44.W) fun z134 =>
                    if decide (z134 < p2) then
                      some true
                    else
                      Option.bind (quoI (p1.length : Int) p2) fun z137 =>
                      Option.bind (quoI 64 x44.H) fun z139 =>
                      some (decide (z139 < z137))) fun o131 =>
                  if o131 then
                    some ((api_Grid.mk 0 0 ([] : (List Bool))), 4)
                  else
                    Option.bind (quoI (p1.length : Int) p2) fun z144 =>
                    Option.bind (F_raddleref01_Zero_s0 (w64 (p2 * x44.W)) (w64 (z144 * x44.H))) fun r146 =>
                    Option.bind (α := List Bool) (
                      Option.bind (whileO (raddleref13_Join_l5 r146 x44 p1 p2 p0) (0, r146.Bits)) fun e160 =>
                        some e160) fun o151 =>
                    some ((api_Grid.mk r146.W r146.H o151), 0)
                | .inr z =>
                  some z
          | .inr z =>
            some z
      | .inr z =>
        some z
def c_raddleref13_Join_val (r : (api_Grid × Int)) (x : Value) : Value := .tuple #[x, .int .i64 r.2]
def c_raddleref13_Join_D (r : (api_Grid × Int)) (x : Value) : List Fact := [fRep r_api_Grid x r.1]
set_option maxHeartbeats 4000000 in
set_option maxRecDepth 100000 in
theorem c_raddleref13_Join (E : Nat → Prop) (w0 : World) (p0 : (List api_Grid)) (v0 : Value) (p1 : (List Int)) (v1 : Value) (p2 : Int) (r : (api_Grid × Int)) (h : F_raddleref13_Join p0 p1 p2 = some r) (S : St0 E [] w0 w0 [] [fRep (rL r_api_Grid) (v0) p0, fRep (rL (rI .i64)) (v1) p1]) :
    Calls Try.prog 22 #[v0, v1, iv p2] w0 (Ret (X := Value) E [] w0 (c_raddleref13_Join_val r) (fun _ => []) (c_raddleref13_Join_D r)) := by
  unfold F_raddleref13_Join at h
  obtain ⟨ad1, cp2, _, rfl, _⟩ := S.know (i := 0) (e := fRep (rL r_api_Grid) (v0) p0) rfl
  obtain ⟨ad3, cp4, _, rfl, _⟩ := S.know (i := 1) (e := fRep (rL (rI .i64)) (v1) p1) rfl
  refine sEnter (args := [.slice ad1 p0.length cp2, .slice ad3 p1.length cp4, iv p2]) 168 Try.func22 rfl rfl (by simp) S (fun a S => ?_)
  refine sSeq (fun K5 hK5 => ?_)
  refine sRegion ?_
  refine sAlloc (.agg #[iv 0, iv 0, .slice none 0 0]) S (wN rfl) rfl rfl [iv 0, iv 0, .slice none 0 0] rfl rfl (lb rfl) fun a b6 w S => ?_
  refine sMove (iv 0) S (wN rfl) (.inr rfl) rfl rfl (lb rfl) fun a S => ?_
  refine leafL (leafT (hK5 _ _ ?_))
  refine sSeq (fun K7 hK7 => ?_)
  refine sSeq (fun K8 hK8 => ?_)
  refine sRegion ?_
  refine sMove (.slice ad1 p0.length cp2) S (wN rfl) (.inl rfl) rfl rfl (lb rfl) fun a S => ?_
  refine sLen (ad := ad1) (m := p0.length) (c := cp2) S (wN rfl) rfl Try.underlying34 rfl rfl (lb rfl) fun a S => ?_
  refine sBin (.bool ((p0.length : Int) == 0)) S (wN rfl) rfl rfl rfl (bEq _ _ _ _ .i64 (p0.length : Int) 0) rfl (lb rfl) fun a S => ?_
  refine leafL (leafT (hK8 _ _ ?_))
  rcases iteSome h with ⟨hc9, h⟩ | ⟨hc9, h⟩
  · refine sCondT S rfl hc9 ?_
    refine sSeq (fun K10 hK10 => ?_)
    refine sRegion ?_
    refine sBuild [] [iv 0, iv 0, .slice none 0 0] S (wN rfl) rfl rfl rfl rfl (lb rfl) fun a S => ?_
    refine sStore (p := b6) (off := 0) (T := 24) (vs := [iv 0, iv 0, .slice none 0 0]) (v := .agg #[iv 0, iv 0, .slice none 0 0]) 0 [iv 0, iv 0, .slice none 0 0] S (wN rfl) rfl rfl rfl rfl rfl rfl rfl (by simp) rfl fun a w S => ?_
    refine sMove (iv 6) S (wN rfl) (.inr rfl) rfl rfl (lb rfl) fun a S => ?_
    refine leafL (leafT (hK10 _ _ ?_))
    obtain rfl := Option.some.inj h
    have S := S.learn (fRep (rL rB) (.slice none 0 0) ([] : (List Bool))) (rL_nil _ _ _)
    have S := S.learn (fRep r_api_Grid (.agg #[iv 0, iv 0, .slice none 0 0]) (api_Grid.mk 0 0 ([] : (List Bool)))) ⟨_, rfl, S.mem.know (i := 0) (e := fRep (rL rB) (.slice none 0 0) ([] : (List Bool))) rfl⟩
    exact wp_ret (rThen (sRet (.tuple #[.agg #[iv 0, iv 0, .slice none 0 0], iv 6]) S (rsl2 rfl (rvN (c := 6) (t := 24) (T := 24) (p := b6) 0 [iv 0, iv 0, .slice none 0 0] S rfl rfl rfl rfl) (rvT (t := 7) (v := iv 6) S rfl)) ⟨(.agg #[iv 0, iv 0, .slice none 0 0]), rfl, S.mem.sel [] [0] (by decide) rfl rfl⟩))
  refine sCondF S rfl hc9 ?_
  refine wp_skip (leafT (hK7 _ _ ?_))
  obtain ⟨t11, h, g12⟩ := bindSome h
  refine sCut (fun a w => .inl () = t11 ∧ St [] E [] w0 168 a w [(0, .slice ad1 p0.length cp2), (1, .slice ad3 p1.length cp4), (2, iv p2), (6, .pointer (some ⟨b6, 0, none⟩))] [eBox b6 24 [iv 0, iv 0, .slice none 0 0]] [fRep (rL r_api_Grid) (.slice ad1 p0.length cp2) p0, fRep (rL (rI .i64)) (.slice ad3 p1.length cp4) p1]) ?_ (fun a w hI => ?_)
  · refine sSeq (fun K13 hK13 => ?_)
    refine sRegion ?_
    refine sMove (iv 0) S (wN rfl) (.inr rfl) rfl rfl (lb rfl) fun a S => ?_
    refine leafL (leafT (hK13 _ _ ?_))
    refine wp_block ?_
    obtain ⟨t17, hl, g16⟩ := bindSome h
    refine sLoop hl (fun s0 a w => match s0 with | s14 => St [] E [] w0 168 a w [(0, .slice ad1 p0.length cp2), (1, .slice ad3 p1.length cp4), (2, iv p2), (6, .pointer (some ⟨b6, 0, none⟩)), (8, iv s14)] [eBox b6 24 [iv 0, iv 0, .slice none 0 0]] [fRep (rL r_api_Grid) (.slice ad1 p0.length cp2) p0, fRep (rL (rI .i64)) (.slice ad3 p1.length cp4) p1]) (S.fix [0] [0, 1] (by decide) rfl rfl rfl) ?_
    clear hl h
    intro s14 a w c0 hI h hu15
    unfold raddleref13_Join_l1 at h
    dsimp only at h hI
    have S := hI
    refine sSeq (fun K18 hK18 => ?_)
    refine sSeq (fun K19 hK19 => ?_)
    refine sRegion ?_
    refine sMove (iv s14) S (wN rfl) (.inl rfl) rfl rfl (lb rfl) fun a S => ?_
    refine sMove (.slice ad1 p0.length cp2) S (wN rfl) (.inl rfl) rfl rfl (lb rfl) fun a S => ?_
    refine sLen (ad := ad1) (m := p0.length) (c := cp2) S (wN rfl) rfl Try.underlying34 rfl rfl (lb rfl) fun a S => ?_
    refine sBin (.bool (decide (s14 < (p0.length : Int)))) S (wN rfl) rfl rfl rfl (bLt _ _ _ _ .i64 s14 (p0.length : Int)) rfl (lb rfl) fun a S => ?_
    refine leafL (leafT (hK19 _ _ ?_))
    rcases iteSome h with ⟨hc20, h⟩ | ⟨hc20, h⟩
    rotate_left
    · refine sCondF S rfl hc20 ?_
      obtain rfl := Option.some.inj h
      obtain rfl := hu15 _ rfl
      have h := g16
      clear g16
      try dsimp only at h
      exact wp_exit (xThen (xThen (xHit (leafT (⟨Option.some.inj h, S.fix [0] [0, 1] (by decide) rfl rfl rfl⟩)))))
    refine sCondT S rfl hc20 ?_
    refine wp_skip (leafT (hK18 _ _ ?_))
    refine sSeq (fun K21 hK21 => ?_)
    refine wp_block ?_
    refine sSeq (fun K22 hK22 => ?_)
    refine sRegion ?_
    refine sMove (.slice ad1 p0.length cp2) S (wN rfl) (.inl rfl) rfl rfl (lb rfl) fun a S => ?_
    refine sMove (iv s14) S (wN rfl) (.inl rfl) rfl rfl (lb rfl) fun a S => ?_
    obtain ⟨x23, hx24, h⟩ := bindSome h
    obtain ⟨q25, hq26, S⟩ := pIdx (P := Try.prog) (r := r_api_Grid) (v := .slice ad1 p0.length cp2) (xs := p0) (j := s14) 34 24 0 S Try.underlying34 rfl rfl hx24
    refine sIdxV (v := .slice ad1 p0.length cp2) (k := .i64) (j := s14) S (wN rfl) rfl rfl rfl hq26 rfl (lb rfl) fun a S => ?_
    obtain ⟨u27, S⟩ := pLoad (r := r_api_Grid) (q := q25) (x := x23) 0 S rfl
    obtain ⟨u28, rfl, hu29⟩ := S.mem.know (i := 1) (e := fRep r_api_Grid (u27) x23) rfl
    have S := S.learn (fRep (rL rB) u28 x23.Bits) hu29
    obtain ⟨ad30, cp31, _, rfl, _⟩ := hu29
    refine sLoadVN (vq := q25) 1 [iv x23.W, iv x23.H, .slice ad30 x23.Bits.length cp31] S (wN rfl) rfl rfl rfl rfl rfl rfl (lb rfl) fun a S => ?_
    obtain ⟨r32, hx33, h⟩ := bindSome h
    have S1 := S.mem
    refine sCallQ (X := Unit) (f := 53) (vs := [.agg #[iv x23.W, iv x23.H, .slice ad30 x23.Bits.length cp31]]) (val := fun _ => iv r32) S (wN rfl) rfl callee53 rfl (S1.quiet [2] rfl) (fun E1 w1 S1 => c_raddleref01_Check E1 w1 x23 (.agg #[iv x23.W, iv x23.H, .slice ad30 x23.Bits.length cp31]) r32 hx33 S1) rfl (lb rfl) fun _ a w S => ?_
    refine sBin (.bool (r32 != 0)) S (wN rfl) rfl rfl rfl (bNe _ _ _ _ .i64 r32 0) rfl (lb rfl) fun a S => ?_
    refine leafL (leafT (hK22 _ _ ?_))
    rcases iteSome h with ⟨hc34, h⟩ | ⟨hc34, h⟩
    rotate_left
    · refine sCondF S rfl hc34 ?_
      refine wp_skip (leafB (leafT (hK21 _ _ ?_)))
      refine sRegion ?_
      refine sMove (iv s14) S (wN rfl) (.inl rfl) rfl rfl (lb rfl) fun a S => ?_
      refine sBin (iv (w64 (s14 + 1))) S (wN rfl) rfl rfl rfl (bAdd _ _ _ _ s14 1) rfl (lb rfl) fun a S => ?_
      refine sMove (iv (w64 (s14 + 1))) S (wN rfl) (.inr rfl) rfl rfl (lb rfl) fun a S => ?_
      exact leafL (leafT (⟨w64 (s14 + 1), (Option.some.inj h).symm, (S.fix [0] [4, 5] (by decide) rfl rfl rfl)⟩))
    refine sCondT S rfl hc34 ?_
    refine sSeq (fun K35 hK35 => ?_)
    refine sRegion ?_
    refine sBuild [] [iv 0, iv 0, .slice none 0 0] S (wN rfl) rfl rfl rfl rfl (lb rfl) fun a S => ?_
    refine sMove (.slice ad1 p0.length cp2) S (wN rfl) (.inl rfl) rfl rfl (lb rfl) fun a S => ?_
    refine sMove (iv s14) S (wN rfl) (.inl rfl) rfl rfl (lb rfl) fun a S => ?_
    obtain ⟨q36, hq37, S⟩ := pIdx (P := Try.prog) (r := r_api_Grid) (v := .slice ad1 p0.length cp2) (xs := p0) (j := s14) 34 24 4 S Try.underlying34 rfl rfl hx24
    refine sIdxV (v := .slice ad1 p0.length cp2) (k := .i64) (j := s14) S (wN rfl) rfl rfl rfl hq37 rfl (lb rfl) fun a S => ?_
    obtain ⟨u38, S⟩ := pLoad (r := r_api_Grid) (q := q36) (x := x23) 0 S rfl
    obtain ⟨u39, rfl, hu40⟩ := S.mem.know (i := 1) (e := fRep r_api_Grid (u38) x23) rfl
    have S := S.learn (fRep (rL rB) u39 x23.Bits) hu40
    obtain ⟨ad41, cp42, _, rfl, _⟩ := hu40
    refine sLoadVN (vq := q36) 1 [iv x23.W, iv x23.H, .slice ad41 x23.Bits.length cp42] S (wN rfl) rfl rfl rfl rfl rfl rfl (lb rfl) fun a S => ?_
    have S1 := S.mem
    refine sCallQ (X := Unit) (f := 53) (vs := [.agg #[iv x23.W, iv x23.H, .slice ad41 x23.Bits.length cp42]]) (val := fun _ => iv r32) S (wN rfl) rfl callee53 rfl (S1.quiet [2] rfl) (fun E1 w1 S1 => c_raddleref01_Check E1 w1 x23 (.agg #[iv x23.W, iv x23.H, .slice ad41 x23.Bits.length cp42]) r32 hx33 S1) rfl (lb rfl) fun _ a w S => ?_
    refine sStore (p := b6) (off := 0) (T := 24) (vs := [iv 0, iv 0, .slice none 0 0]) (v := .agg #[iv 0, iv 0, .slice none 0 0]) 0 [iv 0, iv 0, .slice none 0 0] S (wN rfl) rfl rfl rfl rfl rfl rfl rfl (by simp) rfl fun a w S => ?_
    refine sMove (iv r32) S (wN rfl) (.inr rfl) rfl rfl (lb rfl) fun a S => ?_
    refine leafL (leafT (hK35 _ _ ?_))
    obtain rfl := Option.some.inj h
    obtain rfl := hu15 _ rfl
    have h := g16
    clear g16
    try dsimp only at h
    obtain rfl := Option.some.inj h
    have h := g12
    clear g12
    try dsimp only at h
    obtain rfl := Option.some.inj h
    have S := S.learn (fRep (rL rB) (.slice none 0 0) ([] : (List Bool))) (rL_nil _ _ _)
    have S := S.learn (fRep r_api_Grid (.agg #[iv 0, iv 0, .slice none 0 0]) (api_Grid.mk 0 0 ([] : (List Bool)))) ⟨_, rfl, S.mem.know (i := 0) (e := fRep (rL rB) (.slice none 0 0) ([] : (List Bool))) rfl⟩
    exact wp_ret (rBlock (rThen (rThen (rBlock (rThen (sRet (.tuple #[.agg #[iv 0, iv 0, .slice none 0 0], iv r32]) S (rsl2 rfl (rvN (c := 6) (t := 24) (T := 24) (p := b6) 0 [iv 0, iv 0, .slice none 0 0] S rfl rfl rfl rfl) (rvT (t := 7) (v := iv r32) S rfl)) ⟨(.agg #[iv 0, iv 0, .slice none 0 0]), rfl, S.mem.sel [] [0] (by decide) rfl rfl⟩))))))
  obtain ⟨rfl, S⟩ := hI
  have h := g12
  clear g12
  try dsimp only at h
  refine sSeq (fun K43 hK43 => ?_)
  obtain ⟨x44, hx45, h⟩ := bindSome h
  obtain ⟨q56, hq57, S⟩ := pIdx (P := Try.prog) (r := r_api_Grid) (v := .slice ad1 p0.length cp2) (xs := p0) (j := 0) 34 24 0 S Try.underlying34 rfl rfl hx45
  obtain ⟨q58, hq59, S⟩ := pFld (P := Try.prog) (r := r_api_Grid) (s2 := (rI .i64)) (g := (·.W)) (q := q56) (z := x44) 24 0 0 0 S rfl rfl comp_api_Grid_W
  obtain ⟨u60, S⟩ := pLoad (r := (rI .i64)) (q := q58) (x := x44.W) 0 S rfl
  obtain rfl : u60 = iv x44.W := S.mem.know (i := 1) (e := fRep (rI .i64) (u60) x44.W) rfl
  obtain ⟨q61, hq62, S⟩ := pIdx (P := Try.prog) (r := r_api_Grid) (v := .slice ad1 p0.length cp2) (xs := p0) (j := 0) 34 24 4 S Try.underlying34 rfl rfl hx45
  obtain ⟨q63, hq64, S⟩ := pFld (P := Try.prog) (r := r_api_Grid) (s2 := (rI .i64)) (g := (·.H)) (q := q61) (z := x44) 24 1 0 1 S rfl rfl comp_api_Grid_H
  obtain ⟨u65, S⟩ := pLoad (r := (rI .i64)) (q := q63) (x := x44.H) 0 S rfl
  obtain rfl : u65 = iv x44.H := S.mem.know (i := 1) (e := fRep (rI .i64) (u65) x44.H) rfl
  refine sDraw (nf := []) (W := [(0, 38, .slice ad1 p0.length cp2), (1, 39, q56), (2, 40, q58), (3, 41, iv x44.W), (4, 42, .slice ad1 p0.length cp2), (5, 43, q61), (6, 44, q63), (7, 45, iv x44.H), (8, 9, iv x44.W), (9, 10, iv x44.H)]) rfl S ?_
  refine node_by (A := anc_raddleref13_Join_0) (nf := []) (Y := []) (W := [(0, 38, .slice ad1 p0.length cp2), (1, 39, q56), (2, 40, q58), (3, 41, iv x44.W), (4, 42, .slice ad1 p0.length cp2), (5, 43, q61), (6, 44, q63), (7, 45, iv x44.H), (8, 9, iv x44.W), (9, 10, iv x44.H)]) 10 (by kernel_rfl) (by kernel_rfl) (by kernel_rfl) (by kernel_rfl) (by kernel_rfl) [0, 1, 2, 3, 4, 5, 6, 7, 8, 9] (by kernel_rfl) (by decide) (by decide) (aF 0 9 (by decide) ?_ (aF 1 8 (by decide) ?_ (aF 2 7 (by decide) ?_ (aF 3 6 (by decide) ?_ (aF 4 5 (by decide) ?_ (aF 5 4 (by decide) ?_ (aF 6 3 (by decide) ?_ (aF 7 2 (by decide) ?_ (aF 8 1 (by decide) ?_ (aF 9 0 (by decide) ?_ (trivial))))))))))) [(0, .slice ad1 p0.length cp2), (1, .slice ad3 p1.length cp4), (2, iv p2), (6, .pointer (some ⟨b6, 0, none⟩)), (9, iv x44.W), (10, iv x44.H)] (fin_of [none, none, none, none, some 8, some 9] rfl (by kernel_rfl) (by kernel_rfl)) (fun _ a w S => ?_)
  · refine fI 38 (.slice ad1 p0.length cp2) [(0, .slice ad1 p0.length cp2)] 0 [none] rfl rfl rfl rfl rfl rfl fun G a w S => ?_
    refine sMove (.slice ad1 p0.length cp2) S (wN rfl) (.inl rfl) rfl rfl (lb rfl) fun a S => ?_
    exact leafL ⟨rfl, S⟩
  · refine fI 39 q56 [(38, .slice ad1 p0.length cp2)] 1 [some 0] rfl rfl rfl rfl rfl rfl fun G a w S => ?_
    refine sIdxV (v := .slice ad1 p0.length cp2) (k := .i64) (j := 0) S (wN rfl) rfl rfl rfl hq57 rfl (lb rfl) fun a S => ?_
    exact leafL ⟨rfl, S⟩
  · refine fI 40 q58 [(39, q56)] 2 [some 1] rfl rfl rfl rfl rfl rfl fun G a w S => ?_
    refine sFldV (q := q56) S (wN rfl) rfl rfl hq59 rfl (lb rfl) fun a S => ?_
    exact leafL ⟨rfl, S⟩
  · refine fI 41 (iv x44.W) [(40, q58)] 3 [some 2] rfl rfl rfl rfl rfl rfl fun G a w S => ?_
    refine sLoadV1 (vq := q58) 4 (iv x44.W) S (wN rfl) rfl rfl rfl rfl rfl (lb rfl) fun a S => ?_
    exact leafL ⟨rfl, S⟩
  · refine fI 42 (.slice ad1 p0.length cp2) [(0, .slice ad1 p0.length cp2)] 4 [none] rfl rfl rfl rfl rfl rfl fun G a w S => ?_
    refine sMove (.slice ad1 p0.length cp2) S (wN rfl) (.inl rfl) rfl rfl (lb rfl) fun a S => ?_
    exact leafL ⟨rfl, S⟩
  · refine fI 43 q61 [(42, .slice ad1 p0.length cp2)] 5 [some 4] rfl rfl rfl rfl rfl rfl fun G a w S => ?_
    refine sIdxV (v := .slice ad1 p0.length cp2) (k := .i64) (j := 0) S (wN rfl) rfl rfl rfl hq62 rfl (lb rfl) fun a S => ?_
    exact leafL ⟨rfl, S⟩
  · refine fI 44 q63 [(43, q61)] 6 [some 5] rfl rfl rfl rfl rfl rfl fun G a w S => ?_
    refine sFldV (q := q61) S (wN rfl) rfl rfl hq64 rfl (lb rfl) fun a S => ?_
    exact leafL ⟨rfl, S⟩
  · refine fI 45 (iv x44.H) [(44, q63)] 7 [some 6] rfl rfl rfl rfl rfl rfl fun G a w S => ?_
    refine sLoadV1 (vq := q63) 0 (iv x44.H) S (wN rfl) rfl rfl rfl rfl rfl (lb rfl) fun a S => ?_
    exact leafL ⟨rfl, S⟩
  · refine fI 9 (iv x44.W) [(41, iv x44.W)] 8 [some 3] rfl rfl rfl rfl rfl rfl fun G a w S => ?_
    refine sMove (iv x44.W) S (wN rfl) (.inr rfl) rfl rfl (lb rfl) fun a S => ?_
    exact leafL ⟨rfl, S⟩
  · refine fI 10 (iv x44.H) [(45, iv x44.H)] 9 [some 7] rfl rfl rfl rfl rfl rfl fun G a w S => ?_
    refine sMove (iv x44.H) S (wN rfl) (.inr rfl) rfl rfl (lb rfl) fun a S => ?_
    exact leafL ⟨rfl, S⟩
  refine leafT (hK43 _ _ ?_)
  obtain ⟨t66, h, g67⟩ := bindSome h
  refine sCut (fun a w => .inl () = t66 ∧ St [] E [] w0 168 a w [(0, .slice ad1 p0.length cp2), (1, .slice ad3 p1.length cp4), (2, iv p2), (6, .pointer (some ⟨b6, 0, none⟩)), (9, iv x44.W), (10, iv x44.H)] [eBox b6 24 [iv 0, iv 0, .slice none 0 0]] [fRep (rL r_api_Grid) (.slice ad1 p0.length cp2) p0, fRep (rL (rI .i64)) (.slice ad3 p1.length cp4) p1]) ?_ (fun a w hI => ?_)
  · refine sSeq (fun K68 hK68 => ?_)
    refine sRegion ?_
    refine sMove (iv 0) S (wN rfl) (.inr rfl) rfl rfl (lb rfl) fun a S => ?_
    refine leafL (leafT (hK68 _ _ ?_))
    refine wp_block ?_
    obtain ⟨t72, hl, g71⟩ := bindSome h
    refine sLoop hl (fun s0 a w => match s0 with | s69 => St [] E [] w0 168 a w [(0, .slice ad1 p0.length cp2), (1, .slice ad3 p1.length cp4), (2, iv p2), (6, .pointer (some ⟨b6, 0, none⟩)), (9, iv x44.W), (10, iv x44.H), (11, iv s69)] [eBox b6 24 [iv 0, iv 0, .slice none 0 0]] [fRep (rL r_api_Grid) (.slice ad1 p0.length cp2) p0, fRep (rL (rI .i64)) (.slice ad3 p1.length cp4) p1]) (S.fix [0] [8, 9] (by decide) rfl rfl rfl) ?_
    clear hl h
    intro s69 a w c0 hI h hu70
    unfold raddleref13_Join_l2 at h
    dsimp only at h hI
    have S := hI
    refine sSeq (fun K73 hK73 => ?_)
    refine sSeq (fun K74 hK74 => ?_)
    refine sRegion ?_
    refine sMove (iv s69) S (wN rfl) (.inl rfl) rfl rfl (lb rfl) fun a S => ?_
    refine sMove (.slice ad1 p0.length cp2) S (wN rfl) (.inl rfl) rfl rfl (lb rfl) fun a S => ?_
    refine sLen (ad := ad1) (m := p0.length) (c := cp2) S (wN rfl) rfl Try.underlying34 rfl rfl (lb rfl) fun a S => ?_
    refine sBin (.bool (decide (s69 < (p0.length : Int)))) S (wN rfl) rfl rfl rfl (bLt _ _ _ _ .i64 s69 (p0.length : Int)) rfl (lb rfl) fun a S => ?_
    refine leafL (leafT (hK74 _ _ ?_))
    rcases iteSome h with ⟨hc75, h⟩ | ⟨hc75, h⟩
    rotate_left
    · refine sCondF S rfl hc75 ?_
      obtain rfl := Option.some.inj h
      obtain rfl := hu70 _ rfl
      have h := g71
      clear g71
      try dsimp only at h
      exact wp_exit (xThen (xThen (xHit (leafT (⟨Option.some.inj h, S.fix [0] [0, 1] (by decide) rfl rfl rfl⟩)))))
    refine sCondT S rfl hc75 ?_
    refine wp_skip (leafT (hK73 _ _ ?_))
    refine sSeq (fun K76 hK76 => ?_)
    refine wp_block ?_
    obtain ⟨t78, h, g79⟩ := bindSome h
    refine sCut (fun a w => ∃ o77, o77 = t78 ∧ St [] E [] w0 168 a w [(0, .slice ad1 p0.length cp2), (1, .slice ad3 p1.length cp4), (2, iv p2), (6, .pointer (some ⟨b6, 0, none⟩)), (9, iv x44.W), (10, iv x44.H), (11, iv s69), (67, .bool o77)] [eBox b6 24 [iv 0, iv 0, .slice none 0 0]] [fRep (rL r_api_Grid) (.slice ad1 p0.length cp2) p0, fRep (rL (rI .i64)) (.slice ad3 p1.length cp4) p1]) ?_ (fun a w hI => ?_)
    rotate_left
    · obtain ⟨o77, rfl, S⟩ := hI
      have h := g79
      clear g79
      try dsimp only at h
      rcases iteSome h with ⟨hc93, h⟩ | ⟨hc93, h⟩
      rotate_left
      · refine sCondF S rfl hc93 ?_
        refine wp_skip (leafB (leafT (hK76 _ _ ?_)))
        refine sRegion ?_
        refine sMove (iv s69) S (wN rfl) (.inl rfl) rfl rfl (lb rfl) fun a S => ?_
        refine sBin (iv (w64 (s69 + 1))) S (wN rfl) rfl rfl rfl (bAdd _ _ _ _ s69 1) rfl (lb rfl) fun a S => ?_
        refine sMove (iv (w64 (s69 + 1))) S (wN rfl) (.inr rfl) rfl rfl (lb rfl) fun a S => ?_
        exact leafL (leafT (⟨w64 (s69 + 1), (Option.some.inj h).symm, (S.fix [0] [0, 1] (by decide) rfl rfl rfl)⟩))
      refine sCondT S rfl hc93 ?_
      refine sSeq (fun K94 hK94 => ?_)
      refine sRegion ?_
      refine sBuild [] [iv 0, iv 0, .slice none 0 0] S (wN rfl) rfl rfl rfl rfl (lb rfl) fun a S => ?_
      refine sStore (p := b6) (off := 0) (T := 24) (vs := [iv 0, iv 0, .slice none 0 0]) (v := .agg #[iv 0, iv 0, .slice none 0 0]) 0 [iv 0, iv 0, .slice none 0 0] S (wN rfl) rfl rfl rfl rfl rfl rfl rfl (by simp) rfl fun a w S => ?_
      refine sMove (iv 26) S (wN rfl) (.inr rfl) rfl rfl (lb rfl) fun a S => ?_
      refine leafL (leafT (hK94 _ _ ?_))
      obtain rfl := Option.some.inj h
      obtain rfl := hu70 _ rfl
      have h := g71
      clear g71
      try dsimp only at h
      obtain rfl := Option.some.inj h
      have h := g67
      clear g67
      try dsimp only at h
      obtain rfl := Option.some.inj h
      have S := S.learn (fRep (rL rB) (.slice none 0 0) ([] : (List Bool))) (rL_nil _ _ _)
      have S := S.learn (fRep r_api_Grid (.agg #[iv 0, iv 0, .slice none 0 0]) (api_Grid.mk 0 0 ([] : (List Bool)))) ⟨_, rfl, S.mem.know (i := 0) (e := fRep (rL rB) (.slice none 0 0) ([] : (List Bool))) rfl⟩
      exact wp_ret (rBlock (rThen (rThen (rBlock (rThen (sRet (.tuple #[.agg #[iv 0, iv 0, .slice none 0 0], iv 26]) S (rsl2 rfl (rvN (c := 6) (t := 24) (T := 24) (p := b6) 0 [iv 0, iv 0, .slice none 0 0] S rfl rfl rfl rfl) (rvT (t := 7) (v := iv 26) S rfl)) ⟨(.agg #[iv 0, iv 0, .slice none 0 0]), rfl, S.mem.sel [] [0] (by decide) rfl rfl⟩))))))
    refine sRegion ?_
    refine sMove (.slice ad1 p0.length cp2) S (wN rfl) (.inl rfl) rfl rfl (lb rfl) fun a S => ?_
    refine sMove (iv s69) S (wN rfl) (.inl rfl) rfl rfl (lb rfl) fun a S => ?_
    obtain ⟨x80, hx81, h⟩ := bindSome h
    obtain ⟨q82, hq83, S⟩ := pIdx (P := Try.prog) (r := r_api_Grid) (v := .slice ad1 p0.length cp2) (xs := p0) (j := s69) 34 24 0 S Try.underlying34 rfl rfl hx81
    refine sIdxV (v := .slice ad1 p0.length cp2) (k := .i64) (j := s69) S (wN rfl) rfl rfl rfl hq83 rfl (lb rfl) fun a S => ?_
    obtain ⟨q84, hq85, S⟩ := pFld (P := Try.prog) (r := r_api_Grid) (s2 := (rI .i64)) (g := (·.W)) (q := q82) (z := x80) 24 0 0 0 S rfl rfl comp_api_Grid_W
    refine sFldV (q := q82) S (wN rfl) rfl rfl hq85 rfl (lb rfl) fun a S => ?_
    obtain ⟨u86, S⟩ := pLoad (r := (rI .i64)) (q := q84) (x := x80.W) 0 S rfl
    obtain rfl : u86 = iv x80.W := S.mem.know (i := 1) (e := fRep (rI .i64) (u86) x80.W) rfl
    refine sLoadV1 (vq := q84) 0 (iv x80.W) S (wN rfl) rfl rfl rfl rfl rfl (lb rfl) fun a S => ?_
    refine sMove (iv x44.W) S (wN rfl) (.inl rfl) rfl rfl (lb rfl) fun a S => ?_
    refine sBin (.bool (x80.W != x44.W)) S (wN rfl) rfl rfl rfl (bNe _ _ _ _ .i64 x80.W x44.W) rfl (lb rfl) fun a S => ?_
    refine sMove (.bool (x80.W != x44.W)) S (wN rfl) (.inl rfl) rfl rfl (lb rfl) fun a S => ?_
    rcases iteSome h with ⟨hc87, h⟩ | ⟨hc87, h⟩
    · refine sSkip 7 false 59 60 S rfl rfl rfl hc87 rfl (lb rfl) fun a S => ?_
      refine sSkip 7 false 59 61 S rfl rfl rfl hc87 rfl (lb rfl) fun a S => ?_
      refine sSkip 7 false 59 62 S rfl rfl rfl hc87 rfl (lb rfl) fun a S => ?_
      refine sSkip 7 false 59 63 S rfl rfl rfl hc87 rfl (lb rfl) fun a S => ?_
      refine sSkip 7 false 59 64 S rfl rfl rfl hc87 rfl (lb rfl) fun a S => ?_
      refine sSkip 7 false 59 65 S rfl rfl rfl hc87 rfl (lb rfl) fun a S => ?_
      refine sSkip 7 false 59 66 S rfl rfl rfl hc87 rfl (lb rfl) fun a S => ?_
      refine sPickT (.bool true) S (wN rfl) rfl rfl hc87 rfl rfl (lb rfl) fun a S => ?_
      exact leafL (leafT (⟨true, Option.some.inj h, S.fix [0] [4, 5] (by decide) rfl rfl rfl⟩))
    refine sMove (.slice ad1 p0.length cp2) S (wG 7 false 59 rfl rfl rfl hc87) (.inl rfl) rfl rfl (lb rfl) fun a S => ?_
    refine sMove (iv s69) S (wG 7 false 59 rfl rfl rfl hc87) (.inl rfl) rfl rfl (lb rfl) fun a S => ?_
    obtain ⟨q88, hq89, S⟩ := pIdx (P := Try.prog) (r := r_api_Grid) (v := .slice ad1 p0.length cp2) (xs := p0) (j := s69) 34 24 4 S Try.underlying34 rfl rfl hx81
    refine sIdxV (v := .slice ad1 p0.length cp2) (k := .i64) (j := s69) S (wG 7 false 59 rfl rfl rfl hc87) rfl rfl rfl hq89 rfl (lb rfl) fun a S => ?_
    obtain ⟨q90, hq91, S⟩ := pFld (P := Try.prog) (r := r_api_Grid) (s2 := (rI .i64)) (g := (·.H)) (q := q88) (z := x80) 24 1 0 1 S rfl rfl comp_api_Grid_H
    refine sFldV (q := q88) S (wG 7 false 59 rfl rfl rfl hc87) rfl rfl hq91 rfl (lb rfl) fun a S => ?_
    obtain ⟨u92, S⟩ := pLoad (r := (rI .i64)) (q := q90) (x := x80.H) 0 S rfl
    obtain rfl : u92 = iv x80.H := S.mem.know (i := 1) (e := fRep (rI .i64) (u92) x80.H) rfl
    refine sLoadV1 (vq := q90) 0 (iv x80.H) S (wG 7 false 59 rfl rfl rfl hc87) rfl rfl rfl rfl rfl (lb rfl) fun a S => ?_
    refine sMove (iv x44.H) S (wG 7 false 59 rfl rfl rfl hc87) (.inl rfl) rfl rfl (lb rfl) fun a S => ?_
    refine sBin (.bool (x80.H != x44.H)) S (wG 7 false 59 rfl rfl rfl hc87) rfl rfl rfl (bNe _ _ _ _ .i64 x80.H x44.H) rfl (lb rfl) fun a S => ?_
    refine sPickF (.bool (x80.H != x44.H)) S (wN rfl) rfl rfl hc87 rfl rfl (lb rfl) fun a S => ?_
    exact leafL (leafT (⟨x80.H != x44.H, Option.some.inj h, S.fix [0] [8, 9] (by decide) rfl rfl rfl⟩))
  obtain ⟨rfl, S⟩ := hI
  have h := g67
  clear g67
  try dsimp only at h
  refine sSeq (fun K95 hK95 => ?_)
  obtain ⟨t97, h, g98⟩ := bindSome h
  refine sCut (fun a w => ∃ o96, o96 = t97 ∧ St [] E [] w0 168 a w [(0, .slice ad1 p0.length cp2), (1, .slice ad3 p1.length cp4), (2, iv p2), (6, .pointer (some ⟨b6, 0, none⟩)), (9, iv x44.W), (10, iv x44.H), (82, .bool o96)] [eBox b6 24 [iv 0, iv 0, .slice none 0 0]] [fRep (rL r_api_Grid) (.slice ad1 p0.length cp2) p0, fRep (rL (rI .i64)) (.slice ad3 p1.length cp4) p1]) ?_ (fun a w hI => ?_)
  · refine sRegion ?_
    refine sMove (iv p2) S (wN rfl) (.inl rfl) rfl rfl (lb rfl) fun a S => ?_
    refine sBin (.bool (decide (p2 < 1))) S (wN rfl) rfl rfl rfl (bLt _ _ _ _ .i64 p2 1) rfl (lb rfl) fun a S => ?_
    refine sMove (.bool (decide (p2 < 1))) S (wN rfl) (.inl rfl) rfl rfl (lb rfl) fun a S => ?_
    rcases iteSome h with ⟨hc99, h⟩ | ⟨hc99, h⟩
    · refine sSkip 2 false 71 72 S rfl rfl rfl hc99 rfl (lb rfl) fun a S => ?_
      refine sSkip 2 false 71 73 S rfl rfl rfl hc99 rfl (lb rfl) fun a S => ?_
      refine sSkip 2 false 71 74 S rfl rfl rfl hc99 rfl (lb rfl) fun a S => ?_
      refine sPickT (.bool true) S (wN rfl) rfl rfl hc99 rfl rfl (lb rfl) fun a S => ?_
      refine sMove (.bool true) S (wN rfl) (.inl rfl) rfl rfl (lb rfl) fun a S => ?_
      refine sSkip 7 false 76 77 S rfl rfl rfl rfl rfl (lb rfl) fun a S => ?_
      refine sSkip 7 false 76 78 S rfl rfl rfl rfl rfl (lb rfl) fun a S => ?_
      refine sSkip 7 false 76 79 S rfl rfl rfl rfl rfl (lb rfl) fun a S => ?_
      refine sSkip 7 false 76 80 S rfl rfl rfl rfl rfl (lb rfl) fun a S => ?_
      refine sSkip 7 false 76 81 S rfl rfl rfl rfl rfl (lb rfl) fun a S => ?_
      refine sPickT (.bool true) S (wN rfl) rfl rfl rfl rfl rfl (lb rfl) fun a S => ?_
      exact leafL (leafT (⟨true, Option.some.inj h, S.fix [0] [0, 1] (by decide) rfl rfl rfl⟩))
    refine sMove (.slice ad3 p1.length cp4) S (wG 2 false 71 rfl rfl rfl hc99) (.inl rfl) rfl rfl (lb rfl) fun a S => ?_
    refine sLen (ad := ad3) (m := p1.length) (c := cp4) S (wG 2 false 71 rfl rfl rfl hc99) rfl Try.underlying35 rfl rfl (lb rfl) fun a S => ?_
    refine sBin (.bool ((p1.length : Int) == 0)) S (wG 2 false 71 rfl rfl rfl hc99) rfl rfl rfl (bEq _ _ _ _ .i64 (p1.length : Int) 0) rfl (lb rfl) fun a S => ?_
    refine sPickF (.bool ((p1.length : Int) == 0)) S (wN rfl) rfl rfl hc99 rfl rfl (lb rfl) fun a S => ?_
    refine sMove (.bool ((p1.length : Int) == 0)) S (wN rfl) (.inl rfl) rfl rfl (lb rfl) fun a S => ?_
    rcases iteSome h with ⟨hc100, h⟩ | ⟨hc100, h⟩
    · refine sSkip 7 false 76 77 S rfl rfl rfl hc100 rfl (lb rfl) fun a S => ?_
      refine sSkip 7 false 76 78 S rfl rfl rfl hc100 rfl (lb rfl) fun a S => ?_
      refine sSkip 7 false 76 79 S rfl rfl rfl hc100 rfl (lb rfl) fun a S => ?_
      refine sSkip 7 false 76 80 S rfl rfl rfl hc100 rfl (lb rfl) fun a S => ?_
      refine sSkip 7 false 76 81 S rfl rfl rfl hc100 rfl (lb rfl) fun a S => ?_
      refine sPickT (.bool true) S (wN rfl) rfl rfl hc100 rfl rfl (lb rfl) fun a S => ?_
      exact leafL (leafT (⟨true, Option.some.inj h, S.fix [0] [0, 1] (by decide) rfl rfl rfl⟩))
    refine sMove (.slice ad3 p1.length cp4) S (wG 7 false 76 rfl rfl rfl hc100) (.inl rfl) rfl rfl (lb rfl) fun a S => ?_
    refine sLen (ad := ad3) (m := p1.length) (c := cp4) S (wG 7 false 76 rfl rfl rfl hc100) rfl Try.underlying35 rfl rfl (lb rfl) fun a S => ?_
    refine sMove (iv p2) S (wG 7 false 76 rfl rfl rfl hc100) (.inl rfl) rfl rfl (lb rfl) fun a S => ?_
    obtain ⟨z101, hx102, h⟩ := bindSome h
    refine sBin (iv z101) S (wG 7 false 76 rfl rfl rfl hc100) rfl rfl rfl (bRem _ _ _ _ (x := (p1.length : Int)) (y := p2) hx102) rfl (lb rfl) fun a S => ?_
    refine sBin (.bool (z101 != 0)) S (wG 7 false 76 rfl rfl rfl hc100) rfl rfl rfl (bNe _ _ _ _ .i64 z101 0) rfl (lb rfl) fun a S => ?_
    refine sPickF (.bool (z101 != 0)) S (wN rfl) rfl rfl hc100 rfl rfl (lb rfl) fun a S => ?_
    exact leafL (leafT (⟨z101 != 0, Option.some.inj h, S.fix [0] [0, 1] (by decide) rfl rfl rfl⟩))
  obtain ⟨o96, rfl, S⟩ := hI
  have h := g98
  clear g98
  try dsimp only at h
  rcases iteSome h with ⟨hc103, h⟩ | ⟨hc103, h⟩
  · refine sCondT S rfl hc103 ?_
    refine sSeq (fun K104 hK104 => ?_)
    refine sRegion ?_
    refine sBuild [] [iv 0, iv 0, .slice none 0 0] S (wN rfl) rfl rfl rfl rfl (lb rfl) fun a S => ?_
    refine sStore (p := b6) (off := 0) (T := 24) (vs := [iv 0, iv 0, .slice none 0 0]) (v := .agg #[iv 0, iv 0, .slice none 0 0]) 0 [iv 0, iv 0, .slice none 0 0] S (wN rfl) rfl rfl rfl rfl rfl rfl rfl (by simp) rfl fun a w S => ?_
    refine sMove (iv 26) S (wN rfl) (.inr rfl) rfl rfl (lb rfl) fun a S => ?_
    refine leafL (leafT (hK104 _ _ ?_))
    obtain rfl := Option.some.inj h
    have S := S.learn (fRep (rL rB) (.slice none 0 0) ([] : (List Bool))) (rL_nil _ _ _)
    have S := S.learn (fRep r_api_Grid (.agg #[iv 0, iv 0, .slice none 0 0]) (api_Grid.mk 0 0 ([] : (List Bool)))) ⟨_, rfl, S.mem.know (i := 0) (e := fRep (rL rB) (.slice none 0 0) ([] : (List Bool))) rfl⟩
    exact wp_ret (rThen (sRet (.tuple #[.agg #[iv 0, iv 0, .slice none 0 0], iv 26]) S (rsl2 rfl (rvN (c := 6) (t := 24) (T := 24) (p := b6) 0 [iv 0, iv 0, .slice none 0 0] S rfl rfl rfl rfl) (rvT (t := 7) (v := iv 26) S rfl)) ⟨(.agg #[iv 0, iv 0, .slice none 0 0]), rfl, S.mem.sel [] [0] (by decide) rfl rfl⟩))
  refine sCondF S rfl hc103 ?_
  refine wp_skip (leafT (hK95 _ _ ?_))
  obtain ⟨t105, h, g106⟩ := bindSome h
  refine sCut (fun a w => .inl () = t105 ∧ St [] E [] w0 168 a w [(0, .slice ad1 p0.length cp2), (1, .slice ad3 p1.length cp4), (2, iv p2), (6, .pointer (some ⟨b6, 0, none⟩)), (9, iv x44.W), (10, iv x44.H)] [eBox b6 24 [iv 0, iv 0, .slice none 0 0]] [fRep (rL r_api_Grid) (.slice ad1 p0.length cp2) p0, fRep (rL (rI .i64)) (.slice ad3 p1.length cp4) p1]) ?_ (fun a w hI => ?_)
  · refine sSeq (fun K107 hK107 => ?_)
    refine sRegion ?_
    refine sMove (iv 0) S (wN rfl) (.inr rfl) rfl rfl (lb rfl) fun a S => ?_
    refine leafL (leafT (hK107 _ _ ?_))
    refine wp_block ?_
    obtain ⟨t111, hl, g110⟩ := bindSome h
    refine sLoop hl (fun s0 a w => match s0 with | s108 => St [] E [] w0 168 a w [(0, .slice ad1 p0.length cp2), (1, .slice ad3 p1.length cp4), (2, iv p2), (6, .pointer (some ⟨b6, 0, none⟩)), (9, iv x44.W), (10, iv x44.H), (12, iv s108)] [eBox b6 24 [iv 0, iv 0, .slice none 0 0]] [fRep (rL r_api_Grid) (.slice ad1 p0.length cp2) p0, fRep (rL (rI .i64)) (.slice ad3 p1.length cp4) p1]) (S.fix [0] [0, 1] (by decide) rfl rfl rfl) ?_
    clear hl h
    intro s108 a w c0 hI h hu109
    unfold raddleref13_Join_l3 at h
    dsimp only at h hI
    have S := hI
    refine sSeq (fun K112 hK112 => ?_)
    refine sSeq (fun K113 hK113 => ?_)
    refine sRegion ?_
    refine sMove (iv s108) S (wN rfl) (.inl rfl) rfl rfl (lb rfl) fun a S => ?_
    refine sMove (.slice ad3 p1.length cp4) S (wN rfl) (.inl rfl) rfl rfl (lb rfl) fun a S => ?_
    refine sLen (ad := ad3) (m := p1.length) (c := cp4) S (wN rfl) rfl Try.underlying35 rfl rfl (lb rfl) fun a S => ?_
    refine sBin (.bool (decide (s108 < (p1.length : Int)))) S (wN rfl) rfl rfl rfl (bLt _ _ _ _ .i64 s108 (p1.length : Int)) rfl (lb rfl) fun a S => ?_
    refine leafL (leafT (hK113 _ _ ?_))
    rcases iteSome h with ⟨hc114, h⟩ | ⟨hc114, h⟩
    rotate_left
    · refine sCondF S rfl hc114 ?_
      obtain rfl := Option.some.inj h
      obtain rfl := hu109 _ rfl
      have h := g110
      clear g110
      try dsimp only at h
      exact wp_exit (xThen (xThen (xHit (leafT (⟨Option.some.inj h, S.fix [0] [0, 1] (by decide) rfl rfl rfl⟩)))))
    refine sCondT S rfl hc114 ?_
    refine wp_skip (leafT (hK112 _ _ ?_))
    refine sSeq (fun K115 hK115 => ?_)
    refine wp_block ?_
    obtain ⟨t117, h, g118⟩ := bindSome h
    refine sCut (fun a w => ∃ o116, o116 = t117 ∧ St [] E [] w0 168 a w [(0, .slice ad1 p0.length cp2), (1, .slice ad3 p1.length cp4), (2, iv p2), (6, .pointer (some ⟨b6, 0, none⟩)), (9, iv x44.W), (10, iv x44.H), (12, iv s108), (103, .bool o116)] [eBox b6 24 [iv 0, iv 0, .slice none 0 0]] [fRep (rL r_api_Grid) (.slice ad1 p0.length cp2) p0, fRep (rL (rI .i64)) (.slice ad3 p1.length cp4) p1]) ?_ (fun a w hI => ?_)
    rotate_left
    · obtain ⟨o116, rfl, S⟩ := hI
      have h := g118
      clear g118
      try dsimp only at h
      rcases iteSome h with ⟨hc128, h⟩ | ⟨hc128, h⟩
      rotate_left
      · refine sCondF S rfl hc128 ?_
        refine wp_skip (leafB (leafT (hK115 _ _ ?_)))
        refine sRegion ?_
        refine sMove (iv s108) S (wN rfl) (.inl rfl) rfl rfl (lb rfl) fun a S => ?_
        refine sBin (iv (w64 (s108 + 1))) S (wN rfl) rfl rfl rfl (bAdd _ _ _ _ s108 1) rfl (lb rfl) fun a S => ?_
        refine sMove (iv (w64 (s108 + 1))) S (wN rfl) (.inr rfl) rfl rfl (lb rfl) fun a S => ?_
        exact leafL (leafT (⟨w64 (s108 + 1), (Option.some.inj h).symm, (S.fix [0] [0, 1] (by decide) rfl rfl rfl)⟩))
      refine sCondT S rfl hc128 ?_
      refine sSeq (fun K129 hK129 => ?_)
      refine sRegion ?_
      refine sBuild [] [iv 0, iv 0, .slice none 0 0] S (wN rfl) rfl rfl rfl rfl (lb rfl) fun a S => ?_
      refine sStore (p := b6) (off := 0) (T := 24) (vs := [iv 0, iv 0, .slice none 0 0]) (v := .agg #[iv 0, iv 0, .slice none 0 0]) 0 [iv 0, iv 0, .slice none 0 0] S (wN rfl) rfl rfl rfl rfl rfl rfl rfl (by simp) rfl fun a w S => ?_
      refine sMove (iv 8) S (wN rfl) (.inr rfl) rfl rfl (lb rfl) fun a S => ?_
      refine leafL (leafT (hK129 _ _ ?_))
      obtain rfl := Option.some.inj h
      obtain rfl := hu109 _ rfl
      have h := g110
      clear g110
      try dsimp only at h
      obtain rfl := Option.some.inj h
      have h := g106
      clear g106
      try dsimp only at h
      obtain rfl := Option.some.inj h
      have S := S.learn (fRep (rL rB) (.slice none 0 0) ([] : (List Bool))) (rL_nil _ _ _)
      have S := S.learn (fRep r_api_Grid (.agg #[iv 0, iv 0, .slice none 0 0]) (api_Grid.mk 0 0 ([] : (List Bool)))) ⟨_, rfl, S.mem.know (i := 0) (e := fRep (rL rB) (.slice none 0 0) ([] : (List Bool))) rfl⟩
      exact wp_ret (rBlock (rThen (rThen (rBlock (rThen (sRet (.tuple #[.agg #[iv 0, iv 0, .slice none 0 0], iv 8]) S (rsl2 rfl (rvN (c := 6) (t := 24) (T := 24) (p := b6) 0 [iv 0, iv 0, .slice none 0 0] S rfl rfl rfl rfl) (rvT (t := 7) (v := iv 8) S rfl)) ⟨(.agg #[iv 0, iv 0, .slice none 0 0]), rfl, S.mem.sel [] [0] (by decide) rfl rfl⟩))))))
    refine sRegion ?_
    refine sMove (.slice ad3 p1.length cp4) S (wN rfl) (.inl rfl) rfl rfl (lb rfl) fun a S => ?_
    refine sMove (iv s108) S (wN rfl) (.inl rfl) rfl rfl (lb rfl) fun a S => ?_
    obtain ⟨x119, hx120, h⟩ := bindSome h
    obtain ⟨q121, hq122, S⟩ := pIdx (P := Try.prog) (r := (rI .i64)) (v := .slice ad3 p1.length cp4) (xs := p1) (j := s108) 35 3 1 S Try.underlying35 rfl rfl hx120
    refine sIdxV (v := .slice ad3 p1.length cp4) (k := .i64) (j := s108) S (wN rfl) rfl rfl rfl hq122 rfl (lb rfl) fun a S => ?_
    obtain ⟨u123, S⟩ := pLoad (r := (rI .i64)) (q := q121) (x := x119) 0 S rfl
    obtain rfl : u123 = iv x119 := S.mem.know (i := 1) (e := fRep (rI .i64) (u123) x119) rfl
    refine sLoadV1 (vq := q121) 0 (iv x119) S (wN rfl) rfl rfl rfl rfl rfl (lb rfl) fun a S => ?_
    refine sBin (.bool (decide (x119 < 0))) S (wN rfl) rfl rfl rfl (bLt _ _ _ _ .i64 x119 0) rfl (lb rfl) fun a S => ?_
    refine sMove (.bool (decide (x119 < 0))) S (wN rfl) (.inl rfl) rfl rfl (lb rfl) fun a S => ?_
    rcases iteSome h with ⟨hc124, h⟩ | ⟨hc124, h⟩
    · refine sSkip 5 false 95 96 S rfl rfl rfl hc124 rfl (lb rfl) fun a S => ?_
      refine sSkip 5 false 95 97 S rfl rfl rfl hc124 rfl (lb rfl) fun a S => ?_
      refine sSkip 5 false 95 98 S rfl rfl rfl hc124 rfl (lb rfl) fun a S => ?_
      refine sSkip 5 false 95 99 S rfl rfl rfl hc124 rfl (lb rfl) fun a S => ?_
      refine sSkip 5 false 95 100 S rfl rfl rfl hc124 rfl (lb rfl) fun a S => ?_
      refine sSkip 5 false 95 101 S rfl rfl rfl hc124 rfl (lb rfl) fun a S => ?_
      refine sSkip 5 false 95 102 S rfl rfl rfl hc124 rfl (lb rfl) fun a S => ?_
      refine sPickT (.bool true) S (wN rfl) rfl rfl hc124 rfl rfl (lb rfl) fun a S => ?_
      exact leafL (leafT (⟨true, Option.some.inj h, S.fix [0] [3, 4] (by decide) rfl rfl rfl⟩))
    refine sMove (.slice ad3 p1.length cp4) S (wG 5 false 95 rfl rfl rfl hc124) (.inl rfl) rfl rfl (lb rfl) fun a S => ?_
    refine sMove (iv s108) S (wG 5 false 95 rfl rfl rfl hc124) (.inl rfl) rfl rfl (lb rfl) fun a S => ?_
    obtain ⟨q125, hq126, S⟩ := pIdx (P := Try.prog) (r := (rI .i64)) (v := .slice ad3 p1.length cp4) (xs := p1) (j := s108) 35 3 4 S Try.underlying35 rfl rfl hx120
    refine sIdxV (v := .slice ad3 p1.length cp4) (k := .i64) (j := s108) S (wG 5 false 95 rfl rfl rfl hc124) rfl rfl rfl hq126 rfl (lb rfl) fun a S => ?_
    obtain ⟨u127, S⟩ := pLoad (r := (rI .i64)) (q := q125) (x := x119) 0 S rfl
    obtain rfl : u127 = iv x119 := S.mem.know (i := 1) (e := fRep (rI .i64) (u127) x119) rfl
    refine sLoadV1 (vq := q125) 0 (iv x119) S (wG 5 false 95 rfl rfl rfl hc124) rfl rfl rfl rfl rfl (lb rfl) fun a S => ?_
    refine sMove (.slice ad1 p0.length cp2) S (wG 5 false 95 rfl rfl rfl hc124) (.inl rfl) rfl rfl (lb rfl) fun a S => ?_
    refine sLen (ad := ad1) (m := p0.length) (c := cp2) S (wG 5 false 95 rfl rfl rfl hc124) rfl Try.underlying34 rfl rfl (lb rfl) fun a S => ?_
    refine sBin (.bool (decide ((p0.length : Int) ≤ x119))) S (wG 5 false 95 rfl rfl rfl hc124) rfl rfl rfl (bGe _ _ _ _ .i64 x119 (p0.length : Int)) rfl (lb rfl) fun a S => ?_
    refine sPickF (.bool (decide ((p0.length : Int) ≤ x119))) S (wN rfl) rfl rfl hc124 rfl rfl (lb rfl) fun a S => ?_
    exact leafL (leafT (⟨decide ((p0.length : Int) ≤ x119), Option.some.inj h, S.fix [0] [6, 7] (by decide) rfl rfl rfl⟩))
  obtain ⟨rfl, S⟩ := hI
  have h := g106
  clear g106
  try dsimp only at h
  refine sSeq (fun K130 hK130 => ?_)
  obtain ⟨t132, h, g133⟩ := bindSome h
  refine sCut (fun a w => ∃ o131, o131 = t132 ∧ St [] E [] w0 168 a w [(0, .slice ad1 p0.length cp2), (1, .slice ad3 p1.length cp4), (2, iv p2), (6, .pointer (some ⟨b6, 0, none⟩)), (9, iv x44.W), (10, iv x44.H), (117, .bool o131)] [eBox b6 24 [iv 0, iv 0, .slice none 0 0]] [fRep (rL r_api_Grid) (.slice ad1 p0.length cp2) p0, fRep (rL (rI .i64)) (.slice ad3 p1.length cp4) p1]) ?_ (fun a w hI => ?_)
  · obtain ⟨z134, hx135, h⟩ := bindSome h
    rcases iteSome h with ⟨hc136, h⟩ | ⟨hc136, h⟩
    · refine sDraw (nf := []) (W := [(0, 105, iv p2), (1, 106, iv x44.W), (2, 107, iv z134), (3, 108, .bool (decide (z134 < p2))), (4, 109, .bool (decide (z134 < p2))), (5, 110, undef), (6, 111, undef), (7, 112, undef), (8, 113, undef), (9, 114, undef), (10, 115, undef), (11, 116, undef), (12, 117, .bool true)]) rfl S ?_
      refine node_by (A := anc_raddleref13_Join_1) (nf := []) (Y := []) (W := [(0, 105, iv p2), (1, 106, iv x44.W), (2, 107, iv z134), (3, 108, .bool (decide (z134 < p2))), (4, 109, .bool (decide (z134 < p2))), (5, 110, undef), (6, 111, undef), (7, 112, undef), (8, 113, undef), (9, 114, undef), (10, 115, undef), (11, 116, undef), (12, 117, .bool true)]) 13 (by kernel_rfl) (by kernel_rfl) (by kernel_rfl) (by kernel_rfl) (by kernel_rfl) [0, 1, 2, 3, 4, 5, 6, 7, 8, 9, 10, 11, 12] (by kernel_rfl) (by decide) (by decide) (aF 0 12 (by decide) ?_ (aF 1 11 (by decide) ?_ (aF 2 10 (by decide) ?_ (aF 3 9 (by decide) ?_ (aF 4 8 (by decide) ?_ (aF 5 7 (by decide) ?_ (aF 6 6 (by decide) ?_ (aF 7 5 (by decide) ?_ (aF 8 4 (by decide) ?_ (aF 9 3 (by decide) ?_ (aF 10 2 (by decide) ?_ (aF 11 1 (by decide) ?_ (aF 12 0 (by decide) ?_ (trivial)))))))))))))) [(0, .slice ad1 p0.length cp2), (1, .slice ad3 p1.length cp4), (2, iv p2), (6, .pointer (some ⟨b6, 0, none⟩)), (9, iv x44.W), (10, iv x44.H), (117, .bool true)] (fin_of [none, none, none, none, none, none, some 12] rfl (by kernel_rfl) (by kernel_rfl)) (fun _ a w S => ?_)
      · refine fI 105 (iv p2) [(2, iv p2)] 0 [none] rfl rfl rfl rfl rfl rfl fun G a w S => ?_
        refine sMove (iv p2) S (wN rfl) (.inl rfl) rfl rfl (lb rfl) fun a S => ?_
        exact leafL ⟨rfl, S⟩
      · refine fI 106 (iv x44.W) [(9, iv x44.W)] 1 [none] rfl rfl rfl rfl rfl rfl fun G a w S => ?_
        refine sMove (iv x44.W) S (wN rfl) (.inl rfl) rfl rfl (lb rfl) fun a S => ?_
        exact leafL ⟨rfl, S⟩
      · refine fI 107 (iv z134) [(106, iv x44.W)] 2 [some 1] rfl rfl rfl rfl rfl rfl fun G a w S => ?_
        refine sBin (iv z134) S (wN rfl) rfl rfl rfl (bQuo _ _ _ _ (x := 64) (y := x44.W) hx135) rfl (lb rfl) fun a S => ?_
        exact leafL ⟨rfl, S⟩
      · refine fI 108 (.bool (decide (z134 < p2))) [(105, iv p2), (107, iv z134)] 3 [some 0, some 2] rfl rfl rfl rfl rfl rfl fun G a w S => ?_
        refine sBin (.bool (decide (z134 < p2))) S (wN rfl) rfl rfl rfl (bGt _ _ _ _ .i64 p2 z134) rfl (lb rfl) fun a S => ?_
        exact leafL ⟨rfl, S⟩
      · refine fI 109 (.bool (decide (z134 < p2))) [(108, .bool (decide (z134 < p2)))] 4 [some 3] rfl rfl rfl rfl rfl rfl fun G a w S => ?_
        refine sMove (.bool (decide (z134 < p2))) S (wN rfl) (.inl rfl) rfl rfl (lb rfl) fun a S => ?_
        exact leafL ⟨rfl, S⟩
      · refine fI 110 undef [(1, .slice ad3 p1.length cp4), (109, .bool (decide (z134 < p2)))] 5 [none, some 4] rfl rfl rfl rfl rfl rfl fun G a w S => ?_
        refine sSkip 4 false 109 110 S rfl rfl rfl hc136 rfl (lb rfl) fun a S => ?_
        exact leafL ⟨rfl, S⟩
      · refine fI 111 undef [(110, undef), (109, .bool (decide (z134 < p2)))] 6 [some 5, some 4] rfl rfl rfl rfl rfl rfl fun G a w S => ?_
        refine sSkip 4 false 109 111 S rfl rfl rfl hc136 rfl (lb rfl) fun a S => ?_
        exact leafL ⟨rfl, S⟩
      · refine fI 112 undef [(2, iv p2), (109, .bool (decide (z134 < p2)))] 7 [none, some 4] rfl rfl rfl rfl rfl rfl fun G a w S => ?_
        refine sSkip 4 false 109 112 S rfl rfl rfl hc136 rfl (lb rfl) fun a S => ?_
        exact leafL ⟨rfl, S⟩
      · refine fI 113 undef [(111, undef), (112, undef), (109, .bool (decide (z134 < p2)))] 8 [some 6, some 7, some 4] rfl rfl rfl rfl rfl rfl fun G a w S => ?_
        refine sSkip 4 false 109 113 S rfl rfl rfl hc136 rfl (lb rfl) fun a S => ?_
        exact leafL ⟨rfl, S⟩
      · refine fI 114 undef [(10, iv x44.H), (109, .bool (decide (z134 < p2)))] 9 [none, some 4] rfl rfl rfl rfl rfl rfl fun G a w S => ?_
        refine sSkip 4 false 109 114 S rfl rfl rfl hc136 rfl (lb rfl) fun a S => ?_
        exact leafL ⟨rfl, S⟩
      · refine fI 115 undef [(114, undef), (109, .bool (decide (z134 < p2)))] 10 [some 9, some 4] rfl rfl rfl rfl rfl rfl fun G a w S => ?_
        refine sSkip 4 false 109 115 S rfl rfl rfl hc136 rfl (lb rfl) fun a S => ?_
        exact leafL ⟨rfl, S⟩
      · refine fI 116 undef [(113, undef), (115, undef), (109, .bool (decide (z134 < p2)))] 11 [some 8, some 10, some 4] rfl rfl rfl rfl rfl rfl fun G a w S => ?_
        refine sSkip 4 false 109 116 S rfl rfl rfl hc136 rfl (lb rfl) fun a S => ?_
        exact leafL ⟨rfl, S⟩
      · refine fI 117 (.bool true) [(109, .bool (decide (z134 < p2))), (116, undef)] 12 [some 4, some 11] rfl rfl rfl rfl rfl rfl fun G a w S => ?_
        refine sPickT (.bool true) S (wN rfl) rfl rfl hc136 rfl rfl (lb rfl) fun a S => ?_
        exact leafL ⟨rfl, S⟩
      exact leafT (⟨true, Option.some.inj h, S.fix [0] [0, 1] (by decide) rfl rfl rfl⟩)
    obtain ⟨z137, hx138, h⟩ := bindSome h
    obtain ⟨z139, hx140, h⟩ := bindSome h
    refine sDraw (nf := []) (W := [(0, 105, iv p2), (1, 106, iv x44.W), (2, 107, iv z134), (3, 108, .bool (decide (z134 < p2))), (4, 109, .bool (decide (z134 < p2))), (5, 110, .slice ad3 p1.length cp4), (6, 111, iv (p1.length : Int)), (7, 112, iv p2), (8, 113, iv z137), (9, 114, iv x44.H), (10, 115, iv z139), (11, 116, .bool (decide (z139 < z137))), (12, 117, .bool (decide (z139 < z137)))]) rfl S ?_
    refine node_by (A := anc_raddleref13_Join_1) (nf := []) (Y := []) (W := [(0, 105, iv p2), (1, 106, iv x44.W), (2, 107, iv z134), (3, 108, .bool (decide (z134 < p2))), (4, 109, .bool (decide (z134 < p2))), (5, 110, .slice ad3 p1.length cp4), (6, 111, iv (p1.length : Int)), (7, 112, iv p2), (8, 113, iv z137), (9, 114, iv x44.H), (10, 115, iv z139), (11, 116, .bool (decide (z139 < z137))), (12, 117, .bool (decide (z139 < z137)))]) 13 (by kernel_rfl) (by kernel_rfl) (by kernel_rfl) (by kernel_rfl) (by kernel_rfl) [0, 1, 2, 3, 4, 5, 6, 7, 8, 9, 10, 11, 12] (by kernel_rfl) (by decide) (by decide) (aF 0 12 (by decide) ?_ (aF 1 11 (by decide) ?_ (aF 2 10 (by decide) ?_ (aF 3 9 (by decide) ?_ (aF 4 8 (by decide) ?_ (aF 5 7 (by decide) ?_ (aF 6 6 (by decide) ?_ (aF 7 5 (by decide) ?_ (aF 8 4 (by decide) ?_ (aF 9 3 (by decide) ?_ (aF 10 2 (by decide) ?_ (aF 11 1 (by decide) ?_ (aF 12 0 (by decide) ?_ (trivial)))))))))))))) [(0, .slice ad1 p0.length cp2), (1, .slice ad3 p1.length cp4), (2, iv p2), (6, .pointer (some ⟨b6, 0, none⟩)), (9, iv x44.W), (10, iv x44.H), (117, .bool (decide (z139 < z137)))] (fin_of [none, none, none, none, none, none, some 12] rfl (by kernel_rfl) (by kernel_rfl)) (fun _ a w S => ?_)
    · refine fI 105 (iv p2) [(2, iv p2)] 0 [none] rfl rfl rfl rfl rfl rfl fun G a w S => ?_
      refine sMove (iv p2) S (wN rfl) (.inl rfl) rfl rfl (lb rfl) fun a S => ?_
      exact leafL ⟨rfl, S⟩
    · refine fI 106 (iv x44.W) [(9, iv x44.W)] 1 [none] rfl rfl rfl rfl rfl rfl fun G a w S => ?_
      refine sMove (iv x44.W) S (wN rfl) (.inl rfl) rfl rfl (lb rfl) fun a S => ?_
      exact leafL ⟨rfl, S⟩
    · refine fI 107 (iv z134) [(106, iv x44.W)] 2 [some 1] rfl rfl rfl rfl rfl rfl fun G a w S => ?_
      refine sBin (iv z134) S (wN rfl) rfl rfl rfl (bQuo _ _ _ _ (x := 64) (y := x44.W) hx135) rfl (lb rfl) fun a S => ?_
      exact leafL ⟨rfl, S⟩
    · refine fI 108 (.bool (decide (z134 < p2))) [(105, iv p2), (107, iv z134)] 3 [some 0, some 2] rfl rfl rfl rfl rfl rfl fun G a w S => ?_
      refine sBin (.bool (decide (z134 < p2))) S (wN rfl) rfl rfl rfl (bGt _ _ _ _ .i64 p2 z134) rfl (lb rfl) fun a S => ?_
      exact leafL ⟨rfl, S⟩
    · refine fI 109 (.bool (decide (z134 < p2))) [(108, .bool (decide (z134 < p2)))] 4 [some 3] rfl rfl rfl rfl rfl rfl fun G a w S => ?_
      refine sMove (.bool (decide (z134 < p2))) S (wN rfl) (.inl rfl) rfl rfl (lb rfl) fun a S => ?_
      exact leafL ⟨rfl, S⟩
    · refine fI 110 (.slice ad3 p1.length cp4) [(1, .slice ad3 p1.length cp4), (109, .bool (decide (z134 < p2)))] 5 [none, some 4] rfl rfl rfl rfl rfl rfl fun G a w S => ?_
      refine sMove (.slice ad3 p1.length cp4) S (wG 4 false 109 rfl rfl rfl hc136) (.inl rfl) rfl rfl (lb rfl) fun a S => ?_
      exact leafL ⟨rfl, S⟩
    · refine fI 111 (iv (p1.length : Int)) [(110, .slice ad3 p1.length cp4), (109, .bool (decide (z134 < p2)))] 6 [some 5, some 4] rfl rfl rfl rfl rfl rfl fun G a w S => ?_
      refine sLen (ad := ad3) (m := p1.length) (c := cp4) S (wG 4 false 109 rfl rfl rfl hc136) rfl Try.underlying35 rfl rfl (lb rfl) fun a S => ?_
      exact leafL ⟨rfl, S⟩
    · refine fI 112 (iv p2) [(2, iv p2), (109, .bool (decide (z134 < p2)))] 7 [none, some 4] rfl rfl rfl rfl rfl rfl fun G a w S => ?_
      refine sMove (iv p2) S (wG 4 false 109 rfl rfl rfl hc136) (.inl rfl) rfl rfl (lb rfl) fun a S => ?_
      exact leafL ⟨rfl, S⟩
    · refine fI 113 (iv z137) [(111, iv (p1.length : Int)), (112, iv p2), (109, .bool (decide (z134 < p2)))] 8 [some 6, some 7, some 4] rfl rfl rfl rfl rfl rfl fun G a w S => ?_
      refine sBin (iv z137) S (wG 4 false 109 rfl rfl rfl hc136) rfl rfl rfl (bQuo _ _ _ _ (x := (p1.length : Int)) (y := p2) hx138) rfl (lb rfl) fun a S => ?_
      exact leafL ⟨rfl, S⟩
    · refine fI 114 (iv x44.H) [(10, iv x44.H), (109, .bool (decide (z134 < p2)))] 9 [none, some 4] rfl rfl rfl rfl rfl rfl fun G a w S => ?_
      refine sMove (iv x44.H) S (wG 4 false 109 rfl rfl rfl hc136) (.inl rfl) rfl rfl (lb rfl) fun a S => ?_
      exact leafL ⟨rfl, S⟩
    · refine fI 115 (iv z139) [(114, iv x44.H), (109, .bool (decide (z134 < p2)))] 10 [some 9, some 4] rfl rfl rfl rfl rfl rfl fun G a w S => ?_
      refine sBin (iv z139) S (wG 4 false 109 rfl rfl rfl hc136) rfl rfl rfl (bQuo _ _ _ _ (x := 64) (y := x44.H) hx140) rfl (lb rfl) fun a S => ?_
      exact leafL ⟨rfl, S⟩
    · refine fI 116 (.bool (decide (z139 < z137))) [(113, iv z137), (115, iv z139), (109, .bool (decide (z134 < p2)))] 11 [some 8, some 10, some 4] rfl rfl rfl rfl rfl rfl fun G a w S => ?_
      refine sBin (.bool (decide (z139 < z137))) S (wG 4 false 109 rfl rfl rfl hc136) rfl rfl rfl (bGt _ _ _ _ .i64 z137 z139) rfl (lb rfl) fun a S => ?_
      exact leafL ⟨rfl, S⟩
    · refine fI 117 (.bool (decide (z139 < z137))) [(109, .bool (decide (z134 < p2))), (116, .bool (decide (z139 < z137)))] 12 [some 4, some 11] rfl rfl rfl rfl rfl rfl fun G a w S => ?_
      refine sPickF (.bool (decide (z139 < z137))) S (wN rfl) rfl rfl hc136 rfl rfl (lb rfl) fun a S => ?_
      exact leafL ⟨rfl, S⟩
    exact leafT (⟨decide (z139 < z137), Option.some.inj h, S.fix [0] [0, 1] (by decide) rfl rfl rfl⟩)
  obtain ⟨o131, rfl, S⟩ := hI
  have h := g133
  clear g133
  try dsimp only at h
  rcases iteSome h with ⟨hc141, h⟩ | ⟨hc141, h⟩
  · refine sCondT S rfl hc141 ?_
    refine sSeq (fun K142 hK142 => ?_)
    refine sRegion ?_
    refine sBuild [] [iv 0, iv 0, .slice none 0 0] S (wN rfl) rfl rfl rfl rfl (lb rfl) fun a S => ?_
    refine sStore (p := b6) (off := 0) (T := 24) (vs := [iv 0, iv 0, .slice none 0 0]) (v := .agg #[iv 0, iv 0, .slice none 0 0]) 0 [iv 0, iv 0, .slice none 0 0] S (wN rfl) rfl rfl rfl rfl rfl rfl rfl (by simp) rfl fun a w S => ?_
    refine sMove (iv 4) S (wN rfl) (.inr rfl) rfl rfl (lb rfl) fun a S => ?_
    refine leafL (leafT (hK142 _ _ ?_))
    obtain rfl := Option.some.inj h
    have S := S.learn (fRep (rL rB) (.slice none 0 0) ([] : (List Bool))) (rL_nil _ _ _)
    have S := S.learn (fRep r_api_Grid (.agg #[iv 0, iv 0, .slice none 0 0]) (api_Grid.mk 0 0 ([] : (List Bool)))) ⟨_, rfl, S.mem.know (i := 0) (e := fRep (rL rB) (.slice none 0 0) ([] : (List Bool))) rfl⟩
    exact wp_ret (rThen (sRet (.tuple #[.agg #[iv 0, iv 0, .slice none 0 0], iv 4]) S (rsl2 rfl (rvN (c := 6) (t := 24) (T := 24) (p := b6) 0 [iv 0, iv 0, .slice none 0 0] S rfl rfl rfl rfl) (rvT (t := 7) (v := iv 4) S rfl)) ⟨(.agg #[iv 0, iv 0, .slice none 0 0]), rfl, S.mem.sel [] [0] (by decide) rfl rfl⟩))
  refine sCondF S rfl hc141 ?_
  refine wp_skip (leafT (hK130 _ _ ?_))
  refine sSeq (fun K143 hK143 => ?_)
  refine sRegion ?_
  refine sMove (iv p2) S (wN rfl) (.inl rfl) rfl rfl (lb rfl) fun a S => ?_
  refine sMove (iv x44.W) S (wN rfl) (.inl rfl) rfl rfl (lb rfl) fun a S => ?_
  refine sBin (iv (w64 (p2 * x44.W))) S (wN rfl) rfl rfl rfl (bMul _ _ _ _ p2 x44.W) rfl (lb rfl) fun a S => ?_
  refine sMove (.slice ad3 p1.length cp4) S (wN rfl) (.inl rfl) rfl rfl (lb rfl) fun a S => ?_
  refine sLen (ad := ad3) (m := p1.length) (c := cp4) S (wN rfl) rfl Try.underlying35 rfl rfl (lb rfl) fun a S => ?_
  refine sMove (iv p2) S (wN rfl) (.inl rfl) rfl rfl (lb rfl) fun a S => ?_
  obtain ⟨z144, hx145, h⟩ := bindSome h
  refine sBin (iv z144) S (wN rfl) rfl rfl rfl (bQuo _ _ _ _ (x := (p1.length : Int)) (y := p2) hx145) rfl (lb rfl) fun a S => ?_
  refine sMove (iv x44.H) S (wN rfl) (.inl rfl) rfl rfl (lb rfl) fun a S => ?_
  refine sBin (iv (w64 (z144 * x44.H))) S (wN rfl) rfl rfl rfl (bMul _ _ _ _ z144 x44.H) rfl (lb rfl) fun a S => ?_
  obtain ⟨r146, hx147, h⟩ := bindSome h
  refine sCall (X := Option Addr × Nat) (f := 40) (vs := [iv (w64 (p2 * x44.W)), iv (w64 (z144 * x44.H))]) (val := fun x => .agg #[iv r146.W, iv r146.H, .slice x.1 r146.Bits.length x.2]) (B' := fun x => [eRow rB 4 (.slice x.1 r146.Bits.length x.2) r146.Bits]) (D' := fun _ => []) [] [eBox b6 24 [iv 0, iv 0, .slice none 0 0]] [] [0] [] S (wN rfl) rfl callee40 rfl (by decide) rfl rfl (fun E1 w1 S1 => c_raddleref01_Zero_s0 E1 w1 (w64 (p2 * x44.W)) (w64 (z144 * x44.H)) r146 hx147 S1) rfl (lb rfl) fun xx a w S => ?_
  obtain ⟨ad148, cp149⟩ := xx
  dsimp only at S
  refine sAlloc (.agg #[iv 0, iv 0, .slice none 0 0]) S (wN rfl) rfl rfl [iv 0, iv 0, .slice none 0 0] rfl rfl (lb rfl) fun a b150 w S => ?_
  refine sStore (p := b150) (off := 0) (T := 24) (vs := [iv 0, iv 0, .slice none 0 0]) (v := .agg #[iv r146.W, iv r146.H, .slice ad148 r146.Bits.length cp149]) 0 [iv r146.W, iv r146.H, .slice ad148 r146.Bits.length cp149] S (wN rfl) rfl rfl rfl rfl rfl rfl rfl (by simp) rfl fun a w S => ?_
  refine leafL (leafT (hK143 _ _ ?_))
  obtain ⟨t152, h, g153⟩ := bindSome h
  refine sCut (fun a w => ∃ o151, o151 = t152 ∧ St [] E [] w0 168 a w [(6, .pointer (some ⟨b6, 0, none⟩)), (13, .pointer (some ⟨b150, 0, none⟩))] [eBox b6 24 [iv 0, iv 0, .slice none 0 0], eBox b150 24 [iv r146.W, iv r146.H, .slice ad148 o151.length cp149], eRow rB 4 (.slice ad148 o151.length cp149) o151] []) ?_ (fun a w hI => ?_)
  rotate_left
  · obtain ⟨o151, rfl, S⟩ := hI
    have h := g153
    clear g153
    try dsimp only at h
    refine sSeq (fun K215 hK215 => ?_)
    refine sRegion ?_
    refine sLoadN (p := b150) (off := 0) (T := 24) (vs := [iv r146.W, iv r146.H, .slice ad148 o151.length cp149]) 1 [iv r146.W, iv r146.H, .slice ad148 o151.length cp149] S (wN rfl) rfl rfl rfl rfl rfl rfl rfl (lb rfl) fun a S => ?_
    refine sStore (p := b6) (off := 0) (T := 24) (vs := [iv 0, iv 0, .slice none 0 0]) (v := .agg #[iv r146.W, iv r146.H, .slice ad148 o151.length cp149]) 0 [iv r146.W, iv r146.H, .slice ad148 o151.length cp149] S (wN rfl) rfl rfl rfl rfl rfl rfl rfl (by simp) rfl fun a w S => ?_
    refine sMove (iv 0) S (wN rfl) (.inr rfl) rfl rfl (lb rfl) fun a S => ?_
    refine leafL (leafT (hK215 _ _ ?_))
    obtain rfl := Option.some.inj h
    have S := S.shutR (r := rB) (T := 4) (v := .slice ad148 o151.length cp149) (xs := o151) 2 rfl
    have S := S.learn (fRep r_api_Grid (.agg #[iv r146.W, iv r146.H, .slice ad148 o151.length cp149]) (api_Grid.mk r146.W r146.H o151)) ⟨_, rfl, S.mem.know (i := 0) (e := fRep (rL rB) (.slice ad148 o151.length cp149) o151) rfl⟩
    exact wp_ret (sRet (.tuple #[.agg #[iv r146.W, iv r146.H, .slice ad148 o151.length cp149], iv 0]) S (rsl2 rfl (rvN (c := 6) (t := 24) (T := 24) (p := b6) 0 [iv r146.W, iv r146.H, .slice ad148 o151.length cp149] S rfl rfl rfl rfl) (rvT (t := 7) (v := iv 0) S rfl)) ⟨(.agg #[iv r146.W, iv r146.H, .slice ad148 o151.length cp149]), rfl, S.mem.sel [] [0] (by decide) rfl rfl⟩)
  refine sSeq (fun K154 hK154 => ?_)
  refine sRegion ?_
  refine sMove (iv 0) S (wN rfl) (.inr rfl) rfl rfl (lb rfl) fun a S => ?_
  refine leafL (leafT (hK154 _ _ ?_))
  refine wp_block ?_
  obtain ⟨t159, hl, g158⟩ := bindSome h
  refine sLoop hl (fun s0 a w => match s0 with | (s155, s156) => St [] E [] w0 168 a w [(0, .slice ad1 p0.length cp2), (1, .slice ad3 p1.length cp4), (2, iv p2), (6, .pointer (some ⟨b6, 0, none⟩)), (9, iv x44.W), (10, iv x44.H), (13, .pointer (some ⟨b150, 0, none⟩)), (14, iv s155)] [eBox b6 24 [iv 0, iv 0, .slice none 0 0], eBox b150 24 [iv r146.W, iv r146.H, .slice ad148 s156.length cp149], eRow rB 4 (.slice ad148 s156.length cp149) s156] [fRep (rL r_api_Grid) (.slice ad1 p0.length cp2) p0, fRep (rL (rI .i64)) (.slice ad3 p1.length cp4) p1]) (S.fix [2, 0, 1] [0, 1] (by decide) rfl rfl rfl) ?_
  clear hl h
  intro s0 a w c0 hI h hu157
  obtain ⟨s155, s156⟩ := s0
  unfold raddleref13_Join_l5 at h
  dsimp only at h hI
  have S := hI
  refine sSeq (fun K161 hK161 => ?_)
  refine sSeq (fun K162 hK162 => ?_)
  refine sRegion ?_
  refine sMove (iv s155) S (wN rfl) (.inl rfl) rfl rfl (lb rfl) fun a S => ?_
  refine sField (b := b150) (off := 0) 1 1 S (wN rfl) rfl rfl rfl rfl rfl (lb rfl) fun a S => ?_
  refine sLoad1 (p := b150) (off := 1) (T := 24) (vs := [iv r146.W, iv r146.H, .slice ad148 s156.length cp149]) 1 (iv r146.H) S (wN rfl) rfl rfl rfl rfl rfl rfl (lb rfl) fun a S => ?_
  refine sBin (.bool (decide (s155 < r146.H))) S (wN rfl) rfl rfl rfl (bLt _ _ _ _ .i64 s155 r146.H) rfl (lb rfl) fun a S => ?_
  refine leafL (leafT (hK162 _ _ ?_))
  rcases iteSome h with ⟨hc163, h⟩ | ⟨hc163, h⟩
  rotate_left
  · refine sCondF S rfl hc163 ?_
    obtain rfl := Option.some.inj h
    obtain rfl := hu157 _ rfl
    have h := g158
    clear g158
    try dsimp only at h
    exact wp_exit (xThen (xThen (xHit (leafT (⟨s156, Option.some.inj h, S.fix [0, 1, 2] [] (by decide) rfl rfl rfl⟩)))))
  refine sCondT S rfl hc163 ?_
  refine wp_skip (leafT (hK161 _ _ ?_))
  obtain ⟨t165, h, g166⟩ := bindSome h
  refine sCut (fun a w => ∃ o164, o164 = t165 ∧ St [] E [] w0 168 a w [(0, .slice ad1 p0.length cp2), (1, .slice ad3 p1.length cp4), (2, iv p2), (6, .pointer (some ⟨b6, 0, none⟩)), (9, iv x44.W), (10, iv x44.H), (13, .pointer (some ⟨b150, 0, none⟩)), (14, iv s155)] [eBox b6 24 [iv 0, iv 0, .slice none 0 0], eBox b150 24 [iv r146.W, iv r146.H, .slice ad148 o164.length cp149], eRow rB 4 (.slice ad148 o164.length cp149) o164] [fRep (rL r_api_Grid) (.slice ad1 p0.length cp2) p0, fRep (rL (rI .i64)) (.slice ad3 p1.length cp4) p1]) ?_ (fun a w hI => ?_)
  rotate_left
  · obtain ⟨o164, rfl, S⟩ := hI
    have h := g166
    clear g166
    try dsimp only at h
    refine sRegion ?_
    refine sMove (iv s155) S (wN rfl) (.inl rfl) rfl rfl (lb rfl) fun a S => ?_
    refine sBin (iv (w64 (s155 + 1))) S (wN rfl) rfl rfl rfl (bAdd _ _ _ _ s155 1) rfl (lb rfl) fun a S => ?_
    refine sMove (iv (w64 (s155 + 1))) S (wN rfl) (.inr rfl) rfl rfl (lb rfl) fun a S => ?_
    exact leafL (leafT (⟨(w64 (s155 + 1), o164), (Option.some.inj h).symm, (S.fix [0, 1, 2] [0, 1] (by decide) rfl rfl rfl)⟩))
  refine wp_block ?_
  refine sSeq (fun K167 hK167 => ?_)
  refine sRegion ?_
  refine sMove (iv 0) S (wN rfl) (.inr rfl) rfl rfl (lb rfl) fun a S => ?_
  refine leafL (leafT (hK167 _ _ ?_))
  refine wp_block ?_
  obtain ⟨t172, hl, g171⟩ := bindSome h
  refine sLoop hl (fun s0 a w => match s0 with | (s168, s169) => St [] E [] w0 168 a w [(0, .slice ad1 p0.length cp2), (1, .slice ad3 p1.length cp4), (2, iv p2), (6, .pointer (some ⟨b6, 0, none⟩)), (9, iv x44.W), (10, iv x44.H), (13, .pointer (some ⟨b150, 0, none⟩)), (14, iv s155), (15, iv s168)] [eBox b6 24 [iv 0, iv 0, .slice none 0 0], eBox b150 24 [iv r146.W, iv r146.H, .slice ad148 s169.length cp149], eRow rB 4 (.slice ad148 s169.length cp149) s169] [fRep (rL r_api_Grid) (.slice ad1 p0.length cp2) p0, fRep (rL (rI .i64)) (.slice ad3 p1.length cp4) p1]) (S.fix [0, 1, 2] [0, 1] (by decide) rfl rfl rfl) ?_
  clear hl h
  intro s0 a w c0 hI h hu170
  obtain ⟨s168, s169⟩ := s0
  unfold raddleref13_Join_l4 at h
  dsimp only at h hI
  have S := hI
  refine sSeq (fun K174 hK174 => ?_)
  refine sSeq (fun K175 hK175 => ?_)
  refine sRegion ?_
  refine sMove (iv s168) S (wN rfl) (.inl rfl) rfl rfl (lb rfl) fun a S => ?_
  refine sField (b := b150) (off := 0) 0 0 S (wN rfl) rfl rfl rfl rfl rfl (lb rfl) fun a S => ?_
  refine sLoad1 (p := b150) (off := 0) (T := 24) (vs := [iv r146.W, iv r146.H, .slice ad148 s169.length cp149]) 1 (iv r146.W) S (wN rfl) rfl rfl rfl rfl rfl rfl (lb rfl) fun a S => ?_
  refine sBin (.bool (decide (s168 < r146.W))) S (wN rfl) rfl rfl rfl (bLt _ _ _ _ .i64 s168 r146.W) rfl (lb rfl) fun a S => ?_
  refine leafL (leafT (hK175 _ _ ?_))
  rcases iteSome h with ⟨hc176, h⟩ | ⟨hc176, h⟩
  rotate_left
  · refine sCondF S rfl hc176 ?_
    obtain rfl := Option.some.inj h
    obtain rfl := hu170 _ rfl
    have h := g171
    clear g171
    try dsimp only at h
    exact wp_exit (xThen (xThen (xHit (leafB (leafT (⟨s169, Option.some.inj h, S.fix [0, 1, 2] [0, 1] (by decide) rfl rfl rfl⟩))))))
  refine sCondT S rfl hc176 ?_
  refine wp_skip (leafT (hK174 _ _ ?_))
  refine sSeq (fun K177 hK177 => ?_)
  refine wp_block ?_
  obtain ⟨z178, hx179, h⟩ := bindSome h
  obtain ⟨z180, hx181, h⟩ := bindSome h
  obtain ⟨x182, hx183, h⟩ := bindSome h
  obtain ⟨x187, hx188, h⟩ := bindSome h
  obtain ⟨z196, hx197, h⟩ := bindSome h
  obtain ⟨z198, hx199, h⟩ := bindSome h
  obtain ⟨r200, hx201, h⟩ := bindSome h
  obtain ⟨r202, hx203, h⟩ := bindSome h
  obtain ⟨q204, hq205, S⟩ := pIdx (P := Try.prog) (r := (rI .i64)) (v := .slice ad3 p1.length cp4) (xs := p1) (j := w64 ((w64 (z178 * p2)) + z180)) 35 3 1 S Try.underlying35 rfl rfl hx183
  obtain ⟨u206, S⟩ := pLoad (r := (rI .i64)) (q := q204) (x := x182) 0 S rfl
  obtain rfl : u206 = iv x182 := S.mem.know (i := 1) (e := fRep (rI .i64) (u206) x182) rfl
  obtain ⟨q207, hq208, S⟩ := pIdx (P := Try.prog) (r := r_api_Grid) (v := .slice ad1 p0.length cp2) (xs := p0) (j := x182) 34 24 3 S Try.underlying34 rfl rfl hx188
  obtain ⟨u209, S⟩ := pLoad (r := r_api_Grid) (q := q207) (x := x187) 0 S rfl
  obtain ⟨u210, rfl, hu211⟩ := S.mem.know (i := 1) (e := fRep r_api_Grid (u209) x187) rfl
  have S := S.learn (fRep (rL rB) u210 x187.Bits) hu211
  obtain ⟨ad212, cp213, _, rfl, _⟩ := hu211
  refine sDraw (nf := [25]) (W := [(0, 141, .agg #[iv r146.W, iv r146.H, .slice ad148 s169.length cp149]), (1, 142, iv s168), (2, 143, iv s155), (3, 144, .slice ad1 p0.length cp2), (4, 145, .slice ad3 p1.length cp4), (5, 146, iv s155), (6, 147, iv x44.H), (7, 148, iv z178), (8, 149, iv p2), (9, 150, iv (w64 (z178 * p2))), (10, 151, iv s168), (11, 152, iv x44.W), (12, 153, iv z180), (13, 154, iv (w64 ((w64 (z178 * p2)) + z180))), (14, 155, q204), (15, 156, iv x182), (16, 157, q207), (17, 158, .agg #[iv x187.W, iv x187.H, .slice ad212 x187.Bits.length cp213]), (18, 159, iv s168), (19, 160, iv x44.W), (20, 161, iv z196), (21, 162, iv s155), (22, 163, iv x44.H), (23, 164, iv z198), (24, 165, .bool r200)]) rfl S ?_
  refine node_by (A := anc_raddleref13_Join_2) (nf := [25]) (Y := []) (W := [(0, 141, .agg #[iv r146.W, iv r146.H, .slice ad148 s169.length cp149]), (1, 142, iv s168), (2, 143, iv s155), (3, 144, .slice ad1 p0.length cp2), (4, 145, .slice ad3 p1.length cp4), (5, 146, iv s155), (6, 147, iv x44.H), (7, 148, iv z178), (8, 149, iv p2), (9, 150, iv (w64 (z178 * p2))), (10, 151, iv s168), (11, 152, iv x44.W), (12, 153, iv z180), (13, 154, iv (w64 ((w64 (z178 * p2)) + z180))), (14, 155, q204), (15, 156, iv x182), (16, 157, q207), (17, 158, .agg #[iv x187.W, iv x187.H, .slice ad212 x187.Bits.length cp213]), (18, 159, iv s168), (19, 160, iv x44.W), (20, 161, iv z196), (21, 162, iv s155), (22, 163, iv x44.H), (23, 164, iv z198), (24, 165, .bool r200)]) 26 (by kernel_rfl) (by kernel_rfl) (by kernel_rfl) (by kernel_rfl) (by kernel_rfl) [0, 1, 2, 3, 4, 5, 6, 7, 8, 9, 10, 11, 12, 13, 14, 15, 16, 17, 18, 19, 20, 21, 22, 23, 24] (by kernel_rfl) (by decide) (by decide) (aF 0 25 (by decide) ?_ (aF 1 24 (by decide) ?_ (aF 2 23 (by decide) ?_ (aF 3 22 (by decide) ?_ (aF 4 21 (by decide) ?_ (aF 5 20 (by decide) ?_ (aF 6 19 (by decide) ?_ (aF 7 18 (by decide) ?_ (aF 8 17 (by decide) ?_ (aF 9 16 (by decide) ?_ (aF 10 15 (by decide) ?_ (aF 11 14 (by decide) ?_ (aF 12 13 (by decide) ?_ (aF 13 12 (by decide) ?_ (aF 14 11 (by decide) ?_ (aF 15 10 (by decide) ?_ (aF 16 9 (by decide) ?_ (aF 17 8 (by decide) ?_ (aF 18 7 (by decide) ?_ (aF 19 6 (by decide) ?_ (aF 20 5 (by decide) ?_ (aF 21 4 (by decide) ?_ (aF 22 3 (by decide) ?_ (aF 23 2 (by decide) ?_ (aF 24 1 (by decide) ?_ (aN 25 0 (by decide) ?_ (trivial))))))))))))))))))))))))))) [] (fun q hq => by cases hq) (fun hY => absurd (hY 25 (by decide)) (by decide))
  · refine fI 141 (.agg #[iv r146.W, iv r146.H, .slice ad148 s169.length cp149]) [(13, .pointer (some ⟨b150, 0, none⟩))] 0 [none] rfl rfl rfl rfl rfl rfl fun G a w S => ?_
    refine sLoadN (p := b150) (off := 0) (T := 24) (vs := [iv r146.W, iv r146.H, .slice ad148 s169.length cp149]) 1 [iv r146.W, iv r146.H, .slice ad148 s169.length cp149] S (wN rfl) rfl rfl rfl rfl rfl rfl rfl (lb rfl) fun a S => ?_
    exact leafL ⟨rfl, S⟩
  · refine fI 142 (iv s168) [(15, iv s168)] 1 [none] rfl rfl rfl rfl rfl rfl fun G a w S => ?_
    refine sMove (iv s168) S (wN rfl) (.inl rfl) rfl rfl (lb rfl) fun a S => ?_
    exact leafL ⟨rfl, S⟩
  · refine fI 143 (iv s155) [(14, iv s155)] 2 [none] rfl rfl rfl rfl rfl rfl fun G a w S => ?_
    refine sMove (iv s155) S (wN rfl) (.inl rfl) rfl rfl (lb rfl) fun a S => ?_
    exact leafL ⟨rfl, S⟩
  · refine fI 144 (.slice ad1 p0.length cp2) [(0, .slice ad1 p0.length cp2)] 3 [none] rfl rfl rfl rfl rfl rfl fun G a w S => ?_
    refine sMove (.slice ad1 p0.length cp2) S (wN rfl) (.inl rfl) rfl rfl (lb rfl) fun a S => ?_
    exact leafL ⟨rfl, S⟩
  · refine fI 145 (.slice ad3 p1.length cp4) [(1, .slice ad3 p1.length cp4)] 4 [none] rfl rfl rfl rfl rfl rfl fun G a w S => ?_
    refine sMove (.slice ad3 p1.length cp4) S (wN rfl) (.inl rfl) rfl rfl (lb rfl) fun a S => ?_
    exact leafL ⟨rfl, S⟩
  · refine fI 146 (iv s155) [(14, iv s155)] 5 [none] rfl rfl rfl rfl rfl rfl fun G a w S => ?_
    refine sMove (iv s155) S (wN rfl) (.inl rfl) rfl rfl (lb rfl) fun a S => ?_
    exact leafL ⟨rfl, S⟩
  · refine fI 147 (iv x44.H) [(10, iv x44.H)] 6 [none] rfl rfl rfl rfl rfl rfl fun G a w S => ?_
    refine sMove (iv x44.H) S (wN rfl) (.inl rfl) rfl rfl (lb rfl) fun a S => ?_
    exact leafL ⟨rfl, S⟩
  · refine fI 148 (iv z178) [(146, iv s155), (147, iv x44.H)] 7 [some 5, some 6] rfl rfl rfl rfl rfl rfl fun G a w S => ?_
    refine sBin (iv z178) S (wN rfl) rfl rfl rfl (bQuo _ _ _ _ (x := s155) (y := x44.H) hx179) rfl (lb rfl) fun a S => ?_
    exact leafL ⟨rfl, S⟩
  · refine fI 149 (iv p2) [(2, iv p2)] 8 [none] rfl rfl rfl rfl rfl rfl fun G a w S => ?_
    refine sMove (iv p2) S (wN rfl) (.inl rfl) rfl rfl (lb rfl) fun a S => ?_
    exact leafL ⟨rfl, S⟩
  · refine fI 150 (iv (w64 (z178 * p2))) [(148, iv z178), (149, iv p2)] 9 [some 7, some 8] rfl rfl rfl rfl rfl rfl fun G a w S => ?_
    refine sBin (iv (w64 (z178 * p2))) S (wN rfl) rfl rfl rfl (bMul _ _ _ _ z178 p2) rfl (lb rfl) fun a S => ?_
    exact leafL ⟨rfl, S⟩
  · refine fI 151 (iv s168) [(15, iv s168)] 10 [none] rfl rfl rfl rfl rfl rfl fun G a w S => ?_
    refine sMove (iv s168) S (wN rfl) (.inl rfl) rfl rfl (lb rfl) fun a S => ?_
    exact leafL ⟨rfl, S⟩
  · refine fI 152 (iv x44.W) [(9, iv x44.W)] 11 [none] rfl rfl rfl rfl rfl rfl fun G a w S => ?_
    refine sMove (iv x44.W) S (wN rfl) (.inl rfl) rfl rfl (lb rfl) fun a S => ?_
    exact leafL ⟨rfl, S⟩
  · refine fI 153 (iv z180) [(151, iv s168), (152, iv x44.W)] 12 [some 10, some 11] rfl rfl rfl rfl rfl rfl fun G a w S => ?_
    refine sBin (iv z180) S (wN rfl) rfl rfl rfl (bQuo _ _ _ _ (x := s168) (y := x44.W) hx181) rfl (lb rfl) fun a S => ?_
    exact leafL ⟨rfl, S⟩
  · refine fI 154 (iv (w64 ((w64 (z178 * p2)) + z180))) [(150, iv (w64 (z178 * p2))), (153, iv z180)] 13 [some 9, some 12] rfl rfl rfl rfl rfl rfl fun G a w S => ?_
    refine sBin (iv (w64 ((w64 (z178 * p2)) + z180))) S (wN rfl) rfl rfl rfl (bAdd _ _ _ _ (w64 (z178 * p2)) z180) rfl (lb rfl) fun a S => ?_
    exact leafL ⟨rfl, S⟩
  · refine fI 155 q204 [(145, .slice ad3 p1.length cp4), (154, iv (w64 ((w64 (z178 * p2)) + z180)))] 14 [some 4, some 13] rfl rfl rfl rfl rfl rfl fun G a w S => ?_
    refine sIdxV (v := .slice ad3 p1.length cp4) (k := .i64) (j := w64 ((w64 (z178 * p2)) + z180)) S (wN rfl) rfl rfl rfl hq205 rfl (lb rfl) fun a S => ?_
    exact leafL ⟨rfl, S⟩
  · refine fI 156 (iv x182) [(155, q204)] 15 [some 14] rfl rfl rfl rfl rfl rfl fun G a w S => ?_
    refine sLoadV1 (vq := q204) 4 (iv x182) S (wN rfl) rfl rfl rfl rfl rfl (lb rfl) fun a S => ?_
    exact leafL ⟨rfl, S⟩
  · refine fI 157 q207 [(144, .slice ad1 p0.length cp2), (156, iv x182)] 16 [some 3, some 15] rfl rfl rfl rfl rfl rfl fun G a w S => ?_
    refine sIdxV (v := .slice ad1 p0.length cp2) (k := .i64) (j := x182) S (wN rfl) rfl rfl rfl hq208 rfl (lb rfl) fun a S => ?_
    exact leafL ⟨rfl, S⟩
  · refine fI 158 (.agg #[iv x187.W, iv x187.H, .slice ad212 x187.Bits.length cp213]) [(157, q207)] 17 [some 16] rfl rfl rfl rfl rfl rfl fun G a w S => ?_
    refine sLoadVN (vq := q207) 1 [iv x187.W, iv x187.H, .slice ad212 x187.Bits.length cp213] S (wN rfl) rfl rfl rfl rfl rfl rfl (lb rfl) fun a S => ?_
    exact leafL ⟨rfl, S⟩
  · refine fI 159 (iv s168) [(15, iv s168)] 18 [none] rfl rfl rfl rfl rfl rfl fun G a w S => ?_
    refine sMove (iv s168) S (wN rfl) (.inl rfl) rfl rfl (lb rfl) fun a S => ?_
    exact leafL ⟨rfl, S⟩
  · refine fI 160 (iv x44.W) [(9, iv x44.W)] 19 [none] rfl rfl rfl rfl rfl rfl fun G a w S => ?_
    refine sMove (iv x44.W) S (wN rfl) (.inl rfl) rfl rfl (lb rfl) fun a S => ?_
    exact leafL ⟨rfl, S⟩
  · refine fI 161 (iv z196) [(159, iv s168), (160, iv x44.W)] 20 [some 18, some 19] rfl rfl rfl rfl rfl rfl fun G a w S => ?_
    refine sBin (iv z196) S (wN rfl) rfl rfl rfl (bRem _ _ _ _ (x := s168) (y := x44.W) hx197) rfl (lb rfl) fun a S => ?_
    exact leafL ⟨rfl, S⟩
  · refine fI 162 (iv s155) [(14, iv s155)] 21 [none] rfl rfl rfl rfl rfl rfl fun G a w S => ?_
    refine sMove (iv s155) S (wN rfl) (.inl rfl) rfl rfl (lb rfl) fun a S => ?_
    exact leafL ⟨rfl, S⟩
  · refine fI 163 (iv x44.H) [(10, iv x44.H)] 22 [none] rfl rfl rfl rfl rfl rfl fun G a w S => ?_
    refine sMove (iv x44.H) S (wN rfl) (.inl rfl) rfl rfl (lb rfl) fun a S => ?_
    exact leafL ⟨rfl, S⟩
  · refine fI 164 (iv z198) [(162, iv s155), (163, iv x44.H)] 23 [some 21, some 22] rfl rfl rfl rfl rfl rfl fun G a w S => ?_
    refine sBin (iv z198) S (wN rfl) rfl rfl rfl (bRem _ _ _ _ (x := s155) (y := x44.H) hx199) rfl (lb rfl) fun a S => ?_
    exact leafL ⟨rfl, S⟩
  · refine fI 165 (.bool r200) [(158, .agg #[iv x187.W, iv x187.H, .slice ad212 x187.Bits.length cp213]), (161, iv z196), (164, iv z198)] 24 [some 17, some 20, some 23] rfl rfl rfl rfl rfl rfl fun G a w S => ?_
    have S1 := S.mem
    refine sCallQ (X := Unit) (f := 46) (vs := [.agg #[iv x187.W, iv x187.H, .slice ad212 x187.Bits.length cp213], iv z196, iv z198]) (val := fun _ => .bool r200) S (wN rfl) rfl callee46 rfl (S1.quiet [2] rfl) (fun E1 w1 S1 => c_raddleref01_At E1 w1 x187 (.agg #[iv x187.W, iv x187.H, .slice ad212 x187.Bits.length cp213]) z196 z198 r200 hx201 S1) rfl (lb rfl) fun _ a w S => ?_
    exact leafL ⟨rfl, S⟩
  refine ⟨_, [(141, .agg #[iv r146.W, iv r146.H, .slice ad148 s169.length cp149]), (142, iv s168), (143, iv s155), (165, .bool r200)], rfl, (srcs_of [some 0, some 1, some 2, some 24] rfl rfl rfl), fun G a w S => ?_⟩
  refine sCall (X := Unit) (f := 47) (vs := [.agg #[iv r146.W, iv r146.H, .slice ad148 s169.length cp149], iv s168, iv s155, .bool r200]) (val := fun _ => .tuple #[]) (B' := fun _ => [eRow rB 4 (.slice ad148 s169.length cp149) r202]) (D' := fun _ => []) [eRow rB 4 (.slice ad148 s169.length cp149) s169] [eBox b6 24 [iv 0, iv 0, .slice none 0 0], eBox b150 24 [iv r146.W, iv r146.H, .slice ad148 s169.length cp149]] [] [2, 0, 1] [] S (wN rfl) rfl callee47 rfl (by decide) rfl rfl (fun E1 w1 S1 => c_raddleref01_Set_s0 E1 w1 r146.W r146.H s169 ad148 cp149 s168 s155 r200 r202 hx203 S1) rfl (lb rfl) fun _ a w S => ?_
  refine leafL ⟨rfl, _, _, .inl ⟨166, (.tuple #[]), [], rfl, S, hz_of rfl, ?_⟩⟩
  refine node_by (A := anc_raddleref13_Join_2) (nf := [25]) (Y := [25]) 26 (by kernel_rfl) (by kernel_rfl) (by kernel_rfl) (by kernel_rfl) (by kernel_rfl) [25, 0, 1, 2, 3, 4, 5, 6, 7, 8, 9, 10, 11, 12, 13, 14, 15, 16, 17, 18, 19, 20, 21, 22, 23, 24] (by kernel_rfl) (by decide) (by decide) (aD 0 25 25 (by decide) (aD 1 24 25 (by decide) (aD 2 23 25 (by decide) (aD 3 22 25 (by decide) (aD 4 21 25 (by decide) (aD 5 20 25 (by decide) (aD 6 19 25 (by decide) (aD 7 18 25 (by decide) (aD 8 17 25 (by decide) (aD 9 16 25 (by decide) (aD 10 15 25 (by decide) (aD 11 14 25 (by decide) (aD 12 13 25 (by decide) (aD 13 12 25 (by decide) (aD 14 11 25 (by decide) (aD 15 10 25 (by decide) (aD 16 9 25 (by decide) (aD 17 8 25 (by decide) (aD 18 7 25 (by decide) (aD 19 6 25 (by decide) (aD 20 5 25 (by decide) (aD 21 4 25 (by decide) (aD 22 3 25 (by decide) (aD 23 2 25 (by decide) (aD 24 1 25 (by decide) (aY 25 0 (by decide) (trivial))))))))))))))))))))))))))) [(0, .slice ad1 p0.length cp2), (1, .slice ad3 p1.length cp4), (2, iv p2), (6, .pointer (some ⟨b6, 0, none⟩)), (9, iv x44.W), (10, iv x44.H), (13, .pointer (some ⟨b150, 0, none⟩)), (14, iv s155), (15, iv s168)] (fin_of [none, none, none, none, none, none, none, none, none] rfl (by kernel_rfl) (by kernel_rfl)) (fun _ a w S => ?_)
  have hr214 := row_v (S.mem.hold (i := 0) (e := eRow rB 4 (.slice ad148 s169.length cp149) r202) rfl)
  rw [hr214] at S
  refine leafB (leafT (hK177 _ _ ?_))
  refine sRegion ?_
  refine sMove (iv s168) S (wN rfl) (.inl rfl) rfl rfl (lb rfl) fun a S => ?_
  refine sBin (iv (w64 (s168 + 1))) S (wN rfl) rfl rfl rfl (bAdd _ _ _ _ s168 1) rfl (lb rfl) fun a S => ?_
  refine sMove (iv (w64 (s168 + 1))) S (wN rfl) (.inr rfl) rfl rfl (lb rfl) fun a S => ?_
  exact leafL (leafT (⟨(w64 (s168 + 1), r202), (Option.some.inj h).symm, (S.fix [1, 2, 0] [7, 8] (by decide) rfl rfl rfl)⟩))

end Go.Proofs.Ythfifeabomdlpaa
namespace Go.Proofs.Ythfifeabomdlpaa
open Go.RowKit
set_option linter.unusedVariables false

def anc_raddleref13_SameGrids_0 : List (List Nat) := [[], [], [0, 1], [0, 1, 2], [], [], [4, 5], [4, 5, 6], [0, 1, 2, 3, 4, 5, 6, 7], [0, 1, 2, 3, 4, 5, 6, 7, 8]]
noncomputable def raddleref13_SameGrids_l1 (p0 : (List api_Grid)) (p1 : (List api_Grid)) : Int → Option (Int ⊕ (Bool ⊕ Unit)) := fun s0 => match s0 with
  | s13 =>
    if decide (s13 < (p0.length : Int)) then
      Option.bind (idxO p0 s13) fun x22 =>
      Option.bind (idxO p1 s13) fun x31 =>
      Option.bind (F_raddleref01_Same x22 x31) fun r40 =>
      if !r40 then
        some (.inr (.inl false))
      else
        some (.inl (w64 (s13 + 1)))
    else
      some (.inr (.inr ()))
noncomputable def F_raddleref13_SameGrids (p0 : (List api_Grid)) (p1 : (List api_Grid)) : Option Bool :=
  if (p0.length : Int) != (p1.length : Int) then
    some false
  else
    Option.bind (α := Unit ⊕ Bool) (
      Option.bind (whileO (raddleref13_SameGrids_l1 p0 p1) 0) fun z0 => match z0 with
        | .inl z =>
          some (.inr z)
        | .inr _ =>
          some (.inl ())) fun z0 => match z0 with
      | .inl _ =>
        some true
      | .inr z =>
        some z
set_option maxHeartbeats 4000000 in
set_option maxRecDepth 100000 in
theorem c_raddleref13_SameGrids (E : Nat → Prop) (w0 : World) (p0 : (List api_Grid)) (v0 : Value) (p1 : (List api_Grid)) (v1 : Value) (r : Bool) (h : F_raddleref13_SameGrids p0 p1 = some r) (S : St0 E [] w0 w0 [] [fRep (rL r_api_Grid) (v0) p0, fRep (rL r_api_Grid) (v1) p1]) :
    Calls Try.prog 23 #[v0, v1] w0 (Ret (X := Unit) E [] w0 (fun _ => .bool r) (fun _ => []) (fun _ => [])) := by
  unfold F_raddleref13_SameGrids at h
  obtain ⟨ad1, cp2, _, rfl, _⟩ := S.know (i := 0) (e := fRep (rL r_api_Grid) (v0) p0) rfl
  obtain ⟨ad3, cp4, _, rfl, _⟩ := S.know (i := 1) (e := fRep (rL r_api_Grid) (v1) p1) rfl
  refine sEnter (args := [.slice ad1 p0.length cp2, .slice ad3 p1.length cp4]) 27 Try.func23 rfl rfl (by simp) S (fun a S => ?_)
  refine sSeq (fun K5 hK5 => ?_)
  refine sRegion ?_
  refine sMove (.bool false) S (wN rfl) (.inr rfl) rfl rfl (lb rfl) fun a S => ?_
  refine leafL (leafT (hK5 _ _ ?_))
  refine sSeq (fun K6 hK6 => ?_)
  refine sSeq (fun K7 hK7 => ?_)
  refine sRegion ?_
  refine sMove (.slice ad1 p0.length cp2) S (wN rfl) (.inl rfl) rfl rfl (lb rfl) fun a S => ?_
  refine sLen (ad := ad1) (m := p0.length) (c := cp2) S (wN rfl) rfl Try.underlying34 rfl rfl (lb rfl) fun a S => ?_
  refine sMove (.slice ad3 p1.length cp4) S (wN rfl) (.inl rfl) rfl rfl (lb rfl) fun a S => ?_
  refine sLen (ad := ad3) (m := p1.length) (c := cp4) S (wN rfl) rfl Try.underlying34 rfl rfl (lb rfl) fun a S => ?_
  refine sBin (.bool ((p0.length : Int) != (p1.length : Int))) S (wN rfl) rfl rfl rfl (bNe _ _ _ _ .i64 (p0.length : Int) (p1.length : Int)) rfl (lb rfl) fun a S => ?_
  refine leafL (leafT (hK7 _ _ ?_))
  rcases iteSome h with ⟨hc8, h⟩ | ⟨hc8, h⟩
  · refine sCondT S rfl hc8 ?_
    refine sSeq (fun K9 hK9 => ?_)
    refine sRegion ?_
    refine sMove (.bool false) S (wN rfl) (.inr rfl) rfl rfl (lb rfl) fun a S => ?_
    refine leafL (leafT (hK9 _ _ ?_))
    obtain rfl := Option.some.inj h
    exact wp_ret (rThen (sRet (.bool false) S (rsl1 rfl (rvT (t := 4) (v := .bool false) S rfl)) ⟨(), rfl, S.mem.sel [] [] (by decide) rfl rfl⟩))
  refine sCondF S rfl hc8 ?_
  refine wp_skip (leafT (hK6 _ _ ?_))
  obtain ⟨t10, h, g11⟩ := bindSome h
  refine sCut (fun a w => .inl () = t10 ∧ St [] E [] w0 27 a w [] [] []) ?_ (fun a w hI => ?_)
  rotate_left
  · obtain ⟨rfl, S⟩ := hI
    have h := g11
    clear g11
    try dsimp only at h
    refine sSeq (fun K58 hK58 => ?_)
    refine sRegion ?_
    refine sMove (.bool true) S (wN rfl) (.inr rfl) rfl rfl (lb rfl) fun a S => ?_
    refine leafL (leafT (hK58 _ _ ?_))
    obtain rfl := Option.some.inj h
    exact wp_ret (sRet (.bool true) S (rsl1 rfl (rvT (t := 4) (v := .bool true) S rfl)) ⟨(), rfl, S.mem.sel [] [] (by decide) rfl rfl⟩)
  refine sSeq (fun K12 hK12 => ?_)
  refine sRegion ?_
  refine sMove (iv 0) S (wN rfl) (.inr rfl) rfl rfl (lb rfl) fun a S => ?_
  refine leafL (leafT (hK12 _ _ ?_))
  refine wp_block ?_
  obtain ⟨t16, hl, g15⟩ := bindSome h
  refine sLoop hl (fun s0 a w => match s0 with | s13 => St [] E [] w0 27 a w [(0, .slice ad1 p0.length cp2), (1, .slice ad3 p1.length cp4), (5, iv s13)] [] [fRep (rL r_api_Grid) (.slice ad1 p0.length cp2) p0, fRep (rL r_api_Grid) (.slice ad3 p1.length cp4) p1]) (S.fix [] [0, 1] (by decide) rfl rfl rfl) ?_
  clear hl h
  intro s13 a w c0 hI h hu14
  unfold raddleref13_SameGrids_l1 at h
  dsimp only at h hI
  have S := hI
  refine sSeq (fun K17 hK17 => ?_)
  refine sSeq (fun K18 hK18 => ?_)
  refine sRegion ?_
  refine sMove (iv s13) S (wN rfl) (.inl rfl) rfl rfl (lb rfl) fun a S => ?_
  refine sMove (.slice ad1 p0.length cp2) S (wN rfl) (.inl rfl) rfl rfl (lb rfl) fun a S => ?_
  refine sLen (ad := ad1) (m := p0.length) (c := cp2) S (wN rfl) rfl Try.underlying34 rfl rfl (lb rfl) fun a S => ?_
  refine sBin (.bool (decide (s13 < (p0.length : Int)))) S (wN rfl) rfl rfl rfl (bLt _ _ _ _ .i64 s13 (p0.length : Int)) rfl (lb rfl) fun a S => ?_
  refine leafL (leafT (hK18 _ _ ?_))
  rcases iteSome h with ⟨hc19, h⟩ | ⟨hc19, h⟩
  rotate_left
  · refine sCondF S rfl hc19 ?_
    obtain rfl := Option.some.inj h
    obtain rfl := hu14 _ rfl
    have h := g15
    clear g15
    try dsimp only at h
    exact wp_exit (xThen (xThen (xHit (leafT (⟨Option.some.inj h, S.fix [] [] (by decide) rfl rfl rfl⟩)))))
  refine sCondT S rfl hc19 ?_
  refine wp_skip (leafT (hK17 _ _ ?_))
  refine sSeq (fun K20 hK20 => ?_)
  refine wp_block ?_
  refine sSeq (fun K21 hK21 => ?_)
  obtain ⟨x22, hx23, h⟩ := bindSome h
  obtain ⟨x31, hx32, h⟩ := bindSome h
  obtain ⟨r40, hx41, h⟩ := bindSome h
  obtain ⟨q42, hq43, S⟩ := pIdx (P := Try.prog) (r := r_api_Grid) (v := .slice ad1 p0.length cp2) (xs := p0) (j := s13) 34 24 0 S Try.underlying34 rfl rfl hx23
  obtain ⟨u44, S⟩ := pLoad (r := r_api_Grid) (q := q42) (x := x22) 0 S rfl
  obtain ⟨u45, rfl, hu46⟩ := S.mem.know (i := 1) (e := fRep r_api_Grid (u44) x22) rfl
  have S := S.learn (fRep (rL rB) u45 x22.Bits) hu46
  obtain ⟨ad47, cp48, _, rfl, _⟩ := hu46
  obtain ⟨q49, hq50, S⟩ := pIdx (P := Try.prog) (r := r_api_Grid) (v := .slice ad3 p1.length cp4) (xs := p1) (j := s13) 34 24 5 S Try.underlying34 rfl rfl hx32
  obtain ⟨u51, S⟩ := pLoad (r := r_api_Grid) (q := q49) (x := x31) 0 S rfl
  obtain ⟨u52, rfl, hu53⟩ := S.mem.know (i := 1) (e := fRep r_api_Grid (u51) x31) rfl
  have S := S.learn (fRep (rL rB) u52 x31.Bits) hu53
  obtain ⟨ad54, cp55, _, rfl, _⟩ := hu53
  refine sDraw (nf := []) (W := [(0, 17, .slice ad1 p0.length cp2), (1, 18, iv s13), (2, 19, q42), (3, 20, .agg #[iv x22.W, iv x22.H, .slice ad47 x22.Bits.length cp48]), (4, 21, .slice ad3 p1.length cp4), (5, 22, iv s13), (6, 23, q49), (7, 24, .agg #[iv x31.W, iv x31.H, .slice ad54 x31.Bits.length cp55]), (8, 25, .bool r40), (9, 26, .bool (!r40))]) rfl S ?_
  refine node_by (A := anc_raddleref13_SameGrids_0) (nf := []) (Y := []) (W := [(0, 17, .slice ad1 p0.length cp2), (1, 18, iv s13), (2, 19, q42), (3, 20, .agg #[iv x22.W, iv x22.H, .slice ad47 x22.Bits.length cp48]), (4, 21, .slice ad3 p1.length cp4), (5, 22, iv s13), (6, 23, q49), (7, 24, .agg #[iv x31.W, iv x31.H, .slice ad54 x31.Bits.length cp55]), (8, 25, .bool r40), (9, 26, .bool (!r40))]) 10 (by kernel_rfl) (by kernel_rfl) (by kernel_rfl) (by kernel_rfl) (by kernel_rfl) [0, 1, 2, 3, 4, 5, 6, 7, 8, 9] (by kernel_rfl) (by decide) (by decide) (aF 0 9 (by decide) ?_ (aF 1 8 (by decide) ?_ (aF 2 7 (by decide) ?_ (aF 3 6 (by decide) ?_ (aF 4 5 (by decide) ?_ (aF 5 4 (by decide) ?_ (aF 6 3 (by decide) ?_ (aF 7 2 (by decide) ?_ (aF 8 1 (by decide) ?_ (aF 9 0 (by decide) ?_ (trivial))))))))))) [(0, .slice ad1 p0.length cp2), (1, .slice ad3 p1.length cp4), (5, iv s13), (26, .bool (!r40))] (fin_of [none, none, none, some 9] rfl (by kernel_rfl) (by kernel_rfl)) (fun _ a w S => ?_)
  · refine fI 17 (.slice ad1 p0.length cp2) [(0, .slice ad1 p0.length cp2)] 0 [none] rfl rfl rfl rfl rfl rfl fun G a w S => ?_
    refine sMove (.slice ad1 p0.length cp2) S (wN rfl) (.inl rfl) rfl rfl (lb rfl) fun a S => ?_
    exact leafL ⟨rfl, S⟩
  · refine fI 18 (iv s13) [(5, iv s13)] 1 [none] rfl rfl rfl rfl rfl rfl fun G a w S => ?_
    refine sMove (iv s13) S (wN rfl) (.inl rfl) rfl rfl (lb rfl) fun a S => ?_
    exact leafL ⟨rfl, S⟩
  · refine fI 19 q42 [(17, .slice ad1 p0.length cp2), (18, iv s13)] 2 [some 0, some 1] rfl rfl rfl rfl rfl rfl fun G a w S => ?_
    refine sIdxV (v := .slice ad1 p0.length cp2) (k := .i64) (j := s13) S (wN rfl) rfl rfl rfl hq43 rfl (lb rfl) fun a S => ?_
    exact leafL ⟨rfl, S⟩
  · refine fI 20 (.agg #[iv x22.W, iv x22.H, .slice ad47 x22.Bits.length cp48]) [(19, q42)] 3 [some 2] rfl rfl rfl rfl rfl rfl fun G a w S => ?_
    refine sLoadVN (vq := q42) 5 [iv x22.W, iv x22.H, .slice ad47 x22.Bits.length cp48] S (wN rfl) rfl rfl rfl rfl rfl rfl (lb rfl) fun a S => ?_
    exact leafL ⟨rfl, S⟩
  · refine fI 21 (.slice ad3 p1.length cp4) [(1, .slice ad3 p1.length cp4)] 4 [none] rfl rfl rfl rfl rfl rfl fun G a w S => ?_
    refine sMove (.slice ad3 p1.length cp4) S (wN rfl) (.inl rfl) rfl rfl (lb rfl) fun a S => ?_
    exact leafL ⟨rfl, S⟩
  · refine fI 22 (iv s13) [(5, iv s13)] 5 [none] rfl rfl rfl rfl rfl rfl fun G a w S => ?_
    refine sMove (iv s13) S (wN rfl) (.inl rfl) rfl rfl (lb rfl) fun a S => ?_
    exact leafL ⟨rfl, S⟩
  · refine fI 23 q49 [(21, .slice ad3 p1.length cp4), (22, iv s13)] 6 [some 4, some 5] rfl rfl rfl rfl rfl rfl fun G a w S => ?_
    refine sIdxV (v := .slice ad3 p1.length cp4) (k := .i64) (j := s13) S (wN rfl) rfl rfl rfl hq50 rfl (lb rfl) fun a S => ?_
    exact leafL ⟨rfl, S⟩
  · refine fI 24 (.agg #[iv x31.W, iv x31.H, .slice ad54 x31.Bits.length cp55]) [(23, q49)] 7 [some 6] rfl rfl rfl rfl rfl rfl fun G a w S => ?_
    refine sLoadVN (vq := q49) 1 [iv x31.W, iv x31.H, .slice ad54 x31.Bits.length cp55] S (wN rfl) rfl rfl rfl rfl rfl rfl (lb rfl) fun a S => ?_
    exact leafL ⟨rfl, S⟩
  · refine fI 25 (.bool r40) [(20, .agg #[iv x22.W, iv x22.H, .slice ad47 x22.Bits.length cp48]), (24, .agg #[iv x31.W, iv x31.H, .slice ad54 x31.Bits.length cp55])] 8 [some 3, some 7] rfl rfl rfl rfl rfl rfl fun G a w S => ?_
    have S1 := S.mem
    refine sCallQ (X := Unit) (f := 17) (vs := [.agg #[iv x22.W, iv x22.H, .slice ad47 x22.Bits.length cp48], .agg #[iv x31.W, iv x31.H, .slice ad54 x31.Bits.length cp55]]) (val := fun _ => .bool r40) S (wN rfl) rfl callee17 rfl (S1.quiet [6, 2] rfl) (fun E1 w1 S1 => c_raddleref01_Same E1 w1 x22 (.agg #[iv x22.W, iv x22.H, .slice ad47 x22.Bits.length cp48]) x31 (.agg #[iv x31.W, iv x31.H, .slice ad54 x31.Bits.length cp55]) r40 hx41 S1) rfl (lb rfl) fun _ a w S => ?_
    exact leafL ⟨rfl, S⟩
  · refine fI 26 (.bool (!r40)) [(25, .bool r40)] 9 [some 8] rfl rfl rfl rfl rfl rfl fun G a w S => ?_
    refine sNot (b := r40) S (wN rfl) rfl rfl rfl (lb rfl) fun a S => ?_
    exact leafL ⟨rfl, S⟩
  refine leafT (hK21 _ _ ?_)
  rcases iteSome h with ⟨hc56, h⟩ | ⟨hc56, h⟩
  rotate_left
  · refine sCondF S rfl hc56 ?_
    refine wp_skip (leafB (leafT (hK20 _ _ ?_)))
    refine sRegion ?_
    refine sMove (iv s13) S (wN rfl) (.inl rfl) rfl rfl (lb rfl) fun a S => ?_
    refine sBin (iv (w64 (s13 + 1))) S (wN rfl) rfl rfl rfl (bAdd _ _ _ _ s13 1) rfl (lb rfl) fun a S => ?_
    refine sMove (iv (w64 (s13 + 1))) S (wN rfl) (.inr rfl) rfl rfl (lb rfl) fun a S => ?_
    exact leafL (leafT (⟨w64 (s13 + 1), (Option.some.inj h).symm, (S.fix [] [8, 9] (by decide) rfl rfl rfl)⟩))
  refine sCondT S rfl hc56 ?_
  refine sSeq (fun K57 hK57 => ?_)
  refine sRegion ?_
  refine sMove (.bool false) S (wN rfl) (.inr rfl) rfl rfl (lb rfl) fun a S => ?_
  refine leafL (leafT (hK57 _ _ ?_))
  obtain rfl := Option.some.inj h
  obtain rfl := hu14 _ rfl
  have h := g15
  clear g15
  try dsimp only at h
  obtain rfl := Option.some.inj h
  have h := g11
  clear g11
  try dsimp only at h
  obtain rfl := Option.some.inj h
  exact wp_ret (rBlock (rThen (rThen (rBlock (rThen (sRet (.bool false) S (rsl1 rfl (rvT (t := 4) (v := .bool false) S rfl)) ⟨(), rfl, S.mem.sel [] [] (by decide) rfl rfl⟩))))))

end Go.Proofs.Ythfifeabomdlpaa
namespace Go.Proofs.Ythfifeabomdlpaa
open Go.RowKit
set_option linter.unusedVariables false

def anc_raddleref02_Same_0 : List (List Nat) := [[], [], [0, 1], [0, 1, 2], [], [], [4, 5], [4, 5, 6], [0, 1, 2, 3, 4, 5, 6, 7]]
noncomputable def raddleref02_Same_l1 (p0 : (List Int)) (p1 : (List Int)) : Int → Option (Int ⊕ (Bool ⊕ Unit)) := fun s0 => match s0 with
  | s13 =>
    if decide (s13 < (p0.length : Int)) then
      Option.bind (idxO p0 s13) fun x22 =>
      Option.bind (idxO p1 s13) fun x27 =>
      if x22 != x27 then
        some (.inr (.inl false))
      else
        some (.inl (w64 (s13 + 1)))
    else
      some (.inr (.inr ()))
noncomputable def F_raddleref02_Same (p0 : (List Int)) (p1 : (List Int)) : Option Bool :=
  if (p0.length : Int) != (p1.length : Int) then
    some false
  else
    Option.bind (α := Unit ⊕ Bool) (
      Option.bind (whileO (raddleref02_Same_l1 p0 p1) 0) fun z0 => match z0 with
        | .inl z =>
          some (.inr z)
        | .inr _ =>
          some (.inl ())) fun z0 => match z0 with
      | .inl _ =>
        some true
      | .inr z =>
        some z
set_option maxHeartbeats 4000000 in
set_option maxRecDepth 100000 in
theorem c_raddleref02_Same (E : Nat → Prop) (w0 : World) (p0 : (List Int)) (v0 : Value) (p1 : (List Int)) (v1 : Value) (r : Bool) (h : F_raddleref02_Same p0 p1 = some r) (S : St0 E [] w0 w0 [] [fRep (rL (rI .i64)) (v0) p0, fRep (rL (rI .i64)) (v1) p1]) :
    Calls Try.prog 24 #[v0, v1] w0 (Ret (X := Unit) E [] w0 (fun _ => .bool r) (fun _ => []) (fun _ => [])) := by
  unfold F_raddleref02_Same at h
  obtain ⟨ad1, cp2, _, rfl, _⟩ := S.know (i := 0) (e := fRep (rL (rI .i64)) (v0) p0) rfl
  obtain ⟨ad3, cp4, _, rfl, _⟩ := S.know (i := 1) (e := fRep (rL (rI .i64)) (v1) p1) rfl
  refine sEnter (args := [.slice ad1 p0.length cp2, .slice ad3 p1.length cp4]) 26 Try.func24 rfl rfl (by simp) S (fun a S => ?_)
  refine sSeq (fun K5 hK5 => ?_)
  refine sRegion ?_
  refine sMove (.bool false) S (wN rfl) (.inr rfl) rfl rfl (lb rfl) fun a S => ?_
  refine leafL (leafT (hK5 _ _ ?_))
  refine sSeq (fun K6 hK6 => ?_)
  refine sSeq (fun K7 hK7 => ?_)
  refine sRegion ?_
  refine sMove (.slice ad1 p0.length cp2) S (wN rfl) (.inl rfl) rfl rfl (lb rfl) fun a S => ?_
  refine sLen (ad := ad1) (m := p0.length) (c := cp2) S (wN rfl) rfl Try.underlying35 rfl rfl (lb rfl) fun a S => ?_
  refine sMove (.slice ad3 p1.length cp4) S (wN rfl) (.inl rfl) rfl rfl (lb rfl) fun a S => ?_
  refine sLen (ad := ad3) (m := p1.length) (c := cp4) S (wN rfl) rfl Try.underlying35 rfl rfl (lb rfl) fun a S => ?_
  refine sBin (.bool ((p0.length : Int) != (p1.length : Int))) S (wN rfl) rfl rfl rfl (bNe _ _ _ _ .i64 (p0.length : Int) (p1.length : Int)) rfl (lb rfl) fun a S => ?_
  refine leafL (leafT (hK7 _ _ ?_))
  rcases iteSome h with ⟨hc8, h⟩ | ⟨hc8, h⟩
  · refine sCondT S rfl hc8 ?_
    refine sSeq (fun K9 hK9 => ?_)
    refine sRegion ?_
    refine sMove (.bool false) S (wN rfl) (.inr rfl) rfl rfl (lb rfl) fun a S => ?_
    refine leafL (leafT (hK9 _ _ ?_))
    obtain rfl := Option.some.inj h
    exact wp_ret (rThen (sRet (.bool false) S (rsl1 rfl (rvT (t := 4) (v := .bool false) S rfl)) ⟨(), rfl, S.mem.sel [] [] (by decide) rfl rfl⟩))
  refine sCondF S rfl hc8 ?_
  refine wp_skip (leafT (hK6 _ _ ?_))
  obtain ⟨t10, h, g11⟩ := bindSome h
  refine sCut (fun a w => .inl () = t10 ∧ St [] E [] w0 26 a w [] [] []) ?_ (fun a w hI => ?_)
  rotate_left
  · obtain ⟨rfl, S⟩ := hI
    have h := g11
    clear g11
    try dsimp only at h
    refine sSeq (fun K40 hK40 => ?_)
    refine sRegion ?_
    refine sMove (.bool true) S (wN rfl) (.inr rfl) rfl rfl (lb rfl) fun a S => ?_
    refine leafL (leafT (hK40 _ _ ?_))
    obtain rfl := Option.some.inj h
    exact wp_ret (sRet (.bool true) S (rsl1 rfl (rvT (t := 4) (v := .bool true) S rfl)) ⟨(), rfl, S.mem.sel [] [] (by decide) rfl rfl⟩)
  refine sSeq (fun K12 hK12 => ?_)
  refine sRegion ?_
  refine sMove (iv 0) S (wN rfl) (.inr rfl) rfl rfl (lb rfl) fun a S => ?_
  refine leafL (leafT (hK12 _ _ ?_))
  refine wp_block ?_
  obtain ⟨t16, hl, g15⟩ := bindSome h
  refine sLoop hl (fun s0 a w => match s0 with | s13 => St [] E [] w0 26 a w [(0, .slice ad1 p0.length cp2), (1, .slice ad3 p1.length cp4), (5, iv s13)] [] [fRep (rL (rI .i64)) (.slice ad1 p0.length cp2) p0, fRep (rL (rI .i64)) (.slice ad3 p1.length cp4) p1]) (S.fix [] [0, 1] (by decide) rfl rfl rfl) ?_
  clear hl h
  intro s13 a w c0 hI h hu14
  unfold raddleref02_Same_l1 at h
  dsimp only at h hI
  have S := hI
  refine sSeq (fun K17 hK17 => ?_)
  refine sSeq (fun K18 hK18 => ?_)
  refine sRegion ?_
  refine sMove (iv s13) S (wN rfl) (.inl rfl) rfl rfl (lb rfl) fun a S => ?_
  refine sMove (.slice ad1 p0.length cp2) S (wN rfl) (.inl rfl) rfl rfl (lb rfl) fun a S => ?_
  refine sLen (ad := ad1) (m := p0.length) (c := cp2) S (wN rfl) rfl Try.underlying35 rfl rfl (lb rfl) fun a S => ?_
  refine sBin (.bool (decide (s13 < (p0.length : Int)))) S (wN rfl) rfl rfl rfl (bLt _ _ _ _ .i64 s13 (p0.length : Int)) rfl (lb rfl) fun a S => ?_
  refine leafL (leafT (hK18 _ _ ?_))
  rcases iteSome h with ⟨hc19, h⟩ | ⟨hc19, h⟩
  rotate_left
  · refine sCondF S rfl hc19 ?_
    obtain rfl := Option.some.inj h
    obtain rfl := hu14 _ rfl
    have h := g15
    clear g15
    try dsimp only at h
    exact wp_exit (xThen (xThen (xHit (leafT (⟨Option.some.inj h, S.fix [] [] (by decide) rfl rfl rfl⟩)))))
  refine sCondT S rfl hc19 ?_
  refine wp_skip (leafT (hK17 _ _ ?_))
  refine sSeq (fun K20 hK20 => ?_)
  refine wp_block ?_
  refine sSeq (fun K21 hK21 => ?_)
  obtain ⟨x22, hx23, h⟩ := bindSome h
  obtain ⟨x27, hx28, h⟩ := bindSome h
  obtain ⟨q32, hq33, S⟩ := pIdx (P := Try.prog) (r := (rI .i64)) (v := .slice ad1 p0.length cp2) (xs := p0) (j := s13) 35 3 0 S Try.underlying35 rfl rfl hx23
  obtain ⟨u34, S⟩ := pLoad (r := (rI .i64)) (q := q32) (x := x22) 0 S rfl
  obtain rfl : u34 = iv x22 := S.mem.know (i := 1) (e := fRep (rI .i64) (u34) x22) rfl
  obtain ⟨q35, hq36, S⟩ := pIdx (P := Try.prog) (r := (rI .i64)) (v := .slice ad3 p1.length cp4) (xs := p1) (j := s13) 35 3 4 S Try.underlying35 rfl rfl hx28
  obtain ⟨u37, S⟩ := pLoad (r := (rI .i64)) (q := q35) (x := x27) 0 S rfl
  obtain rfl : u37 = iv x27 := S.mem.know (i := 1) (e := fRep (rI .i64) (u37) x27) rfl
  refine sDraw (nf := []) (W := [(0, 17, .slice ad1 p0.length cp2), (1, 18, iv s13), (2, 19, q32), (3, 20, iv x22), (4, 21, .slice ad3 p1.length cp4), (5, 22, iv s13), (6, 23, q35), (7, 24, iv x27), (8, 25, .bool (x22 != x27))]) rfl S ?_
  refine node_by (A := anc_raddleref02_Same_0) (nf := []) (Y := []) (W := [(0, 17, .slice ad1 p0.length cp2), (1, 18, iv s13), (2, 19, q32), (3, 20, iv x22), (4, 21, .slice ad3 p1.length cp4), (5, 22, iv s13), (6, 23, q35), (7, 24, iv x27), (8, 25, .bool (x22 != x27))]) 9 (by kernel_rfl) (by kernel_rfl) (by kernel_rfl) (by kernel_rfl) (by kernel_rfl) [0, 1, 2, 3, 4, 5, 6, 7, 8] (by kernel_rfl) (by decide) (by decide) (aF 0 8 (by decide) ?_ (aF 1 7 (by decide) ?_ (aF 2 6 (by decide) ?_ (aF 3 5 (by decide) ?_ (aF 4 4 (by decide) ?_ (aF 5 3 (by decide) ?_ (aF 6 2 (by decide) ?_ (aF 7 1 (by decide) ?_ (aF 8 0 (by decide) ?_ (trivial)))))))))) [(0, .slice ad1 p0.length cp2), (1, .slice ad3 p1.length cp4), (5, iv s13), (25, .bool (x22 != x27))] (fin_of [none, none, none, some 8] rfl (by kernel_rfl) (by kernel_rfl)) (fun _ a w S => ?_)
  · refine fI 17 (.slice ad1 p0.length cp2) [(0, .slice ad1 p0.length cp2)] 0 [none] rfl rfl rfl rfl rfl rfl fun G a w S => ?_
    refine sMove (.slice ad1 p0.length cp2) S (wN rfl) (.inl rfl) rfl rfl (lb rfl) fun a S => ?_
    exact leafL ⟨rfl, S⟩
  · refine fI 18 (iv s13) [(5, iv s13)] 1 [none] rfl rfl rfl rfl rfl rfl fun G a w S => ?_
    refine sMove (iv s13) S (wN rfl) (.inl rfl) rfl rfl (lb rfl) fun a S => ?_
    exact leafL ⟨rfl, S⟩
  · refine fI 19 q32 [(17, .slice ad1 p0.length cp2), (18, iv s13)] 2 [some 0, some 1] rfl rfl rfl rfl rfl rfl fun G a w S => ?_
    refine sIdxV (v := .slice ad1 p0.length cp2) (k := .i64) (j := s13) S (wN rfl) rfl rfl rfl hq33 rfl (lb rfl) fun a S => ?_
    exact leafL ⟨rfl, S⟩
  · refine fI 20 (iv x22) [(19, q32)] 3 [some 2] rfl rfl rfl rfl rfl rfl fun G a w S => ?_
    refine sLoadV1 (vq := q32) 3 (iv x22) S (wN rfl) rfl rfl rfl rfl rfl (lb rfl) fun a S => ?_
    exact leafL ⟨rfl, S⟩
  · refine fI 21 (.slice ad3 p1.length cp4) [(1, .slice ad3 p1.length cp4)] 4 [none] rfl rfl rfl rfl rfl rfl fun G a w S => ?_
    refine sMove (.slice ad3 p1.length cp4) S (wN rfl) (.inl rfl) rfl rfl (lb rfl) fun a S => ?_
    exact leafL ⟨rfl, S⟩
  · refine fI 22 (iv s13) [(5, iv s13)] 5 [none] rfl rfl rfl rfl rfl rfl fun G a w S => ?_
    refine sMove (iv s13) S (wN rfl) (.inl rfl) rfl rfl (lb rfl) fun a S => ?_
    exact leafL ⟨rfl, S⟩
  · refine fI 23 q35 [(21, .slice ad3 p1.length cp4), (22, iv s13)] 6 [some 4, some 5] rfl rfl rfl rfl rfl rfl fun G a w S => ?_
    refine sIdxV (v := .slice ad3 p1.length cp4) (k := .i64) (j := s13) S (wN rfl) rfl rfl rfl hq36 rfl (lb rfl) fun a S => ?_
    exact leafL ⟨rfl, S⟩
  · refine fI 24 (iv x27) [(23, q35)] 7 [some 6] rfl rfl rfl rfl rfl rfl fun G a w S => ?_
    refine sLoadV1 (vq := q35) 0 (iv x27) S (wN rfl) rfl rfl rfl rfl rfl (lb rfl) fun a S => ?_
    exact leafL ⟨rfl, S⟩
  · refine fI 25 (.bool (x22 != x27)) [(20, iv x22), (24, iv x27)] 8 [some 3, some 7] rfl rfl rfl rfl rfl rfl fun G a w S => ?_
    refine sBin (.bool (x22 != x27)) S (wN rfl) rfl rfl rfl (bNe _ _ _ _ .i64 x22 x27) rfl (lb rfl) fun a S => ?_
    exact leafL ⟨rfl, S⟩
  refine leafT (hK21 _ _ ?_)
  rcases iteSome h with ⟨hc38, h⟩ | ⟨hc38, h⟩
  rotate_left
  · refine sCondF S rfl hc38 ?_
    refine wp_skip (leafB (leafT (hK20 _ _ ?_)))
    refine sRegion ?_
    refine sMove (iv s13) S (wN rfl) (.inl rfl) rfl rfl (lb rfl) fun a S => ?_
    refine sBin (iv (w64 (s13 + 1))) S (wN rfl) rfl rfl rfl (bAdd _ _ _ _ s13 1) rfl (lb rfl) fun a S => ?_
    refine sMove (iv (w64 (s13 + 1))) S (wN rfl) (.inr rfl) rfl rfl (lb rfl) fun a S => ?_
    exact leafL (leafT (⟨w64 (s13 + 1), (Option.some.inj h).symm, (S.fix [] [6, 7] (by decide) rfl rfl rfl)⟩))
  refine sCondT S rfl hc38 ?_
  refine sSeq (fun K39 hK39 => ?_)
  refine sRegion ?_
  refine sMove (.bool false) S (wN rfl) (.inr rfl) rfl rfl (lb rfl) fun a S => ?_
  refine leafL (leafT (hK39 _ _ ?_))
  obtain rfl := Option.some.inj h
  obtain rfl := hu14 _ rfl
  have h := g15
  clear g15
  try dsimp only at h
  obtain rfl := Option.some.inj h
  have h := g11
  clear g11
  try dsimp only at h
  obtain rfl := Option.some.inj h
  exact wp_ret (rBlock (rThen (rThen (rBlock (rThen (sRet (.bool false) S (rsl1 rfl (rvT (t := 4) (v := .bool false) S rfl)) ⟨(), rfl, S.mem.sel [] [] (by decide) rfl rfl⟩))))))

end Go.Proofs.Ythfifeabomdlpaa
namespace Go.Proofs.Ythfifeabomdlpaa
open Go.RowKit
set_option linter.unusedVariables false

noncomputable def F_raddlelaw13_BlockParts (p0 : api_Grid) (p1 : Int) (p2 : Int) (p3 : (List api_Grid)) (p4 : (List Int)) : Option Bool :=
  Option.bind (α := Bool) (
    Option.bind (F_raddleref01_Great p0) fun r15 =>
    if r15 then
      some true
    else
      Option.bind (F_raddleref13_GreatGrids p3) fun r18 =>
      if r18 then
        some true
      else
        some (decide (200 < (p4.length : Int)))) fun o12 =>
  if o12 then
    some true
  else
    Option.bind (F_block_Units p0 p1 p2) fun r24 =>
    Option.bind (F_raddleref13_Units p0 p1 p2) fun r33 =>
    Option.bind (F_block_Join p3 p4 p1) fun r42 =>
    Option.bind (F_raddleref13_Join p3 p4 p1) fun r51 =>
    Option.bind (α := Bool) (
      Option.bind (F_raddleref13_SameGrids r24.1 r33.1) fun r62 =>
      if r62 then
        Option.bind (F_raddleref02_Same r24.2.1 r33.2.1) fun r65 =>
        if r65 then
          if r24.2.2 == r33.2.2 then
            Option.bind (F_raddleref01_Same r42.1 r51.1) fun r69 =>
            if r69 then
              some (r42.2 == r51.2)
            else
              some false
          else
            some false
        else
          some false
      else
        some false) fun o59 =>
    some o59
set_option maxHeartbeats 4000000 in
set_option maxRecDepth 100000 in
theorem c_raddlelaw13_BlockParts (E : Nat → Prop) (w0 : World) (p0 : api_Grid) (v0 : Value) (p1 : Int) (p2 : Int) (p3 : (List api_Grid)) (v3 : Value) (p4 : (List Int)) (v4 : Value) (r : Bool) (h : F_raddlelaw13_BlockParts p0 p1 p2 p3 p4 = some r) (S : St0 E [] w0 w0 [] [fRep r_api_Grid (v0) p0, fRep (rL r_api_Grid) (v3) p3, fRep (rL (rI .i64)) (v4) p4]) :
    Calls Try.prog 4 #[v0, iv p1, iv p2, v3, v4] w0 (Ret (X := Unit) E [] w0 (fun _ => .bool r) (fun _ => []) (fun _ => [])) := by
  unfold F_raddlelaw13_BlockParts at h
  obtain ⟨u1, rfl, hu2⟩ := S.know (i := 0) (e := fRep r_api_Grid (v0) p0) rfl
  have S := S.learn (fRep (rL rB) u1 p0.Bits) hu2
  obtain ⟨ad3, cp4, _, rfl, _⟩ := hu2
  obtain ⟨ad5, cp6, _, rfl, _⟩ := S.know (i := 2) (e := fRep (rL r_api_Grid) (v3) p3) rfl
  obtain ⟨ad7, cp8, _, rfl, _⟩ := S.know (i := 3) (e := fRep (rL (rI .i64)) (v4) p4) rfl
  refine sEnter (args := [.agg #[iv p0.W, iv p0.H, .slice ad3 p0.Bits.length cp4], iv p1, iv p2, .slice ad5 p3.length cp6, .slice ad7 p4.length cp8]) 85 Try.func4 rfl rfl (by simp) S (fun a S => ?_)
  refine sSeq (fun K9 hK9 => ?_)
  refine sRegion ?_
  refine sBox (v := .agg #[iv p0.W, iv p0.H, .slice ad3 p0.Bits.length cp4]) S (wN rfl) rfl rfl [iv p0.W, iv p0.H, .slice ad3 p0.Bits.length cp4] rfl rfl (lb rfl) fun a b10 w S => ?_
  refine sMove (.bool false) S (wN rfl) (.inr rfl) rfl rfl (lb rfl) fun a S => ?_
  refine leafL (leafT (hK9 _ _ ?_))
  refine sSeq (fun K11 hK11 => ?_)
  obtain ⟨t13, h, g14⟩ := bindSome h
  refine sCut (fun a w => ∃ o12, o12 = t13 ∧ St [] E [] w0 85 a w [(1, iv p1), (2, iv p2), (3, .slice ad5 p3.length cp6), (4, .slice ad7 p4.length cp8), (5, .pointer (some ⟨b10, 0, none⟩)), (31, .bool o12)] [eBox b10 24 [iv p0.W, iv p0.H, .slice ad3 p0.Bits.length cp4]] [fRep (rL r_api_Grid) (.slice ad5 p3.length cp6) p3, fRep (rL (rI .i64)) (.slice ad7 p4.length cp8) p4, fRep (rL rB) (.slice ad3 p0.Bits.length cp4) p0.Bits]) ?_ (fun a w hI => ?_)
  · refine sRegion ?_
    refine sLoadN (p := b10) (off := 0) (T := 24) (vs := [iv p0.W, iv p0.H, .slice ad3 p0.Bits.length cp4]) 0 [iv p0.W, iv p0.H, .slice ad3 p0.Bits.length cp4] S (wN rfl) rfl rfl rfl rfl rfl rfl rfl (lb rfl) fun a S => ?_
    obtain ⟨r15, hx16, h⟩ := bindSome h
    have S1 := S.mem
    refine sCallQ (X := Unit) (f := 11) (vs := [.agg #[iv p0.W, iv p0.H, .slice ad3 p0.Bits.length cp4]]) (val := fun _ => .bool r15) S (wN rfl) rfl callee11 rfl (S1.quiet [1] rfl) (fun E1 w1 S1 => c_raddleref01_Great E1 w1 p0 (.agg #[iv p0.W, iv p0.H, .slice ad3 p0.Bits.length cp4]) r15 hx16 S1) rfl (lb rfl) fun _ a w S => ?_
    refine sMove (.bool r15) S (wN rfl) (.inl rfl) rfl rfl (lb rfl) fun a S => ?_
    rcases iteSome h with ⟨hc17, h⟩ | ⟨hc17, h⟩
    · refine sSkip 2 false 23 24 S rfl rfl rfl hc17 rfl (lb rfl) fun a S => ?_
      refine sSkip 2 false 23 25 S rfl rfl rfl hc17 rfl (lb rfl) fun a S => ?_
      refine sPickT (.bool true) S (wN rfl) rfl rfl hc17 rfl rfl (lb rfl) fun a S => ?_
      refine sMove (.bool true) S (wN rfl) (.inl rfl) rfl rfl (lb rfl) fun a S => ?_
      refine sSkip 6 false 27 28 S rfl rfl rfl rfl rfl (lb rfl) fun a S => ?_
      refine sSkip 6 false 27 29 S rfl rfl rfl rfl rfl (lb rfl) fun a S => ?_
      refine sSkip 6 false 27 30 S rfl rfl rfl rfl rfl (lb rfl) fun a S => ?_
      refine sPickT (.bool true) S (wN rfl) rfl rfl rfl rfl rfl (lb rfl) fun a S => ?_
      exact leafL (leafT (⟨true, Option.some.inj h, S.fix [0] [2, 3, 0] (by decide) rfl rfl rfl⟩))
    refine sMove (.slice ad5 p3.length cp6) S (wG 2 false 23 rfl rfl rfl hc17) (.inl rfl) rfl rfl (lb rfl) fun a S => ?_
    obtain ⟨r18, hx19, h⟩ := bindSome h
    have S1 := S.mem
    refine sCallQ (X := Unit) (f := 18) (vs := [.slice ad5 p3.length cp6]) (val := fun _ => .bool r18) S (wG 2 false 23 rfl rfl rfl hc17) rfl callee18 rfl (S1.quiet [2] rfl) (fun E1 w1 S1 => c_raddleref13_GreatGrids E1 w1 p3 (.slice ad5 p3.length cp6) r18 hx19 S1) rfl (lb rfl) fun _ a w S => ?_
    refine sPickF (.bool r18) S (wN rfl) rfl rfl hc17 rfl rfl (lb rfl) fun a S => ?_
    refine sMove (.bool r18) S (wN rfl) (.inl rfl) rfl rfl (lb rfl) fun a S => ?_
    rcases iteSome h with ⟨hc20, h⟩ | ⟨hc20, h⟩
    · refine sSkip 6 false 27 28 S rfl rfl rfl hc20 rfl (lb rfl) fun a S => ?_
      refine sSkip 6 false 27 29 S rfl rfl rfl hc20 rfl (lb rfl) fun a S => ?_
      refine sSkip 6 false 27 30 S rfl rfl rfl hc20 rfl (lb rfl) fun a S => ?_
      refine sPickT (.bool true) S (wN rfl) rfl rfl hc20 rfl rfl (lb rfl) fun a S => ?_
      exact leafL (leafT (⟨true, Option.some.inj h, S.fix [0] [2, 3, 0] (by decide) rfl rfl rfl⟩))
    refine sMove (.slice ad7 p4.length cp8) S (wG 6 false 27 rfl rfl rfl hc20) (.inl rfl) rfl rfl (lb rfl) fun a S => ?_
    refine sLen (ad := ad7) (m := p4.length) (c := cp8) S (wG 6 false 27 rfl rfl rfl hc20) rfl Try.underlying35 rfl rfl (lb rfl) fun a S => ?_
    refine sBin (.bool (decide (200 < (p4.length : Int)))) S (wG 6 false 27 rfl rfl rfl hc20) rfl rfl rfl (bGt _ _ _ _ .i64 (p4.length : Int) 200) rfl (lb rfl) fun a S => ?_
    refine sPickF (.bool (decide (200 < (p4.length : Int)))) S (wN rfl) rfl rfl hc20 rfl rfl (lb rfl) fun a S => ?_
    exact leafL (leafT (⟨decide (200 < (p4.length : Int)), Option.some.inj h, S.fix [0] [2, 3, 0] (by decide) rfl rfl rfl⟩))
  obtain ⟨o12, rfl, S⟩ := hI
  have h := g14
  clear g14
  try dsimp only at h
  rcases iteSome h with ⟨hc21, h⟩ | ⟨hc21, h⟩
  · refine sCondT S rfl hc21 ?_
    refine sSeq (fun K22 hK22 => ?_)
    refine sRegion ?_
    refine sMove (.bool true) S (wN rfl) (.inr rfl) rfl rfl (lb rfl) fun a S => ?_
    refine leafL (leafT (hK22 _ _ ?_))
    obtain rfl := Option.some.inj h
    exact wp_ret (rThen (sRet (.bool true) S (rsl1 rfl (rvT (t := 10) (v := .bool true) S rfl)) ⟨(), rfl, S.mem.sel [] [] (by decide) rfl rfl⟩))
  refine sCondF S rfl hc21 ?_
  refine wp_skip (leafT (hK11 _ _ ?_))
  refine sSeq (fun K23 hK23 => ?_)
  refine sRegion ?_
  refine sLoadN (p := b10) (off := 0) (T := 24) (vs := [iv p0.W, iv p0.H, .slice ad3 p0.Bits.length cp4]) 0 [iv p0.W, iv p0.H, .slice ad3 p0.Bits.length cp4] S (wN rfl) rfl rfl rfl rfl rfl rfl rfl (lb rfl) fun a S => ?_
  refine sMove (iv p1) S (wN rfl) (.inl rfl) rfl rfl (lb rfl) fun a S => ?_
  refine sMove (iv p2) S (wN rfl) (.inl rfl) rfl rfl (lb rfl) fun a S => ?_
  obtain ⟨r24, hx25, h⟩ := bindSome h
  have S := S.learn (fRep r_api_Grid (.agg #[iv p0.W, iv p0.H, .slice ad3 p0.Bits.length cp4]) p0) ⟨_, rfl, S.mem.know (i := 2) (e := fRep (rL rB) (.slice ad3 p0.Bits.length cp4) p0.Bits) rfl⟩
  refine sCall (X := Value × Value) (f := 19) (vs := [.agg #[iv p0.W, iv p0.H, .slice ad3 p0.Bits.length cp4], iv p1, iv p2]) (val := c_block_Units_val r24) (B' := fun _ => []) (D' := c_block_Units_D r24) [] [eBox b10 24 [iv p0.W, iv p0.H, .slice ad3 p0.Bits.length cp4]] [fRep r_api_Grid (.agg #[iv p0.W, iv p0.H, .slice ad3 p0.Bits.length cp4]) p0] [0] [0] S (wN rfl) rfl callee19 rfl (by decide) rfl rfl (fun E1 w1 S1 => c_block_Units E1 w1 p0 (.agg #[iv p0.W, iv p0.H, .slice ad3 p0.Bits.length cp4]) p1 p2 r24 hx25 S1) rfl (lb rfl) fun xx a w S => ?_
  obtain ⟨u26, u27⟩ := xx
  obtain ⟨ad28, cp29, _, rfl, _⟩ := S.mem.know (i := 0) (e := fRep (rL r_api_Grid) (u26) r24.1) rfl
  obtain ⟨ad30, cp31, _, rfl, _⟩ := S.mem.know (i := 1) (e := fRep (rL (rI .i64)) (u27) r24.2.1) rfl
  refine sMove (.tuple #[.slice ad28 r24.1.length cp29, .slice ad30 r24.2.1.length cp31, iv r24.2.2]) S (wN rfl) (.inl rfl) rfl rfl (lb rfl) fun a S => ?_
  refine sExtract (vs := [.slice ad28 r24.1.length cp29, .slice ad30 r24.2.1.length cp31, iv r24.2.2]) (.slice ad28 r24.1.length cp29) S (wN rfl) rfl rfl rfl rfl (lb rfl) fun a S => ?_
  refine sExtract (vs := [.slice ad28 r24.1.length cp29, .slice ad30 r24.2.1.length cp31, iv r24.2.2]) (.slice ad30 r24.2.1.length cp31) S (wN rfl) rfl rfl rfl rfl (lb rfl) fun a S => ?_
  refine sExtract (vs := [.slice ad28 r24.1.length cp29, .slice ad30 r24.2.1.length cp31, iv r24.2.2]) (iv r24.2.2) S (wN rfl) rfl rfl rfl rfl (lb rfl) fun a S => ?_
  refine sMove (.slice ad28 r24.1.length cp29) S (wN rfl) (.inr rfl) rfl rfl (lb rfl) fun a S => ?_
  refine sMove (.slice ad30 r24.2.1.length cp31) S (wN rfl) (.inr rfl) rfl rfl (lb rfl) fun a S => ?_
  refine sMove (iv r24.2.2) S (wN rfl) (.inr rfl) rfl rfl (lb rfl) fun a S => ?_
  refine leafL (leafT (hK23 _ _ ?_))
  refine sSeq (fun K32 hK32 => ?_)
  refine sRegion ?_
  refine sLoadN (p := b10) (off := 0) (T := 24) (vs := [iv p0.W, iv p0.H, .slice ad3 p0.Bits.length cp4]) 0 [iv p0.W, iv p0.H, .slice ad3 p0.Bits.length cp4] S (wN rfl) rfl rfl rfl rfl rfl rfl rfl (lb rfl) fun a S => ?_
  refine sMove (iv p1) S (wN rfl) (.inl rfl) rfl rfl (lb rfl) fun a S => ?_
  refine sMove (iv p2) S (wN rfl) (.inl rfl) rfl rfl (lb rfl) fun a S => ?_
  obtain ⟨r33, hx34, h⟩ := bindSome h
  refine sCall (X := Value × Value) (f := 20) (vs := [.agg #[iv p0.W, iv p0.H, .slice ad3 p0.Bits.length cp4], iv p1, iv p2]) (val := c_raddleref13_Units_val r33) (B' := fun _ => []) (D' := c_raddleref13_Units_D r33) [] [eBox b10 24 [iv p0.W, iv p0.H, .slice ad3 p0.Bits.length cp4]] [fRep r_api_Grid (.agg #[iv p0.W, iv p0.H, .slice ad3 p0.Bits.length cp4]) p0] [0] [2] S (wN rfl) rfl callee20 rfl (by decide) rfl rfl (fun E1 w1 S1 => c_raddleref13_Units E1 w1 p0 (.agg #[iv p0.W, iv p0.H, .slice ad3 p0.Bits.length cp4]) p1 p2 r33 hx34 S1) rfl (lb rfl) fun xx a w S => ?_
  obtain ⟨u35, u36⟩ := xx
  obtain ⟨ad37, cp38, _, rfl, _⟩ := S.mem.know (i := 0) (e := fRep (rL r_api_Grid) (u35) r33.1) rfl
  obtain ⟨ad39, cp40, _, rfl, _⟩ := S.mem.know (i := 1) (e := fRep (rL (rI .i64)) (u36) r33.2.1) rfl
  refine sMove (.tuple #[.slice ad37 r33.1.length cp38, .slice ad39 r33.2.1.length cp40, iv r33.2.2]) S (wN rfl) (.inl rfl) rfl rfl (lb rfl) fun a S => ?_
  refine sExtract (vs := [.slice ad37 r33.1.length cp38, .slice ad39 r33.2.1.length cp40, iv r33.2.2]) (.slice ad37 r33.1.length cp38) S (wN rfl) rfl rfl rfl rfl (lb rfl) fun a S => ?_
  refine sExtract (vs := [.slice ad37 r33.1.length cp38, .slice ad39 r33.2.1.length cp40, iv r33.2.2]) (.slice ad39 r33.2.1.length cp40) S (wN rfl) rfl rfl rfl rfl (lb rfl) fun a S => ?_
  refine sExtract (vs := [.slice ad37 r33.1.length cp38, .slice ad39 r33.2.1.length cp40, iv r33.2.2]) (iv r33.2.2) S (wN rfl) rfl rfl rfl rfl (lb rfl) fun a S => ?_
  refine sMove (.slice ad37 r33.1.length cp38) S (wN rfl) (.inr rfl) rfl rfl (lb rfl) fun a S => ?_
  refine sMove (.slice ad39 r33.2.1.length cp40) S (wN rfl) (.inr rfl) rfl rfl (lb rfl) fun a S => ?_
  refine sMove (iv r33.2.2) S (wN rfl) (.inr rfl) rfl rfl (lb rfl) fun a S => ?_
  refine leafL (leafT (hK32 _ _ ?_))
  refine sSeq (fun K41 hK41 => ?_)
  refine sRegion ?_
  refine sMove (.slice ad5 p3.length cp6) S (wN rfl) (.inl rfl) rfl rfl (lb rfl) fun a S => ?_
  refine sMove (.slice ad7 p4.length cp8) S (wN rfl) (.inl rfl) rfl rfl (lb rfl) fun a S => ?_
  refine sMove (iv p1) S (wN rfl) (.inl rfl) rfl rfl (lb rfl) fun a S => ?_
  obtain ⟨r42, hx43, h⟩ := bindSome h
  refine sCall (X := Value) (f := 21) (vs := [.slice ad5 p3.length cp6, .slice ad7 p4.length cp8, iv p1]) (val := c_block_Join_val r42) (B' := fun _ => []) (D' := c_block_Join_D r42) [] [eBox b10 24 [iv p0.W, iv p0.H, .slice ad3 p0.Bits.length cp4]] [fRep (rL r_api_Grid) (.slice ad5 p3.length cp6) p3, fRep (rL (rI .i64)) (.slice ad7 p4.length cp8) p4] [0] [5, 6] S (wN rfl) rfl callee21 rfl (by decide) rfl rfl (fun E1 w1 S1 => c_block_Join E1 w1 p3 (.slice ad5 p3.length cp6) p4 (.slice ad7 p4.length cp8) p1 r42 hx43 S1) rfl (lb rfl) fun u44 a w S => ?_
  obtain ⟨u45, rfl, hu46⟩ := S.mem.know (i := 0) (e := fRep r_api_Grid (u44) r42.1) rfl
  have S := S.learn (fRep (rL rB) u45 r42.1.Bits) hu46
  obtain ⟨ad47, cp48, _, rfl, _⟩ := hu46
  refine sMove (.tuple #[.agg #[iv r42.1.W, iv r42.1.H, .slice ad47 r42.1.Bits.length cp48], iv r42.2]) S (wN rfl) (.inl rfl) rfl rfl (lb rfl) fun a S => ?_
  refine sExtract (vs := [.agg #[iv r42.1.W, iv r42.1.H, .slice ad47 r42.1.Bits.length cp48], iv r42.2]) (.agg #[iv r42.1.W, iv r42.1.H, .slice ad47 r42.1.Bits.length cp48]) S (wN rfl) rfl rfl rfl rfl (lb rfl) fun a S => ?_
  refine sExtract (vs := [.agg #[iv r42.1.W, iv r42.1.H, .slice ad47 r42.1.Bits.length cp48], iv r42.2]) (iv r42.2) S (wN rfl) rfl rfl rfl rfl (lb rfl) fun a S => ?_
  refine sAlloc (.agg #[iv 0, iv 0, .slice none 0 0]) S (wN rfl) rfl rfl [iv 0, iv 0, .slice none 0 0] rfl rfl (lb rfl) fun a b49 w S => ?_
  refine sStore (p := b49) (off := 0) (T := 24) (vs := [iv 0, iv 0, .slice none 0 0]) (v := .agg #[iv r42.1.W, iv r42.1.H, .slice ad47 r42.1.Bits.length cp48]) 0 [iv r42.1.W, iv r42.1.H, .slice ad47 r42.1.Bits.length cp48] S (wN rfl) rfl rfl rfl rfl rfl rfl rfl (by simp) rfl fun a w S => ?_
  refine sMove (iv r42.2) S (wN rfl) (.inr rfl) rfl rfl (lb rfl) fun a S => ?_
  refine leafL (leafT (hK41 _ _ ?_))
  refine sSeq (fun K50 hK50 => ?_)
  refine sRegion ?_
  refine sMove (.slice ad5 p3.length cp6) S (wN rfl) (.inl rfl) rfl rfl (lb rfl) fun a S => ?_
  refine sMove (.slice ad7 p4.length cp8) S (wN rfl) (.inl rfl) rfl rfl (lb rfl) fun a S => ?_
  refine sMove (iv p1) S (wN rfl) (.inl rfl) rfl rfl (lb rfl) fun a S => ?_
  obtain ⟨r51, hx52, h⟩ := bindSome h
  refine sCall (X := Value) (f := 22) (vs := [.slice ad5 p3.length cp6, .slice ad7 p4.length cp8, iv p1]) (val := c_raddleref13_Join_val r51) (B' := fun _ => []) (D' := c_raddleref13_Join_D r51) [] [eBox b49 24 [iv r42.1.W, iv r42.1.H, .slice ad47 r42.1.Bits.length cp48], eBox b10 24 [iv p0.W, iv p0.H, .slice ad3 p0.Bits.length cp4]] [fRep (rL r_api_Grid) (.slice ad5 p3.length cp6) p3, fRep (rL (rI .i64)) (.slice ad7 p4.length cp8) p4] [0, 1] [7, 8] S (wN rfl) rfl callee22 rfl (by decide) rfl rfl (fun E1 w1 S1 => c_raddleref13_Join E1 w1 p3 (.slice ad5 p3.length cp6) p4 (.slice ad7 p4.length cp8) p1 r51 hx52 S1) rfl (lb rfl) fun u53 a w S => ?_
  obtain ⟨u54, rfl, hu55⟩ := S.mem.know (i := 0) (e := fRep r_api_Grid (u53) r51.1) rfl
  have S := S.learn (fRep (rL rB) u54 r51.1.Bits) hu55
  obtain ⟨ad56, cp57, _, rfl, _⟩ := hu55
  refine sMove (.tuple #[.agg #[iv r51.1.W, iv r51.1.H, .slice ad56 r51.1.Bits.length cp57], iv r51.2]) S (wN rfl) (.inl rfl) rfl rfl (lb rfl) fun a S => ?_
  refine sExtract (vs := [.agg #[iv r51.1.W, iv r51.1.H, .slice ad56 r51.1.Bits.length cp57], iv r51.2]) (.agg #[iv r51.1.W, iv r51.1.H, .slice ad56 r51.1.Bits.length cp57]) S (wN rfl) rfl rfl rfl rfl (lb rfl) fun a S => ?_
  refine sExtract (vs := [.agg #[iv r51.1.W, iv r51.1.H, .slice ad56 r51.1.Bits.length cp57], iv r51.2]) (iv r51.2) S (wN rfl) rfl rfl rfl rfl (lb rfl) fun a S => ?_
  refine sAlloc (.agg #[iv 0, iv 0, .slice none 0 0]) S (wN rfl) rfl rfl [iv 0, iv 0, .slice none 0 0] rfl rfl (lb rfl) fun a b58 w S => ?_
  refine sStore (p := b58) (off := 0) (T := 24) (vs := [iv 0, iv 0, .slice none 0 0]) (v := .agg #[iv r51.1.W, iv r51.1.H, .slice ad56 r51.1.Bits.length cp57]) 0 [iv r51.1.W, iv r51.1.H, .slice ad56 r51.1.Bits.length cp57] S (wN rfl) rfl rfl rfl rfl rfl rfl rfl (by simp) rfl fun a w S => ?_
  refine sMove (iv r51.2) S (wN rfl) (.inr rfl) rfl rfl (lb rfl) fun a S => ?_
  refine leafL (leafT (hK50 _ _ ?_))
  obtain ⟨t60, h, g61⟩ := bindSome h
  refine sCut (fun a w => ∃ o59, o59 = t60 ∧ St [] E [] w0 85 a w [(10, .bool o59)] [] []) ?_ (fun a w hI => ?_)
  rotate_left
  · obtain ⟨o59, rfl, S⟩ := hI
    have h := g61
    clear g61
    try dsimp only at h
    obtain rfl := Option.some.inj h
    exact wp_ret (sRet (.bool o59) S (rsl1 rfl (rvT (t := 10) (v := .bool o59) S rfl)) ⟨(), rfl, S.mem.sel [] [] (by decide) rfl rfl⟩)
  refine sRegion ?_
  refine sMove (.slice ad28 r24.1.length cp29) S (wN rfl) (.inl rfl) rfl rfl (lb rfl) fun a S => ?_
  refine sMove (.slice ad37 r33.1.length cp38) S (wN rfl) (.inl rfl) rfl rfl (lb rfl) fun a S => ?_
  obtain ⟨r62, hx63, h⟩ := bindSome h
  have S1 := S.mem
  refine sCallQ (X := Unit) (f := 23) (vs := [.slice ad28 r24.1.length cp29, .slice ad37 r33.1.length cp38]) (val := fun _ => .bool r62) S (wN rfl) rfl callee23 rfl (S1.quiet [6, 4] rfl) (fun E1 w1 S1 => c_raddleref13_SameGrids E1 w1 r24.1 (.slice ad28 r24.1.length cp29) r33.1 (.slice ad37 r33.1.length cp38) r62 hx63 S1) rfl (lb rfl) fun _ a w S => ?_
  refine sMove (.bool r62) S (wN rfl) (.inl rfl) rfl rfl (lb rfl) fun a S => ?_
  rcases iteSome h with ⟨hc64, h⟩ | ⟨hc64, h⟩
  rotate_left
  · refine sSkip 3 true 65 66 S rfl rfl rfl hc64 rfl (lb rfl) fun a S => ?_
    refine sSkip 3 true 65 67 S rfl rfl rfl hc64 rfl (lb rfl) fun a S => ?_
    refine sSkip 3 true 65 68 S rfl rfl rfl hc64 rfl (lb rfl) fun a S => ?_
    refine sPickF (.bool false) S (wN rfl) rfl rfl hc64 rfl rfl (lb rfl) fun a S => ?_
    refine sMove (.bool false) S (wN rfl) (.inl rfl) rfl rfl (lb rfl) fun a S => ?_
    refine sSkip 8 true 70 71 S rfl rfl rfl rfl rfl (lb rfl) fun a S => ?_
    refine sSkip 8 true 70 72 S rfl rfl rfl rfl rfl (lb rfl) fun a S => ?_
    refine sSkip 8 true 70 73 S rfl rfl rfl rfl rfl (lb rfl) fun a S => ?_
    refine sPickF (.bool false) S (wN rfl) rfl rfl rfl rfl rfl (lb rfl) fun a S => ?_
    refine sMove (.bool false) S (wN rfl) (.inl rfl) rfl rfl (lb rfl) fun a S => ?_
    refine sSkip 13 true 75 76 S rfl rfl rfl rfl rfl (lb rfl) fun a S => ?_
    refine sSkip 13 true 75 77 S rfl rfl rfl rfl rfl (lb rfl) fun a S => ?_
    refine sSkip 13 true 75 78 S rfl rfl rfl rfl rfl (lb rfl) fun a S => ?_
    refine sPickF (.bool false) S (wN rfl) rfl rfl rfl rfl rfl (lb rfl) fun a S => ?_
    refine sMove (.bool false) S (wN rfl) (.inl rfl) rfl rfl (lb rfl) fun a S => ?_
    refine sSkip 18 true 80 81 S rfl rfl rfl rfl rfl (lb rfl) fun a S => ?_
    refine sSkip 18 true 80 82 S rfl rfl rfl rfl rfl (lb rfl) fun a S => ?_
    refine sSkip 18 true 80 83 S rfl rfl rfl rfl rfl (lb rfl) fun a S => ?_
    refine sPickF (.bool false) S (wN rfl) rfl rfl rfl rfl rfl (lb rfl) fun a S => ?_
    refine sMove (.bool false) S (wN rfl) (.inr rfl) rfl rfl (lb rfl) fun a S => ?_
    exact leafL (leafT (⟨false, Option.some.inj h, S.fix [] [] (by decide) rfl rfl rfl⟩))
  refine sMove (.slice ad30 r24.2.1.length cp31) S (wG 3 true 65 rfl rfl rfl hc64) (.inl rfl) rfl rfl (lb rfl) fun a S => ?_
  refine sMove (.slice ad39 r33.2.1.length cp40) S (wG 3 true 65 rfl rfl rfl hc64) (.inl rfl) rfl rfl (lb rfl) fun a S => ?_
  obtain ⟨r65, hx66, h⟩ := bindSome h
  have S1 := S.mem
  refine sCallQ (X := Unit) (f := 24) (vs := [.slice ad30 r24.2.1.length cp31, .slice ad39 r33.2.1.length cp40]) (val := fun _ => .bool r65) S (wG 3 true 65 rfl rfl rfl hc64) rfl callee24 rfl (S1.quiet [7, 5] rfl) (fun E1 w1 S1 => c_raddleref02_Same E1 w1 r24.2.1 (.slice ad30 r24.2.1.length cp31) r33.2.1 (.slice ad39 r33.2.1.length cp40) r65 hx66 S1) rfl (lb rfl) fun _ a w S => ?_
  refine sPickT (.bool r65) S (wN rfl) rfl rfl hc64 rfl rfl (lb rfl) fun a S => ?_
  refine sMove (.bool r65) S (wN rfl) (.inl rfl) rfl rfl (lb rfl) fun a S => ?_
  rcases iteSome h with ⟨hc67, h⟩ | ⟨hc67, h⟩
  rotate_left
  · refine sSkip 8 true 70 71 S rfl rfl rfl hc67 rfl (lb rfl) fun a S => ?_
    refine sSkip 8 true 70 72 S rfl rfl rfl hc67 rfl (lb rfl) fun a S => ?_
    refine sSkip 8 true 70 73 S rfl rfl rfl hc67 rfl (lb rfl) fun a S => ?_
    refine sPickF (.bool false) S (wN rfl) rfl rfl hc67 rfl rfl (lb rfl) fun a S => ?_
    refine sMove (.bool false) S (wN rfl) (.inl rfl) rfl rfl (lb rfl) fun a S => ?_
    refine sSkip 13 true 75 76 S rfl rfl rfl rfl rfl (lb rfl) fun a S => ?_
    refine sSkip 13 true 75 77 S rfl rfl rfl rfl rfl (lb rfl) fun a S => ?_
    refine sSkip 13 true 75 78 S rfl rfl rfl rfl rfl (lb rfl) fun a S => ?_
    refine sPickF (.bool false) S (wN rfl) rfl rfl rfl rfl rfl (lb rfl) fun a S => ?_
    refine sMove (.bool false) S (wN rfl) (.inl rfl) rfl rfl (lb rfl) fun a S => ?_
    refine sSkip 18 true 80 81 S rfl rfl rfl rfl rfl (lb rfl) fun a S => ?_
    refine sSkip 18 true 80 82 S rfl rfl rfl rfl rfl (lb rfl) fun a S => ?_
    refine sSkip 18 true 80 83 S rfl rfl rfl rfl rfl (lb rfl) fun a S => ?_
    refine sPickF (.bool false) S (wN rfl) rfl rfl rfl rfl rfl (lb rfl) fun a S => ?_
    refine sMove (.bool false) S (wN rfl) (.inr rfl) rfl rfl (lb rfl) fun a S => ?_
    exact leafL (leafT (⟨false, Option.some.inj h, S.fix [] [] (by decide) rfl rfl rfl⟩))
  refine sMove (iv r24.2.2) S (wG 8 true 70 rfl rfl rfl hc67) (.inl rfl) rfl rfl (lb rfl) fun a S => ?_
  refine sMove (iv r33.2.2) S (wG 8 true 70 rfl rfl rfl hc67) (.inl rfl) rfl rfl (lb rfl) fun a S => ?_
  refine sBin (.bool (r24.2.2 == r33.2.2)) S (wG 8 true 70 rfl rfl rfl hc67) rfl rfl rfl (bEq _ _ _ _ .i64 r24.2.2 r33.2.2) rfl (lb rfl) fun a S => ?_
  refine sPickT (.bool (r24.2.2 == r33.2.2)) S (wN rfl) rfl rfl hc67 rfl rfl (lb rfl) fun a S => ?_
  refine sMove (.bool (r24.2.2 == r33.2.2)) S (wN rfl) (.inl rfl) rfl rfl (lb rfl) fun a S => ?_
  rcases iteSome h with ⟨hc68, h⟩ | ⟨hc68, h⟩
  rotate_left
  · refine sSkip 13 true 75 76 S rfl rfl rfl hc68 rfl (lb rfl) fun a S => ?_
    refine sSkip 13 true 75 77 S rfl rfl rfl hc68 rfl (lb rfl) fun a S => ?_
    refine sSkip 13 true 75 78 S rfl rfl rfl hc68 rfl (lb rfl) fun a S => ?_
    refine sPickF (.bool false) S (wN rfl) rfl rfl hc68 rfl rfl (lb rfl) fun a S => ?_
    refine sMove (.bool false) S (wN rfl) (.inl rfl) rfl rfl (lb rfl) fun a S => ?_
    refine sSkip 18 true 80 81 S rfl rfl rfl rfl rfl (lb rfl) fun a S => ?_
    refine sSkip 18 true 80 82 S rfl rfl rfl rfl rfl (lb rfl) fun a S => ?_
    refine sSkip 18 true 80 83 S rfl rfl rfl rfl rfl (lb rfl) fun a S => ?_
    refine sPickF (.bool false) S (wN rfl) rfl rfl rfl rfl rfl (lb rfl) fun a S => ?_
    refine sMove (.bool false) S (wN rfl) (.inr rfl) rfl rfl (lb rfl) fun a S => ?_
    exact leafL (leafT (⟨false, Option.some.inj h, S.fix [] [] (by decide) rfl rfl rfl⟩))
  refine sLoadN (p := b49) (off := 0) (T := 24) (vs := [iv r42.1.W, iv r42.1.H, .slice ad47 r42.1.Bits.length cp48]) 1 [iv r42.1.W, iv r42.1.H, .slice ad47 r42.1.Bits.length cp48] S (wG 13 true 75 rfl rfl rfl hc68) rfl rfl rfl rfl rfl rfl rfl (lb rfl) fun a S => ?_
  refine sLoadN (p := b58) (off := 0) (T := 24) (vs := [iv r51.1.W, iv r51.1.H, .slice ad56 r51.1.Bits.length cp57]) 0 [iv r51.1.W, iv r51.1.H, .slice ad56 r51.1.Bits.length cp57] S (wG 13 true 75 rfl rfl rfl hc68) rfl rfl rfl rfl rfl rfl rfl (lb rfl) fun a S => ?_
  obtain ⟨r69, hx70, h⟩ := bindSome h
  have S1 := S.mem
  refine sCallQ (X := Unit) (f := 17) (vs := [.agg #[iv r42.1.W, iv r42.1.H, .slice ad47 r42.1.Bits.length cp48], .agg #[iv r51.1.W, iv r51.1.H, .slice ad56 r51.1.Bits.length cp57]]) (val := fun _ => .bool r69) S (wG 13 true 75 rfl rfl rfl hc68) rfl callee17 rfl (S1.quiet [3, 1] rfl) (fun E1 w1 S1 => c_raddleref01_Same E1 w1 r42.1 (.agg #[iv r42.1.W, iv r42.1.H, .slice ad47 r42.1.Bits.length cp48]) r51.1 (.agg #[iv r51.1.W, iv r51.1.H, .slice ad56 r51.1.Bits.length cp57]) r69 hx70 S1) rfl (lb rfl) fun _ a w S => ?_
  refine sPickT (.bool r69) S (wN rfl) rfl rfl hc68 rfl rfl (lb rfl) fun a S => ?_
  refine sMove (.bool r69) S (wN rfl) (.inl rfl) rfl rfl (lb rfl) fun a S => ?_
  rcases iteSome h with ⟨hc71, h⟩ | ⟨hc71, h⟩
  rotate_left
  · refine sSkip 18 true 80 81 S rfl rfl rfl hc71 rfl (lb rfl) fun a S => ?_
    refine sSkip 18 true 80 82 S rfl rfl rfl hc71 rfl (lb rfl) fun a S => ?_
    refine sSkip 18 true 80 83 S rfl rfl rfl hc71 rfl (lb rfl) fun a S => ?_
    refine sPickF (.bool false) S (wN rfl) rfl rfl hc71 rfl rfl (lb rfl) fun a S => ?_
    refine sMove (.bool false) S (wN rfl) (.inr rfl) rfl rfl (lb rfl) fun a S => ?_
    exact leafL (leafT (⟨false, Option.some.inj h, S.fix [] [] (by decide) rfl rfl rfl⟩))
  refine sMove (iv r42.2) S (wG 18 true 80 rfl rfl rfl hc71) (.inl rfl) rfl rfl (lb rfl) fun a S => ?_
  refine sMove (iv r51.2) S (wG 18 true 80 rfl rfl rfl hc71) (.inl rfl) rfl rfl (lb rfl) fun a S => ?_
  refine sBin (.bool (r42.2 == r51.2)) S (wG 18 true 80 rfl rfl rfl hc71) rfl rfl rfl (bEq _ _ _ _ .i64 r42.2 r51.2) rfl (lb rfl) fun a S => ?_
  refine sPickT (.bool (r42.2 == r51.2)) S (wN rfl) rfl rfl hc71 rfl rfl (lb rfl) fun a S => ?_
  refine sMove (.bool (r42.2 == r51.2)) S (wN rfl) (.inr rfl) rfl rfl (lb rfl) fun a S => ?_
  exact leafL (leafT (⟨r42.2 == r51.2, Option.some.inj h, S.fix [] [] (by decide) rfl rfl rfl⟩))

end Go.Proofs.Ythfifeabomdlpaa
namespace Go.Proofs.Ythfifeabomdlpaa
open Go.RowKit
set_option linter.unusedVariables false

theorem ckL_all {l : List api_Grid} (h : ckL l = 0) : ∀ g, g ∈ l → gerr g = 0 := by
  induction l with
  | nil => intro g hg; cases hg
  | cons x l ih =>
    intro g hg
    simp only [ckL] at h
    by_cases hx : gerr x = 0
    · rw [if_pos hx] at h
      rcases List.mem_cons.1 hg with rfl | hg
      · exact hx
      · exact ih h g hg
    · rw [if_neg hx] at h; exact absurd h hx
/-- the units among the first places, and where they are -/
def ust (g : api_Grid) (W w h n : Nat) : Nat → List api_Grid × List Int
  | 0 => ([], [])
  | k + 1 => (if (ust g W w h n k).1.findIdx (fun u => decide (u = prt g W w h (k % n) (k / n))) < (ust g W w h n k).1.length then (ust g W w h n k).1 else (ust g W w h n k).1 ++ [prt g W w h (k % n) (k / n)],
      (ust g W w h n k).2 ++ [(((ust g W w h n k).1.findIdx (fun u => decide (u = prt g W w h (k % n) (k / n))) : Nat) : Int)])
theorem ust_len (g : api_Grid) (W w h n : Nat) (k : Nat) : (ust g W w h n k).1.length ≤ k ∧ (ust g W w h n k).2.length = k := by
  induction k with
  | zero => exact ⟨Nat.le_refl _, rfl⟩
  | succ k ih =>
    constructor
    · simp only [ust]
      split
      · omega
      · simp; omega
    · simp only [ust, List.length_append, ih.2, List.length_cons, List.length_nil]
theorem ust_gr {g : api_Grid} {W w h n : Nat} (w0 : 1 ≤ w) (w1 : w ≤ 64) (h0 : 1 ≤ h) (h1 : h ≤ 64) (k : Nat) : ∀ u, u ∈ (ust g W w h n k).1 → Gr u w h := by
  induction k with
  | zero => intro u hu; cases hu
  | succ k ih =>
    intro u hu
    simp only [ust] at hu
    split at hu
    · exact ih u hu
    · rcases List.mem_append.1 hu with hu | hu
      · exact ih u hu
      · rw [List.mem_singleton] at hu
        subst hu
        exact prt_gr w0 w1 h0 h1
def unitsS (g : api_Grid) (w h : Int) : List api_Grid × List Int × Int :=
  if gerr g = 0 then
    (if 1 ≤ w ∧ 1 ≤ h ∧ g.W % w = 0 ∧ g.H % h = 0 then
      ((ust g g.W.toNat w.toNat h.toNat (g.W.toNat / w.toNat) (g.H.toNat / h.toNat * (g.W.toNat / w.toNat))).1, (ust g g.W.toNat w.toNat h.toNat (g.W.toNat / w.toNat) (g.H.toNat / h.toNat * (g.W.toNat / w.toNat))).2, 0)
    else ([], [], 26))
  else ([], [], gerr g)
theorem tm_dvd {a b : Int} (ha : 0 ≤ a) (hb : 1 ≤ b) : a.tmod b = a % b := Int.tmod_eq_emod_of_nonneg ha
/-- the dimensions of units -/
theorem units_dims {g : api_Grid} {W H : Nat} (G : Gr g W H) {w h : Int} (w1 : 1 ≤ w) (h1 : 1 ≤ h) (e1 : g.W % w = 0) (e2 : g.H % h = 0) :
    ∃ a b n m : Nat, w = a ∧ h = b ∧ 1 ≤ a ∧ 1 ≤ b ∧ W = n * a ∧ H = m * b ∧ W / a = n ∧ H / b = m ∧ 1 ≤ n ∧ 1 ≤ m ∧ n ≤ 64 ∧ m ≤ 64 ∧ a ≤ 64 ∧ b ≤ 64 := by
  obtain ⟨a, rfl⟩ : ∃ a : Nat, w = a := ⟨w.toNat, by omega⟩
  obtain ⟨b, rfl⟩ : ∃ b : Nat, h = b := ⟨h.toNat, by omega⟩
  rw [G.hw, ← Int.natCast_emod] at e1
  rw [G.hh, ← Int.natCast_emod] at e2
  have d1 := pl_of W a
  have d2 := pl_of H b
  have q1 : W / a ≤ W := Nat.div_le_self _ _
  have q2 : H / b ≤ H := Nat.div_le_self _ _
  have := G.w0
  have := G.h0
  have := G.w1
  have := G.h1
  have z1 : W % a = 0 := by omega
  have z2 : H % b = 0 := by omega
  rw [z1, Nat.add_zero] at d1
  rw [z2, Nat.add_zero] at d2
  have p1 : 1 ≤ W / a := by
    rcases Nat.eq_zero_or_pos (W / a) with h0 | h0
    · rw [h0] at d1; omega
    · exact h0
  have p2 : 1 ≤ H / b := by
    rcases Nat.eq_zero_or_pos (H / b) with h0 | h0
    · rw [h0] at d2; omega
    · exact h0
  have a1 : a ≤ W := by rw [← d1]; exact Nat.le_mul_of_pos_left a p1
  have b1 : b ≤ H := by rw [← d2]; exact Nat.le_mul_of_pos_left b p2
  exact ⟨a, b, W / a, H / b, rfl, rfl, by omega, by omega, d1.symm, d2.symm, rfl, rfl, p1, p2, by omega, by omega, by omega, by omega⟩
theorem unit_idx (us : List api_Grid) (p : api_Grid) (hl : us.length ≤ 1000000) (hb : ∀ u, u ∈ us → u.Bits.length ≤ 5000) : F_slices_IndexFunc___api_Grid_api_Grid__s0 us p = some (idxF us fun u => decide (u = p)) := by
  have hw := loop_idx (B := slices_IndexFunc___api_Grid_api_Grid__s0_l1 us p) us (fun u => decide (u = p)) (fun k => .inl (k : Int)) (.inr ()) (fun k hk => by
    have := hb _ (List.getElem_mem hk)
    unfold slices_IndexFunc___api_Grid_api_Grid__s0_l1 F_block_Units_1_s0
    simp only [dT (show (k : Int) < (us.length : Int) by omega), if_true, idxO_nat hk, Option.bind_some, gsame_eq _ _ (show us[k].Bits.length ≤ 9223372036854775807 by omega), w64_succ (show k < 9223372036854775807 by omega)]
    split <;> rfl) (by
    unfold slices_IndexFunc___api_Grid_api_Grid__s0_l1
    simp only [dF (show ¬ (us.length : Int) < (us.length : Int) by omega), Bool.false_eq_true, if_false])
  unfold F_slices_IndexFunc___api_Grid_api_Grid__s0 idxF
  rw [hw]
  by_cases h : us.findIdx (fun u => decide (u = p)) < us.length
  · rw [if_pos h, if_pos h]; rfl
  · rw [if_neg h, if_neg h]; rfl
theorem units_eq (g : api_Grid) (w h : Int) : F_block_Units g w h = some (unitsS g w h) := by
  unfold F_block_Units unitsS
  rw [checked_eq _ (by simp)]
  have hc : ckL [g] = gerr g := by
    simp only [ckL]
    by_cases h : gerr g = 0
    · rw [if_pos h, h]
    · rw [if_neg h]
  rw [hc]
  by_cases h0 : gerr g = 0
  case neg => simp only [Option.bind_some, nT h0, if_true, if_neg h0]
  obtain ⟨W, H, G⟩ := gerr_zero h0
  have := G.w0
  have := G.h0
  simp only [Option.bind_some, nF h0, Bool.false_eq_true, if_false, if_pos h0]
  by_cases h1 : 1 ≤ w
  case neg => rw [if_neg (show ¬ (1 ≤ w ∧ 1 ≤ h ∧ g.W % w = 0 ∧ g.H % h = 0) from fun x => h1 x.1)]; simp only [dT (show w < 1 by omega), if_true, Option.bind_some]
  by_cases h2 : 1 ≤ h
  case neg => rw [if_neg (show ¬ (1 ≤ w ∧ 1 ≤ h ∧ g.W % w = 0 ∧ g.H % h = 0) from fun x => h2 x.2.1)]; simp only [dF (show ¬ w < 1 by omega), dT (show h < 1 by omega), Bool.false_eq_true, if_true, if_false, Option.bind_some]
  have r1 : remI g.W w = some (g.W % w) := by unfold remI; rw [if_neg (by omega), tm_dvd (by rw [G.hw]; omega) h1]
  have r2 : remI g.H h = some (g.H % h) := by unfold remI; rw [if_neg (by omega), tm_dvd (by rw [G.hh]; omega) h2]
  by_cases h3 : g.W % w = 0
  case neg => rw [if_neg (show ¬ (1 ≤ w ∧ 1 ≤ h ∧ g.W % w = 0 ∧ g.H % h = 0) from fun x => h3 x.2.2.1)]; simp only [dF (show ¬ w < 1 by omega), dF (show ¬ h < 1 by omega), r1, nT h3, Bool.false_eq_true, if_true, if_false, Option.bind_some]
  by_cases h4 : g.H % h = 0
  case neg => rw [if_neg (show ¬ (1 ≤ w ∧ 1 ≤ h ∧ g.W % w = 0 ∧ g.H % h = 0) from fun x => h4 x.2.2.2)]; simp only [dF (show ¬ w < 1 by omega), dF (show ¬ h < 1 by omega), r1, r2, nF h3, nT h4, Bool.false_eq_true, if_true, if_false, Option.bind_some]
  rw [if_pos (show 1 ≤ w ∧ 1 ≤ h ∧ g.W % w = 0 ∧ g.H % h = 0 from ⟨h1, h2, h3, h4⟩)]
  simp only [dF (show ¬ w < 1 by omega), dF (show ¬ h < 1 by omega), r1, r2, nF h3, nF h4, Bool.false_eq_true, if_false, Option.bind_some]
  obtain ⟨a, b, n, m, rfl, rfl, a0, b0, eW, eH, dn, dm, n0, m0, n1, m1, a1, b1⟩ := units_dims G h1 h2 h3 h4
  have q1 : quoI g.W (a : Int) = some (n : Int) := by rw [G.hw, quo_nat (by omega) (by have := G.w1; omega), dn]
  have q2 : quoI g.H (b : Int) = some (m : Int) := by rw [G.hh, quo_nat (by omega) (by have := G.h1; omega), dm]
  have hb := loop2 (l1 := fun y => block_Units_l1 (n : Int) g (a : Int) (b : Int) (y : Int)) (l2 := block_Units_l2 (m : Int) g (a : Int) (b : Int))
    (fun y x => ((ust g W a b n (y * n + x)).1, (ust g W a b n (y * n + x)).2, (x : Int))) (fun y => ((ust g W a b n (y * n)).1, (ust g W a b n (y * n)).2, (y : Int))) (fun y => ((ust g W a b n (y * n + n)).1, (ust g W a b n (y * n + n)).2)) n m
    (t := ((ust g W a b n (m * n)).1, (ust g W a b n (m * n)).2))
    (fun y x hy hx => by
      have c1 : x * a + a ≤ W := by have := Nat.mul_le_mul_right a (show x + 1 ≤ n by omega); rw [Nat.add_mul, Nat.one_mul] at this; omega
      have c2 : y * b + b ≤ H := by have := Nat.mul_le_mul_right b (show y + 1 ≤ m by omega); rw [Nat.add_mul, Nat.one_mul] at this; omega
      have hlt := pl_lt hx hy
      have hnm := Nat.mul_le_mul n1 m1
      have hl := ust_len g W a b n (y * n + x)
      have hg := ust_gr (g := g) (W := W) (n := n) a0 a1 b0 b1 (y * n + x)
      unfold block_Units_l1
      simp only [dT (show (x : Int) < (n : Int) by omega), if_true, part_eq G c1 c2 a0 b0, Option.bind_some]
      rw [unit_idx _ _ (by omega) (fun u hu => by
        have hp : a * b ≤ 64 * 64 := Nat.mul_le_mul a1 b1
        rw [(hg u hu).len]; omega)]
      simp only [Option.bind_some]
      rw [show y * n + (x + 1) = y * n + x + 1 from rfl]
      simp only [ust, pl_mod hx, pl_div hx]
      have hf := findIdx_le (ust g W a b n (y * n + x)).1 (fun u => decide (u = prt g W a b x y))
      unfold idxF
      by_cases hc : (ust g W a b n (y * n + x)).1.findIdx (fun u => decide (u = prt g W a b x y)) < (ust g W a b n (y * n + x)).1.length
      · rw [if_pos hc, if_pos hc]
        simp only [dF (show ¬ (((ust g W a b n (y * n + x)).1.findIdx (fun u => decide (u = prt g W a b x y)) : Nat) : Int) < 0 by omega), Bool.false_eq_true, if_false, Option.bind_some]
        rw [appO_of (by simp; omega), Option.bind_some, w64_succ (by omega)]
      · rw [if_neg hc, if_neg hc]
        simp only [dT (show (-1 : Int) < 0 by decide), if_true]
        rw [appO_of (by simp; omega), Option.bind_some, Option.bind_some]
        dsimp only
        rw [appO_of (by simp; omega), Option.bind_some, w64_succ (by omega), show (ust g W a b n (y * n + x)).1.findIdx (fun u => decide (u = prt g W a b x y)) = (ust g W a b n (y * n + x)).1.length by omega])
    (fun y hy => by
      unfold block_Units_l1
      simp only [dF (show ¬ (n : Int) < (n : Int) by omega), Bool.false_eq_true, if_false])
    (fun y hy hl => by
      unfold block_Units_l2
      simp only [dT (show (y : Int) < (m : Int) by omega), if_true, q1, Option.bind_some]
      have e0 : ((ust g W a b n (y * n + 0)).1, (ust g W a b n (y * n + 0)).2, (((0 : Nat) : Int))) = ((ust g W a b n (y * n)).1, (ust g W a b n (y * n)).2, (0 : Int)) := rfl
      rw [e0] at hl
      rw [hl]
      simp only [Option.bind_some, w64_succ (show y < 9223372036854775807 by omega)]
      rw [show (y + 1) * n = y * n + n by rw [Nat.add_mul, Nat.one_mul]])
    (by
      unfold block_Units_l2
      simp only [dF (show ¬ (m : Int) < (m : Int) by omega), Bool.false_eq_true, if_false])
  have e0 : ((ust g W a b n (0 * n)).1, (ust g W a b n (0 * n)).2, ((0 : Nat) : Int)) = (([] : List api_Grid), ([] : List Int), (0 : Int)) := by rw [Nat.zero_mul]; rfl
  rw [e0] at hb
  simp only [q2, Option.bind_some, hb, G.W, G.H, Int.toNat_natCast, dn, dm]
theorem runits_eq (g : api_Grid) (w h : Int) : F_raddleref13_Units g w h = some (unitsS g w h) := by
  unfold F_raddleref13_Units unitsS
  rw [(gcheck_eq g).2]
  by_cases h0 : gerr g = 0
  case neg => simp only [Option.bind_some, nT h0, if_true, if_neg h0]
  obtain ⟨W, H, G⟩ := gerr_zero h0
  have := G.w0
  have := G.h0
  simp only [Option.bind_some, nF h0, Bool.false_eq_true, if_false, if_pos h0]
  by_cases h1 : 1 ≤ w
  case neg => rw [if_neg (show ¬ (1 ≤ w ∧ 1 ≤ h ∧ g.W % w = 0 ∧ g.H % h = 0) from fun x => h1 x.1)]; simp only [dT (show w < 1 by omega), if_true, Option.bind_some]
  by_cases h2 : 1 ≤ h
  case neg => rw [if_neg (show ¬ (1 ≤ w ∧ 1 ≤ h ∧ g.W % w = 0 ∧ g.H % h = 0) from fun x => h2 x.2.1)]; simp only [dF (show ¬ w < 1 by omega), dT (show h < 1 by omega), Bool.false_eq_true, if_true, if_false, Option.bind_some]
  have r1 : remI g.W w = some (g.W % w) := by unfold remI; rw [if_neg (by omega), tm_dvd (by rw [G.hw]; omega) h1]
  have r2 : remI g.H h = some (g.H % h) := by unfold remI; rw [if_neg (by omega), tm_dvd (by rw [G.hh]; omega) h2]
  by_cases h3 : g.W % w = 0
  case neg => rw [if_neg (show ¬ (1 ≤ w ∧ 1 ≤ h ∧ g.W % w = 0 ∧ g.H % h = 0) from fun x => h3 x.2.2.1)]; simp only [dF (show ¬ w < 1 by omega), dF (show ¬ h < 1 by omega), r1, nT h3, Bool.false_eq_true, if_true, if_false, Option.bind_some]
  by_cases h4 : g.H % h = 0
  case neg => rw [if_neg (show ¬ (1 ≤ w ∧ 1 ≤ h ∧ g.W % w = 0 ∧ g.H % h = 0) from fun x => h4 x.2.2.2)]; simp only [dF (show ¬ w < 1 by omega), dF (show ¬ h < 1 by omega), r1, r2, nF h3, nT h4, Bool.false_eq_true, if_true, if_false, Option.bind_some]
  rw [if_pos (show 1 ≤ w ∧ 1 ≤ h ∧ g.W % w = 0 ∧ g.H % h = 0 from ⟨h1, h2, h3, h4⟩)]
  simp only [dF (show ¬ w < 1 by omega), dF (show ¬ h < 1 by omega), r1, r2, nF h3, nF h4, Bool.false_eq_true, if_false, Option.bind_some]
  obtain ⟨a, b, n, m, rfl, rfl, a0, b0, eW, eH, dn, dm, n0, m0, n1, m1, a1, b1⟩ := units_dims G h1 h2 h3 h4
  have q1 : quoI g.W (a : Int) = some (n : Int) := by rw [G.hw, quo_nat (by omega) (by have := G.w1; omega), dn]
  have q2 : quoI g.H (b : Int) = some (m : Int) := by rw [G.hh, quo_nat (by omega) (by have := G.h1; omega), dm]
  have hnm := Nat.mul_le_mul n1 m1
  have hnm2 : m * n = n * m := Nat.mul_comm _ _
  have hb := loop_seq (B := raddleref13_Units_l2 g (a : Int) (b : Int)) (fun k => ((ust g W a b n k).1, (ust g W a b n k).2, (k : Int))) (m * n) (t := ((ust g W a b n (m * n)).1, (ust g W a b n (m * n)).2))
    (fun k hk => by
      have c1 : k % n * a + a ≤ W := by have := Nat.mul_le_mul_right a (show k % n + 1 ≤ n from pl_modlt (by omega)); rw [Nat.add_mul, Nat.one_mul] at this; omega
      have c2 : k / n * b + b ≤ H := by have := Nat.mul_le_mul_right b (show k / n + 1 ≤ m from pl_divlt (by rw [Nat.mul_comm]; exact hk)); rw [Nat.add_mul, Nat.one_mul] at this; omega
      have hl := ust_len g W a b n k
      have hg := ust_gr (g := g) (W := W) (n := n) a0 a1 b0 b1 k
      have hin := loop_idxW (B := raddleref13_Units_l1 (ust g W a b n k).1 (prt g W a b (k % n) (k / n))) (ust g W a b n k).1 (fun u => decide (u = prt g W a b (k % n) (k / n)))
        (fun j hj => by
          have hp : a * b ≤ 64 * 64 := Nat.mul_le_mul a1 b1
          have hbl := (hg _ (List.getElem_mem hj)).len
          unfold raddleref13_Units_l1
          simp only [dT (show (j : Int) < ((ust g W a b n k).1.length : Int) by omega), if_true, idxO_nat hj, Option.bind_some]
          rw [rsame_grid _ _ (by omega)]
          simp only [Option.bind_some, w64_succ (show j < 9223372036854775807 by omega)]
          by_cases e : (ust g W a b n k).1[j] = prt g W a b (k % n) (k / n)
          · rw [dT e]; rfl
          · rw [dF e]; rfl)
        (by
          unfold raddleref13_Units_l1
          simp only [dF (show ¬ ((ust g W a b n k).1.length : Int) < ((ust g W a b n k).1.length : Int) by omega), Bool.false_eq_true, if_false, Option.bind_some])
      unfold raddleref13_Units_l2
      simp only [q1, q2, Option.bind_some]
      rw [wmul (a := n) (b := m) (by omega)]
      simp only [dT (show (k : Int) < ((n * m : Nat) : Int) by omega), if_true, rem_nat (show 0 < n by omega), quo_nat (show 0 < n by omega) (show k ≤ 9223372036854775807 by omega), rpart_eq G c1 c2 a0 b0, Option.bind_some, hin]
      have hf := findIdx_le (ust g W a b n k).1 (fun u => decide (u = prt g W a b (k % n) (k / n)))
      rw [show ust g W a b n (k + 1) = _ from rfl]
      simp only [ust]
      by_cases hc : (ust g W a b n k).1.findIdx (fun u => decide (u = prt g W a b (k % n) (k / n))) < (ust g W a b n k).1.length
      · rw [if_pos hc]
        simp only [bF (show ¬ (((ust g W a b n k).1.findIdx (fun u => decide (u = prt g W a b (k % n) (k / n))) : Nat) : Int) = ((ust g W a b n k).1.length : Int) by omega), Bool.false_eq_true, if_false, Option.bind_some]
        rw [appO_of (by simp; omega), Option.bind_some, Option.bind_some, w64_succ (by omega)]
      · rw [if_neg hc]
        simp only [bT (show (((ust g W a b n k).1.findIdx (fun u => decide (u = prt g W a b (k % n) (k / n))) : Nat) : Int) = ((ust g W a b n k).1.length : Int) by omega), if_true]
        rw [appO_of (by simp; omega), Option.bind_some, Option.bind_some, appO_of (by simp; omega), Option.bind_some, Option.bind_some, w64_succ (by omega)])
    (by
      unfold raddleref13_Units_l2
      simp only [q1, q2, Option.bind_some]
      rw [wmul (a := n) (b := m) (by omega)]
      simp only [dF (show ¬ ((m * n : Nat) : Int) < ((n * m : Nat) : Int) by omega), Bool.false_eq_true, if_false])
  have e0 : ((ust g W a b n 0).1, (ust g W a b n 0).2, ((0 : Nat) : Int)) = (([] : List api_Grid), ([] : List Int), (0 : Int)) := rfl
  rw [e0] at hb
  simp only [hb, Option.bind_some, G.W, G.H, Int.toNat_natCast, dn, dm]

end Go.Proofs.Ythfifeabomdlpaa
namespace Go.Proofs.Ythfifeabomdlpaa
open Go.RowKit
set_option linter.unusedVariables false

end Go.Proofs.Ythfifeabomdlpaa
namespace Go.Proofs.Ythfifeabomdlpaa
open Go.RowKit
set_option linter.unusedVariables false

end Go.Proofs.Ythfifeabomdlpaa
namespace Go.Proofs.Ythfifeabomdlpaa
open Go.RowKit
set_option linter.unusedVariables false

end Go.Proofs.Ythfifeabomdlpaa
namespace Go.Proofs.Ythfifeabomdlpaa
open Go.RowKit
set_option linter.unusedVariables false

end Go.Proofs.Ythfifeabomdlpaa
namespace Go.Proofs.Ythfifeabomdlpaa
open Go.RowKit
set_option linter.unusedVariables false

end Go.Proofs.Ythfifeabomdlpaa
namespace Go.Proofs.Ythfifeabomdlpaa
open Go.RowKit
set_option linter.unusedVariables false

end Go.Proofs.Ythfifeabomdlpaa
namespace Go.Proofs.Ythfifeabomdlpaa
open Go.RowKit
set_option linter.unusedVariables false

end Go.Proofs.Ythfifeabomdlpaa
namespace Go.Proofs.Ythfifeabomdlpaa
open Go.RowKit
set_option linter.unusedVariables false

end Go.Proofs.Ythfifeabomdlpaa
namespace Go.Proofs.Ythfifeabomdlpaa
open Go.RowKit
set_option linter.unusedVariables false

end Go.Proofs.Ythfifeabomdlpaa
namespace Go.Proofs.Ythfifeabomdlpaa
open Go.RowKit
set_option linter.unusedVariables false

end Go.Proofs.Ythfifeabomdlpaa
namespace Go.Proofs.Ythfifeabomdlpaa
open Go.RowKit
set_option linter.unusedVariables false

end Go.Proofs.Ythfifeabomdlpaa
namespace Go.Proofs.Ythfifeabomdlpaa
open Go.RowKit
set_option linter.unusedVariables false

end Go.Proofs.Ythfifeabomdlpaa
namespace Go.Proofs.Ythfifeabomdlpaa
open Go.RowKit
set_option linter.unusedVariables false

end Go.Proofs.Ythfifeabomdlpaa
namespace Go.Proofs.Ythfifeabomdlpaa
open Go.RowKit
set_option linter.unusedVariables false

end Go.Proofs.Ythfifeabomdlpaa
namespace Go.Proofs.Ythfifeabomdlpaa
open Go.RowKit
set_option linter.unusedVariables false

end Go.Proofs.Ythfifeabomdlpaa
namespace Go.Proofs.Ythfifeabomdlpaa
open Go.RowKit
set_option linter.unusedVariables false

end Go.Proofs.Ythfifeabomdlpaa
namespace Go.Proofs.Ythfifeabomdlpaa
open Go.RowKit
set_option linter.unusedVariables false

end Go.Proofs.Ythfifeabomdlpaa
namespace Go.Proofs.Ythfifeabomdlpaa
open Go.RowKit
set_option linter.unusedVariables false

end Go.Proofs.Ythfifeabomdlpaa
namespace Go.Proofs.Ythfifeabomdlpaa
open Go.RowKit
set_option linter.unusedVariables false

end Go.Proofs.Ythfifeabomdlpaa
namespace Go.Proofs.Ythfifeabomdlpaa
open Go.RowKit
set_option linter.unusedVariables false

end Go.Proofs.Ythfifeabomdlpaa
namespace Go.Proofs.Ythfifeabomdlpaa
open Go.RowKit
set_option linter.unusedVariables false

end Go.Proofs.Ythfifeabomdlpaa
namespace Go.Proofs.Ythfifeabomdlpaa
open Go.RowKit
set_option linter.unusedVariables false

def inRg (at_ : List Int) (n : Nat) : Bool := at_.all fun k => decide (0 ≤ k ∧ k < (n : Int))
theorem getD_0 {α : Type} {l : List α} (d : α) (h : 0 < l.length) : idxO l 0 = some (l.getD 0 d) := idxO_D (k := 0) d h
theorem index_eq (l : List Int) (n : Nat) (hl : l.length ≤ 1000000) : F_block_index l (n : Int) = some (inRg l n) := by
  have hw := loop_idx (B := slices_IndexFunc___int_int__s0_l1 l (n : Int)) l (fun k => !decide (0 ≤ k ∧ k < (n : Int))) (fun k => .inl (k : Int)) (.inr ()) (fun k hk => by
    unfold slices_IndexFunc___int_int__s0_l1 F_block_index_1_s0
    simp only [dT (show (k : Int) < (l.length : Int) by omega), if_true, idxO_nat hk, Option.bind_some, w64_succ (show k < 9223372036854775807 by omega)]
    by_cases h1 : l[k] < 0
    · simp only [dT h1, if_true, Option.bind_some, dF (show ¬ (0 ≤ l[k] ∧ l[k] < (n : Int)) by omega), Bool.not_false]
    · by_cases h2 : (n : Int) ≤ l[k]
      · simp only [dF h1, dT h2, Bool.false_eq_true, if_false, if_true, Option.bind_some, dF (show ¬ (0 ≤ l[k] ∧ l[k] < (n : Int)) by omega), Bool.not_false]
      · simp only [dF h1, dF h2, Bool.false_eq_true, if_false, Option.bind_some, dT (show 0 ≤ l[k] ∧ l[k] < (n : Int) by omega), Bool.not_true]) (by
    unfold slices_IndexFunc___int_int__s0_l1
    simp only [dF (show ¬ (l.length : Int) < (l.length : Int) by omega), Bool.false_eq_true, if_false])
  have hi : F_slices_IndexFunc___int_int__s0 l (n : Int) = some (idxF l (fun k => !decide (0 ≤ k ∧ k < (n : Int)))) := by
    unfold F_slices_IndexFunc___int_int__s0 idxF
    rw [hw]
    by_cases h : l.findIdx (fun k => !decide (0 ≤ k ∧ k < (n : Int))) < l.length
    · rw [if_pos h, if_pos h]; rfl
    · rw [if_neg h, if_neg h]; rfl
  unfold F_block_index F_slices_ContainsFunc___int_int__s0
  rw [hi, Option.bind_some, idxF_nn, Option.bind_some]
  congr 1
  unfold inRg
  rw [List.all_eq_not_any_not]

end Go.Proofs.Ythfifeabomdlpaa
namespace Go.Proofs.Ythfifeabomdlpaa
open Go.RowKit
set_option linter.unusedVariables false

def unitAt (us : List api_Grid) (at_ : List Int) (k : Nat) : api_Grid := us.getD (at_.getD k 0).toNat ⟨0, 0, []⟩
def joinf (us : List api_Grid) (at_ : List Int) (w uw uh : Nat) (x y : Nat) : Bool := cell (unitAt us at_ ((y / uh) * w + x / uw)) uw (x % uw) (y % uh)
def sameSz (us : List api_Grid) : Bool := us.all fun u => decide (u.W = (us.getD 0 ⟨0, 0, []⟩).W ∧ u.H = (us.getD 0 ⟨0, 0, []⟩).H)
def joinS (us : List api_Grid) (at_ : List Int) (w : Int) : api_Grid × Int :=
  if us.length = 0 then (⟨0, 0, []⟩, 6)
  else if ckL us = 0 then
    (if sameSz us = true ∧ 1 ≤ w ∧ at_.length ≠ 0 ∧ (at_.length : Int) % w = 0 then
      (if inRg at_ us.length = true then
        (if 64 < w * (us.getD 0 ⟨0, 0, []⟩).W ∨ 64 < (at_.length : Int) / w * (us.getD 0 ⟨0, 0, []⟩).H then (⟨0, 0, []⟩, 4)
        else (gm (joinf us at_ w.toNat (us.getD 0 ⟨0, 0, []⟩).W.toNat (us.getD 0 ⟨0, 0, []⟩).H.toNat) (w.toNat * (us.getD 0 ⟨0, 0, []⟩).W.toNat) (at_.length / w.toNat * (us.getD 0 ⟨0, 0, []⟩).H.toNat), 0))
      else (⟨0, 0, []⟩, 8))
    else (⟨0, 0, []⟩, 26))
  else (⟨0, 0, []⟩, ckL us)
theorem odd_idx (us : List api_Grid) (h0 : 0 < us.length) (hl : us.length ≤ 1000000) : F_slices_ContainsFunc___api_Grid_api_Grid__s0 us us = some (!sameSz us) := by
  have hw := loop_idx (B := slices_IndexFunc___api_Grid_api_Grid__s1_l1 us us) us (fun u => !decide (u.W = (us.getD 0 ⟨0, 0, []⟩).W ∧ u.H = (us.getD 0 ⟨0, 0, []⟩).H)) (fun k => .inl (k : Int)) (.inr ()) (fun k hk => by
    unfold slices_IndexFunc___api_Grid_api_Grid__s1_l1 F_block_Join_1_s0
    simp only [dT (show (k : Int) < (us.length : Int) by omega), if_true, idxO_nat hk, getD_0 ⟨0, 0, []⟩ h0, Option.bind_some, alike_eq, w64_succ (show k < 9223372036854775807 by omega)]
    split <;> rfl) (by
    unfold slices_IndexFunc___api_Grid_api_Grid__s1_l1
    simp only [dF (show ¬ (us.length : Int) < (us.length : Int) by omega), Bool.false_eq_true, if_false])
  have hi : F_slices_IndexFunc___api_Grid_api_Grid__s1 us us = some (idxF us (fun u => !decide (u.W = (us.getD 0 ⟨0, 0, []⟩).W ∧ u.H = (us.getD 0 ⟨0, 0, []⟩).H))) := by
    unfold F_slices_IndexFunc___api_Grid_api_Grid__s1 idxF
    rw [hw]
    by_cases h : us.findIdx (fun u => !decide (u.W = (us.getD 0 ⟨0, 0, []⟩).W ∧ u.H = (us.getD 0 ⟨0, 0, []⟩).H)) < us.length
    · rw [if_pos h, if_pos h]; rfl
    · rw [if_neg h, if_neg h]; rfl
  unfold F_slices_ContainsFunc___api_Grid_api_Grid__s0
  rw [hi, Option.bind_some, idxF_nn]
  congr 1
  unfold sameSz
  rw [List.all_eq_not_any_not, Bool.not_not]
/-- what a join that answers has -/
structure JoinOk (us : List api_Grid) (at_ : List Int) (w uw uh m : Nat) : Prop where
  w0 : 1 ≤ w
  len : at_.length = m * w
  m0 : 1 ≤ m
  gr : ∀ k, k < at_.length → Gr (unitAt us at_ k) uw uh
  u0 : Gr (us.getD 0 ⟨0, 0, []⟩) uw uh
  ix : ∀ k (hk : k < at_.length), idxO us at_[k] = some (unitAt us at_ k)
theorem join_ok {us : List api_Grid} {at_ : List Int} {w : Int} (h0 : ¬ us.length = 0) (h1 : ckL us = 0) (h2 : sameSz us = true) (h3 : 1 ≤ w) (h4 : at_.length ≠ 0) (h5 : (at_.length : Int) % w = 0) (h6 : inRg at_ us.length = true) :
    ∃ n uw uh m : Nat, w = n ∧ JoinOk us at_ n uw uh m ∧ at_.length / n = m := by
  obtain ⟨n, rfl⟩ : ∃ n : Nat, w = n := ⟨w.toNat, by omega⟩
  have hm : us.getD 0 ⟨0, 0, []⟩ ∈ us := by
    rw [List.getD_eq_getElem?_getD, List.getElem?_eq_getElem (by omega)]
    exact List.getElem_mem _
  obtain ⟨uw, uh, U⟩ := gerr_zero (ckL_all h1 _ hm)
  have d := pl_of at_.length n
  have e : at_.length % n = 0 := by rw [← Int.natCast_emod] at h5; omega
  rw [e, Nat.add_zero] at d
  have hall : ∀ u, u ∈ us → Gr u uw uh := by
    intro u hu
    obtain ⟨a, b, A⟩ := gerr_zero (ckL_all h1 u hu)
    have := of_decide_eq_true (List.all_eq_true.1 h2 u hu)
    have q1 := A.hw
    have q2 := A.hh
    have q3 := U.hw
    have q4 := U.hh
    obtain ⟨rfl, rfl⟩ : a = uw ∧ b = uh := by omega
    exact A
  have hix : ∀ k (hk : k < at_.length), 0 ≤ at_[k] ∧ at_[k] < (us.length : Int) := fun k hk => of_decide_eq_true (List.all_eq_true.1 h6 _ (List.getElem_mem hk))
  have hun : ∀ k (hk : k < at_.length), ∃ hj : at_[k].toNat < us.length, unitAt us at_ k = us[at_[k].toNat] := by
    intro k hk
    have := hix k hk
    refine ⟨by omega, ?_⟩
    unfold unitAt
    rw [List.getD_eq_getElem?_getD (l := at_), List.getElem?_eq_getElem hk, Option.getD_some, List.getD_eq_getElem?_getD, List.getElem?_eq_getElem (by omega), Option.getD_some]
  refine ⟨n, uw, uh, at_.length / n, rfl, ⟨by omega, d.symm, ?_, ?_, U, ?_⟩, rfl⟩
  · rcases Nat.eq_zero_or_pos (at_.length / n) with hz | hz
    · rw [hz, Nat.zero_mul] at d; omega
    · exact hz
  · intro k hk
    obtain ⟨hj, e⟩ := hun k hk
    rw [e]
    exact hall _ (List.getElem_mem hj)
  · intro k hk
    have := hix k hk
    obtain ⟨hj, e⟩ := hun k hk
    rw [e]
    exact idxO_of (by omega) hj
theorem join_eq (us : List api_Grid) (at_ : List Int) (w : Int) (hu : us.length ≤ 1000000) (ha : at_.length ≤ 1000000) : F_block_Join us at_ w = some (joinS us at_ w) := by
  unfold F_block_Join joinS
  by_cases h0 : us.length = 0
  · rw [if_pos h0]; simp only [bT (show (us.length : Int) = 0 by omega), if_true]
  rw [if_neg h0, checked_eq _ (by omega)]
  simp only [bF (show ¬ (us.length : Int) = 0 by omega), Bool.false_eq_true, if_false, Option.bind_some]
  by_cases h1 : ckL us = 0
  case neg => rw [if_neg h1]; simp only [nT h1, if_true]
  rw [if_pos h1]
  simp only [nF h1, Bool.false_eq_true, if_false, odd_idx us (by omega) hu, Option.bind_some]
  by_cases h2 : sameSz us = true
  case neg => rw [if_neg (show ¬ (sameSz us = true ∧ 1 ≤ w ∧ at_.length ≠ 0 ∧ (at_.length : Int) % w = 0) from fun x => h2 x.1)]; simp only [h2, Bool.not_false, if_true, Option.bind_some]
  by_cases h3 : 1 ≤ w
  case neg => rw [if_neg (show ¬ (sameSz us = true ∧ 1 ≤ w ∧ at_.length ≠ 0 ∧ (at_.length : Int) % w = 0) from fun x => h3 x.2.1)]; simp only [h2, Bool.not_true, Bool.false_eq_true, if_false, dT (show w < 1 by omega), if_true, Option.bind_some]
  by_cases h4 : at_.length ≠ 0
  case neg => rw [if_neg (show ¬ (sameSz us = true ∧ 1 ≤ w ∧ at_.length ≠ 0 ∧ (at_.length : Int) % w = 0) from fun x => h4 x.2.2.1)]; simp only [h2, Bool.not_true, Bool.false_eq_true, if_false, dF (show ¬ w < 1 by omega), bT (show (at_.length : Int) = 0 by omega), if_true, Option.bind_some]
  have r1 : remI (at_.length : Int) w = some ((at_.length : Int) % w) := by unfold remI; rw [if_neg (by omega), tm_dvd (by omega) h3]
  by_cases h5 : (at_.length : Int) % w = 0
  case neg => rw [if_neg (show ¬ (sameSz us = true ∧ 1 ≤ w ∧ at_.length ≠ 0 ∧ (at_.length : Int) % w = 0) from fun x => h5 x.2.2.2)]; simp only [h2, Bool.not_true, Bool.false_eq_true, if_false, dF (show ¬ w < 1 by omega), bF (show ¬ (at_.length : Int) = 0 by omega), r1, nT h5, if_true, Option.bind_some]
  rw [if_pos (show sameSz us = true ∧ 1 ≤ w ∧ at_.length ≠ 0 ∧ (at_.length : Int) % w = 0 from ⟨h2, h3, h4, h5⟩)]
  simp only [h2, Bool.not_true, Bool.false_eq_true, if_false, dF (show ¬ w < 1 by omega), bF (show ¬ (at_.length : Int) = 0 by omega), r1, nF h5, Option.bind_some, index_eq at_ us.length ha]
  by_cases h6 : inRg at_ us.length = true
  case neg => rw [if_neg h6]; simp only [h6, Bool.not_false, if_true]
  rw [if_pos h6]
  obtain ⟨n, uw, uh, m, rfl, J, hm⟩ := join_ok h0 h1 h2 h3 h4 h5 h6
  have n0 := J.w0
  have m0 := J.m0
  have U := J.u0
  have q1 : quoI (at_.length : Int) (n : Int) = some (m : Int) := by rw [quo_nat (by omega) (by omega), hm]
  have hd : (at_.length : Int) / (n : Int) = (m : Int) := by rw [← Int.natCast_ediv, hm]
  have uw0 := U.w0
  have uh0 := U.h0
  have uw1 := U.w1
  have uh1 := U.h1
  have hn1 : n ≤ 1000000 := Nat.le_trans (by rw [J.len]; exact Nat.le_mul_of_pos_left n m0) ha
  have hm1 : m ≤ 1000000 := Nat.le_trans (by rw [J.len]; exact Nat.le_mul_of_pos_right m n0) ha
  have p1 : n * uw ≤ 1000000 * 64 := Nat.mul_le_mul hn1 uw1
  have p2 : m * uh ≤ 1000000 * 64 := Nat.mul_le_mul hm1 uh1
  have g1 : n ≤ n * uw := Nat.le_mul_of_pos_right n uw0
  have g2 : m ≤ m * uh := Nat.le_mul_of_pos_right m uh0
  have e3 : (n : Int) * (us.getD 0 ⟨0, 0, []⟩).W = ((n * uw : Nat) : Int) := by rw [U.hw, Int.natCast_mul]
  have e4 : (m : Int) * (us.getD 0 ⟨0, 0, []⟩).H = ((m * uh : Nat) : Int) := by rw [U.hh, Int.natCast_mul]
  have e5 : w64 ((n : Int) * (us.getD 0 ⟨0, 0, []⟩).W) = ((n * uw : Nat) : Int) := by rw [U.hw]; exact wmul (by omega)
  have e6 : w64 ((m : Int) * (us.getD 0 ⟨0, 0, []⟩).H) = ((m * uh : Nat) : Int) := by rw [U.hh]; exact wmul (by omega)
  rw [hd, e3, e4, Int.toNat_natCast, hm, U.W, U.H]
  simp only [h6, Bool.not_true, Bool.false_eq_true, if_false, q1, getD_0 ⟨0, 0, []⟩ (show 0 < us.length by omega), Option.bind_some, e5, e6, Int.toNat_natCast]
  by_cases h7 : (64 : Int) < ((n * uw : Nat) : Int) ∨ (64 : Int) < ((m * uh : Nat) : Int)
  · rw [if_pos h7]
    have hz : F_block_zero_s0 ((n * uw : Nat) : Int) ((m * uh : Nat) : Int) = some (⟨0, 0, []⟩, 4) := by
      unfold F_block_zero_s0
      by_cases h3 : (64 : Int) < ((n * uw : Nat) : Int)
      · simp only [dT h3, if_true, Option.bind_some]
      · simp only [dF h3, dT (show (64 : Int) < ((m * uh : Nat) : Int) by omega), Bool.false_eq_true, if_true, if_false, Option.bind_some]
    by_cases h8 : (64 : Int) < (n : Int)
    · simp only [dT h8, if_true, Option.bind_some]
    · by_cases h9 : (64 : Int) < (m : Int)
      · simp only [dF h8, dT h9, Bool.false_eq_true, if_false, if_true, Option.bind_some]
      · simp only [dF h8, dF h9, Bool.false_eq_true, if_false, Option.bind_some, hz, nT (show ¬ (4 : Int) = 0 by decide), if_true]
  · rw [if_neg h7]
    have hq : n * uw * (m * uh) ≤ 64 * 64 := Nat.mul_le_mul (by omega) (by omega)
    have hz : F_block_zero_s0 ((n * uw : Nat) : Int) ((m * uh : Nat) : Int) = some (⟨((n * uw : Nat) : Int), ((m * uh : Nat) : Int), List.replicate (n * uw * (m * uh)) false⟩, 0) := by
      unfold F_block_zero_s0
      simp only [dF (show ¬ (64 : Int) < ((n * uw : Nat) : Int) by omega), dF (show ¬ (64 : Int) < ((m * uh : Nat) : Int) by omega), Bool.false_eq_true, if_false, Option.bind_some]
      rw [wmul (by omega), makeO_of (k := n * uw * (m * uh)) rfl (by omega)]
      rfl
    have hlen : n * m = at_.length := by rw [J.len, Nat.mul_comm]
    generalize hR : ((⟨((n * uw : Nat) : Int), ((m * uh : Nat) : Int), List.replicate (n * uw * (m * uh)) false⟩ : api_Grid), (0 : Int)) = R at hz
    have rW : R.1.W = ((n * uw : Nat) : Int) := by rw [← hR]
    have rH : R.1.H = ((m * uh : Nat) : Int) := by rw [← hR]
    have rB : R.1.Bits = List.replicate (n * uw * (m * uh)) false := by rw [← hR]
    have rE : R.2 = 0 := by rw [← hR]
    have hb := puts_eq (Bd := block_Join_l1 at_ us (n : Int) R) (pw := n) (ph := m) (uw := uw) (uh := uh) n0 (unitAt us at_) (fun k hk => J.gr k (by omega)) (by omega) (by omega) (Nat.le_trans (Nat.mul_le_mul (show n ≤ 64 by omega) (show m ≤ 64 by omega)) (by decide)) ((m * uh : Nat) : Int)
      (fun k s hk => by
        have hk2 : k < at_.length := by omega
        unfold block_Join_l1
        simp only [dT (show (k : Int) < (at_.length : Int) by omega), if_true, idxO_nat hk2, Option.bind_some, J.ix k hk2, rem_nat (show 0 < n by omega), quo_nat (show 0 < n by omega) (show k ≤ 9223372036854775807 by omega), rW, rH])
      (fun s => by
        unfold block_Join_l1
        simp only [dF (show ¬ ((n * m : Nat) : Int) < (at_.length : Int) by omega), Bool.false_eq_true, if_false])
    simp only [dF (show ¬ (64 : Int) < (n : Int) by omega), dF (show ¬ (64 : Int) < (m : Int) by omega), Bool.false_eq_true, if_false, Option.bind_some, hz, rE, rB, bne_self_eq_false, hb, rW, rH]
    rfl
theorem rjoin_eq (us : List api_Grid) (at_ : List Int) (w : Int) (hu : us.length ≤ 1000000) (ha : at_.length ≤ 1000000) : F_raddleref13_Join us at_ w = some (joinS us at_ w) := by
  unfold F_raddleref13_Join joinS
  by_cases h0 : us.length = 0
  · rw [if_pos h0]; simp only [bT (show (us.length : Int) = 0 by omega), if_true]
  rw [if_neg h0]
  simp only [bF (show ¬ (us.length : Int) = 0 by omega), Bool.false_eq_true, if_false]
  have hw1 : whileO (raddleref13_Join_l1 us) 0 = some ((us.findSome? fun g => if gerr g = 0 then none else some (Sum.inl (β := Unit) ((⟨0, 0, []⟩ : api_Grid), gerr g))).getD (.inr ())) := by
    refine loop_list us _ _ (fun k hk => ?_) ?_
    · unfold raddleref13_Join_l1
      simp only [dT (show (k : Int) < (us.length : Int) by omega), if_true, idxO_nat hk, Option.bind_some, (gcheck_eq _).2, w64_succ (show k < 9223372036854775807 by omega)]
      by_cases h : gerr us[k] = 0
      · rw [nF h, if_pos h]; rfl
      · rw [nT h, if_neg h]; rfl
    · unfold raddleref13_Join_l1
      simp only [dF (show ¬ (us.length : Int) < (us.length : Int) by omega), Bool.false_eq_true, if_false]
  have hc : ∀ l : List api_Grid, (l.findSome? fun g => if gerr g = 0 then none else some (Sum.inl (β := Unit) ((⟨0, 0, []⟩ : api_Grid), gerr g))).getD (.inr ()) = if ckL l = 0 then .inr () else .inl (⟨0, 0, []⟩, ckL l) := by
    intro l
    induction l with
    | nil => rfl
    | cons g l ih =>
      rw [List.findSome?_cons]
      by_cases h : gerr g = 0
      · rw [if_pos h]; simp only [ckL, if_pos h]; exact ih
      · rw [if_neg h]; simp only [ckL, if_neg h, Option.getD_some]
  rw [hw1, hc us]
  by_cases h1 : ckL us = 0
  case neg => rw [if_neg h1, if_neg h1]; rfl
  rw [if_pos h1, if_pos h1]
  simp only [Option.bind_some, getD_0 ⟨0, 0, []⟩ (show 0 < us.length by omega)]
  have hw2 : whileO (raddleref13_Join_l2 us (us.getD 0 ⟨0, 0, []⟩)) 0 = some (if sameSz us = true then .inr () else .inl (⟨0, 0, []⟩, 26)) := by
    refine loop_allL us _ _ _ (fun k hk => ?_) ?_
    · unfold raddleref13_Join_l2
      simp only [dT (show (k : Int) < (us.length : Int) by omega), if_true, idxO_nat hk, Option.bind_some, w64_succ (show k < 9223372036854775807 by omega)]
      by_cases c1 : us[k].W = (us.getD 0 ⟨0, 0, []⟩).W
      · by_cases c2 : us[k].H = (us.getD 0 ⟨0, 0, []⟩).H
        · rw [nF c1, nF c2, dT (show us[k].W = (us.getD 0 ⟨0, 0, []⟩).W ∧ us[k].H = (us.getD 0 ⟨0, 0, []⟩).H from ⟨c1, c2⟩)]; rfl
        · rw [nF c1, nT c2, dF (show ¬ (us[k].W = (us.getD 0 ⟨0, 0, []⟩).W ∧ us[k].H = (us.getD 0 ⟨0, 0, []⟩).H) from fun x => c2 x.2)]; rfl
      · rw [nT c1, dF (show ¬ (us[k].W = (us.getD 0 ⟨0, 0, []⟩).W ∧ us[k].H = (us.getD 0 ⟨0, 0, []⟩).H) from fun x => c1 x.1)]; rfl
    · unfold raddleref13_Join_l2
      simp only [dF (show ¬ (us.length : Int) < (us.length : Int) by omega), Bool.false_eq_true, if_false]
  rw [hw2]
  by_cases h2 : sameSz us = true
  case neg => rw [if_neg h2, if_neg (show ¬ (sameSz us = true ∧ 1 ≤ w ∧ at_.length ≠ 0 ∧ (at_.length : Int) % w = 0) from fun x => h2 x.1)]; rfl
  rw [if_pos h2]
  simp only [Option.bind_some]
  by_cases h3 : 1 ≤ w
  case neg => rw [if_neg (show ¬ (sameSz us = true ∧ 1 ≤ w ∧ at_.length ≠ 0 ∧ (at_.length : Int) % w = 0) from fun x => h3 x.2.1)]; simp only [dT (show w < 1 by omega), if_true, Option.bind_some]
  by_cases h4 : at_.length ≠ 0
  case neg => rw [if_neg (show ¬ (sameSz us = true ∧ 1 ≤ w ∧ at_.length ≠ 0 ∧ (at_.length : Int) % w = 0) from fun x => h4 x.2.2.1)]; simp only [dF (show ¬ w < 1 by omega), bT (show (at_.length : Int) = 0 by omega), Bool.false_eq_true, if_false, if_true, Option.bind_some]
  have r1 : remI (at_.length : Int) w = some ((at_.length : Int) % w) := by unfold remI; rw [if_neg (by omega), tm_dvd (by omega) h3]
  by_cases h5 : (at_.length : Int) % w = 0
  case neg => rw [if_neg (show ¬ (sameSz us = true ∧ 1 ≤ w ∧ at_.length ≠ 0 ∧ (at_.length : Int) % w = 0) from fun x => h5 x.2.2.2)]; simp only [dF (show ¬ w < 1 by omega), bF (show ¬ (at_.length : Int) = 0 by omega), r1, nT h5, Bool.false_eq_true, if_false, if_true, Option.bind_some]
  rw [if_pos (show sameSz us = true ∧ 1 ≤ w ∧ at_.length ≠ 0 ∧ (at_.length : Int) % w = 0 from ⟨h2, h3, h4, h5⟩)]
  simp only [Bool.false_eq_true, if_false, dF (show ¬ w < 1 by omega), bF (show ¬ (at_.length : Int) = 0 by omega), r1, nF h5, Option.bind_some]
  have hw3 : whileO (raddleref13_Join_l3 at_ us) 0 = some (if inRg at_ us.length = true then .inr () else .inl (⟨0, 0, []⟩, 8)) := by
    refine loop_allL at_ _ _ _ (fun k hk => ?_) ?_
    · unfold raddleref13_Join_l3
      simp only [dT (show (k : Int) < (at_.length : Int) by omega), if_true, idxO_nat hk, Option.bind_some, w64_succ (show k < 9223372036854775807 by omega)]
      by_cases c1 : at_[k] < 0
      · simp only [dT c1, if_true, Option.bind_some, dF (show ¬ (0 ≤ at_[k] ∧ at_[k] < (us.length : Int)) by omega), Bool.false_eq_true, if_false]
      · by_cases c2 : (us.length : Int) ≤ at_[k]
        · simp only [dF c1, dT c2, Bool.false_eq_true, if_false, if_true, Option.bind_some, dF (show ¬ (0 ≤ at_[k] ∧ at_[k] < (us.length : Int)) by omega)]
        · simp only [dF c1, dF c2, Bool.false_eq_true, if_false, Option.bind_some, dT (show 0 ≤ at_[k] ∧ at_[k] < (us.length : Int) by omega), if_true]
    · unfold raddleref13_Join_l3
      simp only [dF (show ¬ (at_.length : Int) < (at_.length : Int) by omega), Bool.false_eq_true, if_false]
  rw [hw3]
  by_cases h6 : inRg at_ us.length = true
  case neg => rw [if_neg h6, if_neg h6]; rfl
  rw [if_pos h6, if_pos h6]
  obtain ⟨n, uw, uh, m, rfl, J, hm⟩ := join_ok h0 h1 h2 h3 h4 h5 h6
  have n0 := J.w0
  have m0 := J.m0
  have U := J.u0
  have q1 : quoI (at_.length : Int) (n : Int) = some (m : Int) := by rw [quo_nat (by omega) (by omega), hm]
  have hd : (at_.length : Int) / (n : Int) = (m : Int) := by rw [← Int.natCast_ediv, hm]
  have uw0 := U.w0
  have uh0 := U.h0
  have uw1 := U.w1
  have uh1 := U.h1
  have hn1 : n ≤ 1000000 := Nat.le_trans (by rw [J.len]; exact Nat.le_mul_of_pos_left n m0) ha
  have hm1 : m ≤ 1000000 := Nat.le_trans (by rw [J.len]; exact Nat.le_mul_of_pos_right m n0) ha
  have p1 : n * uw ≤ 1000000 * 64 := Nat.mul_le_mul hn1 uw1
  have p2 : m * uh ≤ 1000000 * 64 := Nat.mul_le_mul hm1 uh1
  have e3 : (n : Int) * (us.getD 0 ⟨0, 0, []⟩).W = ((n * uw : Nat) : Int) := by rw [U.hw, Int.natCast_mul]
  have e4 : (m : Int) * (us.getD 0 ⟨0, 0, []⟩).H = ((m * uh : Nat) : Int) := by rw [U.hh, Int.natCast_mul]
  have e5 : w64 ((n : Int) * (us.getD 0 ⟨0, 0, []⟩).W) = ((n * uw : Nat) : Int) := by rw [U.hw]; exact wmul (by omega)
  have e6 : w64 ((m : Int) * (us.getD 0 ⟨0, 0, []⟩).H) = ((m * uh : Nat) : Int) := by rw [U.hh]; exact wmul (by omega)
  have q2 : quoI 64 (us.getD 0 ⟨0, 0, []⟩).W = some ((64 / uw : Nat) : Int) := by rw [U.hw]; exact quo_nat (a := 64) (by omega) (by decide)
  have q3 : quoI 64 (us.getD 0 ⟨0, 0, []⟩).H = some ((64 / uh : Nat) : Int) := by rw [U.hh]; exact quo_nat (a := 64) (by omega) (by decide)
  have k1 : n ≤ 64 / uw ↔ n * uw ≤ 64 := Nat.le_div_iff_mul_le (by omega)
  have k2 : m ≤ 64 / uh ↔ m * uh ≤ 64 := Nat.le_div_iff_mul_le (by omega)
  generalize 64 / uw = t1 at q2 k1
  generalize 64 / uh = t2 at q3 k2
  rw [hd, e3, e4, Int.toNat_natCast, hm, U.W, U.H]
  have e7 : w64 ((n * uw : Nat) : Int) = ((n * uw : Nat) : Int) := w64_of (by omega) (by omega)
  simp only [q1, q2, q3, Option.bind_some, e5, e6, e7, Int.toNat_natCast]
  by_cases h7 : (64 : Int) < ((n * uw : Nat) : Int) ∨ (64 : Int) < ((m * uh : Nat) : Int)
  · rw [if_pos h7]
    by_cases h8 : (t1 : Int) < (n : Int)
    · simp only [dT h8, if_true, Option.bind_some]
    · simp only [dF h8, dT (show (t2 : Int) < (m : Int) by omega), Bool.false_eq_true, if_false, if_true, Option.bind_some]
  · rw [if_neg h7]
    simp only [dF (show ¬ (t1 : Int) < (n : Int) by omega), dF (show ¬ (t2 : Int) < (m : Int) by omega), Bool.false_eq_true, if_false, Option.bind_some]
    rw [rzero_eq (by omega) (by omega)]
    generalize hZ : (⟨((n * uw : Nat) : Int), ((m * uh : Nat) : Int), List.replicate (n * uw * (m * uh)) false⟩ : api_Grid) = Z
    simp only [Option.bind_some]
    have zW : Z.W = ((n * uw : Nat) : Int) := by rw [← hZ]
    have zH : Z.H = ((m * uh : Nat) : Int) := by rw [← hZ]
    have zB : Z.Bits = List.replicate (n * uw * (m * uh)) false := by rw [← hZ]
    have hb := sets_eq (l1 := fun y => raddleref13_Join_l4 Z y (us.getD 0 ⟨0, 0, []⟩) at_ (n : Int) us) (l2 := raddleref13_Join_l5 Z (us.getD 0 ⟨0, 0, []⟩) at_ (n : Int) us) (joinf us at_ n uw uh) (n * uw) (m * uh) (by omega) (by omega)
      (fun y x s hy hx hl => by
        have c1 : x / uw < n := pl_divlt (by rw [Nat.mul_comm]; exact hx)
        have c2 : y / uh < m := pl_divlt (by rw [Nat.mul_comm]; exact hy)
        have c3 : x % uw < uw := pl_modlt (by omega)
        have c4 : y % uh < uh := pl_modlt (by omega)
        have c5 : (y / uh) * n + x / uw < at_.length := by rw [J.len, Nat.mul_comm m n]; exact pl_lt c1 c2
        have c6 : (y / uh) * n ≤ at_.length := Nat.le_trans (Nat.le_add_right _ _) (Nat.le_of_lt c5)
        have f1 : w64 (((y / uh : Nat) : Int) * (n : Int)) = (((y / uh) * n : Nat) : Int) := wmul (by omega)
        have f2 : w64 ((((y / uh) * n : Nat) : Int) + ((x / uw : Nat) : Int)) = (((y / uh) * n + x / uw : Nat) : Int) := wadd (by omega)
        unfold raddleref13_Join_l4
        simp only [zW, zH, dT (show (x : Int) < ((n * uw : Nat) : Int) by omega), if_true]
        rw [U.hw, U.hh]
        simp only [quo_nat (show 0 < uw by omega) (show x ≤ 9223372036854775807 by omega), quo_nat (show 0 < uh by omega) (show y ≤ 9223372036854775807 by omega), rem_nat (show 0 < uw by omega), rem_nat (show 0 < uh by omega), Option.bind_some, f1, f2, idxO_nat c5, J.ix _ c5,
          rat_eq (J.gr _ c5) c3 c4, rset_eq (w := n * uw) (h := m * uh) (by omega) (by omega) hl hx hy, w64_succ (show x < 9223372036854775807 by omega)]
        rfl)
      (fun y s => by
        unfold raddleref13_Join_l4
        simp only [zW, dF (show ¬ ((n * uw : Nat) : Int) < ((n * uw : Nat) : Int) by omega), Bool.false_eq_true, if_false])
      (fun y s t hy ht => by
        unfold raddleref13_Join_l5
        simp only [zH, dT (show (y : Int) < ((m * uh : Nat) : Int) by omega), if_true, ht, Option.bind_some, w64_succ (show y < 9223372036854775807 by omega)])
      (fun s => by
        unfold raddleref13_Join_l5
        simp only [zH, dF (show ¬ ((m * uh : Nat) : Int) < ((m * uh : Nat) : Int) by omega), Bool.false_eq_true, if_false])
    simp only [zW, zH, zB, hb, Option.bind_some]
    rfl

end Go.Proofs.Ythfifeabomdlpaa
namespace Go.Proofs.Ythfifeabomdlpaa
open Go.RowKit
set_option linter.unusedVariables false

theorem samegrids_self (l : List api_Grid) (hl : l.length ≤ 1000000) (hb : ∀ u, u ∈ l → u.Bits.length ≤ 9223372036854775807) : F_raddleref13_SameGrids l l = some true := by
  have hw : whileO (raddleref13_SameGrids_l1 l l) 0 = some (.inr ()) := by
    refine loop_same l.length _ (fun k hk => ?_) ?_
    · unfold raddleref13_SameGrids_l1
      simp only [dT (show (k : Int) < (l.length : Int) by omega), if_true, idxO_nat hk, Option.bind_some, rsame_grid _ _ (hb _ (List.getElem_mem hk)), decide_true, Bool.not_true, Bool.false_eq_true, if_false, w64_succ (show k < 9223372036854775807 by omega)]
    · unfold raddleref13_SameGrids_l1
      simp only [dF (show ¬ (l.length : Int) < (l.length : Int) by omega), Bool.false_eq_true, if_false]
  unfold F_raddleref13_SameGrids
  simp only [bne_self_eq_false, Bool.false_eq_true, if_false, hw, Option.bind_some]
theorem rsame_ints (a b : List Int) (hl : a.length ≤ 9223372036854775807) : F_raddleref02_Same a b = some (decide (a = b)) := by
  by_cases h3 : (a.length : Int) = (b.length : Int)
  case neg => unfold F_raddleref02_Same; simp only [nT h3, if_true]; rw [decide_eq_false]; rintro rfl; exact h3 rfl
  have hw : whileO (raddleref02_Same_l1 a b) 0 = some (if a = b then .inr () else .inl false) := by
    refine loop_eql a b (by omega) _ _ (fun k hk => ?_) ?_
    · unfold raddleref02_Same_l1
      simp only [dT (show (k : Int) < (a.length : Int) by omega), if_true, idxO_nat hk, idxO_nat (xs := b) (k := k) (by omega), Option.bind_some, w64_succ (show k < 9223372036854775807 by omega)]
      by_cases e : a[k] = b[k]'(by omega)
      · rw [if_pos e, e]; simp
      · rw [if_neg e, if_pos (by simpa using e)]
    · unfold raddleref02_Same_l1; simp
  unfold F_raddleref02_Same
  simp only [nF h3, Bool.false_eq_true, if_false, Option.bind_some, hw]
  by_cases e : a = b
  · rw [if_pos e]; simp [e]
  · rw [if_neg e]; simp [e]
theorem unitsS_bd (g : api_Grid) (w h : Int) : (unitsS g w h).1.length ≤ 1000000 ∧ (unitsS g w h).2.1.length ≤ 1000000 ∧ ∀ u, u ∈ (unitsS g w h).1 → u.Bits.length ≤ 9223372036854775807 := by
  unfold unitsS
  by_cases h0 : gerr g = 0
  case neg => rw [if_neg h0]; exact ⟨by simp, by simp, fun u hu => by cases hu⟩
  rw [if_pos h0]
  split
  · rename_i hc
    obtain ⟨W, H, G⟩ := gerr_zero h0
    obtain ⟨a, b, n, m, rfl, rfl, a0, b0, eW, eH, dn, dm, n0, m0, n1, m1, a1, b1⟩ := units_dims G hc.1 hc.2.1 hc.2.2.1 hc.2.2.2
    have hnm := Nat.mul_le_mul m1 n1
    have hl := ust_len g W a b n (m * n)
    simp only [G.W, G.H, Int.toNat_natCast, dn, dm]
    refine ⟨by omega, by omega, fun u hu => ?_⟩
    have hp : a * b ≤ 64 * 64 := Nat.mul_le_mul a1 b1
    rw [(ust_gr a0 a1 b0 b1 _ u hu).len]
    omega
  · exact ⟨by simp, by simp, fun u hu => by cases hu⟩
theorem joinS_bd (us : List api_Grid) (at_ : List Int) (w : Int) : (joinS us at_ w).1.Bits.length ≤ 9223372036854775807 := by
  have hz : (⟨0, 0, []⟩ : api_Grid).Bits.length ≤ 9223372036854775807 := by decide
  unfold joinS
  by_cases h0 : us.length = 0
  · rw [if_pos h0]; exact hz
  rw [if_neg h0]
  by_cases h1 : ckL us = 0
  case neg => rw [if_neg h1]; exact hz
  rw [if_pos h1]
  split
  · rename_i hc
    split
    · rename_i h6
      obtain ⟨n, uw, uh, m, rfl, J, hm⟩ := join_ok h0 h1 hc.1 hc.2.1 hc.2.2.1 hc.2.2.2 h6
      have U := J.u0
      have hd : (at_.length : Int) / (n : Int) = (m : Int) := by rw [← Int.natCast_ediv, hm]
      have e3 : (n : Int) * (us.getD 0 ⟨0, 0, []⟩).W = ((n * uw : Nat) : Int) := by rw [U.hw, Int.natCast_mul]
      have e4 : (m : Int) * (us.getD 0 ⟨0, 0, []⟩).H = ((m * uh : Nat) : Int) := by rw [U.hh, Int.natCast_mul]
      rw [hd, e3, e4, Int.toNat_natCast, hm, U.W, U.H]
      split
      · exact hz
      · rename_i h7
        have := Nat.mul_le_mul (show n * uw ≤ 64 by omega) (show m * uh ≤ 64 by omega)
        simp only [gm, gl_len, Int.toNat_natCast]
        omega
    · exact hz
  · exact hz
theorem greats_eq (l : List api_Grid) (hl : l.length ≤ 9223372036854775807) : F_raddleref13_GreatGrids l = some (if l.all (fun g => !decide (4200 < g.Bits.length)) = true then decide (20 < l.length) else true) := by
  have hw : whileO (raddleref13_GreatGrids_l1 l) 0 = some (if l.all (fun g => !decide (4200 < g.Bits.length)) = true then .inr () else .inl true) := by
    refine loop_allL l _ _ _ (fun k hk => ?_) ?_
    · unfold raddleref13_GreatGrids_l1
      simp only [dT (show (k : Int) < (l.length : Int) by omega), if_true, idxO_nat hk, Option.bind_some, rgreat_eq, w64_succ (show k < 9223372036854775807 by omega)]
      by_cases h : 4200 < l[k].Bits.length
      · simp only [dT h, if_true, Bool.not_true, Bool.false_eq_true, if_false]
      · simp only [dF h, Bool.false_eq_true, if_false, Bool.not_false, if_true]
    · unfold raddleref13_GreatGrids_l1
      simp only [dF (show ¬ (l.length : Int) < (l.length : Int) by omega), Bool.false_eq_true, if_false]
  unfold F_raddleref13_GreatGrids
  rw [hw]
  by_cases h : l.all (fun g => !decide (4200 < g.Bits.length)) = true
  · rw [if_pos h, if_pos h]
    simp only [Option.bind_some]
    congr 1
    exact decide_eq_decide.2 (by omega)
  · rw [if_neg h, if_neg h]
    rfl
theorem law_BlockParts (g : api_Grid) (w h : Int) (us : List api_Grid) (at_ : List Int) (wg : wf_api_Grid g) (ww : InK .i64 w) (wh : InK .i64 h) (wu : Wl wf_api_Grid us) (wa : Wl (InK .i64) at_) : F_raddlelaw13_BlockParts g w h us at_ = some true := by
  unfold F_raddlelaw13_BlockParts
  simp only [rgreat_eq, greats_eq us wu.1, Option.bind_some]
  by_cases h1 : 4200 < g.Bits.length
  · simp only [dT h1, if_true, Option.bind_some]
  by_cases h2 : (if us.all (fun g => !decide (4200 < g.Bits.length)) = true then decide (20 < us.length) else true) = true
  · simp only [dF h1, h2, Bool.false_eq_true, if_false, if_true, Option.bind_some]
  by_cases h3 : (200 : Int) < (at_.length : Int)
  · simp only [dF h1, h2, dT h3, Bool.false_eq_true, if_false, if_true, Option.bind_some]
  have hu : us.length ≤ 20 := by
    split at h2
    · have := of_decide_eq_false (Bool.eq_false_iff.2 h2); omega
    · exact absurd rfl h2
  obtain ⟨b1, b2, b3⟩ := unitsS_bd g w h
  simp only [dF h1, h2, dF h3, Bool.false_eq_true, if_false, Option.bind_some, units_eq, runits_eq, join_eq us at_ w (by omega) (by omega), rjoin_eq us at_ w (by omega) (by omega), samegrids_self _ b1 b3, if_true,
    rsame_ints _ _ (show (unitsS g w h).2.1.length ≤ 9223372036854775807 by omega), decide_true, beq_self_eq_true, rsame_grid _ _ (joinS_bd us at_ w)]

end Go.Proofs.Ythfifeabomdlpaa
namespace Go.Proofs.Ythfifeabomdlpaa
open Go.RowKit
set_option linter.unusedVariables false

namespace frameBlockParts
open Go.ChangeShapes Go.WideShapes Go.ChangeAt Go.Joins
theorem own : ownKnob Try.prog.godebug = none := by kernel_rfl
theorem laidOut : laidOutB Try.prog = true := by kernel_rfl
set_option maxRecDepth 100000 in
theorem lifted (os : Os) (started : os.Started) (H : Type) (enc : TypeId × Value → H) :
    ReturnsInHanded {} Try.checked os 4 .any (Rows.blockPartsSpec.pre6 enc Try.prog Try.f4 Rows.blockPartsRow.domain false) (Rows.blockPartsSpec.post enc Try.prog Try.f4 false true false false) := by
  refine returnsInHanded_of_change (C := Try.checked) own started (by kernel_rfl) Try.func4
    (ChangeSpec.witness6 (enc := enc) (C := Try.checked) false ⟨#[], #[.agg #[iv 0, iv 0, .slice none 0 0], .int .i64 0, .int .i64 0, .slice none 0 0, .slice none 0 0], []⟩ 8 (by kernel_rfl) (by kernel_rfl) (by kernel_rfl) (by kernel_rfl)) ?_
  intro W base args ds gs before hval0 hW hcnd _
  have hval : ∀ (j : Nat) t v, Try.f4.params[j]? = some t → args[j]? = some v → Value.okWide Try.prog W .any base t v := hval0
  have hW' := hW
  obtain ⟨p, q, hA0, hV, rfl, hfz, hnd⟩ := hW
  have hA : DataW.TrodAll enc Try.prog W 0 (fun _ => true) true Try.f4.params.toList args.toList ds p := hA0
  rw [Try.params4] at hA hval
  obtain ⟨v0, vs0, d0, ds0, p0, q0, hargs, rfl, rfl, h0, r0⟩ := trodAll_cons hA
  obtain ⟨v1, vs1, d1, ds1, p1, q1, rfl, rfl, rfl, h1, r1⟩ := trodAll_cons r0
  obtain ⟨v2, vs2, d2, ds2, p2, q2, rfl, rfl, rfl, h2, r2⟩ := trodAll_cons r1
  obtain ⟨v3, vs3, d3, ds3, p3, q3, rfl, rfl, rfl, h3, r3⟩ := trodAll_cons r2
  obtain ⟨v4, vs4, d4, ds4, p4, q4, rfl, rfl, rfl, h4, r4⟩ := trodAll_cons r3
  obtain ⟨rfl, rfl, rfl⟩ := trodAll_nil r4
  obtain rfl : args = #[v0, v1, v2, v3, v4] := by cases args; simp_all
  obtain ⟨rfl, rfl⟩ := trodVars_none hV
  have k0 := h0
  have lt0 : ∀ x ∈ p0, x.block < W.heap.size := by obtain ⟨m, hm⟩ := k0; exact DataW.trod_lt m _ _ _ hm
  have k1 := h1
  have lt1 : ∀ x ∈ p1, x.block < W.heap.size := by obtain ⟨m, hm⟩ := k1; exact DataW.trod_lt m _ _ _ hm
  have k2 := h2
  have lt2 : ∀ x ∈ p2, x.block < W.heap.size := by obtain ⟨m, hm⟩ := k2; exact DataW.trod_lt m _ _ _ hm
  have k3 := h3
  have lt3 : ∀ x ∈ p3, x.block < W.heap.size := by obtain ⟨m, hm⟩ := k3; exact DataW.trod_lt m _ _ _ hm
  have k4 := h4
  have lt4 : ∀ x ∈ p4, x.block < W.heap.size := by obtain ⟨m, hm⟩ := k4; exact DataW.trod_lt m _ _ _ hm
  obtain ⟨x0, rep0, wf0⟩ := top_agg Try.underlying24 aggr_api_Grid op_api_Grid (hval 0 _ v0 rfl rfl) h0
  obtain ⟨x1, rfl, rfl, rfl, wf1⟩ := open_int Try.underlying3 (hval 1 _ v1 rfl rfl) h1
  obtain ⟨x2, rfl, rfl, rfl, wf2⟩ := open_int Try.underlying3 (hval 2 _ v2 rfl rfl) h2
  obtain ⟨x3, rep3, wf3⟩ := top_slice Try.underlying34 (op_slice (r := r_api_Grid) Try.underlying34 (by kernel_rfl) op_api_Grid) (hval 3 _ v3 rfl rfl) h3
  obtain ⟨x4, rep4, wf4⟩ := top_slice Try.underlying35 (op_slice (r := (rI .i64)) Try.underlying35 (by kernel_rfl) (op_int .i64 Try.underlying3)) (hval 4 _ v4 rfl rfl) h4
  clear hA0 hval0
  refine (c_raddlelaw13_BlockParts (fun _ => False) W x0 v0 x1 x2 x3 v3 x4 v4 true (law_BlockParts x0 x1 x2 x3 x4 wf0 wf1 wf2 wf3 wf4) (St0.start (by intro d hd; simp only [List.mem_cons, List.not_mem_nil, or_false] at hd; rcases hd with rfl | rfl | rfl; exact rep0; exact rep3; exact rep4))).mono fun e W' hr => ?_
  obtain ⟨_, he, hS⟩ := hr
  have bel := hS.chg.below
  subst he
  exact ⟨_, rfl, _, _, _, [], _, [], hW', trodAll_mk1 (shut_bool Try.underlying4 _), (trodAll_cons_mk (Below.trod laidOut (by kernel_rfl) (of_decide_eq_true (by kernel_rfl)) k0 bel lt0) (trodAll_cons_mk (Below.trod laidOut (by kernel_rfl) (of_decide_eq_true (by kernel_rfl)) k1 bel lt1) (trodAll_cons_mk (Below.trod laidOut (by kernel_rfl) (of_decide_eq_true (by kernel_rfl)) k2 bel lt2) (trodAll_cons_mk (Below.trod laidOut (by kernel_rfl) (of_decide_eq_true (by kernel_rfl)) k3 bel lt3) (trodAll_cons_mk (Below.trod laidOut (by kernel_rfl) (of_decide_eq_true (by kernel_rfl)) k4 bel lt4) trodAll_mk0))))), rfl, bel.frame _, fun h => by cases h⟩
theorem over : Rows.blockPartsRow.holds Try.pinned (OpenSpec.ofChange Rows.blockPartsSpec) :=
  OpenClaim.holds_of_wide 4 Try.f4 rfl rfl rfl rfl rfl rfl rfl ⟨rfl, rfl, rfl, rfl, rfl⟩ rfl rfl rfl rfl rfl (by kernel_rfl) Try.func4 (by kernel_rfl)
    (of_decide_eq_true (by kernel_rfl)) (by unfold Func.isWrapper; first | (rw [if_pos (by decide +kernel)]; kernel_rfl) | (rw [if_neg (by decide +kernel)]; exact ⟨rfl, rfl⟩))
    (fun os started H enc _ => lifted os started H enc)
end frameBlockParts
theorem blockParts_holds : Rows.BlockPartsSaid := frameBlockParts.over

end Go.Proofs.Ythfifeabomdlpaa
