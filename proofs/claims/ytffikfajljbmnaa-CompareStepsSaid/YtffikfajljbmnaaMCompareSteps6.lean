/- Several texts in one: G91 G59 G26 G27 G28 G29 G30 G5 PlTb PlSt -/
import Derived.WalkKit
import Derived.Maps.AppendAt
import Derived.Deep.AppendLies
import Derived.KernelRfl
import Derived.Laws.OwnMore
import Derived.Great.BuildSlice
import Derived.Orders
import Derived.Laws.StructEq
import Derived.ChangeKeysEq
import Derived.Defers
import Derived.Laws.BytesString
import Derived.RangeFuncNested
import Derived.RangeFuncBound
import Derived.RangeFuncCalls
import Derived.RangeFuncLeaves
import Derived.OrdersIn
import Derived.LoopNIn
import Derived.ArgAppend
import Derived.Test.YtffikfajljbmnaaProg
import Derived.ProofKit
import Derived.OpenShut
import Derived.ChangeOld
import Derived.Deep.Slices
import Derived.Lib.SmallJoins
import Derived.JoinedOf
import Derived.JoinedAt
import Derived.Below
import Derived.Test.YtffikfajljbmnaaRows
import Derived.Test.YtffikfajljbmnaaMCompareSteps5
namespace Go.Proofs.Ytffikfajljbmnaa
open Go.RowKit
set_option linter.unusedVariables false

noncomputable def F_raddleref46_Fine (p0 : api_CellStep) : Option Bool :=
  Option.bind (α := Bool) (
    if p0.Kind == 1 then
      some (p0.Kind == 1)
    else
      some (p0.Kind == 4)) fun o5 =>
  if o5 then
    some ((p0.S.Kind == 0) && ((p0.S.Purl == false) && ((p0.S.A == 0) && ((p0.S.B == 0) && true))))
  else
    Option.bind (α := Bool) (
      if p0.Kind == 2 then
        some (p0.Kind == 2)
      else
        some (p0.Kind == 3)) fun o12 =>
    if o12 then
      Option.bind (F_raddleref25_Check p0.S) fun r19 =>
      some (r19 == 0)
    else
      some false
set_option maxHeartbeats 4000000 in
set_option maxRecDepth 100000 in
theorem c_raddleref46_Fine (E : Nat → Prop) (w0 : World) (p0 : api_CellStep) (v0 : Value) (r : Bool) (h : F_raddleref46_Fine p0 = some r) (S : St0 E [] w0 w0 [] [fRep r_api_CellStep (v0) p0]) :
    Calls Try.prog 91 #[v0] w0 (Ret (X := Unit) E [] w0 (fun _ => .bool r) (fun _ => []) (fun _ => [])) := by
  unfold F_raddleref46_Fine at h
  obtain rfl : v0 = .agg #[.int .u8 p0.Kind, .int .u8 p0.S.Kind, .bool p0.S.Purl, iv p0.S.A, iv p0.S.B] := S.know (i := 0) (e := fRep r_api_CellStep (v0) p0) rfl
  refine sEnter (args := [.agg #[.int .u8 p0.Kind, .int .u8 p0.S.Kind, .bool p0.S.Purl, iv p0.S.A, iv p0.S.B]]) 19 Try.func91 rfl rfl (by simp) S (fun a S => ?_)
  refine sSeq (fun K1 hK1 => ?_)
  refine sRegion ?_
  refine sBox (v := .agg #[.int .u8 p0.Kind, .int .u8 p0.S.Kind, .bool p0.S.Purl, iv p0.S.A, iv p0.S.B]) S (wN rfl) rfl rfl [.int .u8 p0.Kind, .int .u8 p0.S.Kind, .bool p0.S.Purl, iv p0.S.A, iv p0.S.B] rfl rfl (lb rfl) fun a b2 w S => ?_
  refine sMove (.bool false) S (wN rfl) (.inr rfl) rfl rfl (lb rfl) fun a S => ?_
  refine leafL (leafT (hK1 _ _ ?_))
  refine sSeq (fun K3 hK3 => ?_)
  refine sSeq (fun K4 hK4 => ?_)
  refine sRegion ?_
  refine sField (b := b2) (off := 0) 0 0 S (wN rfl) rfl rfl rfl rfl rfl (lb rfl) fun a S => ?_
  refine sLoad1 (p := b2) (off := 0) (T := 83) (vs := [.int .u8 p0.Kind, .int .u8 p0.S.Kind, .bool p0.S.Purl, iv p0.S.A, iv p0.S.B]) 0 (.int .u8 p0.Kind) S (wN rfl) rfl rfl rfl rfl rfl rfl (lb rfl) fun a S => ?_
  refine leafL (leafT (hK4 _ _ ?_))
  refine wp_block ?_
  obtain ⟨t6, h, g7⟩ := bindSome h
  refine sCut (fun a w => ∃ o5, o5 = t6 ∧ St [] E [] w0 19 a w [(1, .pointer (some ⟨b2, 0, none⟩)), (4, .int .u8 p0.Kind), (5, .bool o5)] [eBox b2 83 [.int .u8 p0.Kind, .int .u8 p0.S.Kind, .bool p0.S.Purl, iv p0.S.A, iv p0.S.B]] []) ?_ (fun a w hI => ?_)
  · refine sSeq (fun K8 hK8 => ?_)
    refine sRegion ?_
    refine sBin (.bool (p0.Kind == 1)) S (wN rfl) rfl rfl rfl (bEq _ _ _ _ .u8 p0.Kind 1) rfl (lb rfl) fun a S => ?_
    refine sMove (.bool (p0.Kind == 1)) S (wN rfl) (.inr rfl) rfl rfl (lb rfl) fun a S => ?_
    refine leafL (leafT (hK8 _ _ ?_))
    rcases iteSome h with ⟨hc9, h⟩ | ⟨hc9, h⟩
    · refine sCondT S rfl hc9 ?_
      exact wp_skip (leafT (⟨p0.Kind == 1, Option.some.inj h, S.fix [0] [] (by decide) rfl rfl rfl⟩))
    refine sCondF S rfl hc9 ?_
    refine sRegion ?_
    refine sBin (.bool (p0.Kind == 4)) S (wN rfl) rfl rfl rfl (bEq _ _ _ _ .u8 p0.Kind 4) rfl (lb rfl) fun a S => ?_
    refine sMove (.bool (p0.Kind == 4)) S (wN rfl) (.inr rfl) rfl rfl (lb rfl) fun a S => ?_
    exact leafL (leafT (⟨p0.Kind == 4, Option.some.inj h, S.fix [0] [] (by decide) rfl rfl rfl⟩))
  obtain ⟨o5, rfl, S⟩ := hI
  have h := g7
  clear g7
  try dsimp only at h
  rcases iteSome h with ⟨hc10, h⟩ | ⟨hc10, h⟩
  · refine sCondT S rfl hc10 ?_
    refine sSeq (fun K11 hK11 => ?_)
    refine sRegion ?_
    refine sField (b := b2) (off := 0) 1 1 S (wN rfl) rfl rfl rfl rfl rfl (lb rfl) fun a S => ?_
    refine sLoadN (p := b2) (off := 1) (T := 83) (vs := [.int .u8 p0.Kind, .int .u8 p0.S.Kind, .bool p0.S.Purl, iv p0.S.A, iv p0.S.B]) 0 [.int .u8 p0.S.Kind, .bool p0.S.Purl, iv p0.S.A, iv p0.S.B] S (wN rfl) rfl rfl rfl rfl rfl rfl rfl (lb rfl) fun a S => ?_
    refine sBuild [] [.int .u8 0, .bool false, iv 0, iv 0] S (wN rfl) rfl rfl rfl rfl (lb rfl) fun a S => ?_
    refine sBin (.bool ((p0.S.Kind == 0) && ((p0.S.Purl == false) && ((p0.S.A == 0) && ((p0.S.B == 0) && true))))) S (wN rfl) rfl rfl rfl (bEqV _ _ _ _ #[.int .u8 p0.S.Kind, .bool p0.S.Purl, iv p0.S.A, iv p0.S.B] #[.int .u8 0, .bool false, iv 0, iv 0] ((p0.S.Kind == 0) && ((p0.S.Purl == false) && ((p0.S.A == 0) && ((p0.S.B == 0) && true)))) (by kernel_rfl) (eqlV_of (by kernel_rfl))) rfl (lb rfl) fun a S => ?_
    refine sMove (.bool ((p0.S.Kind == 0) && ((p0.S.Purl == false) && ((p0.S.A == 0) && ((p0.S.B == 0) && true))))) S (wN rfl) (.inr rfl) rfl rfl (lb rfl) fun a S => ?_
    refine leafL (leafT (hK11 _ _ ?_))
    obtain rfl := Option.some.inj h
    exact wp_ret (rBlock (rThen (sRet (.bool ((p0.S.Kind == 0) && ((p0.S.Purl == false) && ((p0.S.A == 0) && ((p0.S.B == 0) && true))))) S (rsl1 rfl (rvT (t := 2) (v := .bool ((p0.S.Kind == 0) && ((p0.S.Purl == false) && ((p0.S.A == 0) && ((p0.S.B == 0) && true))))) S rfl)) ⟨(), rfl, S.mem.sel [] [] (by decide) rfl rfl⟩)))
  refine sCondF S rfl hc10 ?_
  obtain ⟨t13, h, g14⟩ := bindSome h
  refine sCut (fun a w => ∃ o12, o12 = t13 ∧ St [] E [] w0 19 a w [(1, .pointer (some ⟨b2, 0, none⟩)), (12, .bool o12)] [eBox b2 83 [.int .u8 p0.Kind, .int .u8 p0.S.Kind, .bool p0.S.Purl, iv p0.S.A, iv p0.S.B]] []) ?_ (fun a w hI => ?_)
  · refine sSeq (fun K15 hK15 => ?_)
    refine sRegion ?_
    refine sBin (.bool (p0.Kind == 2)) S (wN rfl) rfl rfl rfl (bEq _ _ _ _ .u8 p0.Kind 2) rfl (lb rfl) fun a S => ?_
    refine sMove (.bool (p0.Kind == 2)) S (wN rfl) (.inr rfl) rfl rfl (lb rfl) fun a S => ?_
    refine leafL (leafT (hK15 _ _ ?_))
    rcases iteSome h with ⟨hc16, h⟩ | ⟨hc16, h⟩
    · refine sCondT S rfl hc16 ?_
      exact wp_skip (leafT (⟨p0.Kind == 2, Option.some.inj h, S.fix [0] [] (by decide) rfl rfl rfl⟩))
    refine sCondF S rfl hc16 ?_
    refine sRegion ?_
    refine sBin (.bool (p0.Kind == 3)) S (wN rfl) rfl rfl rfl (bEq _ _ _ _ .u8 p0.Kind 3) rfl (lb rfl) fun a S => ?_
    refine sMove (.bool (p0.Kind == 3)) S (wN rfl) (.inr rfl) rfl rfl (lb rfl) fun a S => ?_
    exact leafL (leafT (⟨p0.Kind == 3, Option.some.inj h, S.fix [0] [] (by decide) rfl rfl rfl⟩))
  obtain ⟨o12, rfl, S⟩ := hI
  have h := g14
  clear g14
  try dsimp only at h
  rcases iteSome h with ⟨hc17, h⟩ | ⟨hc17, h⟩
  rotate_left
  · refine sCondF S rfl hc17 ?_
    refine wp_skip (leafB (leafT (hK3 _ _ ?_)))
    refine sSeq (fun K21 hK21 => ?_)
    refine sRegion ?_
    refine sMove (.bool false) S (wN rfl) (.inr rfl) rfl rfl (lb rfl) fun a S => ?_
    refine leafL (leafT (hK21 _ _ ?_))
    obtain rfl := Option.some.inj h
    exact wp_ret (sRet (.bool false) S (rsl1 rfl (rvT (t := 2) (v := .bool false) S rfl)) ⟨(), rfl, S.mem.sel [] [] (by decide) rfl rfl⟩)
  refine sCondT S rfl hc17 ?_
  refine sSeq (fun K18 hK18 => ?_)
  refine sRegion ?_
  refine sField (b := b2) (off := 0) 1 1 S (wN rfl) rfl rfl rfl rfl rfl (lb rfl) fun a S => ?_
  refine sLoadN (p := b2) (off := 1) (T := 83) (vs := [.int .u8 p0.Kind, .int .u8 p0.S.Kind, .bool p0.S.Purl, iv p0.S.A, iv p0.S.B]) 0 [.int .u8 p0.S.Kind, .bool p0.S.Purl, iv p0.S.A, iv p0.S.B] S (wN rfl) rfl rfl rfl rfl rfl rfl rfl (lb rfl) fun a S => ?_
  obtain ⟨r19, hx20, h⟩ := bindSome h
  have S1 := S.mem
  have S1 := S1.learn (fRep r_api_Stitch (.agg #[.int .u8 p0.S.Kind, .bool p0.S.Purl, iv p0.S.A, iv p0.S.B]) p0.S) rfl
  refine sCallQ (X := Unit) (f := 73) (vs := [.agg #[.int .u8 p0.S.Kind, .bool p0.S.Purl, iv p0.S.A, iv p0.S.B]]) (val := fun _ => iv r19) S (wN rfl) rfl callee73 rfl (S1.quiet [0] rfl) (fun E1 w1 S1 => c_raddleref25_Check E1 w1 p0.S (.agg #[.int .u8 p0.S.Kind, .bool p0.S.Purl, iv p0.S.A, iv p0.S.B]) r19 hx20 S1) rfl (lb rfl) fun _ a w S => ?_
  refine sBin (.bool (r19 == 0)) S (wN rfl) rfl rfl rfl (bEq _ _ _ _ .i64 r19 0) rfl (lb rfl) fun a S => ?_
  refine sMove (.bool (r19 == 0)) S (wN rfl) (.inr rfl) rfl rfl (lb rfl) fun a S => ?_
  refine leafL (leafT (hK18 _ _ ?_))
  obtain rfl := Option.some.inj h
  exact wp_ret (rBlock (rThen (sRet (.bool (r19 == 0)) S (rsl1 rfl (rvT (t := 2) (v := .bool (r19 == 0)) S rfl)) ⟨(), rfl, S.mem.sel [] [] (by decide) rfl rfl⟩)))

end Go.Proofs.Ytffikfajljbmnaa
namespace Go.Proofs.Ytffikfajljbmnaa
open Go.RowKit
set_option linter.unusedVariables false

def anc_raddleref46_gone_0 : List (List Nat) := [[], [], [1], [0, 1, 2], [0, 1, 2, 3], [0, 1, 2, 3, 4], [0, 1, 2, 3, 4], [0, 1, 2, 3, 4, 5, 6], [0, 1, 2, 3, 4, 5, 6, 7], [0, 1, 2, 3, 4, 5, 6, 7, 8], [0, 1, 2, 3, 4, 5, 6, 7, 8, 9], [0, 1, 2, 3, 4, 5, 6, 7, 8, 9, 10], [0, 1, 2, 3, 4, 5, 6, 7, 8, 9, 10, 11], [0, 1, 2, 3, 4, 5, 6, 7, 8, 9, 10, 11], [0, 1, 2, 3, 4, 5, 6, 7, 8, 9, 10, 11, 12, 13], [0, 1, 2, 3, 4, 5, 6, 7, 8, 9, 10, 11, 12, 13, 14], [0, 1, 2, 3, 4, 5, 6, 7, 8, 9, 10, 11, 12, 13, 14, 15], [0, 1, 2, 3, 4, 5, 6, 7, 8, 9, 10, 11], [0, 1, 2, 3, 4, 5, 6, 7, 8, 9, 10, 11], [0, 1, 2, 3, 4, 5, 6, 7, 8, 9, 10, 11, 17, 18], [0, 1, 2, 3, 4, 5, 6, 7, 8, 9, 10, 11, 17, 18, 19], [0, 1, 2, 3, 4, 5, 6, 7, 8, 9, 10, 11, 12, 13, 14, 15, 16, 17, 18, 19, 20], [0, 1, 2, 3, 4, 5, 6, 7, 8, 9, 10, 11, 12, 13, 14, 15, 16, 17, 18, 19, 20, 21], [0, 1, 2, 3, 4, 5, 6, 7, 8, 9, 10, 11, 12, 13, 14, 15, 16, 17, 18, 19, 20, 21, 22]]
noncomputable def raddleref46_gone_l1 (p1 : (List api_CellStep)) : Int → Option (Int ⊕ (((List api_Stitch) × (List api_CellStep) × Int) ⊕ Unit)) := fun s0 => match s0 with
  | s20 =>
    if decide (s20 < (p1.length : Int)) then
      Option.bind (idxO p1 s20) fun x29 =>
      Option.bind (F_raddleref46_Fine x29) fun r34 =>
      if !r34 then
        some (.inr (.inl (([] : (List api_Stitch)), ([] : (List api_CellStep)), 8)))
      else
        some (.inl (w64 (s20 + 1)))
    else
      some (.inr (.inr ()))
noncomputable def raddleref46_gone_l2 (p1 : (List api_CellStep)) (p0 : (List api_Stitch)) : (List api_Stitch × List api_CellStep × Int × Int) → Option ((List api_Stitch × List api_CellStep × Int × Int) ⊕ (((List api_Stitch) × (List api_CellStep) × Int) ⊕ (List api_Stitch × List api_CellStep × Int))) := fun s0 => match s0 with
  | (s51, s54, s57, s58) =>
    if decide (s58 < (p1.length : Int)) then
      Option.bind (α := (List api_Stitch × List api_CellStep × Int) ⊕ ((List api_Stitch) × (List api_CellStep) × Int)) (
        Option.bind (idxO p1 s58) fun x83 =>
        if x83.Kind == 3 then
          Option.bind (appO s51 [x83.S]) fun l99 =>
          Option.bind (appO s54 [(api_CellStep.mk 4 (api_Stitch.mk 0 false 0 0))]) fun l106 =>
          some (.inl (l99, l106, s57))
        else
          Option.bind (α := Bool) (
            if s57 == (p0.length : Int) then
              some true
            else
              if x83.Kind == 2 then
                Option.bind (idxO p0 s57) fun x126 =>
                some ((x83.S.Kind == x126.Kind) && ((x83.S.Purl == x126.Purl) && ((x83.S.A == x126.A) && ((x83.S.B == x126.B) && true))))
              else
                some false) fun o111 =>
          if o111 then
            some (.inr (([] : (List api_Stitch)), ([] : (List api_CellStep)), 30))
          else
            Option.bind (α := (List api_Stitch × List api_CellStep)) (
              if x83.Kind == 1 then
                Option.bind (idxO p0 s57) fun x168 =>
                Option.bind (appO s51 [x168]) fun l175 =>
                Option.bind (appO s54 [x83]) fun l184 =>
                some (l175, l184)
              else
                if x83.Kind == 2 then
                  Option.bind (appO s51 [x83.S]) fun l198 =>
                  Option.bind (idxO p0 s57) fun x202 =>
                  Option.bind (appO s54 [(api_CellStep.mk 2 x202)]) fun l209 =>
                  some (l198, l209)
                else
                  if x83.Kind == 4 then
                    Option.bind (idxO p0 s57) fun x215 =>
                    Option.bind (appO s54 [(api_CellStep.mk 3 x215)]) fun l222 =>
                    some (s51, l222)
                  else
                    some (s51, s54)) fun (o151, o154) =>
            some (.inl (o151, o154, w64 (s57 + 1)))) fun z0 => match z0 with
        | .inl (o72, o75, o78) =>
          some (.inl (o72, o75, o78, w64 (s58 + 1)))
        | .inr z =>
          some (.inr (.inl z))
    else
      some (.inr (.inr (s51, s54, s57)))
noncomputable def F_raddleref46_gone (p0 : (List api_Stitch)) (p1 : (List api_CellStep)) : Option ((List api_Stitch) × (List api_CellStep) × Int) :=
  Option.bind (F_raddleref25_All p0) fun r8 =>
  if r8 != 0 then
    some (([] : (List api_Stitch)), ([] : (List api_CellStep)), r8)
  else
    if decide (400 < (p1.length : Int)) then
      some (([] : (List api_Stitch)), ([] : (List api_CellStep)), 4)
    else
      Option.bind (α := Unit ⊕ ((List api_Stitch) × (List api_CellStep) × Int)) (
        Option.bind (whileO (raddleref46_gone_l1 p1) 0) fun z0 => match z0 with
          | .inl z =>
            some (.inr z)
          | .inr _ =>
            some (.inl ())) fun z0 => match z0 with
        | .inl _ =>
          Option.bind (α := (List api_Stitch × List api_CellStep × Int) ⊕ ((List api_Stitch) × (List api_CellStep) × Int)) (
            Option.bind (whileO (raddleref46_gone_l2 p1 p0) (([] : List api_Stitch), ([] : List api_CellStep), 0, 0)) fun z0 => match z0 with
              | .inl z =>
                some (.inr z)
              | .inr (e62, e65, e68) =>
                some (.inl (e62, e65, e68))) fun z0 => match z0 with
            | .inl (o41, o44, o47) =>
              if decide (o47 < (p0.length : Int)) then
                some (([] : (List api_Stitch)), ([] : (List api_CellStep)), 30)
              else
                Option.bind (F_raddleref25_All o41) fun r232 =>
                if r232 != 0 then
                  some (([] : (List api_Stitch)), ([] : (List api_CellStep)), r232)
                else
                  some (o41, o44, 0)
            | .inr z =>
              some z
        | .inr z =>
          some z
def c_raddleref46_gone_val (r : ((List api_Stitch) × (List api_CellStep) × Int)) (x : Value × Value) : Value := .tuple #[x.1, x.2, .int .i64 r.2.2]
def c_raddleref46_gone_D (r : ((List api_Stitch) × (List api_CellStep) × Int)) (x : Value × Value) : List Fact := [fRep (rL r_api_Stitch) x.1 r.1, fRep (rL r_api_CellStep) x.2 r.2.1]
set_option maxHeartbeats 4000000 in
set_option maxRecDepth 100000 in
theorem c_raddleref46_gone (E : Nat → Prop) (w0 : World) (p0 : (List api_Stitch)) (v0 : Value) (p1 : (List api_CellStep)) (v1 : Value) (r : ((List api_Stitch) × (List api_CellStep) × Int)) (h : F_raddleref46_gone p0 p1 = some r) (S : St0 E [] w0 w0 [] [fRep (rL r_api_Stitch) (v0) p0, fRep (rL r_api_CellStep) (v1) p1]) :
    Calls Try.prog 59 #[v0, v1] w0 (Ret (X := Value × Value) E [] w0 (c_raddleref46_gone_val r) (fun _ => []) (c_raddleref46_gone_D r)) := by
  unfold F_raddleref46_gone at h
  obtain ⟨ad1, cp2, _, rfl, _⟩ := S.know (i := 0) (e := fRep (rL r_api_Stitch) (v0) p0) rfl
  obtain ⟨ad3, cp4, _, rfl, _⟩ := S.know (i := 1) (e := fRep (rL r_api_CellStep) (v1) p1) rfl
  refine sEnter (args := [.slice ad1 p0.length cp2, .slice ad3 p1.length cp4]) 144 Try.func59 rfl rfl (by simp) S (fun a S => ?_)
  refine sSeq (fun K5 hK5 => ?_)
  refine sRegion ?_
  refine sMove (.slice none 0 0) S (wN rfl) (.inr rfl) rfl rfl (lb rfl) fun a S => ?_
  refine sMove (.slice none 0 0) S (wN rfl) (.inr rfl) rfl rfl (lb rfl) fun a S => ?_
  refine sMove (iv 0) S (wN rfl) (.inr rfl) rfl rfl (lb rfl) fun a S => ?_
  refine leafL (leafT (hK5 _ _ ?_))
  refine sSeq (fun K6 hK6 => ?_)
  refine sSeq (fun K7 hK7 => ?_)
  refine sRegion ?_
  refine sMove (.slice ad1 p0.length cp2) S (wN rfl) (.inl rfl) rfl rfl (lb rfl) fun a S => ?_
  obtain ⟨r8, hx9, h⟩ := bindSome h
  have S1 := S.mem
  refine sCallQ (X := Unit) (f := 38) (vs := [.slice ad1 p0.length cp2]) (val := fun _ => iv r8) S (wN rfl) rfl callee38 rfl (S1.quiet [0] rfl) (fun E1 w1 S1 => c_raddleref25_All E1 w1 p0 (.slice ad1 p0.length cp2) r8 hx9 S1) rfl (lb rfl) fun _ a w S => ?_
  refine sMove (iv r8) S (wN rfl) (.inr rfl) rfl rfl (lb rfl) fun a S => ?_
  refine leafL (leafT (hK7 _ _ ?_))
  refine sSeq (fun K10 hK10 => ?_)
  refine sRegion ?_
  refine sMove (iv r8) S (wN rfl) (.inl rfl) rfl rfl (lb rfl) fun a S => ?_
  refine sBin (.bool (r8 != 0)) S (wN rfl) rfl rfl rfl (bNe _ _ _ _ .i64 r8 0) rfl (lb rfl) fun a S => ?_
  refine leafL (leafT (hK10 _ _ ?_))
  rcases iteSome h with ⟨hc11, h⟩ | ⟨hc11, h⟩
  · refine sCondT S rfl hc11 ?_
    refine sSeq (fun K12 hK12 => ?_)
    refine sRegion ?_
    refine sMove (iv r8) S (wN rfl) (.inl rfl) rfl rfl (lb rfl) fun a S => ?_
    refine sMove (.slice none 0 0) S (wN rfl) (.inr rfl) rfl rfl (lb rfl) fun a S => ?_
    refine sMove (.slice none 0 0) S (wN rfl) (.inr rfl) rfl rfl (lb rfl) fun a S => ?_
    refine sMove (iv r8) S (wN rfl) (.inr rfl) rfl rfl (lb rfl) fun a S => ?_
    refine leafL (leafT (hK12 _ _ ?_))
    obtain rfl := Option.some.inj h
    have S := S.learn (fRep (rL r_api_Stitch) (.slice none 0 0) ([] : (List api_Stitch))) (rL_nil _ _ _)
    have S := S.learn (fRep (rL r_api_CellStep) (.slice none 0 0) ([] : (List api_CellStep))) (rL_nil _ _ _)
    exact wp_ret (rThen (sRet (.tuple #[.slice none 0 0, .slice none 0 0, iv r8]) S (rsl3 rfl (rvT (t := 4) (v := .slice none 0 0) S rfl) (rvT (t := 5) (v := .slice none 0 0) S rfl) (rvT (t := 6) (v := iv r8) S rfl)) ⟨((.slice none 0 0), (.slice none 0 0)), rfl, S.mem.sel [] [1, 0] (by decide) rfl rfl⟩))
  refine sCondF S rfl hc11 ?_
  refine wp_skip (leafT (hK6 _ _ ?_))
  refine sSeq (fun K13 hK13 => ?_)
  refine sSeq (fun K14 hK14 => ?_)
  refine sRegion ?_
  refine sMove (.slice ad3 p1.length cp4) S (wN rfl) (.inl rfl) rfl rfl (lb rfl) fun a S => ?_
  refine sLen (ad := ad3) (m := p1.length) (c := cp4) S (wN rfl) rfl Try.underlying48 rfl rfl (lb rfl) fun a S => ?_
  refine sBin (.bool (decide (400 < (p1.length : Int)))) S (wN rfl) rfl rfl rfl (bGt _ _ _ _ .i64 (p1.length : Int) 400) rfl (lb rfl) fun a S => ?_
  refine leafL (leafT (hK14 _ _ ?_))
  rcases iteSome h with ⟨hc15, h⟩ | ⟨hc15, h⟩
  · refine sCondT S rfl hc15 ?_
    refine sSeq (fun K16 hK16 => ?_)
    refine sRegion ?_
    refine sMove (.slice none 0 0) S (wN rfl) (.inr rfl) rfl rfl (lb rfl) fun a S => ?_
    refine sMove (.slice none 0 0) S (wN rfl) (.inr rfl) rfl rfl (lb rfl) fun a S => ?_
    refine sMove (iv 4) S (wN rfl) (.inr rfl) rfl rfl (lb rfl) fun a S => ?_
    refine leafL (leafT (hK16 _ _ ?_))
    obtain rfl := Option.some.inj h
    have S := S.learn (fRep (rL r_api_Stitch) (.slice none 0 0) ([] : (List api_Stitch))) (rL_nil _ _ _)
    have S := S.learn (fRep (rL r_api_CellStep) (.slice none 0 0) ([] : (List api_CellStep))) (rL_nil _ _ _)
    exact wp_ret (rThen (sRet (.tuple #[.slice none 0 0, .slice none 0 0, iv 4]) S (rsl3 rfl (rvT (t := 4) (v := .slice none 0 0) S rfl) (rvT (t := 5) (v := .slice none 0 0) S rfl) (rvT (t := 6) (v := iv 4) S rfl)) ⟨((.slice none 0 0), (.slice none 0 0)), rfl, S.mem.sel [] [1, 0] (by decide) rfl rfl⟩))
  refine sCondF S rfl hc15 ?_
  refine wp_skip (leafT (hK13 _ _ ?_))
  obtain ⟨t17, h, g18⟩ := bindSome h
  refine sCut (fun a w => .inl () = t17 ∧ St [] E [] w0 144 a w [(0, .slice ad1 p0.length cp2), (1, .slice ad3 p1.length cp4)] [] [fRep (rL r_api_Stitch) (.slice ad1 p0.length cp2) p0, fRep (rL r_api_CellStep) (.slice ad3 p1.length cp4) p1]) ?_ (fun a w hI => ?_)
  · refine sSeq (fun K19 hK19 => ?_)
    refine sRegion ?_
    refine sMove (iv 0) S (wN rfl) (.inr rfl) rfl rfl (lb rfl) fun a S => ?_
    refine leafL (leafT (hK19 _ _ ?_))
    refine wp_block ?_
    obtain ⟨t23, hl, g22⟩ := bindSome h
    refine sLoop hl (fun s0 a w => match s0 with | s20 => St [] E [] w0 144 a w [(0, .slice ad1 p0.length cp2), (1, .slice ad3 p1.length cp4), (8, iv s20)] [] [fRep (rL r_api_Stitch) (.slice ad1 p0.length cp2) p0, fRep (rL r_api_CellStep) (.slice ad3 p1.length cp4) p1]) (S.fix [] [0, 1] (by decide) rfl rfl rfl) ?_
    clear hl h
    intro s20 a w c0 hI h hu21
    unfold raddleref46_gone_l1 at h
    dsimp only at h hI
    have S := hI
    refine sSeq (fun K24 hK24 => ?_)
    refine sSeq (fun K25 hK25 => ?_)
    refine sRegion ?_
    refine sMove (iv s20) S (wN rfl) (.inl rfl) rfl rfl (lb rfl) fun a S => ?_
    refine sMove (.slice ad3 p1.length cp4) S (wN rfl) (.inl rfl) rfl rfl (lb rfl) fun a S => ?_
    refine sLen (ad := ad3) (m := p1.length) (c := cp4) S (wN rfl) rfl Try.underlying48 rfl rfl (lb rfl) fun a S => ?_
    refine sBin (.bool (decide (s20 < (p1.length : Int)))) S (wN rfl) rfl rfl rfl (bLt _ _ _ _ .i64 s20 (p1.length : Int)) rfl (lb rfl) fun a S => ?_
    refine leafL (leafT (hK25 _ _ ?_))
    rcases iteSome h with ⟨hc26, h⟩ | ⟨hc26, h⟩
    rotate_left
    · refine sCondF S rfl hc26 ?_
      obtain rfl := Option.some.inj h
      obtain rfl := hu21 _ rfl
      have h := g22
      clear g22
      try dsimp only at h
      exact wp_exit (xThen (xThen (xHit (leafT (⟨Option.some.inj h, S.fix [] [0, 1] (by decide) rfl rfl rfl⟩)))))
    refine sCondT S rfl hc26 ?_
    refine wp_skip (leafT (hK24 _ _ ?_))
    refine sSeq (fun K27 hK27 => ?_)
    refine wp_block ?_
    refine sSeq (fun K28 hK28 => ?_)
    refine sRegion ?_
    refine sMove (.slice ad3 p1.length cp4) S (wN rfl) (.inl rfl) rfl rfl (lb rfl) fun a S => ?_
    refine sMove (iv s20) S (wN rfl) (.inl rfl) rfl rfl (lb rfl) fun a S => ?_
    obtain ⟨x29, hx30, h⟩ := bindSome h
    obtain ⟨q31, hq32, S⟩ := pIdx (P := Try.prog) (r := r_api_CellStep) (v := .slice ad3 p1.length cp4) (xs := p1) (j := s20) 48 83 1 S Try.underlying48 rfl rfl hx30
    refine sIdxV (v := .slice ad3 p1.length cp4) (k := .i64) (j := s20) S (wN rfl) rfl rfl rfl hq32 rfl (lb rfl) fun a S => ?_
    obtain ⟨u33, S⟩ := pLoad (r := r_api_CellStep) (q := q31) (x := x29) 0 S rfl
    obtain rfl : u33 = .agg #[.int .u8 x29.Kind, .int .u8 x29.S.Kind, .bool x29.S.Purl, iv x29.S.A, iv x29.S.B] := S.mem.know (i := 1) (e := fRep r_api_CellStep (u33) x29) rfl
    refine sLoadVN (vq := q31) 0 [.int .u8 x29.Kind, .int .u8 x29.S.Kind, .bool x29.S.Purl, iv x29.S.A, iv x29.S.B] S (wN rfl) rfl rfl rfl rfl rfl rfl (lb rfl) fun a S => ?_
    obtain ⟨r34, hx35, h⟩ := bindSome h
    have S1 := S.mem
    refine sCallQ (X := Unit) (f := 91) (vs := [.agg #[.int .u8 x29.Kind, .int .u8 x29.S.Kind, .bool x29.S.Purl, iv x29.S.A, iv x29.S.B]]) (val := fun _ => .bool r34) S (wN rfl) rfl callee91 rfl (S1.quiet [1] rfl) (fun E1 w1 S1 => c_raddleref46_Fine E1 w1 x29 (.agg #[.int .u8 x29.Kind, .int .u8 x29.S.Kind, .bool x29.S.Purl, iv x29.S.A, iv x29.S.B]) r34 hx35 S1) rfl (lb rfl) fun _ a w S => ?_
    refine sNot (b := r34) S (wN rfl) rfl rfl rfl (lb rfl) fun a S => ?_
    refine leafL (leafT (hK28 _ _ ?_))
    rcases iteSome h with ⟨hc36, h⟩ | ⟨hc36, h⟩
    rotate_left
    · refine sCondF S rfl hc36 ?_
      refine wp_skip (leafB (leafT (hK27 _ _ ?_)))
      refine sRegion ?_
      refine sMove (iv s20) S (wN rfl) (.inl rfl) rfl rfl (lb rfl) fun a S => ?_
      refine sBin (iv (w64 (s20 + 1))) S (wN rfl) rfl rfl rfl (bAdd _ _ _ _ s20 1) rfl (lb rfl) fun a S => ?_
      refine sMove (iv (w64 (s20 + 1))) S (wN rfl) (.inr rfl) rfl rfl (lb rfl) fun a S => ?_
      exact leafL (leafT (⟨w64 (s20 + 1), (Option.some.inj h).symm, (S.fix [] [3, 4] (by decide) rfl rfl rfl)⟩))
    refine sCondT S rfl hc36 ?_
    refine sSeq (fun K37 hK37 => ?_)
    refine sRegion ?_
    refine sMove (.slice none 0 0) S (wN rfl) (.inr rfl) rfl rfl (lb rfl) fun a S => ?_
    refine sMove (.slice none 0 0) S (wN rfl) (.inr rfl) rfl rfl (lb rfl) fun a S => ?_
    refine sMove (iv 8) S (wN rfl) (.inr rfl) rfl rfl (lb rfl) fun a S => ?_
    refine leafL (leafT (hK37 _ _ ?_))
    obtain rfl := Option.some.inj h
    obtain rfl := hu21 _ rfl
    have h := g22
    clear g22
    try dsimp only at h
    obtain rfl := Option.some.inj h
    have h := g18
    clear g18
    try dsimp only at h
    obtain rfl := Option.some.inj h
    have S := S.learn (fRep (rL r_api_Stitch) (.slice none 0 0) ([] : (List api_Stitch))) (rL_nil _ _ _)
    have S := S.learn (fRep (rL r_api_CellStep) (.slice none 0 0) ([] : (List api_CellStep))) (rL_nil _ _ _)
    exact wp_ret (rBlock (rThen (rThen (rBlock (rThen (sRet (.tuple #[.slice none 0 0, .slice none 0 0, iv 8]) S (rsl3 rfl (rvT (t := 4) (v := .slice none 0 0) S rfl) (rvT (t := 5) (v := .slice none 0 0) S rfl) (rvT (t := 6) (v := iv 8) S rfl)) ⟨((.slice none 0 0), (.slice none 0 0)), rfl, S.mem.sel [] [1, 0] (by decide) rfl rfl⟩))))))
  obtain ⟨rfl, S⟩ := hI
  have h := g18
  clear g18
  try dsimp only at h
  refine sSeq (fun K38 hK38 => ?_)
  refine sRegion ?_
  refine sMove (.slice none 0 0) S (wN rfl) (.inr rfl) rfl rfl (lb rfl) fun a S => ?_
  refine leafL (leafT (hK38 _ _ ?_))
  refine sSeq (fun K39 hK39 => ?_)
  refine sRegion ?_
  refine sMove (.slice none 0 0) S (wN rfl) (.inr rfl) rfl rfl (lb rfl) fun a S => ?_
  refine leafL (leafT (hK39 _ _ ?_))
  refine sSeq (fun K40 hK40 => ?_)
  refine sRegion ?_
  refine sMove (iv 0) S (wN rfl) (.inr rfl) rfl rfl (lb rfl) fun a S => ?_
  refine leafL (leafT (hK40 _ _ ?_))
  obtain ⟨t48, h, g49⟩ := bindSome h
  refine sCut (fun a w => ∃ o41, ∃ o44, ∃ o47, .inl (o41, o44, o47) = t48 ∧ ∃ ad42, ∃ cp43, ∃ ad45, ∃ cp46, St [] E [] w0 144 a w [(0, .slice ad1 p0.length cp2), (9, .slice ad42 o41.length cp43), (10, .slice ad45 o44.length cp46), (11, iv o47)] [eRow r_api_Stitch 81 (.slice ad42 o41.length cp43) o41, eRow r_api_CellStep 83 (.slice ad45 o44.length cp46) o44] [fRep (rL r_api_Stitch) (.slice ad1 p0.length cp2) p0]) ?_ (fun a w hI => ?_)
  rotate_left
  · obtain ⟨o41, o44, o47, rfl, ad42, cp43, ad45, cp46, S⟩ := hI
    have h := g49
    clear g49
    try dsimp only at h
    refine sSeq (fun K226 hK226 => ?_)
    refine sSeq (fun K227 hK227 => ?_)
    refine sRegion ?_
    refine sMove (iv o47) S (wN rfl) (.inl rfl) rfl rfl (lb rfl) fun a S => ?_
    refine sMove (.slice ad1 p0.length cp2) S (wN rfl) (.inl rfl) rfl rfl (lb rfl) fun a S => ?_
    refine sLen (ad := ad1) (m := p0.length) (c := cp2) S (wN rfl) rfl Try.underlying47 rfl rfl (lb rfl) fun a S => ?_
    refine sBin (.bool (decide (o47 < (p0.length : Int)))) S (wN rfl) rfl rfl rfl (bLt _ _ _ _ .i64 o47 (p0.length : Int)) rfl (lb rfl) fun a S => ?_
    refine leafL (leafT (hK227 _ _ ?_))
    rcases iteSome h with ⟨hc228, h⟩ | ⟨hc228, h⟩
    · refine sCondT S rfl hc228 ?_
      refine sSeq (fun K229 hK229 => ?_)
      refine sRegion ?_
      refine sMove (.slice none 0 0) S (wN rfl) (.inr rfl) rfl rfl (lb rfl) fun a S => ?_
      refine sMove (.slice none 0 0) S (wN rfl) (.inr rfl) rfl rfl (lb rfl) fun a S => ?_
      refine sMove (iv 30) S (wN rfl) (.inr rfl) rfl rfl (lb rfl) fun a S => ?_
      refine leafL (leafT (hK229 _ _ ?_))
      obtain rfl := Option.some.inj h
      have S := S.learn (fRep (rL r_api_Stitch) (.slice none 0 0) ([] : (List api_Stitch))) (rL_nil _ _ _)
      have S := S.learn (fRep (rL r_api_CellStep) (.slice none 0 0) ([] : (List api_CellStep))) (rL_nil _ _ _)
      exact wp_ret (rThen (sRet (.tuple #[.slice none 0 0, .slice none 0 0, iv 30]) S (rsl3 rfl (rvT (t := 4) (v := .slice none 0 0) S rfl) (rvT (t := 5) (v := .slice none 0 0) S rfl) (rvT (t := 6) (v := iv 30) S rfl)) ⟨((.slice none 0 0), (.slice none 0 0)), rfl, S.mem.sel [] [1, 0] (by decide) rfl rfl⟩))
    refine sCondF S rfl hc228 ?_
    refine wp_skip (leafT (hK226 _ _ ?_))
    refine sSeq (fun K230 hK230 => ?_)
    refine sSeq (fun K231 hK231 => ?_)
    refine sRegion ?_
    refine sMove (.slice ad42 o41.length cp43) S (wN rfl) (.inl rfl) rfl rfl (lb rfl) fun a S => ?_
    obtain ⟨r232, hx233, h⟩ := bindSome h
    have S1 := S.mem
    have S1 := S1.shutR (r := r_api_Stitch) (T := 81) (v := .slice ad42 o41.length cp43) (xs := o41) 0 rfl
    refine sCallQ (X := Unit) (f := 38) (vs := [.slice ad42 o41.length cp43]) (val := fun _ => iv r232) S (wN rfl) rfl callee38 rfl (S1.quiet [0] rfl) (fun E1 w1 S1 => c_raddleref25_All E1 w1 o41 (.slice ad42 o41.length cp43) r232 hx233 S1) rfl (lb rfl) fun _ a w S => ?_
    refine sMove (iv r232) S (wN rfl) (.inr rfl) rfl rfl (lb rfl) fun a S => ?_
    refine leafL (leafT (hK231 _ _ ?_))
    refine sSeq (fun K234 hK234 => ?_)
    refine sRegion ?_
    refine sMove (iv r232) S (wN rfl) (.inl rfl) rfl rfl (lb rfl) fun a S => ?_
    refine sBin (.bool (r232 != 0)) S (wN rfl) rfl rfl rfl (bNe _ _ _ _ .i64 r232 0) rfl (lb rfl) fun a S => ?_
    refine leafL (leafT (hK234 _ _ ?_))
    rcases iteSome h with ⟨hc235, h⟩ | ⟨hc235, h⟩
    · refine sCondT S rfl hc235 ?_
      refine sSeq (fun K236 hK236 => ?_)
      refine sRegion ?_
      refine sMove (iv r232) S (wN rfl) (.inl rfl) rfl rfl (lb rfl) fun a S => ?_
      refine sMove (.slice none 0 0) S (wN rfl) (.inr rfl) rfl rfl (lb rfl) fun a S => ?_
      refine sMove (.slice none 0 0) S (wN rfl) (.inr rfl) rfl rfl (lb rfl) fun a S => ?_
      refine sMove (iv r232) S (wN rfl) (.inr rfl) rfl rfl (lb rfl) fun a S => ?_
      refine leafL (leafT (hK236 _ _ ?_))
      obtain rfl := Option.some.inj h
      have S := S.learn (fRep (rL r_api_Stitch) (.slice none 0 0) ([] : (List api_Stitch))) (rL_nil _ _ _)
      have S := S.learn (fRep (rL r_api_CellStep) (.slice none 0 0) ([] : (List api_CellStep))) (rL_nil _ _ _)
      exact wp_ret (rThen (sRet (.tuple #[.slice none 0 0, .slice none 0 0, iv r232]) S (rsl3 rfl (rvT (t := 4) (v := .slice none 0 0) S rfl) (rvT (t := 5) (v := .slice none 0 0) S rfl) (rvT (t := 6) (v := iv r232) S rfl)) ⟨((.slice none 0 0), (.slice none 0 0)), rfl, S.mem.sel [] [1, 0] (by decide) rfl rfl⟩))
    refine sCondF S rfl hc235 ?_
    refine wp_skip (leafT (hK230 _ _ ?_))
    refine sSeq (fun K237 hK237 => ?_)
    refine sRegion ?_
    refine sMove (.slice ad42 o41.length cp43) S (wN rfl) (.inl rfl) rfl rfl (lb rfl) fun a S => ?_
    refine sMove (.slice ad45 o44.length cp46) S (wN rfl) (.inl rfl) rfl rfl (lb rfl) fun a S => ?_
    refine sMove (.slice ad42 o41.length cp43) S (wN rfl) (.inr rfl) rfl rfl (lb rfl) fun a S => ?_
    refine sMove (.slice ad45 o44.length cp46) S (wN rfl) (.inr rfl) rfl rfl (lb rfl) fun a S => ?_
    refine sMove (iv 0) S (wN rfl) (.inr rfl) rfl rfl (lb rfl) fun a S => ?_
    refine leafL (leafT (hK237 _ _ ?_))
    obtain rfl := Option.some.inj h
    have S := S.shutR (r := r_api_Stitch) (T := 81) (v := .slice ad42 o41.length cp43) (xs := o41) 0 rfl
    have S := S.shutR (r := r_api_CellStep) (T := 83) (v := .slice ad45 o44.length cp46) (xs := o44) 0 rfl
    exact wp_ret (sRet (.tuple #[.slice ad42 o41.length cp43, .slice ad45 o44.length cp46, iv 0]) S (rsl3 rfl (rvT (t := 4) (v := .slice ad42 o41.length cp43) S rfl) (rvT (t := 5) (v := .slice ad45 o44.length cp46) S rfl) (rvT (t := 6) (v := iv 0) S rfl)) ⟨((.slice ad42 o41.length cp43), (.slice ad45 o44.length cp46)), rfl, S.mem.sel [] [1, 0] (by decide) rfl rfl⟩)
  refine sSeq (fun K50 hK50 => ?_)
  refine sRegion ?_
  refine sMove (iv 0) S (wN rfl) (.inr rfl) rfl rfl (lb rfl) fun a S => ?_
  refine leafL (leafT (hK50 _ _ ?_))
  refine wp_block ?_
  have S := S.nilRow r_api_Stitch 81 (α := api_Stitch)
  have S := S.nilRow r_api_CellStep 83 (α := api_CellStep)
  obtain ⟨t61, hl, g60⟩ := bindSome h
  refine sLoop hl (fun s0 a w => match s0 with | (s51, s54, s57, s58) => ∃ ad52, ∃ cp53, ∃ ad55, ∃ cp56, St [] E [] w0 144 a w [(0, .slice ad1 p0.length cp2), (1, .slice ad3 p1.length cp4), (9, .slice ad52 s51.length cp53), (10, .slice ad55 s54.length cp56), (11, iv s57), (12, iv s58)] [eRow r_api_Stitch 81 (.slice ad52 s51.length cp53) s51, eRow r_api_CellStep 83 (.slice ad55 s54.length cp56) s54] [fRep (rL r_api_Stitch) (.slice ad1 p0.length cp2) p0, fRep (rL r_api_CellStep) (.slice ad3 p1.length cp4) p1]) ⟨none, 0, none, 0, S.fix [1, 0] [0, 1] (by decide) rfl rfl rfl⟩ ?_
  clear hl h
  intro s0 a w c0 hI h hu59
  obtain ⟨s51, s54, s57, s58⟩ := s0
  unfold raddleref46_gone_l2 at h
  dsimp only at h hI
  obtain ⟨ad52, cp53, ad55, cp56, S⟩ := hI
  refine sSeq (fun K69 hK69 => ?_)
  refine sSeq (fun K70 hK70 => ?_)
  refine sRegion ?_
  refine sMove (iv s58) S (wN rfl) (.inl rfl) rfl rfl (lb rfl) fun a S => ?_
  refine sMove (.slice ad3 p1.length cp4) S (wN rfl) (.inl rfl) rfl rfl (lb rfl) fun a S => ?_
  refine sLen (ad := ad3) (m := p1.length) (c := cp4) S (wN rfl) rfl Try.underlying48 rfl rfl (lb rfl) fun a S => ?_
  refine sBin (.bool (decide (s58 < (p1.length : Int)))) S (wN rfl) rfl rfl rfl (bLt _ _ _ _ .i64 s58 (p1.length : Int)) rfl (lb rfl) fun a S => ?_
  refine leafL (leafT (hK70 _ _ ?_))
  rcases iteSome h with ⟨hc71, h⟩ | ⟨hc71, h⟩
  rotate_left
  · refine sCondF S rfl hc71 ?_
    obtain rfl := Option.some.inj h
    obtain rfl := hu59 _ rfl
    have h := g60
    clear g60
    try dsimp only at h
    exact wp_exit (xThen (xThen (xHit (leafT (⟨s51, s54, s57, Option.some.inj h, ad52, cp53, ad55, cp56, S.fix [0, 1] [0] (by decide) rfl rfl rfl⟩)))))
  refine sCondT S rfl hc71 ?_
  refine wp_skip (leafT (hK69 _ _ ?_))
  obtain ⟨t79, h, g80⟩ := bindSome h
  refine sCut (fun a w => ∃ o72, ∃ o75, ∃ o78, .inl (o72, o75, o78) = t79 ∧ ∃ ad73, ∃ cp74, ∃ ad76, ∃ cp77, St [] E [] w0 144 a w [(0, .slice ad1 p0.length cp2), (1, .slice ad3 p1.length cp4), (9, .slice ad73 o72.length cp74), (10, .slice ad76 o75.length cp77), (11, iv o78), (12, iv s58)] [eRow r_api_Stitch 81 (.slice ad73 o72.length cp74) o72, eRow r_api_CellStep 83 (.slice ad76 o75.length cp77) o75] [fRep (rL r_api_Stitch) (.slice ad1 p0.length cp2) p0, fRep (rL r_api_CellStep) (.slice ad3 p1.length cp4) p1]) ?_ (fun a w hI => ?_)
  rotate_left
  · obtain ⟨o72, o75, o78, rfl, ad73, cp74, ad76, cp77, S⟩ := hI
    have h := g80
    clear g80
    try dsimp only at h
    refine sRegion ?_
    refine sMove (iv s58) S (wN rfl) (.inl rfl) rfl rfl (lb rfl) fun a S => ?_
    refine sBin (iv (w64 (s58 + 1))) S (wN rfl) rfl rfl rfl (bAdd _ _ _ _ s58 1) rfl (lb rfl) fun a S => ?_
    refine sMove (iv (w64 (s58 + 1))) S (wN rfl) (.inr rfl) rfl rfl (lb rfl) fun a S => ?_
    exact leafL (leafT (⟨(o72, o75, o78, w64 (s58 + 1)), (Option.some.inj h).symm, ⟨ad73, cp74, ad76, cp77, S.fix [0, 1] [0, 1] (by decide) rfl rfl rfl⟩⟩))
  refine wp_block ?_
  refine sSeq (fun K81 hK81 => ?_)
  refine sSeq (fun K82 hK82 => ?_)
  refine sRegion ?_
  refine sMove (.slice ad3 p1.length cp4) S (wN rfl) (.inl rfl) rfl rfl (lb rfl) fun a S => ?_
  refine sMove (iv s58) S (wN rfl) (.inl rfl) rfl rfl (lb rfl) fun a S => ?_
  obtain ⟨x83, hx84, h⟩ := bindSome h
  obtain ⟨q85, hq86, S⟩ := pIdx (P := Try.prog) (r := r_api_CellStep) (v := .slice ad3 p1.length cp4) (xs := p1) (j := s58) 48 83 1 S Try.underlying48 rfl rfl hx84
  refine sIdxV (v := .slice ad3 p1.length cp4) (k := .i64) (j := s58) S (wN rfl) rfl rfl rfl hq86 rfl (lb rfl) fun a S => ?_
  obtain ⟨q87, hq88, S⟩ := pFld (P := Try.prog) (r := r_api_CellStep) (s2 := (rI .u8)) (g := (·.Kind)) (q := q85) (z := x83) 83 0 0 0 S rfl rfl comp_api_CellStep_Kind
  refine sFldV (q := q85) S (wN rfl) rfl rfl hq88 rfl (lb rfl) fun a S => ?_
  obtain ⟨u89, S⟩ := pLoad (r := (rI .u8)) (q := q87) (x := x83.Kind) 0 S rfl
  obtain rfl : u89 = .int .u8 x83.Kind := S.mem.know (i := 1) (e := fRep (rI .u8) (u89) x83.Kind) rfl
  refine sLoadV1 (vq := q87) 0 (.int .u8 x83.Kind) S (wN rfl) rfl rfl rfl rfl rfl (lb rfl) fun a S => ?_
  refine sBin (.bool (x83.Kind == 3)) S (wN rfl) rfl rfl rfl (bEq _ _ _ _ .u8 x83.Kind 3) rfl (lb rfl) fun a S => ?_
  refine leafL (leafT (hK82 _ _ ?_))
  rcases iteSome h with ⟨hc90, h⟩ | ⟨hc90, h⟩
  · refine sCondT S rfl hc90 ?_
    refine sSeq (fun K91 hK91 => ?_)
    refine sRegion ?_
    refine sMove (.slice ad52 s51.length cp53) S (wN rfl) (.inl rfl) rfl rfl (lb rfl) fun a S => ?_
    refine sMove (.slice ad3 p1.length cp4) S (wN rfl) (.inl rfl) rfl rfl (lb rfl) fun a S => ?_
    refine sMove (iv s58) S (wN rfl) (.inl rfl) rfl rfl (lb rfl) fun a S => ?_
    obtain ⟨q92, hq93, S⟩ := pIdx (P := Try.prog) (r := r_api_CellStep) (v := .slice ad3 p1.length cp4) (xs := p1) (j := s58) 48 83 5 S Try.underlying48 rfl rfl hx84
    refine sIdxV (v := .slice ad3 p1.length cp4) (k := .i64) (j := s58) S (wN rfl) rfl rfl rfl hq93 rfl (lb rfl) fun a S => ?_
    obtain ⟨q94, hq95, S⟩ := pFld (P := Try.prog) (r := r_api_CellStep) (s2 := r_api_Stitch) (g := (·.S)) (q := q92) (z := x83) 83 1 0 1 S rfl rfl comp_api_CellStep_S
    refine sFldV (q := q92) S (wN rfl) rfl rfl hq95 rfl (lb rfl) fun a S => ?_
    obtain ⟨u96, S⟩ := pLoad (r := r_api_Stitch) (q := q94) (x := x83.S) 0 S rfl
    obtain rfl : u96 = .agg #[.int .u8 x83.S.Kind, .bool x83.S.Purl, iv x83.S.A, iv x83.S.B] := S.mem.know (i := 1) (e := fRep r_api_Stitch (u96) x83.S) rfl
    refine sLoadVN (vq := q94) 0 [.int .u8 x83.S.Kind, .bool x83.S.Purl, iv x83.S.A, iv x83.S.B] S (wN rfl) rfl rfl rfl rfl rfl rfl (lb rfl) fun a S => ?_
    refine sLit (r := r_api_Stitch) (T := 81) (xs := [x83.S]) [(0, .agg #[.int .u8 x83.S.Kind, .bool x83.S.Purl, iv x83.S.A, iv x83.S.B])] 1 [.agg #[.int .u8 x83.S.Kind, .bool x83.S.Purl, iv x83.S.A, iv x83.S.B]] [.int .u8 x83.S.Kind, .bool x83.S.Purl, iv x83.S.A, iv x83.S.B] (.agg #[.int .u8 0, .bool false, iv 0, iv 0]) 24 S (wN rfl) rfl rfl Try.underlying47 rfl (by decide) (by decide) (by kernel_rfl) rfl (fun E1 w1 hE => All.cons (r_api_Stitch.mono hE (S.mem.know (i := 1) (e := fRep r_api_Stitch (.agg #[.int .u8 x83.S.Kind, .bool x83.S.Purl, iv x83.S.A, iv x83.S.B]) x83.S) rfl)) (All.nil _ _ _)) rfl rfl (lb rfl) fun a w ad97 cp98 S => ?_
    obtain ⟨l99, hx100, h⟩ := bindSome h
    refine sApp (r := r_api_Stitch) (T := 81) (xs := s51) (ys := [x83.S]) (v := .slice ad52 s51.length cp53) (u := .slice ad97 [x83.S].length cp98) 1 (.agg #[.int .u8 0, .bool false, iv 0, iv 0]) 24 S (wN rfl) rfl Try.underlying47 rfl rfl (by decide) rfl rfl rfl (src_R (T := 81) 0 S.mem rfl) hx100 rfl (lb rfl) fun a w ad101 cp102 S => ?_
    refine sMove (.slice ad101 l99.length cp102) S (wN rfl) (.inr rfl) rfl rfl (lb rfl) fun a S => ?_
    refine leafL (leafT (hK91 _ _ ?_))
    refine sSeq (fun K103 hK103 => ?_)
    refine sRegion ?_
    refine sMove (.slice ad55 s54.length cp56) S (wN rfl) (.inl rfl) rfl rfl (lb rfl) fun a S => ?_
    refine sBuild [(0, .int .u8 4)] [.int .u8 4, .int .u8 0, .bool false, iv 0, iv 0] S (wN rfl) rfl rfl rfl rfl (lb rfl) fun a S => ?_
    have S := S.learn (fRep r_api_CellStep (.agg #[.int .u8 4, .int .u8 0, .bool false, iv 0, iv 0]) (api_CellStep.mk 4 (api_Stitch.mk 0 false 0 0))) rfl
    refine sLit (r := r_api_CellStep) (T := 83) (xs := [(api_CellStep.mk 4 (api_Stitch.mk 0 false 0 0))]) [(0, .agg #[.int .u8 4, .int .u8 0, .bool false, iv 0, iv 0])] 1 [.agg #[.int .u8 4, .int .u8 0, .bool false, iv 0, iv 0]] [.int .u8 4, .int .u8 0, .bool false, iv 0, iv 0] (.agg #[.int .u8 0, .int .u8 0, .bool false, iv 0, iv 0]) 32 S (wN rfl) rfl rfl Try.underlying48 rfl (by decide) (by decide) (by kernel_rfl) rfl (fun E1 w1 hE => All.cons (r_api_CellStep.mono hE (S.mem.know (i := 0) (e := fRep r_api_CellStep (.agg #[.int .u8 4, .int .u8 0, .bool false, iv 0, iv 0]) (api_CellStep.mk 4 (api_Stitch.mk 0 false 0 0))) rfl)) (All.nil _ _ _)) rfl rfl (lb rfl) fun a w ad104 cp105 S => ?_
    obtain ⟨l106, hx107, h⟩ := bindSome h
    refine sApp (r := r_api_CellStep) (T := 83) (xs := s54) (ys := [(api_CellStep.mk 4 (api_Stitch.mk 0 false 0 0))]) (v := .slice ad55 s54.length cp56) (u := .slice ad104 [(api_CellStep.mk 4 (api_Stitch.mk 0 false 0 0))].length cp105) 3 (.agg #[.int .u8 0, .int .u8 0, .bool false, iv 0, iv 0]) 32 S (wN rfl) rfl Try.underlying48 rfl rfl (by decide) rfl rfl rfl (src_R (T := 83) 0 S.mem rfl) hx107 rfl (lb rfl) fun a w ad108 cp109 S => ?_
    refine sMove (.slice ad108 l106.length cp109) S (wN rfl) (.inr rfl) rfl rfl (lb rfl) fun a S => ?_
    refine leafL (leafT (hK103 _ _ ?_))
    exact wp_exit (xThen (xHit (leafT (⟨l99, l106, s57, Option.some.inj h, ad101, cp102, ad108, cp109, S.fix [2, 0] [9, 10] (by decide) rfl rfl rfl⟩))))
  refine sCondF S rfl hc90 ?_
  refine wp_skip (leafT (hK81 _ _ ?_))
  refine sSeq (fun K110 hK110 => ?_)
  obtain ⟨t112, h, g113⟩ := bindSome h
  refine sCut (fun a w => ∃ o111, o111 = t112 ∧ St [] E [] w0 144 a w [(0, .slice ad1 p0.length cp2), (1, .slice ad3 p1.length cp4), (9, .slice ad52 s51.length cp53), (10, .slice ad55 s54.length cp56), (11, iv s57), (12, iv s58), (81, .bool o111)] [eRow r_api_Stitch 81 (.slice ad52 s51.length cp53) s51, eRow r_api_CellStep 83 (.slice ad55 s54.length cp56) s54] [fRep (rL r_api_Stitch) (.slice ad1 p0.length cp2) p0, fRep (rL r_api_CellStep) (.slice ad3 p1.length cp4) p1]) ?_ (fun a w hI => ?_)
  rotate_left
  · obtain ⟨o111, rfl, S⟩ := hI
    have h := g113
    clear g113
    try dsimp only at h
    rcases iteSome h with ⟨hc149, h⟩ | ⟨hc149, h⟩
    · refine sCondT S rfl hc149 ?_
      refine sSeq (fun K150 hK150 => ?_)
      refine sRegion ?_
      refine sMove (.slice none 0 0) S (wN rfl) (.inr rfl) rfl rfl (lb rfl) fun a S => ?_
      refine sMove (.slice none 0 0) S (wN rfl) (.inr rfl) rfl rfl (lb rfl) fun a S => ?_
      refine sMove (iv 30) S (wN rfl) (.inr rfl) rfl rfl (lb rfl) fun a S => ?_
      refine leafL (leafT (hK150 _ _ ?_))
      obtain rfl := Option.some.inj h
      have h := g80
      clear g80
      try dsimp only at h
      obtain rfl := Option.some.inj h
      obtain rfl := hu59 _ rfl
      have h := g60
      clear g60
      try dsimp only at h
      obtain rfl := Option.some.inj h
      have h := g49
      clear g49
      try dsimp only at h
      obtain rfl := Option.some.inj h
      have S := S.learn (fRep (rL r_api_Stitch) (.slice none 0 0) ([] : (List api_Stitch))) (rL_nil _ _ _)
      have S := S.learn (fRep (rL r_api_CellStep) (.slice none 0 0) ([] : (List api_CellStep))) (rL_nil _ _ _)
      exact wp_ret (rThen (rBlock (rThen (rThen (rBlock (rThen (sRet (.tuple #[.slice none 0 0, .slice none 0 0, iv 30]) S (rsl3 rfl (rvT (t := 4) (v := .slice none 0 0) S rfl) (rvT (t := 5) (v := .slice none 0 0) S rfl) (rvT (t := 6) (v := iv 30) S rfl)) ⟨((.slice none 0 0), (.slice none 0 0)), rfl, S.mem.sel [] [1, 0] (by decide) rfl rfl⟩)))))))
    refine sCondF S rfl hc149 ?_
    refine wp_skip (leafT (hK110 _ _ ?_))
    obtain ⟨t157, h, g158⟩ := bindSome h
    refine sCut (fun a w => ∃ o151, ∃ o154, (o151, o154) = t157 ∧ ∃ ad152, ∃ cp153, ∃ ad155, ∃ cp156, St [] E [] w0 144 a w [(0, .slice ad1 p0.length cp2), (1, .slice ad3 p1.length cp4), (9, .slice ad152 o151.length cp153), (10, .slice ad155 o154.length cp156), (11, iv s57), (12, iv s58)] [eRow r_api_Stitch 81 (.slice ad152 o151.length cp153) o151, eRow r_api_CellStep 83 (.slice ad155 o154.length cp156) o154] [fRep (rL r_api_Stitch) (.slice ad1 p0.length cp2) p0, fRep (rL r_api_CellStep) (.slice ad3 p1.length cp4) p1]) ?_ (fun a w hI => ?_)
    rotate_left
    · obtain ⟨o151, o154, rfl, ad152, cp153, ad155, cp156, S⟩ := hI
      have h := g158
      clear g158
      try dsimp only at h
      refine sRegion ?_
      refine sMove (iv s57) S (wN rfl) (.inl rfl) rfl rfl (lb rfl) fun a S => ?_
      refine sBin (iv (w64 (s57 + 1))) S (wN rfl) rfl rfl rfl (bAdd _ _ _ _ s57 1) rfl (lb rfl) fun a S => ?_
      refine sMove (iv (w64 (s57 + 1))) S (wN rfl) (.inr rfl) rfl rfl (lb rfl) fun a S => ?_
      exact leafL (leafB (leafT (⟨o151, o154, w64 (s57 + 1), Option.some.inj h, ad152, cp153, ad155, cp156, S.fix [0, 1] [0, 1] (by decide) rfl rfl rfl⟩)))
    refine sSeq (fun K159 hK159 => ?_)
    refine sRegion ?_
    refine sMove (.slice ad3 p1.length cp4) S (wN rfl) (.inl rfl) rfl rfl (lb rfl) fun a S => ?_
    refine sMove (iv s58) S (wN rfl) (.inl rfl) rfl rfl (lb rfl) fun a S => ?_
    obtain ⟨q160, hq161, S⟩ := pIdx (P := Try.prog) (r := r_api_CellStep) (v := .slice ad3 p1.length cp4) (xs := p1) (j := s58) 48 83 1 S Try.underlying48 rfl rfl hx84
    refine sIdxV (v := .slice ad3 p1.length cp4) (k := .i64) (j := s58) S (wN rfl) rfl rfl rfl hq161 rfl (lb rfl) fun a S => ?_
    obtain ⟨q162, hq163, S⟩ := pFld (P := Try.prog) (r := r_api_CellStep) (s2 := (rI .u8)) (g := (·.Kind)) (q := q160) (z := x83) 83 0 0 0 S rfl rfl comp_api_CellStep_Kind
    refine sFldV (q := q160) S (wN rfl) rfl rfl hq163 rfl (lb rfl) fun a S => ?_
    obtain ⟨u164, S⟩ := pLoad (r := (rI .u8)) (q := q162) (x := x83.Kind) 0 S rfl
    obtain rfl : u164 = .int .u8 x83.Kind := S.mem.know (i := 1) (e := fRep (rI .u8) (u164) x83.Kind) rfl
    refine sLoadV1 (vq := q162) 0 (.int .u8 x83.Kind) S (wN rfl) rfl rfl rfl rfl rfl (lb rfl) fun a S => ?_
    refine leafL (leafT (hK159 _ _ ?_))
    refine wp_block ?_
    refine sSeq (fun K165 hK165 => ?_)
    refine sRegion ?_
    refine sBin (.bool (x83.Kind == 1)) S (wN rfl) rfl rfl rfl (bEq _ _ _ _ .u8 x83.Kind 1) rfl (lb rfl) fun a S => ?_
    refine sMove (.bool (x83.Kind == 1)) S (wN rfl) (.inr rfl) rfl rfl (lb rfl) fun a S => ?_
    refine leafL (leafT (hK165 _ _ ?_))
    rcases iteSome h with ⟨hc166, h⟩ | ⟨hc166, h⟩
    · refine sCondT S rfl hc166 ?_
      refine sSeq (fun K167 hK167 => ?_)
      refine sRegion ?_
      refine sMove (.slice ad52 s51.length cp53) S (wN rfl) (.inl rfl) rfl rfl (lb rfl) fun a S => ?_
      refine sMove (.slice ad1 p0.length cp2) S (wN rfl) (.inl rfl) rfl rfl (lb rfl) fun a S => ?_
      refine sMove (iv s57) S (wN rfl) (.inl rfl) rfl rfl (lb rfl) fun a S => ?_
      obtain ⟨x168, hx169, h⟩ := bindSome h
      obtain ⟨q170, hq171, S⟩ := pIdx (P := Try.prog) (r := r_api_Stitch) (v := .slice ad1 p0.length cp2) (xs := p0) (j := s57) 47 81 4 S Try.underlying47 rfl rfl hx169
      refine sIdxV (v := .slice ad1 p0.length cp2) (k := .i64) (j := s57) S (wN rfl) rfl rfl rfl hq171 rfl (lb rfl) fun a S => ?_
      obtain ⟨u172, S⟩ := pLoad (r := r_api_Stitch) (q := q170) (x := x168) 0 S rfl
      obtain rfl : u172 = .agg #[.int .u8 x168.Kind, .bool x168.Purl, iv x168.A, iv x168.B] := S.mem.know (i := 1) (e := fRep r_api_Stitch (u172) x168) rfl
      refine sLoadVN (vq := q170) 0 [.int .u8 x168.Kind, .bool x168.Purl, iv x168.A, iv x168.B] S (wN rfl) rfl rfl rfl rfl rfl rfl (lb rfl) fun a S => ?_
      refine sLit (r := r_api_Stitch) (T := 81) (xs := [x168]) [(0, .agg #[.int .u8 x168.Kind, .bool x168.Purl, iv x168.A, iv x168.B])] 1 [.agg #[.int .u8 x168.Kind, .bool x168.Purl, iv x168.A, iv x168.B]] [.int .u8 x168.Kind, .bool x168.Purl, iv x168.A, iv x168.B] (.agg #[.int .u8 0, .bool false, iv 0, iv 0]) 24 S (wN rfl) rfl rfl Try.underlying47 rfl (by decide) (by decide) (by kernel_rfl) rfl (fun E1 w1 hE => All.cons (r_api_Stitch.mono hE (S.mem.know (i := 1) (e := fRep r_api_Stitch (.agg #[.int .u8 x168.Kind, .bool x168.Purl, iv x168.A, iv x168.B]) x168) rfl)) (All.nil _ _ _)) rfl rfl (lb rfl) fun a w ad173 cp174 S => ?_
      obtain ⟨l175, hx176, h⟩ := bindSome h
      refine sApp (r := r_api_Stitch) (T := 81) (xs := s51) (ys := [x168]) (v := .slice ad52 s51.length cp53) (u := .slice ad173 [x168].length cp174) 1 (.agg #[.int .u8 0, .bool false, iv 0, iv 0]) 24 S (wN rfl) rfl Try.underlying47 rfl rfl (by decide) rfl rfl rfl (src_R (T := 81) 0 S.mem rfl) hx176 rfl (lb rfl) fun a w ad177 cp178 S => ?_
      refine sMove (.slice ad177 l175.length cp178) S (wN rfl) (.inr rfl) rfl rfl (lb rfl) fun a S => ?_
      refine leafL (leafT (hK167 _ _ ?_))
      refine sRegion ?_
      refine sMove (.slice ad55 s54.length cp56) S (wN rfl) (.inl rfl) rfl rfl (lb rfl) fun a S => ?_
      refine sMove (.slice ad3 p1.length cp4) S (wN rfl) (.inl rfl) rfl rfl (lb rfl) fun a S => ?_
      refine sMove (iv s58) S (wN rfl) (.inl rfl) rfl rfl (lb rfl) fun a S => ?_
      obtain ⟨q179, hq180, S⟩ := pIdx (P := Try.prog) (r := r_api_CellStep) (v := .slice ad3 p1.length cp4) (xs := p1) (j := s58) 48 83 8 S Try.underlying48 rfl rfl hx84
      refine sIdxV (v := .slice ad3 p1.length cp4) (k := .i64) (j := s58) S (wN rfl) rfl rfl rfl hq180 rfl (lb rfl) fun a S => ?_
      obtain ⟨u181, S⟩ := pLoad (r := r_api_CellStep) (q := q179) (x := x83) 0 S rfl
      obtain rfl : u181 = .agg #[.int .u8 x83.Kind, .int .u8 x83.S.Kind, .bool x83.S.Purl, iv x83.S.A, iv x83.S.B] := S.mem.know (i := 1) (e := fRep r_api_CellStep (u181) x83) rfl
      refine sLoadVN (vq := q179) 0 [.int .u8 x83.Kind, .int .u8 x83.S.Kind, .bool x83.S.Purl, iv x83.S.A, iv x83.S.B] S (wN rfl) rfl rfl rfl rfl rfl rfl (lb rfl) fun a S => ?_
      refine sLit (r := r_api_CellStep) (T := 83) (xs := [x83]) [(0, .agg #[.int .u8 x83.Kind, .int .u8 x83.S.Kind, .bool x83.S.Purl, iv x83.S.A, iv x83.S.B])] 1 [.agg #[.int .u8 x83.Kind, .int .u8 x83.S.Kind, .bool x83.S.Purl, iv x83.S.A, iv x83.S.B]] [.int .u8 x83.Kind, .int .u8 x83.S.Kind, .bool x83.S.Purl, iv x83.S.A, iv x83.S.B] (.agg #[.int .u8 0, .int .u8 0, .bool false, iv 0, iv 0]) 32 S (wN rfl) rfl rfl Try.underlying48 rfl (by decide) (by decide) (by kernel_rfl) rfl (fun E1 w1 hE => All.cons (r_api_CellStep.mono hE (S.mem.know (i := 1) (e := fRep r_api_CellStep (.agg #[.int .u8 x83.Kind, .int .u8 x83.S.Kind, .bool x83.S.Purl, iv x83.S.A, iv x83.S.B]) x83) rfl)) (All.nil _ _ _)) rfl rfl (lb rfl) fun a w ad182 cp183 S => ?_
      obtain ⟨l184, hx185, h⟩ := bindSome h
      refine sApp (r := r_api_CellStep) (T := 83) (xs := s54) (ys := [x83]) (v := .slice ad55 s54.length cp56) (u := .slice ad182 [x83].length cp183) 3 (.agg #[.int .u8 0, .int .u8 0, .bool false, iv 0, iv 0]) 32 S (wN rfl) rfl Try.underlying48 rfl rfl (by decide) rfl rfl rfl (src_R (T := 83) 0 S.mem rfl) hx185 rfl (lb rfl) fun a w ad186 cp187 S => ?_
      refine sMove (.slice ad186 l184.length cp187) S (wN rfl) (.inr rfl) rfl rfl (lb rfl) fun a S => ?_
      exact leafL (leafB (leafT (⟨l175, l184, Option.some.inj h, ad177, cp178, ad186, cp187, S.fix [2, 0] [10, 11] (by decide) rfl rfl rfl⟩)))
    refine sCondF S rfl hc166 ?_
    refine sSeq (fun K188 hK188 => ?_)
    refine sRegion ?_
    refine sBin (.bool (x83.Kind == 2)) S (wN rfl) rfl rfl rfl (bEq _ _ _ _ .u8 x83.Kind 2) rfl (lb rfl) fun a S => ?_
    refine sMove (.bool (x83.Kind == 2)) S (wN rfl) (.inr rfl) rfl rfl (lb rfl) fun a S => ?_
    refine leafL (leafT (hK188 _ _ ?_))
    rcases iteSome h with ⟨hc189, h⟩ | ⟨hc189, h⟩
    rotate_left
    · refine sCondF S rfl hc189 ?_
      refine sSeq (fun K213 hK213 => ?_)
      refine sRegion ?_
      refine sBin (.bool (x83.Kind == 4)) S (wN rfl) rfl rfl rfl (bEq _ _ _ _ .u8 x83.Kind 4) rfl (lb rfl) fun a S => ?_
      refine sMove (.bool (x83.Kind == 4)) S (wN rfl) (.inr rfl) rfl rfl (lb rfl) fun a S => ?_
      refine leafL (leafT (hK213 _ _ ?_))
      rcases iteSome h with ⟨hc214, h⟩ | ⟨hc214, h⟩
      rotate_left
      · refine sCondF S rfl hc214 ?_
        exact wp_skip (leafB (leafT (⟨s51, s54, Option.some.inj h, ad52, cp53, ad55, cp56, S.fix [0, 1] [4, 5] (by decide) rfl rfl rfl⟩)))
      refine sCondT S rfl hc214 ?_
      refine sRegion ?_
      refine sMove (.slice ad55 s54.length cp56) S (wN rfl) (.inl rfl) rfl rfl (lb rfl) fun a S => ?_
      refine sMove (.slice ad1 p0.length cp2) S (wN rfl) (.inl rfl) rfl rfl (lb rfl) fun a S => ?_
      refine sMove (iv s57) S (wN rfl) (.inl rfl) rfl rfl (lb rfl) fun a S => ?_
      obtain ⟨x215, hx216, h⟩ := bindSome h
      obtain ⟨q217, hq218, S⟩ := pIdx (P := Try.prog) (r := r_api_Stitch) (v := .slice ad1 p0.length cp2) (xs := p0) (j := s57) 47 81 4 S Try.underlying47 rfl rfl hx216
      refine sIdxV (v := .slice ad1 p0.length cp2) (k := .i64) (j := s57) S (wN rfl) rfl rfl rfl hq218 rfl (lb rfl) fun a S => ?_
      obtain ⟨u219, S⟩ := pLoad (r := r_api_Stitch) (q := q217) (x := x215) 0 S rfl
      obtain rfl : u219 = .agg #[.int .u8 x215.Kind, .bool x215.Purl, iv x215.A, iv x215.B] := S.mem.know (i := 1) (e := fRep r_api_Stitch (u219) x215) rfl
      refine sLoadVN (vq := q217) 0 [.int .u8 x215.Kind, .bool x215.Purl, iv x215.A, iv x215.B] S (wN rfl) rfl rfl rfl rfl rfl rfl (lb rfl) fun a S => ?_
      refine sBuild [(0, .int .u8 3), (1, .agg #[.int .u8 x215.Kind, .bool x215.Purl, iv x215.A, iv x215.B])] [.int .u8 3, .int .u8 x215.Kind, .bool x215.Purl, iv x215.A, iv x215.B] S (wN rfl) rfl rfl rfl rfl (lb rfl) fun a S => ?_
      have S := S.learn (fRep r_api_CellStep (.agg #[.int .u8 3, .int .u8 x215.Kind, .bool x215.Purl, iv x215.A, iv x215.B]) (api_CellStep.mk 3 x215)) rfl
      refine sLit (r := r_api_CellStep) (T := 83) (xs := [(api_CellStep.mk 3 x215)]) [(0, .agg #[.int .u8 3, .int .u8 x215.Kind, .bool x215.Purl, iv x215.A, iv x215.B])] 1 [.agg #[.int .u8 3, .int .u8 x215.Kind, .bool x215.Purl, iv x215.A, iv x215.B]] [.int .u8 3, .int .u8 x215.Kind, .bool x215.Purl, iv x215.A, iv x215.B] (.agg #[.int .u8 0, .int .u8 0, .bool false, iv 0, iv 0]) 32 S (wN rfl) rfl rfl Try.underlying48 rfl (by decide) (by decide) (by kernel_rfl) rfl (fun E1 w1 hE => All.cons (r_api_CellStep.mono hE (S.mem.know (i := 0) (e := fRep r_api_CellStep (.agg #[.int .u8 3, .int .u8 x215.Kind, .bool x215.Purl, iv x215.A, iv x215.B]) (api_CellStep.mk 3 x215)) rfl)) (All.nil _ _ _)) rfl rfl (lb rfl) fun a w ad220 cp221 S => ?_
      obtain ⟨l222, hx223, h⟩ := bindSome h
      refine sApp (r := r_api_CellStep) (T := 83) (xs := s54) (ys := [(api_CellStep.mk 3 x215)]) (v := .slice ad55 s54.length cp56) (u := .slice ad220 [(api_CellStep.mk 3 x215)].length cp221) 2 (.agg #[.int .u8 0, .int .u8 0, .bool false, iv 0, iv 0]) 32 S (wN rfl) rfl Try.underlying48 rfl rfl (by decide) rfl rfl rfl (src_R (T := 83) 0 S.mem rfl) hx223 rfl (lb rfl) fun a w ad224 cp225 S => ?_
      refine sMove (.slice ad224 l222.length cp225) S (wN rfl) (.inr rfl) rfl rfl (lb rfl) fun a S => ?_
      exact leafL (leafB (leafT (⟨s51, l222, Option.some.inj h, ad52, cp53, ad224, cp225, S.fix [2, 0] [8, 9] (by decide) rfl rfl rfl⟩)))
    refine sCondT S rfl hc189 ?_
    refine sSeq (fun K190 hK190 => ?_)
    refine sRegion ?_
    refine sMove (.slice ad52 s51.length cp53) S (wN rfl) (.inl rfl) rfl rfl (lb rfl) fun a S => ?_
    refine sMove (.slice ad3 p1.length cp4) S (wN rfl) (.inl rfl) rfl rfl (lb rfl) fun a S => ?_
    refine sMove (iv s58) S (wN rfl) (.inl rfl) rfl rfl (lb rfl) fun a S => ?_
    obtain ⟨q191, hq192, S⟩ := pIdx (P := Try.prog) (r := r_api_CellStep) (v := .slice ad3 p1.length cp4) (xs := p1) (j := s58) 48 83 5 S Try.underlying48 rfl rfl hx84
    refine sIdxV (v := .slice ad3 p1.length cp4) (k := .i64) (j := s58) S (wN rfl) rfl rfl rfl hq192 rfl (lb rfl) fun a S => ?_
    obtain ⟨q193, hq194, S⟩ := pFld (P := Try.prog) (r := r_api_CellStep) (s2 := r_api_Stitch) (g := (·.S)) (q := q191) (z := x83) 83 1 0 1 S rfl rfl comp_api_CellStep_S
    refine sFldV (q := q191) S (wN rfl) rfl rfl hq194 rfl (lb rfl) fun a S => ?_
    obtain ⟨u195, S⟩ := pLoad (r := r_api_Stitch) (q := q193) (x := x83.S) 0 S rfl
    obtain rfl : u195 = .agg #[.int .u8 x83.S.Kind, .bool x83.S.Purl, iv x83.S.A, iv x83.S.B] := S.mem.know (i := 1) (e := fRep r_api_Stitch (u195) x83.S) rfl
    refine sLoadVN (vq := q193) 0 [.int .u8 x83.S.Kind, .bool x83.S.Purl, iv x83.S.A, iv x83.S.B] S (wN rfl) rfl rfl rfl rfl rfl rfl (lb rfl) fun a S => ?_
    refine sLit (r := r_api_Stitch) (T := 81) (xs := [x83.S]) [(0, .agg #[.int .u8 x83.S.Kind, .bool x83.S.Purl, iv x83.S.A, iv x83.S.B])] 1 [.agg #[.int .u8 x83.S.Kind, .bool x83.S.Purl, iv x83.S.A, iv x83.S.B]] [.int .u8 x83.S.Kind, .bool x83.S.Purl, iv x83.S.A, iv x83.S.B] (.agg #[.int .u8 0, .bool false, iv 0, iv 0]) 24 S (wN rfl) rfl rfl Try.underlying47 rfl (by decide) (by decide) (by kernel_rfl) rfl (fun E1 w1 hE => All.cons (r_api_Stitch.mono hE (S.mem.know (i := 1) (e := fRep r_api_Stitch (.agg #[.int .u8 x83.S.Kind, .bool x83.S.Purl, iv x83.S.A, iv x83.S.B]) x83.S) rfl)) (All.nil _ _ _)) rfl rfl (lb rfl) fun a w ad196 cp197 S => ?_
    obtain ⟨l198, hx199, h⟩ := bindSome h
    refine sApp (r := r_api_Stitch) (T := 81) (xs := s51) (ys := [x83.S]) (v := .slice ad52 s51.length cp53) (u := .slice ad196 [x83.S].length cp197) 1 (.agg #[.int .u8 0, .bool false, iv 0, iv 0]) 24 S (wN rfl) rfl Try.underlying47 rfl rfl (by decide) rfl rfl rfl (src_R (T := 81) 0 S.mem rfl) hx199 rfl (lb rfl) fun a w ad200 cp201 S => ?_
    refine sMove (.slice ad200 l198.length cp201) S (wN rfl) (.inr rfl) rfl rfl (lb rfl) fun a S => ?_
    refine leafL (leafT (hK190 _ _ ?_))
    refine sRegion ?_
    refine sMove (.slice ad55 s54.length cp56) S (wN rfl) (.inl rfl) rfl rfl (lb rfl) fun a S => ?_
    refine sMove (.slice ad1 p0.length cp2) S (wN rfl) (.inl rfl) rfl rfl (lb rfl) fun a S => ?_
    refine sMove (iv s57) S (wN rfl) (.inl rfl) rfl rfl (lb rfl) fun a S => ?_
    obtain ⟨x202, hx203, h⟩ := bindSome h
    obtain ⟨q204, hq205, S⟩ := pIdx (P := Try.prog) (r := r_api_Stitch) (v := .slice ad1 p0.length cp2) (xs := p0) (j := s57) 47 81 8 S Try.underlying47 rfl rfl hx203
    refine sIdxV (v := .slice ad1 p0.length cp2) (k := .i64) (j := s57) S (wN rfl) rfl rfl rfl hq205 rfl (lb rfl) fun a S => ?_
    obtain ⟨u206, S⟩ := pLoad (r := r_api_Stitch) (q := q204) (x := x202) 0 S rfl
    obtain rfl : u206 = .agg #[.int .u8 x202.Kind, .bool x202.Purl, iv x202.A, iv x202.B] := S.mem.know (i := 1) (e := fRep r_api_Stitch (u206) x202) rfl
    refine sLoadVN (vq := q204) 0 [.int .u8 x202.Kind, .bool x202.Purl, iv x202.A, iv x202.B] S (wN rfl) rfl rfl rfl rfl rfl rfl (lb rfl) fun a S => ?_
    refine sBuild [(0, .int .u8 2), (1, .agg #[.int .u8 x202.Kind, .bool x202.Purl, iv x202.A, iv x202.B])] [.int .u8 2, .int .u8 x202.Kind, .bool x202.Purl, iv x202.A, iv x202.B] S (wN rfl) rfl rfl rfl rfl (lb rfl) fun a S => ?_
    have S := S.learn (fRep r_api_CellStep (.agg #[.int .u8 2, .int .u8 x202.Kind, .bool x202.Purl, iv x202.A, iv x202.B]) (api_CellStep.mk 2 x202)) rfl
    refine sLit (r := r_api_CellStep) (T := 83) (xs := [(api_CellStep.mk 2 x202)]) [(0, .agg #[.int .u8 2, .int .u8 x202.Kind, .bool x202.Purl, iv x202.A, iv x202.B])] 1 [.agg #[.int .u8 2, .int .u8 x202.Kind, .bool x202.Purl, iv x202.A, iv x202.B]] [.int .u8 2, .int .u8 x202.Kind, .bool x202.Purl, iv x202.A, iv x202.B] (.agg #[.int .u8 0, .int .u8 0, .bool false, iv 0, iv 0]) 32 S (wN rfl) rfl rfl Try.underlying48 rfl (by decide) (by decide) (by kernel_rfl) rfl (fun E1 w1 hE => All.cons (r_api_CellStep.mono hE (S.mem.know (i := 0) (e := fRep r_api_CellStep (.agg #[.int .u8 2, .int .u8 x202.Kind, .bool x202.Purl, iv x202.A, iv x202.B]) (api_CellStep.mk 2 x202)) rfl)) (All.nil _ _ _)) rfl rfl (lb rfl) fun a w ad207 cp208 S => ?_
    obtain ⟨l209, hx210, h⟩ := bindSome h
    refine sApp (r := r_api_CellStep) (T := 83) (xs := s54) (ys := [(api_CellStep.mk 2 x202)]) (v := .slice ad55 s54.length cp56) (u := .slice ad207 [(api_CellStep.mk 2 x202)].length cp208) 3 (.agg #[.int .u8 0, .int .u8 0, .bool false, iv 0, iv 0]) 32 S (wN rfl) rfl Try.underlying48 rfl rfl (by decide) rfl rfl rfl (src_R (T := 83) 0 S.mem rfl) hx210 rfl (lb rfl) fun a w ad211 cp212 S => ?_
    refine sMove (.slice ad211 l209.length cp212) S (wN rfl) (.inr rfl) rfl rfl (lb rfl) fun a S => ?_
    exact leafL (leafB (leafT (⟨l198, l209, Option.some.inj h, ad200, cp201, ad211, cp212, S.fix [2, 0] [12, 13] (by decide) rfl rfl rfl⟩)))
  rcases iteSome h with ⟨hc114, h⟩ | ⟨hc114, h⟩
  · refine sDraw (nf := []) (W := [(0, 58, iv s57), (1, 59, .slice ad1 p0.length cp2), (2, 60, iv (p0.length : Int)), (3, 61, .bool (s57 == (p0.length : Int))), (4, 62, .bool (s57 == (p0.length : Int))), (5, 63, undef), (6, 64, undef), (7, 65, undef), (8, 66, undef), (9, 67, undef), (10, 68, undef), (11, 69, undef), (12, 70, undef), (13, 71, undef), (14, 72, undef), (15, 73, undef), (16, 74, undef), (17, 75, undef), (18, 76, undef), (19, 77, undef), (20, 78, undef), (21, 79, undef), (22, 80, undef), (23, 81, .bool true)]) rfl S ?_
    refine node_by (A := anc_raddleref46_gone_0) (nf := []) (Y := []) (W := [(0, 58, iv s57), (1, 59, .slice ad1 p0.length cp2), (2, 60, iv (p0.length : Int)), (3, 61, .bool (s57 == (p0.length : Int))), (4, 62, .bool (s57 == (p0.length : Int))), (5, 63, undef), (6, 64, undef), (7, 65, undef), (8, 66, undef), (9, 67, undef), (10, 68, undef), (11, 69, undef), (12, 70, undef), (13, 71, undef), (14, 72, undef), (15, 73, undef), (16, 74, undef), (17, 75, undef), (18, 76, undef), (19, 77, undef), (20, 78, undef), (21, 79, undef), (22, 80, undef), (23, 81, .bool true)]) 24 (by kernel_rfl) (by kernel_rfl) (by kernel_rfl) (by kernel_rfl) (by kernel_rfl) [0, 1, 2, 3, 4, 5, 6, 7, 8, 9, 10, 11, 12, 13, 14, 15, 16, 17, 18, 19, 20, 21, 22, 23] (by kernel_rfl) (by decide) (by decide) (aF 0 23 (by decide) ?_ (aF 1 22 (by decide) ?_ (aF 2 21 (by decide) ?_ (aF 3 20 (by decide) ?_ (aF 4 19 (by decide) ?_ (aF 5 18 (by decide) ?_ (aF 6 17 (by decide) ?_ (aF 7 16 (by decide) ?_ (aF 8 15 (by decide) ?_ (aF 9 14 (by decide) ?_ (aF 10 13 (by decide) ?_ (aF 11 12 (by decide) ?_ (aF 12 11 (by decide) ?_ (aF 13 10 (by decide) ?_ (aF 14 9 (by decide) ?_ (aF 15 8 (by decide) ?_ (aF 16 7 (by decide) ?_ (aF 17 6 (by decide) ?_ (aF 18 5 (by decide) ?_ (aF 19 4 (by decide) ?_ (aF 20 3 (by decide) ?_ (aF 21 2 (by decide) ?_ (aF 22 1 (by decide) ?_ (aF 23 0 (by decide) ?_ (trivial))))))))))))))))))))))))) [(0, .slice ad1 p0.length cp2), (1, .slice ad3 p1.length cp4), (9, .slice ad52 s51.length cp53), (10, .slice ad55 s54.length cp56), (11, iv s57), (12, iv s58), (63, undef), (64, undef), (65, undef), (66, undef), (67, undef), (68, undef), (69, undef), (70, undef), (71, undef), (72, undef), (73, undef), (74, undef), (75, undef), (76, undef), (77, undef), (78, undef), (79, undef), (80, undef), (81, .bool true)] (fin_of [none, none, none, none, none, none, some 5, some 6, some 7, some 8, some 9, some 10, some 11, some 12, some 13, some 14, some 15, some 16, some 17, some 18, some 19, some 20, some 21, some 22, some 23] rfl (by kernel_rfl) (by kernel_rfl)) (fun _ a w S => ?_)
    · refine fI 58 (iv s57) [(11, iv s57)] 0 [none] rfl rfl rfl rfl rfl rfl fun G a w S => ?_
      refine sMove (iv s57) S (wN rfl) (.inl rfl) rfl rfl (lb rfl) fun a S => ?_
      exact leafL ⟨rfl, S⟩
    · refine fI 59 (.slice ad1 p0.length cp2) [(0, .slice ad1 p0.length cp2)] 1 [none] rfl rfl rfl rfl rfl rfl fun G a w S => ?_
      refine sMove (.slice ad1 p0.length cp2) S (wN rfl) (.inl rfl) rfl rfl (lb rfl) fun a S => ?_
      exact leafL ⟨rfl, S⟩
    · refine fI 60 (iv (p0.length : Int)) [(59, .slice ad1 p0.length cp2)] 2 [some 1] rfl rfl rfl rfl rfl rfl fun G a w S => ?_
      refine sLen (ad := ad1) (m := p0.length) (c := cp2) S (wN rfl) rfl Try.underlying47 rfl rfl (lb rfl) fun a S => ?_
      exact leafL ⟨rfl, S⟩
    · refine fI 61 (.bool (s57 == (p0.length : Int))) [(58, iv s57), (60, iv (p0.length : Int))] 3 [some 0, some 2] rfl rfl rfl rfl rfl rfl fun G a w S => ?_
      refine sBin (.bool (s57 == (p0.length : Int))) S (wN rfl) rfl rfl rfl (bEq _ _ _ _ .i64 s57 (p0.length : Int)) rfl (lb rfl) fun a S => ?_
      exact leafL ⟨rfl, S⟩
    · refine fI 62 (.bool (s57 == (p0.length : Int))) [(61, .bool (s57 == (p0.length : Int)))] 4 [some 3] rfl rfl rfl rfl rfl rfl fun G a w S => ?_
      refine sMove (.bool (s57 == (p0.length : Int))) S (wN rfl) (.inl rfl) rfl rfl (lb rfl) fun a S => ?_
      exact leafL ⟨rfl, S⟩
    · refine fI 63 undef [(1, .slice ad3 p1.length cp4), (62, .bool (s57 == (p0.length : Int)))] 5 [none, some 4] rfl rfl rfl rfl rfl rfl fun G a w S => ?_
      refine sSkip 4 false 62 63 S rfl rfl rfl hc114 rfl (lb rfl) fun a S => ?_
      exact leafL ⟨rfl, S⟩
    · refine fI 64 undef [(12, iv s58), (62, .bool (s57 == (p0.length : Int)))] 6 [none, some 4] rfl rfl rfl rfl rfl rfl fun G a w S => ?_
      refine sSkip 4 false 62 64 S rfl rfl rfl hc114 rfl (lb rfl) fun a S => ?_
      exact leafL ⟨rfl, S⟩
    · refine fI 65 undef [(63, undef), (64, undef), (62, .bool (s57 == (p0.length : Int)))] 7 [some 5, some 6, some 4] rfl rfl rfl rfl rfl rfl fun G a w S => ?_
      refine sSkip 4 false 62 65 S rfl rfl rfl hc114 rfl (lb rfl) fun a S => ?_
      exact leafL ⟨rfl, S⟩
    · refine fI 66 undef [(65, undef), (62, .bool (s57 == (p0.length : Int)))] 8 [some 7, some 4] rfl rfl rfl rfl rfl rfl fun G a w S => ?_
      refine sSkip 4 false 62 66 S rfl rfl rfl hc114 rfl (lb rfl) fun a S => ?_
      exact leafL ⟨rfl, S⟩
    · refine fI 67 undef [(66, undef), (62, .bool (s57 == (p0.length : Int)))] 9 [some 8, some 4] rfl rfl rfl rfl rfl rfl fun G a w S => ?_
      refine sSkip 4 false 62 67 S rfl rfl rfl hc114 rfl (lb rfl) fun a S => ?_
      exact leafL ⟨rfl, S⟩
    · refine fI 68 undef [(67, undef), (62, .bool (s57 == (p0.length : Int)))] 10 [some 9, some 4] rfl rfl rfl rfl rfl rfl fun G a w S => ?_
      refine sSkip 4 false 62 68 S rfl rfl rfl hc114 rfl (lb rfl) fun a S => ?_
      exact leafL ⟨rfl, S⟩
    · refine fI 69 undef [(68, undef), (62, .bool (s57 == (p0.length : Int)))] 11 [some 10, some 4] rfl rfl rfl rfl rfl rfl fun G a w S => ?_
      refine sSkip 4 false 62 69 S rfl rfl rfl hc114 rfl (lb rfl) fun a S => ?_
      exact leafL ⟨rfl, S⟩
    · refine fI 70 undef [(1, .slice ad3 p1.length cp4), (69, undef)] 12 [none, some 11] rfl rfl rfl rfl rfl rfl fun G a w S => ?_
      refine sSkipU 11 true 69 70 S rfl rfl rfl rfl (lb rfl) fun a S => ?_
      exact leafL ⟨rfl, S⟩
    · refine fI 71 undef [(12, iv s58), (69, undef)] 13 [none, some 11] rfl rfl rfl rfl rfl rfl fun G a w S => ?_
      refine sSkipU 11 true 69 71 S rfl rfl rfl rfl (lb rfl) fun a S => ?_
      exact leafL ⟨rfl, S⟩
    · refine fI 72 undef [(70, undef), (71, undef), (69, undef)] 14 [some 12, some 13, some 11] rfl rfl rfl rfl rfl rfl fun G a w S => ?_
      refine sSkipU 11 true 69 72 S rfl rfl rfl rfl (lb rfl) fun a S => ?_
      exact leafL ⟨rfl, S⟩
    · refine fI 73 undef [(72, undef), (69, undef)] 15 [some 14, some 11] rfl rfl rfl rfl rfl rfl fun G a w S => ?_
      refine sSkipU 11 true 69 73 S rfl rfl rfl rfl (lb rfl) fun a S => ?_
      exact leafL ⟨rfl, S⟩
    · refine fI 74 undef [(73, undef), (69, undef)] 16 [some 15, some 11] rfl rfl rfl rfl rfl rfl fun G a w S => ?_
      refine sSkipU 11 true 69 74 S rfl rfl rfl rfl (lb rfl) fun a S => ?_
      exact leafL ⟨rfl, S⟩
    · refine fI 75 undef [(0, .slice ad1 p0.length cp2), (69, undef)] 17 [none, some 11] rfl rfl rfl rfl rfl rfl fun G a w S => ?_
      refine sSkipU 11 true 69 75 S rfl rfl rfl rfl (lb rfl) fun a S => ?_
      exact leafL ⟨rfl, S⟩
    · refine fI 76 undef [(11, iv s57), (69, undef)] 18 [none, some 11] rfl rfl rfl rfl rfl rfl fun G a w S => ?_
      refine sSkipU 11 true 69 76 S rfl rfl rfl rfl (lb rfl) fun a S => ?_
      exact leafL ⟨rfl, S⟩
    · refine fI 77 undef [(75, undef), (76, undef), (69, undef)] 19 [some 17, some 18, some 11] rfl rfl rfl rfl rfl rfl fun G a w S => ?_
      refine sSkipU 11 true 69 77 S rfl rfl rfl rfl (lb rfl) fun a S => ?_
      exact leafL ⟨rfl, S⟩
    · refine fI 78 undef [(77, undef), (69, undef)] 20 [some 19, some 11] rfl rfl rfl rfl rfl rfl fun G a w S => ?_
      refine sSkipU 11 true 69 78 S rfl rfl rfl rfl (lb rfl) fun a S => ?_
      exact leafL ⟨rfl, S⟩
    · refine fI 79 undef [(74, undef), (78, undef), (69, undef)] 21 [some 16, some 20, some 11] rfl rfl rfl rfl rfl rfl fun G a w S => ?_
      refine sSkipU 11 true 69 79 S rfl rfl rfl rfl (lb rfl) fun a S => ?_
      exact leafL ⟨rfl, S⟩
    · refine fI 80 undef [(69, undef), (79, undef), (62, .bool (s57 == (p0.length : Int)))] 22 [some 11, some 21, some 4] rfl rfl rfl rfl rfl rfl fun G a w S => ?_
      refine sSkip 4 false 62 80 S rfl rfl rfl hc114 rfl (lb rfl) fun a S => ?_
      exact leafL ⟨rfl, S⟩
    · refine fI 81 (.bool true) [(62, .bool (s57 == (p0.length : Int))), (80, undef)] 23 [some 4, some 22] rfl rfl rfl rfl rfl rfl fun G a w S => ?_
      refine sPickT (.bool true) S (wN rfl) rfl rfl hc114 rfl rfl (lb rfl) fun a S => ?_
      exact leafL ⟨rfl, S⟩
    exact leafT (⟨true, Option.some.inj h, S.fix [0, 1] [4, 5] (by decide) rfl rfl rfl⟩)
  rcases iteSome h with ⟨hc120, h⟩ | ⟨hc120, h⟩
  rotate_left
  · obtain ⟨q144, hq145, S⟩ := pIdx (P := Try.prog) (r := r_api_CellStep) (v := .slice ad3 p1.length cp4) (xs := p1) (j := s58) 48 83 5 S Try.underlying48 rfl rfl hx84
    obtain ⟨q146, hq147, S⟩ := pFld (P := Try.prog) (r := r_api_CellStep) (s2 := (rI .u8)) (g := (·.Kind)) (q := q144) (z := x83) 83 0 0 0 S rfl rfl comp_api_CellStep_Kind
    obtain ⟨u148, S⟩ := pLoad (r := (rI .u8)) (q := q146) (x := x83.Kind) 0 S rfl
    obtain rfl : u148 = .int .u8 x83.Kind := S.mem.know (i := 1) (e := fRep (rI .u8) (u148) x83.Kind) rfl
    refine sDraw (nf := []) (W := [(0, 58, iv s57), (1, 59, .slice ad1 p0.length cp2), (2, 60, iv (p0.length : Int)), (3, 61, .bool (s57 == (p0.length : Int))), (4, 62, .bool (s57 == (p0.length : Int))), (5, 63, .slice ad3 p1.length cp4), (6, 64, iv s58), (7, 65, q144), (8, 66, q146), (9, 67, .int .u8 x83.Kind), (10, 68, .bool (x83.Kind == 2)), (11, 69, .bool (x83.Kind == 2)), (12, 70, undef), (13, 71, undef), (14, 72, undef), (15, 73, undef), (16, 74, undef), (17, 75, undef), (18, 76, undef), (19, 77, undef), (20, 78, undef), (21, 79, undef), (22, 80, .bool false), (23, 81, .bool false)]) rfl S ?_
    refine node_by (A := anc_raddleref46_gone_0) (nf := []) (Y := []) (W := [(0, 58, iv s57), (1, 59, .slice ad1 p0.length cp2), (2, 60, iv (p0.length : Int)), (3, 61, .bool (s57 == (p0.length : Int))), (4, 62, .bool (s57 == (p0.length : Int))), (5, 63, .slice ad3 p1.length cp4), (6, 64, iv s58), (7, 65, q144), (8, 66, q146), (9, 67, .int .u8 x83.Kind), (10, 68, .bool (x83.Kind == 2)), (11, 69, .bool (x83.Kind == 2)), (12, 70, undef), (13, 71, undef), (14, 72, undef), (15, 73, undef), (16, 74, undef), (17, 75, undef), (18, 76, undef), (19, 77, undef), (20, 78, undef), (21, 79, undef), (22, 80, .bool false), (23, 81, .bool false)]) 24 (by kernel_rfl) (by kernel_rfl) (by kernel_rfl) (by kernel_rfl) (by kernel_rfl) [0, 1, 2, 3, 4, 5, 6, 7, 8, 9, 10, 11, 12, 13, 14, 15, 16, 17, 18, 19, 20, 21, 22, 23] (by kernel_rfl) (by decide) (by decide) (aF 0 23 (by decide) ?_ (aF 1 22 (by decide) ?_ (aF 2 21 (by decide) ?_ (aF 3 20 (by decide) ?_ (aF 4 19 (by decide) ?_ (aF 5 18 (by decide) ?_ (aF 6 17 (by decide) ?_ (aF 7 16 (by decide) ?_ (aF 8 15 (by decide) ?_ (aF 9 14 (by decide) ?_ (aF 10 13 (by decide) ?_ (aF 11 12 (by decide) ?_ (aF 12 11 (by decide) ?_ (aF 13 10 (by decide) ?_ (aF 14 9 (by decide) ?_ (aF 15 8 (by decide) ?_ (aF 16 7 (by decide) ?_ (aF 17 6 (by decide) ?_ (aF 18 5 (by decide) ?_ (aF 19 4 (by decide) ?_ (aF 20 3 (by decide) ?_ (aF 21 2 (by decide) ?_ (aF 22 1 (by decide) ?_ (aF 23 0 (by decide) ?_ (trivial))))))))))))))))))))))))) [(0, .slice ad1 p0.length cp2), (1, .slice ad3 p1.length cp4), (9, .slice ad52 s51.length cp53), (10, .slice ad55 s54.length cp56), (11, iv s57), (12, iv s58), (63, .slice ad3 p1.length cp4), (64, iv s58), (65, q144), (66, q146), (67, .int .u8 x83.Kind), (68, .bool (x83.Kind == 2)), (69, .bool (x83.Kind == 2)), (70, undef), (71, undef), (72, undef), (73, undef), (74, undef), (75, undef), (76, undef), (77, undef), (78, undef), (79, undef), (80, .bool false), (81, .bool false)] (fin_of [none, none, none, none, none, none, some 5, some 6, some 7, some 8, some 9, some 10, some 11, some 12, some 13, some 14, some 15, some 16, some 17, some 18, some 19, some 20, some 21, some 22, some 23] rfl (by kernel_rfl) (by kernel_rfl)) (fun _ a w S => ?_)
    · refine fI 58 (iv s57) [(11, iv s57)] 0 [none] rfl rfl rfl rfl rfl rfl fun G a w S => ?_
      refine sMove (iv s57) S (wN rfl) (.inl rfl) rfl rfl (lb rfl) fun a S => ?_
      exact leafL ⟨rfl, S⟩
    · refine fI 59 (.slice ad1 p0.length cp2) [(0, .slice ad1 p0.length cp2)] 1 [none] rfl rfl rfl rfl rfl rfl fun G a w S => ?_
      refine sMove (.slice ad1 p0.length cp2) S (wN rfl) (.inl rfl) rfl rfl (lb rfl) fun a S => ?_
      exact leafL ⟨rfl, S⟩
    · refine fI 60 (iv (p0.length : Int)) [(59, .slice ad1 p0.length cp2)] 2 [some 1] rfl rfl rfl rfl rfl rfl fun G a w S => ?_
      refine sLen (ad := ad1) (m := p0.length) (c := cp2) S (wN rfl) rfl Try.underlying47 rfl rfl (lb rfl) fun a S => ?_
      exact leafL ⟨rfl, S⟩
    · refine fI 61 (.bool (s57 == (p0.length : Int))) [(58, iv s57), (60, iv (p0.length : Int))] 3 [some 0, some 2] rfl rfl rfl rfl rfl rfl fun G a w S => ?_
      refine sBin (.bool (s57 == (p0.length : Int))) S (wN rfl) rfl rfl rfl (bEq _ _ _ _ .i64 s57 (p0.length : Int)) rfl (lb rfl) fun a S => ?_
      exact leafL ⟨rfl, S⟩
    · refine fI 62 (.bool (s57 == (p0.length : Int))) [(61, .bool (s57 == (p0.length : Int)))] 4 [some 3] rfl rfl rfl rfl rfl rfl fun G a w S => ?_
      refine sMove (.bool (s57 == (p0.length : Int))) S (wN rfl) (.inl rfl) rfl rfl (lb rfl) fun a S => ?_
      exact leafL ⟨rfl, S⟩
    · refine fI 63 (.slice ad3 p1.length cp4) [(1, .slice ad3 p1.length cp4), (62, .bool (s57 == (p0.length : Int)))] 5 [none, some 4] rfl rfl rfl rfl rfl rfl fun G a w S => ?_
      refine sMove (.slice ad3 p1.length cp4) S (wG 4 false 62 rfl rfl rfl hc114) (.inl rfl) rfl rfl (lb rfl) fun a S => ?_
      exact leafL ⟨rfl, S⟩
    · refine fI 64 (iv s58) [(12, iv s58), (62, .bool (s57 == (p0.length : Int)))] 6 [none, some 4] rfl rfl rfl rfl rfl rfl fun G a w S => ?_
      refine sMove (iv s58) S (wG 4 false 62 rfl rfl rfl hc114) (.inl rfl) rfl rfl (lb rfl) fun a S => ?_
      exact leafL ⟨rfl, S⟩
    · refine fI 65 q144 [(63, .slice ad3 p1.length cp4), (64, iv s58), (62, .bool (s57 == (p0.length : Int)))] 7 [some 5, some 6, some 4] rfl rfl rfl rfl rfl rfl fun G a w S => ?_
      refine sIdxV (v := .slice ad3 p1.length cp4) (k := .i64) (j := s58) S (wG 4 false 62 rfl rfl rfl hc114) rfl rfl rfl hq145 rfl (lb rfl) fun a S => ?_
      exact leafL ⟨rfl, S⟩
    · refine fI 66 q146 [(65, q144), (62, .bool (s57 == (p0.length : Int)))] 8 [some 7, some 4] rfl rfl rfl rfl rfl rfl fun G a w S => ?_
      refine sFldV (q := q144) S (wG 4 false 62 rfl rfl rfl hc114) rfl rfl hq147 rfl (lb rfl) fun a S => ?_
      exact leafL ⟨rfl, S⟩
    · refine fI 67 (.int .u8 x83.Kind) [(66, q146), (62, .bool (s57 == (p0.length : Int)))] 9 [some 8, some 4] rfl rfl rfl rfl rfl rfl fun G a w S => ?_
      refine sLoadV1 (vq := q146) 0 (.int .u8 x83.Kind) S (wG 4 false 62 rfl rfl rfl hc114) rfl rfl rfl rfl rfl (lb rfl) fun a S => ?_
      exact leafL ⟨rfl, S⟩
    · refine fI 68 (.bool (x83.Kind == 2)) [(67, .int .u8 x83.Kind), (62, .bool (s57 == (p0.length : Int)))] 10 [some 9, some 4] rfl rfl rfl rfl rfl rfl fun G a w S => ?_
      refine sBin (.bool (x83.Kind == 2)) S (wG 4 false 62 rfl rfl rfl hc114) rfl rfl rfl (bEq _ _ _ _ .u8 x83.Kind 2) rfl (lb rfl) fun a S => ?_
      exact leafL ⟨rfl, S⟩
    · refine fI 69 (.bool (x83.Kind == 2)) [(68, .bool (x83.Kind == 2)), (62, .bool (s57 == (p0.length : Int)))] 11 [some 10, some 4] rfl rfl rfl rfl rfl rfl fun G a w S => ?_
      refine sMove (.bool (x83.Kind == 2)) S (wG 4 false 62 rfl rfl rfl hc114) (.inl rfl) rfl rfl (lb rfl) fun a S => ?_
      exact leafL ⟨rfl, S⟩
    · refine fI 70 undef [(1, .slice ad3 p1.length cp4), (69, .bool (x83.Kind == 2))] 12 [none, some 11] rfl rfl rfl rfl rfl rfl fun G a w S => ?_
      refine sSkip 11 true 69 70 S rfl rfl rfl hc120 rfl (lb rfl) fun a S => ?_
      exact leafL ⟨rfl, S⟩
    · refine fI 71 undef [(12, iv s58), (69, .bool (x83.Kind == 2))] 13 [none, some 11] rfl rfl rfl rfl rfl rfl fun G a w S => ?_
      refine sSkip 11 true 69 71 S rfl rfl rfl hc120 rfl (lb rfl) fun a S => ?_
      exact leafL ⟨rfl, S⟩
    · refine fI 72 undef [(70, undef), (71, undef), (69, .bool (x83.Kind == 2))] 14 [some 12, some 13, some 11] rfl rfl rfl rfl rfl rfl fun G a w S => ?_
      refine sSkip 11 true 69 72 S rfl rfl rfl hc120 rfl (lb rfl) fun a S => ?_
      exact leafL ⟨rfl, S⟩
    · refine fI 73 undef [(72, undef), (69, .bool (x83.Kind == 2))] 15 [some 14, some 11] rfl rfl rfl rfl rfl rfl fun G a w S => ?_
      refine sSkip 11 true 69 73 S rfl rfl rfl hc120 rfl (lb rfl) fun a S => ?_
      exact leafL ⟨rfl, S⟩
    · refine fI 74 undef [(73, undef), (69, .bool (x83.Kind == 2))] 16 [some 15, some 11] rfl rfl rfl rfl rfl rfl fun G a w S => ?_
      refine sSkip 11 true 69 74 S rfl rfl rfl hc120 rfl (lb rfl) fun a S => ?_
      exact leafL ⟨rfl, S⟩
    · refine fI 75 undef [(0, .slice ad1 p0.length cp2), (69, .bool (x83.Kind == 2))] 17 [none, some 11] rfl rfl rfl rfl rfl rfl fun G a w S => ?_
      refine sSkip 11 true 69 75 S rfl rfl rfl hc120 rfl (lb rfl) fun a S => ?_
      exact leafL ⟨rfl, S⟩
    · refine fI 76 undef [(11, iv s57), (69, .bool (x83.Kind == 2))] 18 [none, some 11] rfl rfl rfl rfl rfl rfl fun G a w S => ?_
      refine sSkip 11 true 69 76 S rfl rfl rfl hc120 rfl (lb rfl) fun a S => ?_
      exact leafL ⟨rfl, S⟩
    · refine fI 77 undef [(75, undef), (76, undef), (69, .bool (x83.Kind == 2))] 19 [some 17, some 18, some 11] rfl rfl rfl rfl rfl rfl fun G a w S => ?_
      refine sSkip 11 true 69 77 S rfl rfl rfl hc120 rfl (lb rfl) fun a S => ?_
      exact leafL ⟨rfl, S⟩
    · refine fI 78 undef [(77, undef), (69, .bool (x83.Kind == 2))] 20 [some 19, some 11] rfl rfl rfl rfl rfl rfl fun G a w S => ?_
      refine sSkip 11 true 69 78 S rfl rfl rfl hc120 rfl (lb rfl) fun a S => ?_
      exact leafL ⟨rfl, S⟩
    · refine fI 79 undef [(74, undef), (78, undef), (69, .bool (x83.Kind == 2))] 21 [some 16, some 20, some 11] rfl rfl rfl rfl rfl rfl fun G a w S => ?_
      refine sSkip 11 true 69 79 S rfl rfl rfl hc120 rfl (lb rfl) fun a S => ?_
      exact leafL ⟨rfl, S⟩
    · refine fI 80 (.bool false) [(69, .bool (x83.Kind == 2)), (79, undef), (62, .bool (s57 == (p0.length : Int)))] 22 [some 11, some 21, some 4] rfl rfl rfl rfl rfl rfl fun G a w S => ?_
      refine sPickF (.bool false) S (wG 4 false 62 rfl rfl rfl hc114) rfl rfl hc120 rfl rfl (lb rfl) fun a S => ?_
      exact leafL ⟨rfl, S⟩
    · refine fI 81 (.bool false) [(62, .bool (s57 == (p0.length : Int))), (80, .bool false)] 23 [some 4, some 22] rfl rfl rfl rfl rfl rfl fun G a w S => ?_
      refine sPickF (.bool false) S (wN rfl) rfl rfl hc114 rfl rfl (lb rfl) fun a S => ?_
      exact leafL ⟨rfl, S⟩
    exact leafT (⟨false, Option.some.inj h, S.fix [0, 1] [8, 9] (by decide) rfl rfl rfl⟩)
  obtain ⟨x126, hx127, h⟩ := bindSome h
  obtain ⟨q131, hq132, S⟩ := pIdx (P := Try.prog) (r := r_api_CellStep) (v := .slice ad3 p1.length cp4) (xs := p1) (j := s58) 48 83 5 S Try.underlying48 rfl rfl hx84
  obtain ⟨q133, hq134, S⟩ := pFld (P := Try.prog) (r := r_api_CellStep) (s2 := (rI .u8)) (g := (·.Kind)) (q := q131) (z := x83) 83 0 0 0 S rfl rfl comp_api_CellStep_Kind
  obtain ⟨u135, S⟩ := pLoad (r := (rI .u8)) (q := q133) (x := x83.Kind) 0 S rfl
  obtain rfl : u135 = .int .u8 x83.Kind := S.mem.know (i := 1) (e := fRep (rI .u8) (u135) x83.Kind) rfl
  obtain ⟨q136, hq137, S⟩ := pIdx (P := Try.prog) (r := r_api_CellStep) (v := .slice ad3 p1.length cp4) (xs := p1) (j := s58) 48 83 9 S Try.underlying48 rfl rfl hx84
  obtain ⟨q138, hq139, S⟩ := pFld (P := Try.prog) (r := r_api_CellStep) (s2 := r_api_Stitch) (g := (·.S)) (q := q136) (z := x83) 83 1 0 1 S rfl rfl comp_api_CellStep_S
  obtain ⟨u140, S⟩ := pLoad (r := r_api_Stitch) (q := q138) (x := x83.S) 0 S rfl
  obtain rfl : u140 = .agg #[.int .u8 x83.S.Kind, .bool x83.S.Purl, iv x83.S.A, iv x83.S.B] := S.mem.know (i := 1) (e := fRep r_api_Stitch (u140) x83.S) rfl
  obtain ⟨q141, hq142, S⟩ := pIdx (P := Try.prog) (r := r_api_Stitch) (v := .slice ad1 p0.length cp2) (xs := p0) (j := s57) 47 81 12 S Try.underlying47 rfl rfl hx127
  obtain ⟨u143, S⟩ := pLoad (r := r_api_Stitch) (q := q141) (x := x126) 0 S rfl
  obtain rfl : u143 = .agg #[.int .u8 x126.Kind, .bool x126.Purl, iv x126.A, iv x126.B] := S.mem.know (i := 1) (e := fRep r_api_Stitch (u143) x126) rfl
  refine sDraw (nf := []) (W := [(0, 58, iv s57), (1, 59, .slice ad1 p0.length cp2), (2, 60, iv (p0.length : Int)), (3, 61, .bool (s57 == (p0.length : Int))), (4, 62, .bool (s57 == (p0.length : Int))), (5, 63, .slice ad3 p1.length cp4), (6, 64, iv s58), (7, 65, q131), (8, 66, q133), (9, 67, .int .u8 x83.Kind), (10, 68, .bool (x83.Kind == 2)), (11, 69, .bool (x83.Kind == 2)), (12, 70, .slice ad3 p1.length cp4), (13, 71, iv s58), (14, 72, q136), (15, 73, q138), (16, 74, .agg #[.int .u8 x83.S.Kind, .bool x83.S.Purl, iv x83.S.A, iv x83.S.B]), (17, 75, .slice ad1 p0.length cp2), (18, 76, iv s57), (19, 77, q141), (20, 78, .agg #[.int .u8 x126.Kind, .bool x126.Purl, iv x126.A, iv x126.B]), (21, 79, .bool ((x83.S.Kind == x126.Kind) && ((x83.S.Purl == x126.Purl) && ((x83.S.A == x126.A) && ((x83.S.B == x126.B) && true))))), (22, 80, .bool ((x83.S.Kind == x126.Kind) && ((x83.S.Purl == x126.Purl) && ((x83.S.A == x126.A) && ((x83.S.B == x126.B) && true))))), (23, 81, .bool ((x83.S.Kind == x126.Kind) && ((x83.S.Purl == x126.Purl) && ((x83.S.A == x126.A) && ((x83.S.B == x126.B) && true)))))]) rfl S ?_
  refine node_by (A := anc_raddleref46_gone_0) (nf := []) (Y := []) (W := [(0, 58, iv s57), (1, 59, .slice ad1 p0.length cp2), (2, 60, iv (p0.length : Int)), (3, 61, .bool (s57 == (p0.length : Int))), (4, 62, .bool (s57 == (p0.length : Int))), (5, 63, .slice ad3 p1.length cp4), (6, 64, iv s58), (7, 65, q131), (8, 66, q133), (9, 67, .int .u8 x83.Kind), (10, 68, .bool (x83.Kind == 2)), (11, 69, .bool (x83.Kind == 2)), (12, 70, .slice ad3 p1.length cp4), (13, 71, iv s58), (14, 72, q136), (15, 73, q138), (16, 74, .agg #[.int .u8 x83.S.Kind, .bool x83.S.Purl, iv x83.S.A, iv x83.S.B]), (17, 75, .slice ad1 p0.length cp2), (18, 76, iv s57), (19, 77, q141), (20, 78, .agg #[.int .u8 x126.Kind, .bool x126.Purl, iv x126.A, iv x126.B]), (21, 79, .bool ((x83.S.Kind == x126.Kind) && ((x83.S.Purl == x126.Purl) && ((x83.S.A == x126.A) && ((x83.S.B == x126.B) && true))))), (22, 80, .bool ((x83.S.Kind == x126.Kind) && ((x83.S.Purl == x126.Purl) && ((x83.S.A == x126.A) && ((x83.S.B == x126.B) && true))))), (23, 81, .bool ((x83.S.Kind == x126.Kind) && ((x83.S.Purl == x126.Purl) && ((x83.S.A == x126.A) && ((x83.S.B == x126.B) && true)))))]) 24 (by kernel_rfl) (by kernel_rfl) (by kernel_rfl) (by kernel_rfl) (by kernel_rfl) [0, 1, 2, 3, 4, 5, 6, 7, 8, 9, 10, 11, 12, 13, 14, 15, 16, 17, 18, 19, 20, 21, 22, 23] (by kernel_rfl) (by decide) (by decide) (aF 0 23 (by decide) ?_ (aF 1 22 (by decide) ?_ (aF 2 21 (by decide) ?_ (aF 3 20 (by decide) ?_ (aF 4 19 (by decide) ?_ (aF 5 18 (by decide) ?_ (aF 6 17 (by decide) ?_ (aF 7 16 (by decide) ?_ (aF 8 15 (by decide) ?_ (aF 9 14 (by decide) ?_ (aF 10 13 (by decide) ?_ (aF 11 12 (by decide) ?_ (aF 12 11 (by decide) ?_ (aF 13 10 (by decide) ?_ (aF 14 9 (by decide) ?_ (aF 15 8 (by decide) ?_ (aF 16 7 (by decide) ?_ (aF 17 6 (by decide) ?_ (aF 18 5 (by decide) ?_ (aF 19 4 (by decide) ?_ (aF 20 3 (by decide) ?_ (aF 21 2 (by decide) ?_ (aF 22 1 (by decide) ?_ (aF 23 0 (by decide) ?_ (trivial))))))))))))))))))))))))) [(0, .slice ad1 p0.length cp2), (1, .slice ad3 p1.length cp4), (9, .slice ad52 s51.length cp53), (10, .slice ad55 s54.length cp56), (11, iv s57), (12, iv s58), (63, .slice ad3 p1.length cp4), (64, iv s58), (65, q131), (66, q133), (67, .int .u8 x83.Kind), (68, .bool (x83.Kind == 2)), (69, .bool (x83.Kind == 2)), (70, .slice ad3 p1.length cp4), (71, iv s58), (72, q136), (73, q138), (74, .agg #[.int .u8 x83.S.Kind, .bool x83.S.Purl, iv x83.S.A, iv x83.S.B]), (75, .slice ad1 p0.length cp2), (76, iv s57), (77, q141), (78, .agg #[.int .u8 x126.Kind, .bool x126.Purl, iv x126.A, iv x126.B]), (79, .bool ((x83.S.Kind == x126.Kind) && ((x83.S.Purl == x126.Purl) && ((x83.S.A == x126.A) && ((x83.S.B == x126.B) && true))))), (80, .bool ((x83.S.Kind == x126.Kind) && ((x83.S.Purl == x126.Purl) && ((x83.S.A == x126.A) && ((x83.S.B == x126.B) && true))))), (81, .bool ((x83.S.Kind == x126.Kind) && ((x83.S.Purl == x126.Purl) && ((x83.S.A == x126.A) && ((x83.S.B == x126.B) && true)))))] (fin_of [none, none, none, none, none, none, some 5, some 6, some 7, some 8, some 9, some 10, some 11, some 12, some 13, some 14, some 15, some 16, some 17, some 18, some 19, some 20, some 21, some 22, some 23] rfl (by kernel_rfl) (by kernel_rfl)) (fun _ a w S => ?_)
  · refine fI 58 (iv s57) [(11, iv s57)] 0 [none] rfl rfl rfl rfl rfl rfl fun G a w S => ?_
    refine sMove (iv s57) S (wN rfl) (.inl rfl) rfl rfl (lb rfl) fun a S => ?_
    exact leafL ⟨rfl, S⟩
  · refine fI 59 (.slice ad1 p0.length cp2) [(0, .slice ad1 p0.length cp2)] 1 [none] rfl rfl rfl rfl rfl rfl fun G a w S => ?_
    refine sMove (.slice ad1 p0.length cp2) S (wN rfl) (.inl rfl) rfl rfl (lb rfl) fun a S => ?_
    exact leafL ⟨rfl, S⟩
  · refine fI 60 (iv (p0.length : Int)) [(59, .slice ad1 p0.length cp2)] 2 [some 1] rfl rfl rfl rfl rfl rfl fun G a w S => ?_
    refine sLen (ad := ad1) (m := p0.length) (c := cp2) S (wN rfl) rfl Try.underlying47 rfl rfl (lb rfl) fun a S => ?_
    exact leafL ⟨rfl, S⟩
  · refine fI 61 (.bool (s57 == (p0.length : Int))) [(58, iv s57), (60, iv (p0.length : Int))] 3 [some 0, some 2] rfl rfl rfl rfl rfl rfl fun G a w S => ?_
    refine sBin (.bool (s57 == (p0.length : Int))) S (wN rfl) rfl rfl rfl (bEq _ _ _ _ .i64 s57 (p0.length : Int)) rfl (lb rfl) fun a S => ?_
    exact leafL ⟨rfl, S⟩
  · refine fI 62 (.bool (s57 == (p0.length : Int))) [(61, .bool (s57 == (p0.length : Int)))] 4 [some 3] rfl rfl rfl rfl rfl rfl fun G a w S => ?_
    refine sMove (.bool (s57 == (p0.length : Int))) S (wN rfl) (.inl rfl) rfl rfl (lb rfl) fun a S => ?_
    exact leafL ⟨rfl, S⟩
  · refine fI 63 (.slice ad3 p1.length cp4) [(1, .slice ad3 p1.length cp4), (62, .bool (s57 == (p0.length : Int)))] 5 [none, some 4] rfl rfl rfl rfl rfl rfl fun G a w S => ?_
    refine sMove (.slice ad3 p1.length cp4) S (wG 4 false 62 rfl rfl rfl hc114) (.inl rfl) rfl rfl (lb rfl) fun a S => ?_
    exact leafL ⟨rfl, S⟩
  · refine fI 64 (iv s58) [(12, iv s58), (62, .bool (s57 == (p0.length : Int)))] 6 [none, some 4] rfl rfl rfl rfl rfl rfl fun G a w S => ?_
    refine sMove (iv s58) S (wG 4 false 62 rfl rfl rfl hc114) (.inl rfl) rfl rfl (lb rfl) fun a S => ?_
    exact leafL ⟨rfl, S⟩
  · refine fI 65 q131 [(63, .slice ad3 p1.length cp4), (64, iv s58), (62, .bool (s57 == (p0.length : Int)))] 7 [some 5, some 6, some 4] rfl rfl rfl rfl rfl rfl fun G a w S => ?_
    refine sIdxV (v := .slice ad3 p1.length cp4) (k := .i64) (j := s58) S (wG 4 false 62 rfl rfl rfl hc114) rfl rfl rfl hq132 rfl (lb rfl) fun a S => ?_
    exact leafL ⟨rfl, S⟩
  · refine fI 66 q133 [(65, q131), (62, .bool (s57 == (p0.length : Int)))] 8 [some 7, some 4] rfl rfl rfl rfl rfl rfl fun G a w S => ?_
    refine sFldV (q := q131) S (wG 4 false 62 rfl rfl rfl hc114) rfl rfl hq134 rfl (lb rfl) fun a S => ?_
    exact leafL ⟨rfl, S⟩
  · refine fI 67 (.int .u8 x83.Kind) [(66, q133), (62, .bool (s57 == (p0.length : Int)))] 9 [some 8, some 4] rfl rfl rfl rfl rfl rfl fun G a w S => ?_
    refine sLoadV1 (vq := q133) 7 (.int .u8 x83.Kind) S (wG 4 false 62 rfl rfl rfl hc114) rfl rfl rfl rfl rfl (lb rfl) fun a S => ?_
    exact leafL ⟨rfl, S⟩
  · refine fI 68 (.bool (x83.Kind == 2)) [(67, .int .u8 x83.Kind), (62, .bool (s57 == (p0.length : Int)))] 10 [some 9, some 4] rfl rfl rfl rfl rfl rfl fun G a w S => ?_
    refine sBin (.bool (x83.Kind == 2)) S (wG 4 false 62 rfl rfl rfl hc114) rfl rfl rfl (bEq _ _ _ _ .u8 x83.Kind 2) rfl (lb rfl) fun a S => ?_
    exact leafL ⟨rfl, S⟩
  · refine fI 69 (.bool (x83.Kind == 2)) [(68, .bool (x83.Kind == 2)), (62, .bool (s57 == (p0.length : Int)))] 11 [some 10, some 4] rfl rfl rfl rfl rfl rfl fun G a w S => ?_
    refine sMove (.bool (x83.Kind == 2)) S (wG 4 false 62 rfl rfl rfl hc114) (.inl rfl) rfl rfl (lb rfl) fun a S => ?_
    exact leafL ⟨rfl, S⟩
  · refine fI 70 (.slice ad3 p1.length cp4) [(1, .slice ad3 p1.length cp4), (69, .bool (x83.Kind == 2))] 12 [none, some 11] rfl rfl rfl rfl rfl rfl fun G a w S => ?_
    refine sMove (.slice ad3 p1.length cp4) S (wG 11 true 69 rfl rfl rfl hc120) (.inl rfl) rfl rfl (lb rfl) fun a S => ?_
    exact leafL ⟨rfl, S⟩
  · refine fI 71 (iv s58) [(12, iv s58), (69, .bool (x83.Kind == 2))] 13 [none, some 11] rfl rfl rfl rfl rfl rfl fun G a w S => ?_
    refine sMove (iv s58) S (wG 11 true 69 rfl rfl rfl hc120) (.inl rfl) rfl rfl (lb rfl) fun a S => ?_
    exact leafL ⟨rfl, S⟩
  · refine fI 72 q136 [(70, .slice ad3 p1.length cp4), (71, iv s58), (69, .bool (x83.Kind == 2))] 14 [some 12, some 13, some 11] rfl rfl rfl rfl rfl rfl fun G a w S => ?_
    refine sIdxV (v := .slice ad3 p1.length cp4) (k := .i64) (j := s58) S (wG 11 true 69 rfl rfl rfl hc120) rfl rfl rfl hq137 rfl (lb rfl) fun a S => ?_
    exact leafL ⟨rfl, S⟩
  · refine fI 73 q138 [(72, q136), (69, .bool (x83.Kind == 2))] 15 [some 14, some 11] rfl rfl rfl rfl rfl rfl fun G a w S => ?_
    refine sFldV (q := q136) S (wG 11 true 69 rfl rfl rfl hc120) rfl rfl hq139 rfl (lb rfl) fun a S => ?_
    exact leafL ⟨rfl, S⟩
  · refine fI 74 (.agg #[.int .u8 x83.S.Kind, .bool x83.S.Purl, iv x83.S.A, iv x83.S.B]) [(73, q138), (69, .bool (x83.Kind == 2))] 16 [some 15, some 11] rfl rfl rfl rfl rfl rfl fun G a w S => ?_
    refine sLoadVN (vq := q138) 3 [.int .u8 x83.S.Kind, .bool x83.S.Purl, iv x83.S.A, iv x83.S.B] S (wG 11 true 69 rfl rfl rfl hc120) rfl rfl rfl rfl rfl rfl (lb rfl) fun a S => ?_
    exact leafL ⟨rfl, S⟩
  · refine fI 75 (.slice ad1 p0.length cp2) [(0, .slice ad1 p0.length cp2), (69, .bool (x83.Kind == 2))] 17 [none, some 11] rfl rfl rfl rfl rfl rfl fun G a w S => ?_
    refine sMove (.slice ad1 p0.length cp2) S (wG 11 true 69 rfl rfl rfl hc120) (.inl rfl) rfl rfl (lb rfl) fun a S => ?_
    exact leafL ⟨rfl, S⟩
  · refine fI 76 (iv s57) [(11, iv s57), (69, .bool (x83.Kind == 2))] 18 [none, some 11] rfl rfl rfl rfl rfl rfl fun G a w S => ?_
    refine sMove (iv s57) S (wG 11 true 69 rfl rfl rfl hc120) (.inl rfl) rfl rfl (lb rfl) fun a S => ?_
    exact leafL ⟨rfl, S⟩
  · refine fI 77 q141 [(75, .slice ad1 p0.length cp2), (76, iv s57), (69, .bool (x83.Kind == 2))] 19 [some 17, some 18, some 11] rfl rfl rfl rfl rfl rfl fun G a w S => ?_
    refine sIdxV (v := .slice ad1 p0.length cp2) (k := .i64) (j := s57) S (wG 11 true 69 rfl rfl rfl hc120) rfl rfl rfl hq142 rfl (lb rfl) fun a S => ?_
    exact leafL ⟨rfl, S⟩
  · refine fI 78 (.agg #[.int .u8 x126.Kind, .bool x126.Purl, iv x126.A, iv x126.B]) [(77, q141), (69, .bool (x83.Kind == 2))] 20 [some 19, some 11] rfl rfl rfl rfl rfl rfl fun G a w S => ?_
    refine sLoadVN (vq := q141) 0 [.int .u8 x126.Kind, .bool x126.Purl, iv x126.A, iv x126.B] S (wG 11 true 69 rfl rfl rfl hc120) rfl rfl rfl rfl rfl rfl (lb rfl) fun a S => ?_
    exact leafL ⟨rfl, S⟩
  · refine fI 79 (.bool ((x83.S.Kind == x126.Kind) && ((x83.S.Purl == x126.Purl) && ((x83.S.A == x126.A) && ((x83.S.B == x126.B) && true))))) [(74, .agg #[.int .u8 x83.S.Kind, .bool x83.S.Purl, iv x83.S.A, iv x83.S.B]), (78, .agg #[.int .u8 x126.Kind, .bool x126.Purl, iv x126.A, iv x126.B]), (69, .bool (x83.Kind == 2))] 21 [some 16, some 20, some 11] rfl rfl rfl rfl rfl rfl fun G a w S => ?_
    refine sBin (.bool ((x83.S.Kind == x126.Kind) && ((x83.S.Purl == x126.Purl) && ((x83.S.A == x126.A) && ((x83.S.B == x126.B) && true))))) S (wG 11 true 69 rfl rfl rfl hc120) rfl rfl rfl (bEqV _ _ _ _ #[.int .u8 x83.S.Kind, .bool x83.S.Purl, iv x83.S.A, iv x83.S.B] #[.int .u8 x126.Kind, .bool x126.Purl, iv x126.A, iv x126.B] ((x83.S.Kind == x126.Kind) && ((x83.S.Purl == x126.Purl) && ((x83.S.A == x126.A) && ((x83.S.B == x126.B) && true)))) (by kernel_rfl) (eqlV_of (by kernel_rfl))) rfl (lb rfl) fun a S => ?_
    exact leafL ⟨rfl, S⟩
  · refine fI 80 (.bool ((x83.S.Kind == x126.Kind) && ((x83.S.Purl == x126.Purl) && ((x83.S.A == x126.A) && ((x83.S.B == x126.B) && true))))) [(69, .bool (x83.Kind == 2)), (79, .bool ((x83.S.Kind == x126.Kind) && ((x83.S.Purl == x126.Purl) && ((x83.S.A == x126.A) && ((x83.S.B == x126.B) && true))))), (62, .bool (s57 == (p0.length : Int)))] 22 [some 11, some 21, some 4] rfl rfl rfl rfl rfl rfl fun G a w S => ?_
    refine sPickT (.bool ((x83.S.Kind == x126.Kind) && ((x83.S.Purl == x126.Purl) && ((x83.S.A == x126.A) && ((x83.S.B == x126.B) && true))))) S (wG 4 false 62 rfl rfl rfl hc114) rfl rfl hc120 rfl rfl (lb rfl) fun a S => ?_
    exact leafL ⟨rfl, S⟩
  · refine fI 81 (.bool ((x83.S.Kind == x126.Kind) && ((x83.S.Purl == x126.Purl) && ((x83.S.A == x126.A) && ((x83.S.B == x126.B) && true))))) [(62, .bool (s57 == (p0.length : Int))), (80, .bool ((x83.S.Kind == x126.Kind) && ((x83.S.Purl == x126.Purl) && ((x83.S.A == x126.A) && ((x83.S.B == x126.B) && true)))))] 23 [some 4, some 22] rfl rfl rfl rfl rfl rfl fun G a w S => ?_
    refine sPickF (.bool ((x83.S.Kind == x126.Kind) && ((x83.S.Purl == x126.Purl) && ((x83.S.A == x126.A) && ((x83.S.B == x126.B) && true))))) S (wN rfl) rfl rfl hc114 rfl rfl (lb rfl) fun a S => ?_
    exact leafL ⟨rfl, S⟩
  exact leafT (⟨((x83.S.Kind == x126.Kind) && ((x83.S.Purl == x126.Purl) && ((x83.S.A == x126.A) && ((x83.S.B == x126.B) && true)))), Option.some.inj h, S.fix [0, 1] [15, 16] (by decide) rfl rfl rfl⟩)

end Go.Proofs.Ytffikfajljbmnaa
namespace Go.Proofs.Ytffikfajljbmnaa
open Go.RowKit
set_option linter.unusedVariables false

noncomputable def F_raddleref46_Patch (p0 : (List api_Stitch)) (p1 : (List api_CellStep)) : Option ((List api_Stitch) × Int) :=
  Option.bind (F_raddleref46_gone p0 p1) fun r7 =>
  some (r7.1, r7.2.2)
def c_raddleref46_Patch_val (r : ((List api_Stitch) × Int)) (x : Value) : Value := .tuple #[x, .int .i64 r.2]
def c_raddleref46_Patch_D (r : ((List api_Stitch) × Int)) (x : Value) : List Fact := [fRep (rL r_api_Stitch) x r.1]
set_option maxHeartbeats 4000000 in
set_option maxRecDepth 100000 in
theorem c_raddleref46_Patch (E : Nat → Prop) (w0 : World) (p0 : (List api_Stitch)) (v0 : Value) (p1 : (List api_CellStep)) (v1 : Value) (r : ((List api_Stitch) × Int)) (h : F_raddleref46_Patch p0 p1 = some r) (S : St0 E [] w0 w0 [] [fRep (rL r_api_Stitch) (v0) p0, fRep (rL r_api_CellStep) (v1) p1]) :
    Calls Try.prog 26 #[v0, v1] w0 (Ret (X := Value) E [] w0 (c_raddleref46_Patch_val r) (fun _ => []) (c_raddleref46_Patch_D r)) := by
  unfold F_raddleref46_Patch at h
  obtain ⟨ad1, cp2, _, rfl, _⟩ := S.know (i := 0) (e := fRep (rL r_api_Stitch) (v0) p0) rfl
  obtain ⟨ad3, cp4, _, rfl, _⟩ := S.know (i := 1) (e := fRep (rL r_api_CellStep) (v1) p1) rfl
  refine sEnter (args := [.slice ad1 p0.length cp2, .slice ad3 p1.length cp4]) 18 Try.func26 rfl rfl (by simp) S (fun a S => ?_)
  refine sSeq (fun K5 hK5 => ?_)
  refine sRegion ?_
  refine sMove (.slice none 0 0) S (wN rfl) (.inr rfl) rfl rfl (lb rfl) fun a S => ?_
  refine sMove (iv 0) S (wN rfl) (.inr rfl) rfl rfl (lb rfl) fun a S => ?_
  refine leafL (leafT (hK5 _ _ ?_))
  refine sSeq (fun K6 hK6 => ?_)
  refine sRegion ?_
  refine sMove (.slice ad1 p0.length cp2) S (wN rfl) (.inl rfl) rfl rfl (lb rfl) fun a S => ?_
  refine sMove (.slice ad3 p1.length cp4) S (wN rfl) (.inl rfl) rfl rfl (lb rfl) fun a S => ?_
  obtain ⟨r7, hx8, h⟩ := bindSome h
  refine sCall (X := Value × Value) (f := 59) (vs := [.slice ad1 p0.length cp2, .slice ad3 p1.length cp4]) (val := c_raddleref46_gone_val r7) (B' := fun _ => []) (D' := c_raddleref46_gone_D r7) [] [] [fRep (rL r_api_Stitch) (.slice ad1 p0.length cp2) p0, fRep (rL r_api_CellStep) (.slice ad3 p1.length cp4) p1] [] [0, 1] S (wN rfl) rfl callee59 rfl (by decide) rfl rfl (fun E1 w1 S1 => c_raddleref46_gone E1 w1 p0 (.slice ad1 p0.length cp2) p1 (.slice ad3 p1.length cp4) r7 hx8 S1) rfl (lb rfl) fun xx a w S => ?_
  obtain ⟨u9, u10⟩ := xx
  obtain ⟨ad11, cp12, _, rfl, _⟩ := S.mem.know (i := 0) (e := fRep (rL r_api_Stitch) (u9) r7.1) rfl
  obtain ⟨ad13, cp14, _, rfl, _⟩ := S.mem.know (i := 1) (e := fRep (rL r_api_CellStep) (u10) r7.2.1) rfl
  refine sMove (.tuple #[.slice ad11 r7.1.length cp12, .slice ad13 r7.2.1.length cp14, iv r7.2.2]) S (wN rfl) (.inl rfl) rfl rfl (lb rfl) fun a S => ?_
  refine sExtract (vs := [.slice ad11 r7.1.length cp12, .slice ad13 r7.2.1.length cp14, iv r7.2.2]) (.slice ad11 r7.1.length cp12) S (wN rfl) rfl rfl rfl rfl (lb rfl) fun a S => ?_
  refine sExtract (vs := [.slice ad11 r7.1.length cp12, .slice ad13 r7.2.1.length cp14, iv r7.2.2]) (.slice ad13 r7.2.1.length cp14) S (wN rfl) rfl rfl rfl rfl (lb rfl) fun a S => ?_
  refine sExtract (vs := [.slice ad11 r7.1.length cp12, .slice ad13 r7.2.1.length cp14, iv r7.2.2]) (iv r7.2.2) S (wN rfl) rfl rfl rfl rfl (lb rfl) fun a S => ?_
  refine sMove (.slice ad11 r7.1.length cp12) S (wN rfl) (.inr rfl) rfl rfl (lb rfl) fun a S => ?_
  refine sMove (.slice ad13 r7.2.1.length cp14) S (wN rfl) (.inr rfl) rfl rfl (lb rfl) fun a S => ?_
  refine sMove (iv r7.2.2) S (wN rfl) (.inr rfl) rfl rfl (lb rfl) fun a S => ?_
  refine leafL (leafT (hK6 _ _ ?_))
  refine sSeq (fun K15 hK15 => ?_)
  refine sRegion ?_
  refine sMove (.slice ad11 r7.1.length cp12) S (wN rfl) (.inl rfl) rfl rfl (lb rfl) fun a S => ?_
  refine sMove (iv r7.2.2) S (wN rfl) (.inl rfl) rfl rfl (lb rfl) fun a S => ?_
  refine sMove (.slice ad11 r7.1.length cp12) S (wN rfl) (.inr rfl) rfl rfl (lb rfl) fun a S => ?_
  refine sMove (iv r7.2.2) S (wN rfl) (.inr rfl) rfl rfl (lb rfl) fun a S => ?_
  refine leafL (leafT (hK15 _ _ ?_))
  obtain rfl := Option.some.inj h
  exact wp_ret (sRet (.tuple #[.slice ad11 r7.1.length cp12, iv r7.2.2]) S (rsl2 rfl (rvT (t := 4) (v := .slice ad11 r7.1.length cp12) S rfl) (rvT (t := 5) (v := iv r7.2.2) S rfl)) ⟨(.slice ad11 r7.1.length cp12), rfl, S.mem.sel [] [0] (by decide) rfl rfl⟩)

end Go.Proofs.Ytffikfajljbmnaa
namespace Go.Proofs.Ytffikfajljbmnaa
open Go.RowKit
set_option linter.unusedVariables false

noncomputable def F_compare_Back (p0 : (List api_Stitch)) (p1 : (List api_CellStep)) : Option ((List api_CellStep) × Int) :=
  Option.bind (F_compare_walk p0 p1) fun r7 =>
  some (r7.2.1, r7.2.2)
def c_compare_Back_val (r : ((List api_CellStep) × Int)) (x : Value) : Value := .tuple #[x, .int .i64 r.2]
def c_compare_Back_D (r : ((List api_CellStep) × Int)) (x : Value) : List Fact := [fRep (rL r_api_CellStep) x r.1]
set_option maxHeartbeats 4000000 in
set_option maxRecDepth 100000 in
theorem c_compare_Back (E : Nat → Prop) (w0 : World) (p0 : (List api_Stitch)) (v0 : Value) (p1 : (List api_CellStep)) (v1 : Value) (r : ((List api_CellStep) × Int)) (h : F_compare_Back p0 p1 = some r) (S : St0 E [] w0 w0 [] [fRep (rL r_api_Stitch) (v0) p0, fRep (rL r_api_CellStep) (v1) p1]) :
    Calls Try.prog 27 #[v0, v1] w0 (Ret (X := Value) E [] w0 (c_compare_Back_val r) (fun _ => []) (c_compare_Back_D r)) := by
  unfold F_compare_Back at h
  obtain ⟨ad1, cp2, _, rfl, _⟩ := S.know (i := 0) (e := fRep (rL r_api_Stitch) (v0) p0) rfl
  obtain ⟨ad3, cp4, _, rfl, _⟩ := S.know (i := 1) (e := fRep (rL r_api_CellStep) (v1) p1) rfl
  refine sEnter (args := [.slice ad1 p0.length cp2, .slice ad3 p1.length cp4]) 18 Try.func27 rfl rfl (by simp) S (fun a S => ?_)
  refine sSeq (fun K5 hK5 => ?_)
  refine sRegion ?_
  refine sMove (.slice none 0 0) S (wN rfl) (.inr rfl) rfl rfl (lb rfl) fun a S => ?_
  refine sMove (iv 0) S (wN rfl) (.inr rfl) rfl rfl (lb rfl) fun a S => ?_
  refine leafL (leafT (hK5 _ _ ?_))
  refine sSeq (fun K6 hK6 => ?_)
  refine sRegion ?_
  refine sMove (.slice ad1 p0.length cp2) S (wN rfl) (.inl rfl) rfl rfl (lb rfl) fun a S => ?_
  refine sMove (.slice ad3 p1.length cp4) S (wN rfl) (.inl rfl) rfl rfl (lb rfl) fun a S => ?_
  obtain ⟨r7, hx8, h⟩ := bindSome h
  refine sCall (X := Value × Value) (f := 58) (vs := [.slice ad1 p0.length cp2, .slice ad3 p1.length cp4]) (val := c_compare_walk_val r7) (B' := fun _ => []) (D' := c_compare_walk_D r7) [] [] [fRep (rL r_api_Stitch) (.slice ad1 p0.length cp2) p0, fRep (rL r_api_CellStep) (.slice ad3 p1.length cp4) p1] [] [0, 1] S (wN rfl) rfl callee58 rfl (by decide) rfl rfl (fun E1 w1 S1 => c_compare_walk E1 w1 p0 (.slice ad1 p0.length cp2) p1 (.slice ad3 p1.length cp4) r7 hx8 S1) rfl (lb rfl) fun xx a w S => ?_
  obtain ⟨u9, u10⟩ := xx
  obtain ⟨ad11, cp12, _, rfl, _⟩ := S.mem.know (i := 0) (e := fRep (rL r_api_Stitch) (u9) r7.1) rfl
  obtain ⟨ad13, cp14, _, rfl, _⟩ := S.mem.know (i := 1) (e := fRep (rL r_api_CellStep) (u10) r7.2.1) rfl
  refine sMove (.tuple #[.slice ad11 r7.1.length cp12, .slice ad13 r7.2.1.length cp14, iv r7.2.2]) S (wN rfl) (.inl rfl) rfl rfl (lb rfl) fun a S => ?_
  refine sExtract (vs := [.slice ad11 r7.1.length cp12, .slice ad13 r7.2.1.length cp14, iv r7.2.2]) (.slice ad11 r7.1.length cp12) S (wN rfl) rfl rfl rfl rfl (lb rfl) fun a S => ?_
  refine sExtract (vs := [.slice ad11 r7.1.length cp12, .slice ad13 r7.2.1.length cp14, iv r7.2.2]) (.slice ad13 r7.2.1.length cp14) S (wN rfl) rfl rfl rfl rfl (lb rfl) fun a S => ?_
  refine sExtract (vs := [.slice ad11 r7.1.length cp12, .slice ad13 r7.2.1.length cp14, iv r7.2.2]) (iv r7.2.2) S (wN rfl) rfl rfl rfl rfl (lb rfl) fun a S => ?_
  refine sMove (.slice ad11 r7.1.length cp12) S (wN rfl) (.inr rfl) rfl rfl (lb rfl) fun a S => ?_
  refine sMove (.slice ad13 r7.2.1.length cp14) S (wN rfl) (.inr rfl) rfl rfl (lb rfl) fun a S => ?_
  refine sMove (iv r7.2.2) S (wN rfl) (.inr rfl) rfl rfl (lb rfl) fun a S => ?_
  refine leafL (leafT (hK6 _ _ ?_))
  refine sSeq (fun K15 hK15 => ?_)
  refine sRegion ?_
  refine sMove (.slice ad13 r7.2.1.length cp14) S (wN rfl) (.inl rfl) rfl rfl (lb rfl) fun a S => ?_
  refine sMove (iv r7.2.2) S (wN rfl) (.inl rfl) rfl rfl (lb rfl) fun a S => ?_
  refine sMove (.slice ad13 r7.2.1.length cp14) S (wN rfl) (.inr rfl) rfl rfl (lb rfl) fun a S => ?_
  refine sMove (iv r7.2.2) S (wN rfl) (.inr rfl) rfl rfl (lb rfl) fun a S => ?_
  refine leafL (leafT (hK15 _ _ ?_))
  obtain rfl := Option.some.inj h
  exact wp_ret (sRet (.tuple #[.slice ad13 r7.2.1.length cp14, iv r7.2.2]) S (rsl2 rfl (rvT (t := 4) (v := .slice ad13 r7.2.1.length cp14) S rfl) (rvT (t := 5) (v := iv r7.2.2) S rfl)) ⟨(.slice ad13 r7.2.1.length cp14), rfl, S.mem.sel [] [1] (by decide) rfl rfl⟩)

end Go.Proofs.Ytffikfajljbmnaa
namespace Go.Proofs.Ytffikfajljbmnaa
open Go.RowKit
set_option linter.unusedVariables false

noncomputable def F_raddleref46_Back (p0 : (List api_Stitch)) (p1 : (List api_CellStep)) : Option ((List api_CellStep) × Int) :=
  Option.bind (F_raddleref46_gone p0 p1) fun r7 =>
  some (r7.2.1, r7.2.2)
def c_raddleref46_Back_val (r : ((List api_CellStep) × Int)) (x : Value) : Value := .tuple #[x, .int .i64 r.2]
def c_raddleref46_Back_D (r : ((List api_CellStep) × Int)) (x : Value) : List Fact := [fRep (rL r_api_CellStep) x r.1]
set_option maxHeartbeats 4000000 in
set_option maxRecDepth 100000 in
theorem c_raddleref46_Back (E : Nat → Prop) (w0 : World) (p0 : (List api_Stitch)) (v0 : Value) (p1 : (List api_CellStep)) (v1 : Value) (r : ((List api_CellStep) × Int)) (h : F_raddleref46_Back p0 p1 = some r) (S : St0 E [] w0 w0 [] [fRep (rL r_api_Stitch) (v0) p0, fRep (rL r_api_CellStep) (v1) p1]) :
    Calls Try.prog 28 #[v0, v1] w0 (Ret (X := Value) E [] w0 (c_raddleref46_Back_val r) (fun _ => []) (c_raddleref46_Back_D r)) := by
  unfold F_raddleref46_Back at h
  obtain ⟨ad1, cp2, _, rfl, _⟩ := S.know (i := 0) (e := fRep (rL r_api_Stitch) (v0) p0) rfl
  obtain ⟨ad3, cp4, _, rfl, _⟩ := S.know (i := 1) (e := fRep (rL r_api_CellStep) (v1) p1) rfl
  refine sEnter (args := [.slice ad1 p0.length cp2, .slice ad3 p1.length cp4]) 18 Try.func28 rfl rfl (by simp) S (fun a S => ?_)
  refine sSeq (fun K5 hK5 => ?_)
  refine sRegion ?_
  refine sMove (.slice none 0 0) S (wN rfl) (.inr rfl) rfl rfl (lb rfl) fun a S => ?_
  refine sMove (iv 0) S (wN rfl) (.inr rfl) rfl rfl (lb rfl) fun a S => ?_
  refine leafL (leafT (hK5 _ _ ?_))
  refine sSeq (fun K6 hK6 => ?_)
  refine sRegion ?_
  refine sMove (.slice ad1 p0.length cp2) S (wN rfl) (.inl rfl) rfl rfl (lb rfl) fun a S => ?_
  refine sMove (.slice ad3 p1.length cp4) S (wN rfl) (.inl rfl) rfl rfl (lb rfl) fun a S => ?_
  obtain ⟨r7, hx8, h⟩ := bindSome h
  refine sCall (X := Value × Value) (f := 59) (vs := [.slice ad1 p0.length cp2, .slice ad3 p1.length cp4]) (val := c_raddleref46_gone_val r7) (B' := fun _ => []) (D' := c_raddleref46_gone_D r7) [] [] [fRep (rL r_api_Stitch) (.slice ad1 p0.length cp2) p0, fRep (rL r_api_CellStep) (.slice ad3 p1.length cp4) p1] [] [0, 1] S (wN rfl) rfl callee59 rfl (by decide) rfl rfl (fun E1 w1 S1 => c_raddleref46_gone E1 w1 p0 (.slice ad1 p0.length cp2) p1 (.slice ad3 p1.length cp4) r7 hx8 S1) rfl (lb rfl) fun xx a w S => ?_
  obtain ⟨u9, u10⟩ := xx
  obtain ⟨ad11, cp12, _, rfl, _⟩ := S.mem.know (i := 0) (e := fRep (rL r_api_Stitch) (u9) r7.1) rfl
  obtain ⟨ad13, cp14, _, rfl, _⟩ := S.mem.know (i := 1) (e := fRep (rL r_api_CellStep) (u10) r7.2.1) rfl
  refine sMove (.tuple #[.slice ad11 r7.1.length cp12, .slice ad13 r7.2.1.length cp14, iv r7.2.2]) S (wN rfl) (.inl rfl) rfl rfl (lb rfl) fun a S => ?_
  refine sExtract (vs := [.slice ad11 r7.1.length cp12, .slice ad13 r7.2.1.length cp14, iv r7.2.2]) (.slice ad11 r7.1.length cp12) S (wN rfl) rfl rfl rfl rfl (lb rfl) fun a S => ?_
  refine sExtract (vs := [.slice ad11 r7.1.length cp12, .slice ad13 r7.2.1.length cp14, iv r7.2.2]) (.slice ad13 r7.2.1.length cp14) S (wN rfl) rfl rfl rfl rfl (lb rfl) fun a S => ?_
  refine sExtract (vs := [.slice ad11 r7.1.length cp12, .slice ad13 r7.2.1.length cp14, iv r7.2.2]) (iv r7.2.2) S (wN rfl) rfl rfl rfl rfl (lb rfl) fun a S => ?_
  refine sMove (.slice ad11 r7.1.length cp12) S (wN rfl) (.inr rfl) rfl rfl (lb rfl) fun a S => ?_
  refine sMove (.slice ad13 r7.2.1.length cp14) S (wN rfl) (.inr rfl) rfl rfl (lb rfl) fun a S => ?_
  refine sMove (iv r7.2.2) S (wN rfl) (.inr rfl) rfl rfl (lb rfl) fun a S => ?_
  refine leafL (leafT (hK6 _ _ ?_))
  refine sSeq (fun K15 hK15 => ?_)
  refine sRegion ?_
  refine sMove (.slice ad13 r7.2.1.length cp14) S (wN rfl) (.inl rfl) rfl rfl (lb rfl) fun a S => ?_
  refine sMove (iv r7.2.2) S (wN rfl) (.inl rfl) rfl rfl (lb rfl) fun a S => ?_
  refine sMove (.slice ad13 r7.2.1.length cp14) S (wN rfl) (.inr rfl) rfl rfl (lb rfl) fun a S => ?_
  refine sMove (iv r7.2.2) S (wN rfl) (.inr rfl) rfl rfl (lb rfl) fun a S => ?_
  refine leafL (leafT (hK15 _ _ ?_))
  obtain rfl := Option.some.inj h
  exact wp_ret (sRet (.tuple #[.slice ad13 r7.2.1.length cp14, iv r7.2.2]) S (rsl2 rfl (rvT (t := 4) (v := .slice ad13 r7.2.1.length cp14) S rfl) (rvT (t := 5) (v := iv r7.2.2) S rfl)) ⟨(.slice ad13 r7.2.1.length cp14), rfl, S.mem.sel [] [1] (by decide) rfl rfl⟩)

end Go.Proofs.Ytffikfajljbmnaa
namespace Go.Proofs.Ytffikfajljbmnaa
open Go.RowKit
set_option linter.unusedVariables false

def anc_raddleref46_Same_0 : List (List Nat) := [[], [], [0, 1], [0, 1, 2], [], [], [4, 5], [4, 5, 6], [0, 1, 2, 3, 4, 5, 6, 7]]
noncomputable def raddleref46_Same_l1 (p0 : (List api_CellStep)) (p1 : (List api_CellStep)) : Int → Option (Int ⊕ (Bool ⊕ Unit)) := fun s0 => match s0 with
  | s13 =>
    if decide (s13 < (p0.length : Int)) then
      Option.bind (idxO p0 s13) fun x22 =>
      Option.bind (idxO p1 s13) fun x27 =>
      if !((x22.Kind == x27.Kind) && (((x22.S.Kind == x27.S.Kind) && ((x22.S.Purl == x27.S.Purl) && ((x22.S.A == x27.S.A) && ((x22.S.B == x27.S.B) && true)))) && true)) then
        some (.inr (.inl false))
      else
        some (.inl (w64 (s13 + 1)))
    else
      some (.inr (.inr ()))
noncomputable def F_raddleref46_Same (p0 : (List api_CellStep)) (p1 : (List api_CellStep)) : Option Bool :=
  if (p0.length : Int) != (p1.length : Int) then
    some false
  else
    Option.bind (α := Unit ⊕ Bool) (
      Option.bind (whileO (raddleref46_Same_l1 p0 p1) 0) fun z0 => match z0 with
        | .inl z =>
          some (.inr z)
        | .inr _ =>
          some (.inl ())) fun z0 => match z0 with
      | .inl _ =>
        some true
      | .inr z =>
        some z
set_option maxHeartbeats 4000000 in
set_option maxRecDepth 100000 in
theorem c_raddleref46_Same (E : Nat → Prop) (w0 : World) (p0 : (List api_CellStep)) (v0 : Value) (p1 : (List api_CellStep)) (v1 : Value) (r : Bool) (h : F_raddleref46_Same p0 p1 = some r) (S : St0 E [] w0 w0 [] [fRep (rL r_api_CellStep) (v0) p0, fRep (rL r_api_CellStep) (v1) p1]) :
    Calls Try.prog 29 #[v0, v1] w0 (Ret (X := Unit) E [] w0 (fun _ => .bool r) (fun _ => []) (fun _ => [])) := by
  unfold F_raddleref46_Same at h
  obtain ⟨ad1, cp2, _, rfl, _⟩ := S.know (i := 0) (e := fRep (rL r_api_CellStep) (v0) p0) rfl
  obtain ⟨ad3, cp4, _, rfl, _⟩ := S.know (i := 1) (e := fRep (rL r_api_CellStep) (v1) p1) rfl
  refine sEnter (args := [.slice ad1 p0.length cp2, .slice ad3 p1.length cp4]) 26 Try.func29 rfl rfl (by simp) S (fun a S => ?_)
  refine sSeq (fun K5 hK5 => ?_)
  refine sRegion ?_
  refine sMove (.bool false) S (wN rfl) (.inr rfl) rfl rfl (lb rfl) fun a S => ?_
  refine leafL (leafT (hK5 _ _ ?_))
  refine sSeq (fun K6 hK6 => ?_)
  refine sSeq (fun K7 hK7 => ?_)
  refine sRegion ?_
  refine sMove (.slice ad1 p0.length cp2) S (wN rfl) (.inl rfl) rfl rfl (lb rfl) fun a S => ?_
  refine sLen (ad := ad1) (m := p0.length) (c := cp2) S (wN rfl) rfl Try.underlying48 rfl rfl (lb rfl) fun a S => ?_
  refine sMove (.slice ad3 p1.length cp4) S (wN rfl) (.inl rfl) rfl rfl (lb rfl) fun a S => ?_
  refine sLen (ad := ad3) (m := p1.length) (c := cp4) S (wN rfl) rfl Try.underlying48 rfl rfl (lb rfl) fun a S => ?_
  refine sBin (.bool ((p0.length : Int) != (p1.length : Int))) S (wN rfl) rfl rfl rfl (bNe _ _ _ _ .i64 (p0.length : Int) (p1.length : Int)) rfl (lb rfl) fun a S => ?_
  refine leafL (leafT (hK7 _ _ ?_))
  rcases iteSome h with ⟨hc8, h⟩ | ⟨hc8, h⟩
  · refine sCondT S rfl hc8 ?_
    refine sSeq (fun K9 hK9 => ?_)
    refine sRegion ?_
    refine sMove (.bool false) S (wN rfl) (.inr rfl) rfl rfl (lb rfl) fun a S => ?_
    refine leafL (leafT (hK9 _ _ ?_))
    obtain rfl := Option.some.inj h
    exact wp_ret (rThen (sRet (.bool false) S (rsl1 rfl (rvT (t := 4) (v := .bool false) S rfl)) ⟨(), rfl, S.mem.sel [] [] (by decide) rfl rfl⟩))
  refine sCondF S rfl hc8 ?_
  refine wp_skip (leafT (hK6 _ _ ?_))
  obtain ⟨t10, h, g11⟩ := bindSome h
  refine sCut (fun a w => .inl () = t10 ∧ St [] E [] w0 26 a w [] [] []) ?_ (fun a w hI => ?_)
  rotate_left
  · obtain ⟨rfl, S⟩ := hI
    have h := g11
    clear g11
    try dsimp only at h
    refine sSeq (fun K40 hK40 => ?_)
    refine sRegion ?_
    refine sMove (.bool true) S (wN rfl) (.inr rfl) rfl rfl (lb rfl) fun a S => ?_
    refine leafL (leafT (hK40 _ _ ?_))
    obtain rfl := Option.some.inj h
    exact wp_ret (sRet (.bool true) S (rsl1 rfl (rvT (t := 4) (v := .bool true) S rfl)) ⟨(), rfl, S.mem.sel [] [] (by decide) rfl rfl⟩)
  refine sSeq (fun K12 hK12 => ?_)
  refine sRegion ?_
  refine sMove (iv 0) S (wN rfl) (.inr rfl) rfl rfl (lb rfl) fun a S => ?_
  refine leafL (leafT (hK12 _ _ ?_))
  refine wp_block ?_
  obtain ⟨t16, hl, g15⟩ := bindSome h
  refine sLoop hl (fun s0 a w => match s0 with | s13 => St [] E [] w0 26 a w [(0, .slice ad1 p0.length cp2), (1, .slice ad3 p1.length cp4), (5, iv s13)] [] [fRep (rL r_api_CellStep) (.slice ad1 p0.length cp2) p0, fRep (rL r_api_CellStep) (.slice ad3 p1.length cp4) p1]) (S.fix [] [0, 1] (by decide) rfl rfl rfl) ?_
  clear hl h
  intro s13 a w c0 hI h hu14
  unfold raddleref46_Same_l1 at h
  dsimp only at h hI
  have S := hI
  refine sSeq (fun K17 hK17 => ?_)
  refine sSeq (fun K18 hK18 => ?_)
  refine sRegion ?_
  refine sMove (iv s13) S (wN rfl) (.inl rfl) rfl rfl (lb rfl) fun a S => ?_
  refine sMove (.slice ad1 p0.length cp2) S (wN rfl) (.inl rfl) rfl rfl (lb rfl) fun a S => ?_
  refine sLen (ad := ad1) (m := p0.length) (c := cp2) S (wN rfl) rfl Try.underlying48 rfl rfl (lb rfl) fun a S => ?_
  refine sBin (.bool (decide (s13 < (p0.length : Int)))) S (wN rfl) rfl rfl rfl (bLt _ _ _ _ .i64 s13 (p0.length : Int)) rfl (lb rfl) fun a S => ?_
  refine leafL (leafT (hK18 _ _ ?_))
  rcases iteSome h with ⟨hc19, h⟩ | ⟨hc19, h⟩
  rotate_left
  · refine sCondF S rfl hc19 ?_
    obtain rfl := Option.some.inj h
    obtain rfl := hu14 _ rfl
    have h := g15
    clear g15
    try dsimp only at h
    exact wp_exit (xThen (xThen (xHit (leafT (⟨Option.some.inj h, S.fix [] [] (by decide) rfl rfl rfl⟩)))))
  refine sCondT S rfl hc19 ?_
  refine wp_skip (leafT (hK17 _ _ ?_))
  refine sSeq (fun K20 hK20 => ?_)
  refine wp_block ?_
  refine sSeq (fun K21 hK21 => ?_)
  obtain ⟨x22, hx23, h⟩ := bindSome h
  obtain ⟨x27, hx28, h⟩ := bindSome h
  obtain ⟨q32, hq33, S⟩ := pIdx (P := Try.prog) (r := r_api_CellStep) (v := .slice ad1 p0.length cp2) (xs := p0) (j := s13) 48 83 0 S Try.underlying48 rfl rfl hx23
  obtain ⟨u34, S⟩ := pLoad (r := r_api_CellStep) (q := q32) (x := x22) 0 S rfl
  obtain rfl : u34 = .agg #[.int .u8 x22.Kind, .int .u8 x22.S.Kind, .bool x22.S.Purl, iv x22.S.A, iv x22.S.B] := S.mem.know (i := 1) (e := fRep r_api_CellStep (u34) x22) rfl
  obtain ⟨q35, hq36, S⟩ := pIdx (P := Try.prog) (r := r_api_CellStep) (v := .slice ad3 p1.length cp4) (xs := p1) (j := s13) 48 83 4 S Try.underlying48 rfl rfl hx28
  obtain ⟨u37, S⟩ := pLoad (r := r_api_CellStep) (q := q35) (x := x27) 0 S rfl
  obtain rfl : u37 = .agg #[.int .u8 x27.Kind, .int .u8 x27.S.Kind, .bool x27.S.Purl, iv x27.S.A, iv x27.S.B] := S.mem.know (i := 1) (e := fRep r_api_CellStep (u37) x27) rfl
  refine sDraw (nf := []) (W := [(0, 17, .slice ad1 p0.length cp2), (1, 18, iv s13), (2, 19, q32), (3, 20, .agg #[.int .u8 x22.Kind, .int .u8 x22.S.Kind, .bool x22.S.Purl, iv x22.S.A, iv x22.S.B]), (4, 21, .slice ad3 p1.length cp4), (5, 22, iv s13), (6, 23, q35), (7, 24, .agg #[.int .u8 x27.Kind, .int .u8 x27.S.Kind, .bool x27.S.Purl, iv x27.S.A, iv x27.S.B]), (8, 25, .bool (!((x22.Kind == x27.Kind) && (((x22.S.Kind == x27.S.Kind) && ((x22.S.Purl == x27.S.Purl) && ((x22.S.A == x27.S.A) && ((x22.S.B == x27.S.B) && true)))) && true))))]) rfl S ?_
  refine node_by (A := anc_raddleref46_Same_0) (nf := []) (Y := []) (W := [(0, 17, .slice ad1 p0.length cp2), (1, 18, iv s13), (2, 19, q32), (3, 20, .agg #[.int .u8 x22.Kind, .int .u8 x22.S.Kind, .bool x22.S.Purl, iv x22.S.A, iv x22.S.B]), (4, 21, .slice ad3 p1.length cp4), (5, 22, iv s13), (6, 23, q35), (7, 24, .agg #[.int .u8 x27.Kind, .int .u8 x27.S.Kind, .bool x27.S.Purl, iv x27.S.A, iv x27.S.B]), (8, 25, .bool (!((x22.Kind == x27.Kind) && (((x22.S.Kind == x27.S.Kind) && ((x22.S.Purl == x27.S.Purl) && ((x22.S.A == x27.S.A) && ((x22.S.B == x27.S.B) && true)))) && true))))]) 9 (by kernel_rfl) (by kernel_rfl) (by kernel_rfl) (by kernel_rfl) (by kernel_rfl) [0, 1, 2, 3, 4, 5, 6, 7, 8] (by kernel_rfl) (by decide) (by decide) (aF 0 8 (by decide) ?_ (aF 1 7 (by decide) ?_ (aF 2 6 (by decide) ?_ (aF 3 5 (by decide) ?_ (aF 4 4 (by decide) ?_ (aF 5 3 (by decide) ?_ (aF 6 2 (by decide) ?_ (aF 7 1 (by decide) ?_ (aF 8 0 (by decide) ?_ (trivial)))))))))) [(0, .slice ad1 p0.length cp2), (1, .slice ad3 p1.length cp4), (5, iv s13), (25, .bool (!((x22.Kind == x27.Kind) && (((x22.S.Kind == x27.S.Kind) && ((x22.S.Purl == x27.S.Purl) && ((x22.S.A == x27.S.A) && ((x22.S.B == x27.S.B) && true)))) && true))))] (fin_of [none, none, none, some 8] rfl (by kernel_rfl) (by kernel_rfl)) (fun _ a w S => ?_)
  · refine fI 17 (.slice ad1 p0.length cp2) [(0, .slice ad1 p0.length cp2)] 0 [none] rfl rfl rfl rfl rfl rfl fun G a w S => ?_
    refine sMove (.slice ad1 p0.length cp2) S (wN rfl) (.inl rfl) rfl rfl (lb rfl) fun a S => ?_
    exact leafL ⟨rfl, S⟩
  · refine fI 18 (iv s13) [(5, iv s13)] 1 [none] rfl rfl rfl rfl rfl rfl fun G a w S => ?_
    refine sMove (iv s13) S (wN rfl) (.inl rfl) rfl rfl (lb rfl) fun a S => ?_
    exact leafL ⟨rfl, S⟩
  · refine fI 19 q32 [(17, .slice ad1 p0.length cp2), (18, iv s13)] 2 [some 0, some 1] rfl rfl rfl rfl rfl rfl fun G a w S => ?_
    refine sIdxV (v := .slice ad1 p0.length cp2) (k := .i64) (j := s13) S (wN rfl) rfl rfl rfl hq33 rfl (lb rfl) fun a S => ?_
    exact leafL ⟨rfl, S⟩
  · refine fI 20 (.agg #[.int .u8 x22.Kind, .int .u8 x22.S.Kind, .bool x22.S.Purl, iv x22.S.A, iv x22.S.B]) [(19, q32)] 3 [some 2] rfl rfl rfl rfl rfl rfl fun G a w S => ?_
    refine sLoadVN (vq := q32) 3 [.int .u8 x22.Kind, .int .u8 x22.S.Kind, .bool x22.S.Purl, iv x22.S.A, iv x22.S.B] S (wN rfl) rfl rfl rfl rfl rfl rfl (lb rfl) fun a S => ?_
    exact leafL ⟨rfl, S⟩
  · refine fI 21 (.slice ad3 p1.length cp4) [(1, .slice ad3 p1.length cp4)] 4 [none] rfl rfl rfl rfl rfl rfl fun G a w S => ?_
    refine sMove (.slice ad3 p1.length cp4) S (wN rfl) (.inl rfl) rfl rfl (lb rfl) fun a S => ?_
    exact leafL ⟨rfl, S⟩
  · refine fI 22 (iv s13) [(5, iv s13)] 5 [none] rfl rfl rfl rfl rfl rfl fun G a w S => ?_
    refine sMove (iv s13) S (wN rfl) (.inl rfl) rfl rfl (lb rfl) fun a S => ?_
    exact leafL ⟨rfl, S⟩
  · refine fI 23 q35 [(21, .slice ad3 p1.length cp4), (22, iv s13)] 6 [some 4, some 5] rfl rfl rfl rfl rfl rfl fun G a w S => ?_
    refine sIdxV (v := .slice ad3 p1.length cp4) (k := .i64) (j := s13) S (wN rfl) rfl rfl rfl hq36 rfl (lb rfl) fun a S => ?_
    exact leafL ⟨rfl, S⟩
  · refine fI 24 (.agg #[.int .u8 x27.Kind, .int .u8 x27.S.Kind, .bool x27.S.Purl, iv x27.S.A, iv x27.S.B]) [(23, q35)] 7 [some 6] rfl rfl rfl rfl rfl rfl fun G a w S => ?_
    refine sLoadVN (vq := q35) 0 [.int .u8 x27.Kind, .int .u8 x27.S.Kind, .bool x27.S.Purl, iv x27.S.A, iv x27.S.B] S (wN rfl) rfl rfl rfl rfl rfl rfl (lb rfl) fun a S => ?_
    exact leafL ⟨rfl, S⟩
  · refine fI 25 (.bool (!((x22.Kind == x27.Kind) && (((x22.S.Kind == x27.S.Kind) && ((x22.S.Purl == x27.S.Purl) && ((x22.S.A == x27.S.A) && ((x22.S.B == x27.S.B) && true)))) && true)))) [(20, .agg #[.int .u8 x22.Kind, .int .u8 x22.S.Kind, .bool x22.S.Purl, iv x22.S.A, iv x22.S.B]), (24, .agg #[.int .u8 x27.Kind, .int .u8 x27.S.Kind, .bool x27.S.Purl, iv x27.S.A, iv x27.S.B])] 8 [some 3, some 7] rfl rfl rfl rfl rfl rfl fun G a w S => ?_
    refine sBin (.bool (!((x22.Kind == x27.Kind) && (((x22.S.Kind == x27.S.Kind) && ((x22.S.Purl == x27.S.Purl) && ((x22.S.A == x27.S.A) && ((x22.S.B == x27.S.B) && true)))) && true)))) S (wN rfl) rfl rfl rfl (bNeV _ _ _ _ #[.int .u8 x22.Kind, .int .u8 x22.S.Kind, .bool x22.S.Purl, iv x22.S.A, iv x22.S.B] #[.int .u8 x27.Kind, .int .u8 x27.S.Kind, .bool x27.S.Purl, iv x27.S.A, iv x27.S.B] ((x22.Kind == x27.Kind) && (((x22.S.Kind == x27.S.Kind) && ((x22.S.Purl == x27.S.Purl) && ((x22.S.A == x27.S.A) && ((x22.S.B == x27.S.B) && true)))) && true)) (by kernel_rfl) (eqlV_of (by kernel_rfl))) rfl (lb rfl) fun a S => ?_
    exact leafL ⟨rfl, S⟩
  refine leafT (hK21 _ _ ?_)
  rcases iteSome h with ⟨hc38, h⟩ | ⟨hc38, h⟩
  rotate_left
  · refine sCondF S rfl hc38 ?_
    refine wp_skip (leafB (leafT (hK20 _ _ ?_)))
    refine sRegion ?_
    refine sMove (iv s13) S (wN rfl) (.inl rfl) rfl rfl (lb rfl) fun a S => ?_
    refine sBin (iv (w64 (s13 + 1))) S (wN rfl) rfl rfl rfl (bAdd _ _ _ _ s13 1) rfl (lb rfl) fun a S => ?_
    refine sMove (iv (w64 (s13 + 1))) S (wN rfl) (.inr rfl) rfl rfl (lb rfl) fun a S => ?_
    exact leafL (leafT (⟨w64 (s13 + 1), (Option.some.inj h).symm, (S.fix [] [6, 7] (by decide) rfl rfl rfl)⟩))
  refine sCondT S rfl hc38 ?_
  refine sSeq (fun K39 hK39 => ?_)
  refine sRegion ?_
  refine sMove (.bool false) S (wN rfl) (.inr rfl) rfl rfl (lb rfl) fun a S => ?_
  refine leafL (leafT (hK39 _ _ ?_))
  obtain rfl := Option.some.inj h
  obtain rfl := hu14 _ rfl
  have h := g15
  clear g15
  try dsimp only at h
  obtain rfl := Option.some.inj h
  have h := g11
  clear g11
  try dsimp only at h
  obtain rfl := Option.some.inj h
  exact wp_ret (rBlock (rThen (rThen (rBlock (rThen (sRet (.bool false) S (rsl1 rfl (rvT (t := 4) (v := .bool false) S rfl)) ⟨(), rfl, S.mem.sel [] [] (by decide) rfl rfl⟩))))))

end Go.Proofs.Ytffikfajljbmnaa
namespace Go.Proofs.Ytffikfajljbmnaa
open Go.RowKit
set_option linter.unusedVariables false

def anc_raddleref25_Same_0 : List (List Nat) := [[], [], [0, 1], [0, 1, 2], [], [], [4, 5], [4, 5, 6], [0, 1, 2, 3, 4, 5, 6, 7]]
noncomputable def raddleref25_Same_l1 (p0 : (List api_Stitch)) (p1 : (List api_Stitch)) : Int → Option (Int ⊕ (Bool ⊕ Unit)) := fun s0 => match s0 with
  | s13 =>
    if decide (s13 < (p0.length : Int)) then
      Option.bind (idxO p0 s13) fun x22 =>
      Option.bind (idxO p1 s13) fun x27 =>
      if !((x22.Kind == x27.Kind) && ((x22.Purl == x27.Purl) && ((x22.A == x27.A) && ((x22.B == x27.B) && true)))) then
        some (.inr (.inl false))
      else
        some (.inl (w64 (s13 + 1)))
    else
      some (.inr (.inr ()))
noncomputable def F_raddleref25_Same (p0 : (List api_Stitch)) (p1 : (List api_Stitch)) : Option Bool :=
  if (p0.length : Int) != (p1.length : Int) then
    some false
  else
    Option.bind (α := Unit ⊕ Bool) (
      Option.bind (whileO (raddleref25_Same_l1 p0 p1) 0) fun z0 => match z0 with
        | .inl z =>
          some (.inr z)
        | .inr _ =>
          some (.inl ())) fun z0 => match z0 with
      | .inl _ =>
        some true
      | .inr z =>
        some z
set_option maxHeartbeats 4000000 in
set_option maxRecDepth 100000 in
theorem c_raddleref25_Same (E : Nat → Prop) (w0 : World) (p0 : (List api_Stitch)) (v0 : Value) (p1 : (List api_Stitch)) (v1 : Value) (r : Bool) (h : F_raddleref25_Same p0 p1 = some r) (S : St0 E [] w0 w0 [] [fRep (rL r_api_Stitch) (v0) p0, fRep (rL r_api_Stitch) (v1) p1]) :
    Calls Try.prog 30 #[v0, v1] w0 (Ret (X := Unit) E [] w0 (fun _ => .bool r) (fun _ => []) (fun _ => [])) := by
  unfold F_raddleref25_Same at h
  obtain ⟨ad1, cp2, _, rfl, _⟩ := S.know (i := 0) (e := fRep (rL r_api_Stitch) (v0) p0) rfl
  obtain ⟨ad3, cp4, _, rfl, _⟩ := S.know (i := 1) (e := fRep (rL r_api_Stitch) (v1) p1) rfl
  refine sEnter (args := [.slice ad1 p0.length cp2, .slice ad3 p1.length cp4]) 26 Try.func30 rfl rfl (by simp) S (fun a S => ?_)
  refine sSeq (fun K5 hK5 => ?_)
  refine sRegion ?_
  refine sMove (.bool false) S (wN rfl) (.inr rfl) rfl rfl (lb rfl) fun a S => ?_
  refine leafL (leafT (hK5 _ _ ?_))
  refine sSeq (fun K6 hK6 => ?_)
  refine sSeq (fun K7 hK7 => ?_)
  refine sRegion ?_
  refine sMove (.slice ad1 p0.length cp2) S (wN rfl) (.inl rfl) rfl rfl (lb rfl) fun a S => ?_
  refine sLen (ad := ad1) (m := p0.length) (c := cp2) S (wN rfl) rfl Try.underlying47 rfl rfl (lb rfl) fun a S => ?_
  refine sMove (.slice ad3 p1.length cp4) S (wN rfl) (.inl rfl) rfl rfl (lb rfl) fun a S => ?_
  refine sLen (ad := ad3) (m := p1.length) (c := cp4) S (wN rfl) rfl Try.underlying47 rfl rfl (lb rfl) fun a S => ?_
  refine sBin (.bool ((p0.length : Int) != (p1.length : Int))) S (wN rfl) rfl rfl rfl (bNe _ _ _ _ .i64 (p0.length : Int) (p1.length : Int)) rfl (lb rfl) fun a S => ?_
  refine leafL (leafT (hK7 _ _ ?_))
  rcases iteSome h with ⟨hc8, h⟩ | ⟨hc8, h⟩
  · refine sCondT S rfl hc8 ?_
    refine sSeq (fun K9 hK9 => ?_)
    refine sRegion ?_
    refine sMove (.bool false) S (wN rfl) (.inr rfl) rfl rfl (lb rfl) fun a S => ?_
    refine leafL (leafT (hK9 _ _ ?_))
    obtain rfl := Option.some.inj h
    exact wp_ret (rThen (sRet (.bool false) S (rsl1 rfl (rvT (t := 4) (v := .bool false) S rfl)) ⟨(), rfl, S.mem.sel [] [] (by decide) rfl rfl⟩))
  refine sCondF S rfl hc8 ?_
  refine wp_skip (leafT (hK6 _ _ ?_))
  obtain ⟨t10, h, g11⟩ := bindSome h
  refine sCut (fun a w => .inl () = t10 ∧ St [] E [] w0 26 a w [] [] []) ?_ (fun a w hI => ?_)
  rotate_left
  · obtain ⟨rfl, S⟩ := hI
    have h := g11
    clear g11
    try dsimp only at h
    refine sSeq (fun K40 hK40 => ?_)
    refine sRegion ?_
    refine sMove (.bool true) S (wN rfl) (.inr rfl) rfl rfl (lb rfl) fun a S => ?_
    refine leafL (leafT (hK40 _ _ ?_))
    obtain rfl := Option.some.inj h
    exact wp_ret (sRet (.bool true) S (rsl1 rfl (rvT (t := 4) (v := .bool true) S rfl)) ⟨(), rfl, S.mem.sel [] [] (by decide) rfl rfl⟩)
  refine sSeq (fun K12 hK12 => ?_)
  refine sRegion ?_
  refine sMove (iv 0) S (wN rfl) (.inr rfl) rfl rfl (lb rfl) fun a S => ?_
  refine leafL (leafT (hK12 _ _ ?_))
  refine wp_block ?_
  obtain ⟨t16, hl, g15⟩ := bindSome h
  refine sLoop hl (fun s0 a w => match s0 with | s13 => St [] E [] w0 26 a w [(0, .slice ad1 p0.length cp2), (1, .slice ad3 p1.length cp4), (5, iv s13)] [] [fRep (rL r_api_Stitch) (.slice ad1 p0.length cp2) p0, fRep (rL r_api_Stitch) (.slice ad3 p1.length cp4) p1]) (S.fix [] [0, 1] (by decide) rfl rfl rfl) ?_
  clear hl h
  intro s13 a w c0 hI h hu14
  unfold raddleref25_Same_l1 at h
  dsimp only at h hI
  have S := hI
  refine sSeq (fun K17 hK17 => ?_)
  refine sSeq (fun K18 hK18 => ?_)
  refine sRegion ?_
  refine sMove (iv s13) S (wN rfl) (.inl rfl) rfl rfl (lb rfl) fun a S => ?_
  refine sMove (.slice ad1 p0.length cp2) S (wN rfl) (.inl rfl) rfl rfl (lb rfl) fun a S => ?_
  refine sLen (ad := ad1) (m := p0.length) (c := cp2) S (wN rfl) rfl Try.underlying47 rfl rfl (lb rfl) fun a S => ?_
  refine sBin (.bool (decide (s13 < (p0.length : Int)))) S (wN rfl) rfl rfl rfl (bLt _ _ _ _ .i64 s13 (p0.length : Int)) rfl (lb rfl) fun a S => ?_
  refine leafL (leafT (hK18 _ _ ?_))
  rcases iteSome h with ⟨hc19, h⟩ | ⟨hc19, h⟩
  rotate_left
  · refine sCondF S rfl hc19 ?_
    obtain rfl := Option.some.inj h
    obtain rfl := hu14 _ rfl
    have h := g15
    clear g15
    try dsimp only at h
    exact wp_exit (xThen (xThen (xHit (leafT (⟨Option.some.inj h, S.fix [] [] (by decide) rfl rfl rfl⟩)))))
  refine sCondT S rfl hc19 ?_
  refine wp_skip (leafT (hK17 _ _ ?_))
  refine sSeq (fun K20 hK20 => ?_)
  refine wp_block ?_
  refine sSeq (fun K21 hK21 => ?_)
  obtain ⟨x22, hx23, h⟩ := bindSome h
  obtain ⟨x27, hx28, h⟩ := bindSome h
  obtain ⟨q32, hq33, S⟩ := pIdx (P := Try.prog) (r := r_api_Stitch) (v := .slice ad1 p0.length cp2) (xs := p0) (j := s13) 47 81 0 S Try.underlying47 rfl rfl hx23
  obtain ⟨u34, S⟩ := pLoad (r := r_api_Stitch) (q := q32) (x := x22) 0 S rfl
  obtain rfl : u34 = .agg #[.int .u8 x22.Kind, .bool x22.Purl, iv x22.A, iv x22.B] := S.mem.know (i := 1) (e := fRep r_api_Stitch (u34) x22) rfl
  obtain ⟨q35, hq36, S⟩ := pIdx (P := Try.prog) (r := r_api_Stitch) (v := .slice ad3 p1.length cp4) (xs := p1) (j := s13) 47 81 4 S Try.underlying47 rfl rfl hx28
  obtain ⟨u37, S⟩ := pLoad (r := r_api_Stitch) (q := q35) (x := x27) 0 S rfl
  obtain rfl : u37 = .agg #[.int .u8 x27.Kind, .bool x27.Purl, iv x27.A, iv x27.B] := S.mem.know (i := 1) (e := fRep r_api_Stitch (u37) x27) rfl
  refine sDraw (nf := []) (W := [(0, 17, .slice ad1 p0.length cp2), (1, 18, iv s13), (2, 19, q32), (3, 20, .agg #[.int .u8 x22.Kind, .bool x22.Purl, iv x22.A, iv x22.B]), (4, 21, .slice ad3 p1.length cp4), (5, 22, iv s13), (6, 23, q35), (7, 24, .agg #[.int .u8 x27.Kind, .bool x27.Purl, iv x27.A, iv x27.B]), (8, 25, .bool (!((x22.Kind == x27.Kind) && ((x22.Purl == x27.Purl) && ((x22.A == x27.A) && ((x22.B == x27.B) && true))))))]) rfl S ?_
  refine node_by (A := anc_raddleref25_Same_0) (nf := []) (Y := []) (W := [(0, 17, .slice ad1 p0.length cp2), (1, 18, iv s13), (2, 19, q32), (3, 20, .agg #[.int .u8 x22.Kind, .bool x22.Purl, iv x22.A, iv x22.B]), (4, 21, .slice ad3 p1.length cp4), (5, 22, iv s13), (6, 23, q35), (7, 24, .agg #[.int .u8 x27.Kind, .bool x27.Purl, iv x27.A, iv x27.B]), (8, 25, .bool (!((x22.Kind == x27.Kind) && ((x22.Purl == x27.Purl) && ((x22.A == x27.A) && ((x22.B == x27.B) && true))))))]) 9 (by kernel_rfl) (by kernel_rfl) (by kernel_rfl) (by kernel_rfl) (by kernel_rfl) [0, 1, 2, 3, 4, 5, 6, 7, 8] (by kernel_rfl) (by decide) (by decide) (aF 0 8 (by decide) ?_ (aF 1 7 (by decide) ?_ (aF 2 6 (by decide) ?_ (aF 3 5 (by decide) ?_ (aF 4 4 (by decide) ?_ (aF 5 3 (by decide) ?_ (aF 6 2 (by decide) ?_ (aF 7 1 (by decide) ?_ (aF 8 0 (by decide) ?_ (trivial)))))))))) [(0, .slice ad1 p0.length cp2), (1, .slice ad3 p1.length cp4), (5, iv s13), (25, .bool (!((x22.Kind == x27.Kind) && ((x22.Purl == x27.Purl) && ((x22.A == x27.A) && ((x22.B == x27.B) && true))))))] (fin_of [none, none, none, some 8] rfl (by kernel_rfl) (by kernel_rfl)) (fun _ a w S => ?_)
  · refine fI 17 (.slice ad1 p0.length cp2) [(0, .slice ad1 p0.length cp2)] 0 [none] rfl rfl rfl rfl rfl rfl fun G a w S => ?_
    refine sMove (.slice ad1 p0.length cp2) S (wN rfl) (.inl rfl) rfl rfl (lb rfl) fun a S => ?_
    exact leafL ⟨rfl, S⟩
  · refine fI 18 (iv s13) [(5, iv s13)] 1 [none] rfl rfl rfl rfl rfl rfl fun G a w S => ?_
    refine sMove (iv s13) S (wN rfl) (.inl rfl) rfl rfl (lb rfl) fun a S => ?_
    exact leafL ⟨rfl, S⟩
  · refine fI 19 q32 [(17, .slice ad1 p0.length cp2), (18, iv s13)] 2 [some 0, some 1] rfl rfl rfl rfl rfl rfl fun G a w S => ?_
    refine sIdxV (v := .slice ad1 p0.length cp2) (k := .i64) (j := s13) S (wN rfl) rfl rfl rfl hq33 rfl (lb rfl) fun a S => ?_
    exact leafL ⟨rfl, S⟩
  · refine fI 20 (.agg #[.int .u8 x22.Kind, .bool x22.Purl, iv x22.A, iv x22.B]) [(19, q32)] 3 [some 2] rfl rfl rfl rfl rfl rfl fun G a w S => ?_
    refine sLoadVN (vq := q32) 3 [.int .u8 x22.Kind, .bool x22.Purl, iv x22.A, iv x22.B] S (wN rfl) rfl rfl rfl rfl rfl rfl (lb rfl) fun a S => ?_
    exact leafL ⟨rfl, S⟩
  · refine fI 21 (.slice ad3 p1.length cp4) [(1, .slice ad3 p1.length cp4)] 4 [none] rfl rfl rfl rfl rfl rfl fun G a w S => ?_
    refine sMove (.slice ad3 p1.length cp4) S (wN rfl) (.inl rfl) rfl rfl (lb rfl) fun a S => ?_
    exact leafL ⟨rfl, S⟩
  · refine fI 22 (iv s13) [(5, iv s13)] 5 [none] rfl rfl rfl rfl rfl rfl fun G a w S => ?_
    refine sMove (iv s13) S (wN rfl) (.inl rfl) rfl rfl (lb rfl) fun a S => ?_
    exact leafL ⟨rfl, S⟩
  · refine fI 23 q35 [(21, .slice ad3 p1.length cp4), (22, iv s13)] 6 [some 4, some 5] rfl rfl rfl rfl rfl rfl fun G a w S => ?_
    refine sIdxV (v := .slice ad3 p1.length cp4) (k := .i64) (j := s13) S (wN rfl) rfl rfl rfl hq36 rfl (lb rfl) fun a S => ?_
    exact leafL ⟨rfl, S⟩
  · refine fI 24 (.agg #[.int .u8 x27.Kind, .bool x27.Purl, iv x27.A, iv x27.B]) [(23, q35)] 7 [some 6] rfl rfl rfl rfl rfl rfl fun G a w S => ?_
    refine sLoadVN (vq := q35) 0 [.int .u8 x27.Kind, .bool x27.Purl, iv x27.A, iv x27.B] S (wN rfl) rfl rfl rfl rfl rfl rfl (lb rfl) fun a S => ?_
    exact leafL ⟨rfl, S⟩
  · refine fI 25 (.bool (!((x22.Kind == x27.Kind) && ((x22.Purl == x27.Purl) && ((x22.A == x27.A) && ((x22.B == x27.B) && true)))))) [(20, .agg #[.int .u8 x22.Kind, .bool x22.Purl, iv x22.A, iv x22.B]), (24, .agg #[.int .u8 x27.Kind, .bool x27.Purl, iv x27.A, iv x27.B])] 8 [some 3, some 7] rfl rfl rfl rfl rfl rfl fun G a w S => ?_
    refine sBin (.bool (!((x22.Kind == x27.Kind) && ((x22.Purl == x27.Purl) && ((x22.A == x27.A) && ((x22.B == x27.B) && true)))))) S (wN rfl) rfl rfl rfl (bNeV _ _ _ _ #[.int .u8 x22.Kind, .bool x22.Purl, iv x22.A, iv x22.B] #[.int .u8 x27.Kind, .bool x27.Purl, iv x27.A, iv x27.B] ((x22.Kind == x27.Kind) && ((x22.Purl == x27.Purl) && ((x22.A == x27.A) && ((x22.B == x27.B) && true)))) (by kernel_rfl) (eqlV_of (by kernel_rfl))) rfl (lb rfl) fun a S => ?_
    exact leafL ⟨rfl, S⟩
  refine leafT (hK21 _ _ ?_)
  rcases iteSome h with ⟨hc38, h⟩ | ⟨hc38, h⟩
  rotate_left
  · refine sCondF S rfl hc38 ?_
    refine wp_skip (leafB (leafT (hK20 _ _ ?_)))
    refine sRegion ?_
    refine sMove (iv s13) S (wN rfl) (.inl rfl) rfl rfl (lb rfl) fun a S => ?_
    refine sBin (iv (w64 (s13 + 1))) S (wN rfl) rfl rfl rfl (bAdd _ _ _ _ s13 1) rfl (lb rfl) fun a S => ?_
    refine sMove (iv (w64 (s13 + 1))) S (wN rfl) (.inr rfl) rfl rfl (lb rfl) fun a S => ?_
    exact leafL (leafT (⟨w64 (s13 + 1), (Option.some.inj h).symm, (S.fix [] [6, 7] (by decide) rfl rfl rfl)⟩))
  refine sCondT S rfl hc38 ?_
  refine sSeq (fun K39 hK39 => ?_)
  refine sRegion ?_
  refine sMove (.bool false) S (wN rfl) (.inr rfl) rfl rfl (lb rfl) fun a S => ?_
  refine leafL (leafT (hK39 _ _ ?_))
  obtain rfl := Option.some.inj h
  obtain rfl := hu14 _ rfl
  have h := g15
  clear g15
  try dsimp only at h
  obtain rfl := Option.some.inj h
  have h := g11
  clear g11
  try dsimp only at h
  obtain rfl := Option.some.inj h
  exact wp_ret (rBlock (rThen (rThen (rBlock (rThen (sRet (.bool false) S (rsl1 rfl (rvT (t := 4) (v := .bool false) S rfl)) ⟨(), rfl, S.mem.sel [] [] (by decide) rfl rfl⟩))))))

end Go.Proofs.Ytffikfajljbmnaa
namespace Go.Proofs.Ytffikfajljbmnaa
open Go.RowKit
set_option linter.unusedVariables false

noncomputable def F_raddlelaw46_CompareSteps (p0 : (List api_Stitch)) (p1 : (List api_Stitch)) (p2 : (List api_CellStep)) : Option Bool :=
  Option.bind (α := Bool) (
    Option.bind (F_raddleref25_Great p0) fun r12 =>
    if r12 then
      some true
    else
      Option.bind (F_raddleref25_Great p1) fun r15 =>
      if r15 then
        some true
      else
        some (decide (450 < (p2.length : Int)))) fun o9 =>
  if o9 then
    some true
  else
    Option.bind (F_compare_Edits p0 p1) fun r21 =>
    Option.bind (F_raddleref46_Edits p0 p1) fun r27 =>
    Option.bind (F_compare_Patch p0 p2) fun r33 =>
    Option.bind (F_raddleref46_Patch p0 p2) fun r39 =>
    Option.bind (F_compare_Back p0 p2) fun r45 =>
    Option.bind (F_raddleref46_Back p0 p2) fun r51 =>
    Option.bind (α := Bool) (
      Option.bind (F_raddleref46_Same r21.1 r27.1) fun r59 =>
      if r59 then
        if r21.2.1 == r27.2.1 then
          if r21.2.2 == r27.2.2 then
            Option.bind (F_raddleref25_Same r33.1 r39.1) fun r64 =>
            if r64 then
              if r33.2 == r39.2 then
                Option.bind (F_raddleref46_Same r45.1 r51.1) fun r68 =>
                if r68 then
                  some (r45.2 == r51.2)
                else
                  some false
              else
                some false
            else
              some false
          else
            some false
        else
          some false
      else
        some false) fun o56 =>
    some o56
set_option maxHeartbeats 4000000 in
set_option maxRecDepth 100000 in
theorem c_raddlelaw46_CompareSteps (E : Nat → Prop) (w0 : World) (p0 : (List api_Stitch)) (v0 : Value) (p1 : (List api_Stitch)) (v1 : Value) (p2 : (List api_CellStep)) (v2 : Value) (r : Bool) (h : F_raddlelaw46_CompareSteps p0 p1 p2 = some r) (S : St0 E [] w0 w0 [] [fRep (rL r_api_Stitch) (v0) p0, fRep (rL r_api_Stitch) (v1) p1, fRep (rL r_api_CellStep) (v2) p2]) :
    Calls Try.prog 5 #[v0, v1, v2] w0 (Ret (X := Unit) E [] w0 (fun _ => .bool r) (fun _ => []) (fun _ => [])) := by
  unfold F_raddlelaw46_CompareSteps at h
  obtain ⟨ad1, cp2, _, rfl, _⟩ := S.know (i := 0) (e := fRep (rL r_api_Stitch) (v0) p0) rfl
  obtain ⟨ad3, cp4, _, rfl, _⟩ := S.know (i := 1) (e := fRep (rL r_api_Stitch) (v1) p1) rfl
  obtain ⟨ad5, cp6, _, rfl, _⟩ := S.know (i := 2) (e := fRep (rL r_api_CellStep) (v2) p2) rfl
  refine sEnter (args := [.slice ad1 p0.length cp2, .slice ad3 p1.length cp4, .slice ad5 p2.length cp6]) 103 Try.func5 rfl rfl (by simp) S (fun a S => ?_)
  refine sSeq (fun K7 hK7 => ?_)
  refine sRegion ?_
  refine sMove (.bool false) S (wN rfl) (.inr rfl) rfl rfl (lb rfl) fun a S => ?_
  refine leafL (leafT (hK7 _ _ ?_))
  refine sSeq (fun K8 hK8 => ?_)
  obtain ⟨t10, h, g11⟩ := bindSome h
  refine sCut (fun a w => ∃ o9, o9 = t10 ∧ St [] E [] w0 103 a w [(0, .slice ad1 p0.length cp2), (1, .slice ad3 p1.length cp4), (2, .slice ad5 p2.length cp6), (31, .bool o9)] [] [fRep (rL r_api_Stitch) (.slice ad1 p0.length cp2) p0, fRep (rL r_api_Stitch) (.slice ad3 p1.length cp4) p1, fRep (rL r_api_CellStep) (.slice ad5 p2.length cp6) p2]) ?_ (fun a w hI => ?_)
  · refine sRegion ?_
    refine sMove (.slice ad1 p0.length cp2) S (wN rfl) (.inl rfl) rfl rfl (lb rfl) fun a S => ?_
    obtain ⟨r12, hx13, h⟩ := bindSome h
    have S1 := S.mem
    refine sCallQ (X := Unit) (f := 22) (vs := [.slice ad1 p0.length cp2]) (val := fun _ => .bool r12) S (wN rfl) rfl callee22 rfl (S1.quiet [0] rfl) (fun E1 w1 S1 => c_raddleref25_Great E1 w1 p0 (.slice ad1 p0.length cp2) r12 hx13 S1) rfl (lb rfl) fun _ a w S => ?_
    refine sMove (.bool r12) S (wN rfl) (.inl rfl) rfl rfl (lb rfl) fun a S => ?_
    rcases iteSome h with ⟨hc14, h⟩ | ⟨hc14, h⟩
    · refine sSkip 2 false 23 24 S rfl rfl rfl hc14 rfl (lb rfl) fun a S => ?_
      refine sSkip 2 false 23 25 S rfl rfl rfl hc14 rfl (lb rfl) fun a S => ?_
      refine sPickT (.bool true) S (wN rfl) rfl rfl hc14 rfl rfl (lb rfl) fun a S => ?_
      refine sMove (.bool true) S (wN rfl) (.inl rfl) rfl rfl (lb rfl) fun a S => ?_
      refine sSkip 6 false 27 28 S rfl rfl rfl rfl rfl (lb rfl) fun a S => ?_
      refine sSkip 6 false 27 29 S rfl rfl rfl rfl rfl (lb rfl) fun a S => ?_
      refine sSkip 6 false 27 30 S rfl rfl rfl rfl rfl (lb rfl) fun a S => ?_
      refine sPickT (.bool true) S (wN rfl) rfl rfl rfl rfl rfl (lb rfl) fun a S => ?_
      exact leafL (leafT (⟨true, Option.some.inj h, S.fix [] [0, 1, 2] (by decide) rfl rfl rfl⟩))
    refine sMove (.slice ad3 p1.length cp4) S (wG 2 false 23 rfl rfl rfl hc14) (.inl rfl) rfl rfl (lb rfl) fun a S => ?_
    obtain ⟨r15, hx16, h⟩ := bindSome h
    have S1 := S.mem
    refine sCallQ (X := Unit) (f := 22) (vs := [.slice ad3 p1.length cp4]) (val := fun _ => .bool r15) S (wG 2 false 23 rfl rfl rfl hc14) rfl callee22 rfl (S1.quiet [1] rfl) (fun E1 w1 S1 => c_raddleref25_Great E1 w1 p1 (.slice ad3 p1.length cp4) r15 hx16 S1) rfl (lb rfl) fun _ a w S => ?_
    refine sPickF (.bool r15) S (wN rfl) rfl rfl hc14 rfl rfl (lb rfl) fun a S => ?_
    refine sMove (.bool r15) S (wN rfl) (.inl rfl) rfl rfl (lb rfl) fun a S => ?_
    rcases iteSome h with ⟨hc17, h⟩ | ⟨hc17, h⟩
    · refine sSkip 6 false 27 28 S rfl rfl rfl hc17 rfl (lb rfl) fun a S => ?_
      refine sSkip 6 false 27 29 S rfl rfl rfl hc17 rfl (lb rfl) fun a S => ?_
      refine sSkip 6 false 27 30 S rfl rfl rfl hc17 rfl (lb rfl) fun a S => ?_
      refine sPickT (.bool true) S (wN rfl) rfl rfl hc17 rfl rfl (lb rfl) fun a S => ?_
      exact leafL (leafT (⟨true, Option.some.inj h, S.fix [] [0, 1, 2] (by decide) rfl rfl rfl⟩))
    refine sMove (.slice ad5 p2.length cp6) S (wG 6 false 27 rfl rfl rfl hc17) (.inl rfl) rfl rfl (lb rfl) fun a S => ?_
    refine sLen (ad := ad5) (m := p2.length) (c := cp6) S (wG 6 false 27 rfl rfl rfl hc17) rfl Try.underlying48 rfl rfl (lb rfl) fun a S => ?_
    refine sBin (.bool (decide (450 < (p2.length : Int)))) S (wG 6 false 27 rfl rfl rfl hc17) rfl rfl rfl (bGt _ _ _ _ .i64 (p2.length : Int) 450) rfl (lb rfl) fun a S => ?_
    refine sPickF (.bool (decide (450 < (p2.length : Int)))) S (wN rfl) rfl rfl hc17 rfl rfl (lb rfl) fun a S => ?_
    exact leafL (leafT (⟨decide (450 < (p2.length : Int)), Option.some.inj h, S.fix [] [0, 1, 2] (by decide) rfl rfl rfl⟩))
  obtain ⟨o9, rfl, S⟩ := hI
  have h := g11
  clear g11
  try dsimp only at h
  rcases iteSome h with ⟨hc18, h⟩ | ⟨hc18, h⟩
  · refine sCondT S rfl hc18 ?_
    refine sSeq (fun K19 hK19 => ?_)
    refine sRegion ?_
    refine sMove (.bool true) S (wN rfl) (.inr rfl) rfl rfl (lb rfl) fun a S => ?_
    refine leafL (leafT (hK19 _ _ ?_))
    obtain rfl := Option.some.inj h
    exact wp_ret (rThen (sRet (.bool true) S (rsl1 rfl (rvT (t := 6) (v := .bool true) S rfl)) ⟨(), rfl, S.mem.sel [] [] (by decide) rfl rfl⟩))
  refine sCondF S rfl hc18 ?_
  refine wp_skip (leafT (hK8 _ _ ?_))
  refine sSeq (fun K20 hK20 => ?_)
  refine sRegion ?_
  refine sMove (.slice ad1 p0.length cp2) S (wN rfl) (.inl rfl) rfl rfl (lb rfl) fun a S => ?_
  refine sMove (.slice ad3 p1.length cp4) S (wN rfl) (.inl rfl) rfl rfl (lb rfl) fun a S => ?_
  obtain ⟨r21, hx22, h⟩ := bindSome h
  refine sCall (X := Value) (f := 23) (vs := [.slice ad1 p0.length cp2, .slice ad3 p1.length cp4]) (val := c_compare_Edits_val r21) (B' := fun _ => []) (D' := c_compare_Edits_D r21) [] [] [fRep (rL r_api_Stitch) (.slice ad1 p0.length cp2) p0, fRep (rL r_api_Stitch) (.slice ad3 p1.length cp4) p1] [] [0, 1] S (wN rfl) rfl callee23 rfl (by decide) rfl rfl (fun E1 w1 S1 => c_compare_Edits E1 w1 p0 (.slice ad1 p0.length cp2) p1 (.slice ad3 p1.length cp4) r21 hx22 S1) rfl (lb rfl) fun u23 a w S => ?_
  obtain ⟨ad24, cp25, _, rfl, _⟩ := S.mem.know (i := 0) (e := fRep (rL r_api_CellStep) (u23) r21.1) rfl
  refine sMove (.tuple #[.slice ad24 r21.1.length cp25, iv r21.2.1, iv r21.2.2]) S (wN rfl) (.inl rfl) rfl rfl (lb rfl) fun a S => ?_
  refine sExtract (vs := [.slice ad24 r21.1.length cp25, iv r21.2.1, iv r21.2.2]) (.slice ad24 r21.1.length cp25) S (wN rfl) rfl rfl rfl rfl (lb rfl) fun a S => ?_
  refine sExtract (vs := [.slice ad24 r21.1.length cp25, iv r21.2.1, iv r21.2.2]) (iv r21.2.1) S (wN rfl) rfl rfl rfl rfl (lb rfl) fun a S => ?_
  refine sExtract (vs := [.slice ad24 r21.1.length cp25, iv r21.2.1, iv r21.2.2]) (iv r21.2.2) S (wN rfl) rfl rfl rfl rfl (lb rfl) fun a S => ?_
  refine sMove (.slice ad24 r21.1.length cp25) S (wN rfl) (.inr rfl) rfl rfl (lb rfl) fun a S => ?_
  refine sMove (iv r21.2.1) S (wN rfl) (.inr rfl) rfl rfl (lb rfl) fun a S => ?_
  refine sMove (iv r21.2.2) S (wN rfl) (.inr rfl) rfl rfl (lb rfl) fun a S => ?_
  refine leafL (leafT (hK20 _ _ ?_))
  refine sSeq (fun K26 hK26 => ?_)
  refine sRegion ?_
  refine sMove (.slice ad1 p0.length cp2) S (wN rfl) (.inl rfl) rfl rfl (lb rfl) fun a S => ?_
  refine sMove (.slice ad3 p1.length cp4) S (wN rfl) (.inl rfl) rfl rfl (lb rfl) fun a S => ?_
  obtain ⟨r27, hx28, h⟩ := bindSome h
  refine sCall (X := Value) (f := 24) (vs := [.slice ad1 p0.length cp2, .slice ad3 p1.length cp4]) (val := c_raddleref46_Edits_val r27) (B' := fun _ => []) (D' := c_raddleref46_Edits_D r27) [] [] [fRep (rL r_api_Stitch) (.slice ad1 p0.length cp2) p0, fRep (rL r_api_Stitch) (.slice ad3 p1.length cp4) p1] [] [1, 2] S (wN rfl) rfl callee24 rfl (by decide) rfl rfl (fun E1 w1 S1 => c_raddleref46_Edits E1 w1 p0 (.slice ad1 p0.length cp2) p1 (.slice ad3 p1.length cp4) r27 hx28 S1) rfl (lb rfl) fun u29 a w S => ?_
  obtain ⟨ad30, cp31, _, rfl, _⟩ := S.mem.know (i := 0) (e := fRep (rL r_api_CellStep) (u29) r27.1) rfl
  refine sMove (.tuple #[.slice ad30 r27.1.length cp31, iv r27.2.1, iv r27.2.2]) S (wN rfl) (.inl rfl) rfl rfl (lb rfl) fun a S => ?_
  refine sExtract (vs := [.slice ad30 r27.1.length cp31, iv r27.2.1, iv r27.2.2]) (.slice ad30 r27.1.length cp31) S (wN rfl) rfl rfl rfl rfl (lb rfl) fun a S => ?_
  refine sExtract (vs := [.slice ad30 r27.1.length cp31, iv r27.2.1, iv r27.2.2]) (iv r27.2.1) S (wN rfl) rfl rfl rfl rfl (lb rfl) fun a S => ?_
  refine sExtract (vs := [.slice ad30 r27.1.length cp31, iv r27.2.1, iv r27.2.2]) (iv r27.2.2) S (wN rfl) rfl rfl rfl rfl (lb rfl) fun a S => ?_
  refine sMove (.slice ad30 r27.1.length cp31) S (wN rfl) (.inr rfl) rfl rfl (lb rfl) fun a S => ?_
  refine sMove (iv r27.2.1) S (wN rfl) (.inr rfl) rfl rfl (lb rfl) fun a S => ?_
  refine sMove (iv r27.2.2) S (wN rfl) (.inr rfl) rfl rfl (lb rfl) fun a S => ?_
  refine leafL (leafT (hK26 _ _ ?_))
  refine sSeq (fun K32 hK32 => ?_)
  refine sRegion ?_
  refine sMove (.slice ad1 p0.length cp2) S (wN rfl) (.inl rfl) rfl rfl (lb rfl) fun a S => ?_
  refine sMove (.slice ad5 p2.length cp6) S (wN rfl) (.inl rfl) rfl rfl (lb rfl) fun a S => ?_
  obtain ⟨r33, hx34, h⟩ := bindSome h
  refine sCall (X := Value) (f := 25) (vs := [.slice ad1 p0.length cp2, .slice ad5 p2.length cp6]) (val := c_compare_Patch_val r33) (B' := fun _ => []) (D' := c_compare_Patch_D r33) [] [] [fRep (rL r_api_Stitch) (.slice ad1 p0.length cp2) p0, fRep (rL r_api_CellStep) (.slice ad5 p2.length cp6) p2] [] [2, 4] S (wN rfl) rfl callee25 rfl (by decide) rfl rfl (fun E1 w1 S1 => c_compare_Patch E1 w1 p0 (.slice ad1 p0.length cp2) p2 (.slice ad5 p2.length cp6) r33 hx34 S1) rfl (lb rfl) fun u35 a w S => ?_
  obtain ⟨ad36, cp37, _, rfl, _⟩ := S.mem.know (i := 0) (e := fRep (rL r_api_Stitch) (u35) r33.1) rfl
  refine sMove (.tuple #[.slice ad36 r33.1.length cp37, iv r33.2]) S (wN rfl) (.inl rfl) rfl rfl (lb rfl) fun a S => ?_
  refine sExtract (vs := [.slice ad36 r33.1.length cp37, iv r33.2]) (.slice ad36 r33.1.length cp37) S (wN rfl) rfl rfl rfl rfl (lb rfl) fun a S => ?_
  refine sExtract (vs := [.slice ad36 r33.1.length cp37, iv r33.2]) (iv r33.2) S (wN rfl) rfl rfl rfl rfl (lb rfl) fun a S => ?_
  refine sMove (.slice ad36 r33.1.length cp37) S (wN rfl) (.inr rfl) rfl rfl (lb rfl) fun a S => ?_
  refine sMove (iv r33.2) S (wN rfl) (.inr rfl) rfl rfl (lb rfl) fun a S => ?_
  refine leafL (leafT (hK32 _ _ ?_))
  refine sSeq (fun K38 hK38 => ?_)
  refine sRegion ?_
  refine sMove (.slice ad1 p0.length cp2) S (wN rfl) (.inl rfl) rfl rfl (lb rfl) fun a S => ?_
  refine sMove (.slice ad5 p2.length cp6) S (wN rfl) (.inl rfl) rfl rfl (lb rfl) fun a S => ?_
  obtain ⟨r39, hx40, h⟩ := bindSome h
  refine sCall (X := Value) (f := 26) (vs := [.slice ad1 p0.length cp2, .slice ad5 p2.length cp6]) (val := c_raddleref46_Patch_val r39) (B' := fun _ => []) (D' := c_raddleref46_Patch_D r39) [] [] [fRep (rL r_api_Stitch) (.slice ad1 p0.length cp2) p0, fRep (rL r_api_CellStep) (.slice ad5 p2.length cp6) p2] [] [3, 5] S (wN rfl) rfl callee26 rfl (by decide) rfl rfl (fun E1 w1 S1 => c_raddleref46_Patch E1 w1 p0 (.slice ad1 p0.length cp2) p2 (.slice ad5 p2.length cp6) r39 hx40 S1) rfl (lb rfl) fun u41 a w S => ?_
  obtain ⟨ad42, cp43, _, rfl, _⟩ := S.mem.know (i := 0) (e := fRep (rL r_api_Stitch) (u41) r39.1) rfl
  refine sMove (.tuple #[.slice ad42 r39.1.length cp43, iv r39.2]) S (wN rfl) (.inl rfl) rfl rfl (lb rfl) fun a S => ?_
  refine sExtract (vs := [.slice ad42 r39.1.length cp43, iv r39.2]) (.slice ad42 r39.1.length cp43) S (wN rfl) rfl rfl rfl rfl (lb rfl) fun a S => ?_
  refine sExtract (vs := [.slice ad42 r39.1.length cp43, iv r39.2]) (iv r39.2) S (wN rfl) rfl rfl rfl rfl (lb rfl) fun a S => ?_
  refine sMove (.slice ad42 r39.1.length cp43) S (wN rfl) (.inr rfl) rfl rfl (lb rfl) fun a S => ?_
  refine sMove (iv r39.2) S (wN rfl) (.inr rfl) rfl rfl (lb rfl) fun a S => ?_
  refine leafL (leafT (hK38 _ _ ?_))
  refine sSeq (fun K44 hK44 => ?_)
  refine sRegion ?_
  refine sMove (.slice ad1 p0.length cp2) S (wN rfl) (.inl rfl) rfl rfl (lb rfl) fun a S => ?_
  refine sMove (.slice ad5 p2.length cp6) S (wN rfl) (.inl rfl) rfl rfl (lb rfl) fun a S => ?_
  obtain ⟨r45, hx46, h⟩ := bindSome h
  refine sCall (X := Value) (f := 27) (vs := [.slice ad1 p0.length cp2, .slice ad5 p2.length cp6]) (val := c_compare_Back_val r45) (B' := fun _ => []) (D' := c_compare_Back_D r45) [] [] [fRep (rL r_api_Stitch) (.slice ad1 p0.length cp2) p0, fRep (rL r_api_CellStep) (.slice ad5 p2.length cp6) p2] [] [4, 6] S (wN rfl) rfl callee27 rfl (by decide) rfl rfl (fun E1 w1 S1 => c_compare_Back E1 w1 p0 (.slice ad1 p0.length cp2) p2 (.slice ad5 p2.length cp6) r45 hx46 S1) rfl (lb rfl) fun u47 a w S => ?_
  obtain ⟨ad48, cp49, _, rfl, _⟩ := S.mem.know (i := 0) (e := fRep (rL r_api_CellStep) (u47) r45.1) rfl
  refine sMove (.tuple #[.slice ad48 r45.1.length cp49, iv r45.2]) S (wN rfl) (.inl rfl) rfl rfl (lb rfl) fun a S => ?_
  refine sExtract (vs := [.slice ad48 r45.1.length cp49, iv r45.2]) (.slice ad48 r45.1.length cp49) S (wN rfl) rfl rfl rfl rfl (lb rfl) fun a S => ?_
  refine sExtract (vs := [.slice ad48 r45.1.length cp49, iv r45.2]) (iv r45.2) S (wN rfl) rfl rfl rfl rfl (lb rfl) fun a S => ?_
  refine sMove (.slice ad48 r45.1.length cp49) S (wN rfl) (.inr rfl) rfl rfl (lb rfl) fun a S => ?_
  refine sMove (iv r45.2) S (wN rfl) (.inr rfl) rfl rfl (lb rfl) fun a S => ?_
  refine leafL (leafT (hK44 _ _ ?_))
  refine sSeq (fun K50 hK50 => ?_)
  refine sRegion ?_
  refine sMove (.slice ad1 p0.length cp2) S (wN rfl) (.inl rfl) rfl rfl (lb rfl) fun a S => ?_
  refine sMove (.slice ad5 p2.length cp6) S (wN rfl) (.inl rfl) rfl rfl (lb rfl) fun a S => ?_
  obtain ⟨r51, hx52, h⟩ := bindSome h
  refine sCall (X := Value) (f := 28) (vs := [.slice ad1 p0.length cp2, .slice ad5 p2.length cp6]) (val := c_raddleref46_Back_val r51) (B' := fun _ => []) (D' := c_raddleref46_Back_D r51) [] [] [fRep (rL r_api_Stitch) (.slice ad1 p0.length cp2) p0, fRep (rL r_api_CellStep) (.slice ad5 p2.length cp6) p2] [] [5, 7] S (wN rfl) rfl callee28 rfl (by decide) rfl rfl (fun E1 w1 S1 => c_raddleref46_Back E1 w1 p0 (.slice ad1 p0.length cp2) p2 (.slice ad5 p2.length cp6) r51 hx52 S1) rfl (lb rfl) fun u53 a w S => ?_
  obtain ⟨ad54, cp55, _, rfl, _⟩ := S.mem.know (i := 0) (e := fRep (rL r_api_CellStep) (u53) r51.1) rfl
  refine sMove (.tuple #[.slice ad54 r51.1.length cp55, iv r51.2]) S (wN rfl) (.inl rfl) rfl rfl (lb rfl) fun a S => ?_
  refine sExtract (vs := [.slice ad54 r51.1.length cp55, iv r51.2]) (.slice ad54 r51.1.length cp55) S (wN rfl) rfl rfl rfl rfl (lb rfl) fun a S => ?_
  refine sExtract (vs := [.slice ad54 r51.1.length cp55, iv r51.2]) (iv r51.2) S (wN rfl) rfl rfl rfl rfl (lb rfl) fun a S => ?_
  refine sMove (.slice ad54 r51.1.length cp55) S (wN rfl) (.inr rfl) rfl rfl (lb rfl) fun a S => ?_
  refine sMove (iv r51.2) S (wN rfl) (.inr rfl) rfl rfl (lb rfl) fun a S => ?_
  refine leafL (leafT (hK50 _ _ ?_))
  obtain ⟨t57, h, g58⟩ := bindSome h
  refine sCut (fun a w => ∃ o56, o56 = t57 ∧ St [] E [] w0 103 a w [(6, .bool o56)] [] []) ?_ (fun a w hI => ?_)
  rotate_left
  · obtain ⟨o56, rfl, S⟩ := hI
    have h := g58
    clear g58
    try dsimp only at h
    obtain rfl := Option.some.inj h
    exact wp_ret (sRet (.bool o56) S (rsl1 rfl (rvT (t := 6) (v := .bool o56) S rfl)) ⟨(), rfl, S.mem.sel [] [] (by decide) rfl rfl⟩)
  refine sRegion ?_
  refine sMove (.slice ad24 r21.1.length cp25) S (wN rfl) (.inl rfl) rfl rfl (lb rfl) fun a S => ?_
  refine sMove (.slice ad30 r27.1.length cp31) S (wN rfl) (.inl rfl) rfl rfl (lb rfl) fun a S => ?_
  obtain ⟨r59, hx60, h⟩ := bindSome h
  have S1 := S.mem
  refine sCallQ (X := Unit) (f := 29) (vs := [.slice ad24 r21.1.length cp25, .slice ad30 r27.1.length cp31]) (val := fun _ => .bool r59) S (wN rfl) rfl callee29 rfl (S1.quiet [5, 4] rfl) (fun E1 w1 S1 => c_raddleref46_Same E1 w1 r21.1 (.slice ad24 r21.1.length cp25) r27.1 (.slice ad30 r27.1.length cp31) r59 hx60 S1) rfl (lb rfl) fun _ a w S => ?_
  refine sMove (.bool r59) S (wN rfl) (.inl rfl) rfl rfl (lb rfl) fun a S => ?_
  rcases iteSome h with ⟨hc61, h⟩ | ⟨hc61, h⟩
  rotate_left
  · refine sSkip 3 true 73 74 S rfl rfl rfl hc61 rfl (lb rfl) fun a S => ?_
    refine sSkip 3 true 73 75 S rfl rfl rfl hc61 rfl (lb rfl) fun a S => ?_
    refine sSkip 3 true 73 76 S rfl rfl rfl hc61 rfl (lb rfl) fun a S => ?_
    refine sPickF (.bool false) S (wN rfl) rfl rfl hc61 rfl rfl (lb rfl) fun a S => ?_
    refine sMove (.bool false) S (wN rfl) (.inl rfl) rfl rfl (lb rfl) fun a S => ?_
    refine sSkip 8 true 78 79 S rfl rfl rfl rfl rfl (lb rfl) fun a S => ?_
    refine sSkip 8 true 78 80 S rfl rfl rfl rfl rfl (lb rfl) fun a S => ?_
    refine sSkip 8 true 78 81 S rfl rfl rfl rfl rfl (lb rfl) fun a S => ?_
    refine sPickF (.bool false) S (wN rfl) rfl rfl rfl rfl rfl (lb rfl) fun a S => ?_
    refine sMove (.bool false) S (wN rfl) (.inl rfl) rfl rfl (lb rfl) fun a S => ?_
    refine sSkip 13 true 83 84 S rfl rfl rfl rfl rfl (lb rfl) fun a S => ?_
    refine sSkip 13 true 83 85 S rfl rfl rfl rfl rfl (lb rfl) fun a S => ?_
    refine sSkip 13 true 83 86 S rfl rfl rfl rfl rfl (lb rfl) fun a S => ?_
    refine sPickF (.bool false) S (wN rfl) rfl rfl rfl rfl rfl (lb rfl) fun a S => ?_
    refine sMove (.bool false) S (wN rfl) (.inl rfl) rfl rfl (lb rfl) fun a S => ?_
    refine sSkip 18 true 88 89 S rfl rfl rfl rfl rfl (lb rfl) fun a S => ?_
    refine sSkip 18 true 88 90 S rfl rfl rfl rfl rfl (lb rfl) fun a S => ?_
    refine sSkip 18 true 88 91 S rfl rfl rfl rfl rfl (lb rfl) fun a S => ?_
    refine sPickF (.bool false) S (wN rfl) rfl rfl rfl rfl rfl (lb rfl) fun a S => ?_
    refine sMove (.bool false) S (wN rfl) (.inl rfl) rfl rfl (lb rfl) fun a S => ?_
    refine sSkip 23 true 93 94 S rfl rfl rfl rfl rfl (lb rfl) fun a S => ?_
    refine sSkip 23 true 93 95 S rfl rfl rfl rfl rfl (lb rfl) fun a S => ?_
    refine sSkip 23 true 93 96 S rfl rfl rfl rfl rfl (lb rfl) fun a S => ?_
    refine sPickF (.bool false) S (wN rfl) rfl rfl rfl rfl rfl (lb rfl) fun a S => ?_
    refine sMove (.bool false) S (wN rfl) (.inl rfl) rfl rfl (lb rfl) fun a S => ?_
    refine sSkip 28 true 98 99 S rfl rfl rfl rfl rfl (lb rfl) fun a S => ?_
    refine sSkip 28 true 98 100 S rfl rfl rfl rfl rfl (lb rfl) fun a S => ?_
    refine sSkip 28 true 98 101 S rfl rfl rfl rfl rfl (lb rfl) fun a S => ?_
    refine sPickF (.bool false) S (wN rfl) rfl rfl rfl rfl rfl (lb rfl) fun a S => ?_
    refine sMove (.bool false) S (wN rfl) (.inr rfl) rfl rfl (lb rfl) fun a S => ?_
    exact leafL (leafT (⟨false, Option.some.inj h, S.fix [] [] (by decide) rfl rfl rfl⟩))
  refine sMove (iv r21.2.1) S (wG 3 true 73 rfl rfl rfl hc61) (.inl rfl) rfl rfl (lb rfl) fun a S => ?_
  refine sMove (iv r27.2.1) S (wG 3 true 73 rfl rfl rfl hc61) (.inl rfl) rfl rfl (lb rfl) fun a S => ?_
  refine sBin (.bool (r21.2.1 == r27.2.1)) S (wG 3 true 73 rfl rfl rfl hc61) rfl rfl rfl (bEq _ _ _ _ .i64 r21.2.1 r27.2.1) rfl (lb rfl) fun a S => ?_
  refine sPickT (.bool (r21.2.1 == r27.2.1)) S (wN rfl) rfl rfl hc61 rfl rfl (lb rfl) fun a S => ?_
  refine sMove (.bool (r21.2.1 == r27.2.1)) S (wN rfl) (.inl rfl) rfl rfl (lb rfl) fun a S => ?_
  rcases iteSome h with ⟨hc62, h⟩ | ⟨hc62, h⟩
  rotate_left
  · refine sSkip 8 true 78 79 S rfl rfl rfl hc62 rfl (lb rfl) fun a S => ?_
    refine sSkip 8 true 78 80 S rfl rfl rfl hc62 rfl (lb rfl) fun a S => ?_
    refine sSkip 8 true 78 81 S rfl rfl rfl hc62 rfl (lb rfl) fun a S => ?_
    refine sPickF (.bool false) S (wN rfl) rfl rfl hc62 rfl rfl (lb rfl) fun a S => ?_
    refine sMove (.bool false) S (wN rfl) (.inl rfl) rfl rfl (lb rfl) fun a S => ?_
    refine sSkip 13 true 83 84 S rfl rfl rfl rfl rfl (lb rfl) fun a S => ?_
    refine sSkip 13 true 83 85 S rfl rfl rfl rfl rfl (lb rfl) fun a S => ?_
    refine sSkip 13 true 83 86 S rfl rfl rfl rfl rfl (lb rfl) fun a S => ?_
    refine sPickF (.bool false) S (wN rfl) rfl rfl rfl rfl rfl (lb rfl) fun a S => ?_
    refine sMove (.bool false) S (wN rfl) (.inl rfl) rfl rfl (lb rfl) fun a S => ?_
    refine sSkip 18 true 88 89 S rfl rfl rfl rfl rfl (lb rfl) fun a S => ?_
    refine sSkip 18 true 88 90 S rfl rfl rfl rfl rfl (lb rfl) fun a S => ?_
    refine sSkip 18 true 88 91 S rfl rfl rfl rfl rfl (lb rfl) fun a S => ?_
    refine sPickF (.bool false) S (wN rfl) rfl rfl rfl rfl rfl (lb rfl) fun a S => ?_
    refine sMove (.bool false) S (wN rfl) (.inl rfl) rfl rfl (lb rfl) fun a S => ?_
    refine sSkip 23 true 93 94 S rfl rfl rfl rfl rfl (lb rfl) fun a S => ?_
    refine sSkip 23 true 93 95 S rfl rfl rfl rfl rfl (lb rfl) fun a S => ?_
    refine sSkip 23 true 93 96 S rfl rfl rfl rfl rfl (lb rfl) fun a S => ?_
    refine sPickF (.bool false) S (wN rfl) rfl rfl rfl rfl rfl (lb rfl) fun a S => ?_
    refine sMove (.bool false) S (wN rfl) (.inl rfl) rfl rfl (lb rfl) fun a S => ?_
    refine sSkip 28 true 98 99 S rfl rfl rfl rfl rfl (lb rfl) fun a S => ?_
    refine sSkip 28 true 98 100 S rfl rfl rfl rfl rfl (lb rfl) fun a S => ?_
    refine sSkip 28 true 98 101 S rfl rfl rfl rfl rfl (lb rfl) fun a S => ?_
    refine sPickF (.bool false) S (wN rfl) rfl rfl rfl rfl rfl (lb rfl) fun a S => ?_
    refine sMove (.bool false) S (wN rfl) (.inr rfl) rfl rfl (lb rfl) fun a S => ?_
    exact leafL (leafT (⟨false, Option.some.inj h, S.fix [] [] (by decide) rfl rfl rfl⟩))
  refine sMove (iv r21.2.2) S (wG 8 true 78 rfl rfl rfl hc62) (.inl rfl) rfl rfl (lb rfl) fun a S => ?_
  refine sMove (iv r27.2.2) S (wG 8 true 78 rfl rfl rfl hc62) (.inl rfl) rfl rfl (lb rfl) fun a S => ?_
  refine sBin (.bool (r21.2.2 == r27.2.2)) S (wG 8 true 78 rfl rfl rfl hc62) rfl rfl rfl (bEq _ _ _ _ .i64 r21.2.2 r27.2.2) rfl (lb rfl) fun a S => ?_
  refine sPickT (.bool (r21.2.2 == r27.2.2)) S (wN rfl) rfl rfl hc62 rfl rfl (lb rfl) fun a S => ?_
  refine sMove (.bool (r21.2.2 == r27.2.2)) S (wN rfl) (.inl rfl) rfl rfl (lb rfl) fun a S => ?_
  rcases iteSome h with ⟨hc63, h⟩ | ⟨hc63, h⟩
  rotate_left
  · refine sSkip 13 true 83 84 S rfl rfl rfl hc63 rfl (lb rfl) fun a S => ?_
    refine sSkip 13 true 83 85 S rfl rfl rfl hc63 rfl (lb rfl) fun a S => ?_
    refine sSkip 13 true 83 86 S rfl rfl rfl hc63 rfl (lb rfl) fun a S => ?_
    refine sPickF (.bool false) S (wN rfl) rfl rfl hc63 rfl rfl (lb rfl) fun a S => ?_
    refine sMove (.bool false) S (wN rfl) (.inl rfl) rfl rfl (lb rfl) fun a S => ?_
    refine sSkip 18 true 88 89 S rfl rfl rfl rfl rfl (lb rfl) fun a S => ?_
    refine sSkip 18 true 88 90 S rfl rfl rfl rfl rfl (lb rfl) fun a S => ?_
    refine sSkip 18 true 88 91 S rfl rfl rfl rfl rfl (lb rfl) fun a S => ?_
    refine sPickF (.bool false) S (wN rfl) rfl rfl rfl rfl rfl (lb rfl) fun a S => ?_
    refine sMove (.bool false) S (wN rfl) (.inl rfl) rfl rfl (lb rfl) fun a S => ?_
    refine sSkip 23 true 93 94 S rfl rfl rfl rfl rfl (lb rfl) fun a S => ?_
    refine sSkip 23 true 93 95 S rfl rfl rfl rfl rfl (lb rfl) fun a S => ?_
    refine sSkip 23 true 93 96 S rfl rfl rfl rfl rfl (lb rfl) fun a S => ?_
    refine sPickF (.bool false) S (wN rfl) rfl rfl rfl rfl rfl (lb rfl) fun a S => ?_
    refine sMove (.bool false) S (wN rfl) (.inl rfl) rfl rfl (lb rfl) fun a S => ?_
    refine sSkip 28 true 98 99 S rfl rfl rfl rfl rfl (lb rfl) fun a S => ?_
    refine sSkip 28 true 98 100 S rfl rfl rfl rfl rfl (lb rfl) fun a S => ?_
    refine sSkip 28 true 98 101 S rfl rfl rfl rfl rfl (lb rfl) fun a S => ?_
    refine sPickF (.bool false) S (wN rfl) rfl rfl rfl rfl rfl (lb rfl) fun a S => ?_
    refine sMove (.bool false) S (wN rfl) (.inr rfl) rfl rfl (lb rfl) fun a S => ?_
    exact leafL (leafT (⟨false, Option.some.inj h, S.fix [] [] (by decide) rfl rfl rfl⟩))
  refine sMove (.slice ad36 r33.1.length cp37) S (wG 13 true 83 rfl rfl rfl hc63) (.inl rfl) rfl rfl (lb rfl) fun a S => ?_
  refine sMove (.slice ad42 r39.1.length cp43) S (wG 13 true 83 rfl rfl rfl hc63) (.inl rfl) rfl rfl (lb rfl) fun a S => ?_
  obtain ⟨r64, hx65, h⟩ := bindSome h
  have S1 := S.mem
  refine sCallQ (X := Unit) (f := 30) (vs := [.slice ad36 r33.1.length cp37, .slice ad42 r39.1.length cp43]) (val := fun _ => .bool r64) S (wG 13 true 83 rfl rfl rfl hc63) rfl callee30 rfl (S1.quiet [3, 2] rfl) (fun E1 w1 S1 => c_raddleref25_Same E1 w1 r33.1 (.slice ad36 r33.1.length cp37) r39.1 (.slice ad42 r39.1.length cp43) r64 hx65 S1) rfl (lb rfl) fun _ a w S => ?_
  refine sPickT (.bool r64) S (wN rfl) rfl rfl hc63 rfl rfl (lb rfl) fun a S => ?_
  refine sMove (.bool r64) S (wN rfl) (.inl rfl) rfl rfl (lb rfl) fun a S => ?_
  rcases iteSome h with ⟨hc66, h⟩ | ⟨hc66, h⟩
  rotate_left
  · refine sSkip 18 true 88 89 S rfl rfl rfl hc66 rfl (lb rfl) fun a S => ?_
    refine sSkip 18 true 88 90 S rfl rfl rfl hc66 rfl (lb rfl) fun a S => ?_
    refine sSkip 18 true 88 91 S rfl rfl rfl hc66 rfl (lb rfl) fun a S => ?_
    refine sPickF (.bool false) S (wN rfl) rfl rfl hc66 rfl rfl (lb rfl) fun a S => ?_
    refine sMove (.bool false) S (wN rfl) (.inl rfl) rfl rfl (lb rfl) fun a S => ?_
    refine sSkip 23 true 93 94 S rfl rfl rfl rfl rfl (lb rfl) fun a S => ?_
    refine sSkip 23 true 93 95 S rfl rfl rfl rfl rfl (lb rfl) fun a S => ?_
    refine sSkip 23 true 93 96 S rfl rfl rfl rfl rfl (lb rfl) fun a S => ?_
    refine sPickF (.bool false) S (wN rfl) rfl rfl rfl rfl rfl (lb rfl) fun a S => ?_
    refine sMove (.bool false) S (wN rfl) (.inl rfl) rfl rfl (lb rfl) fun a S => ?_
    refine sSkip 28 true 98 99 S rfl rfl rfl rfl rfl (lb rfl) fun a S => ?_
    refine sSkip 28 true 98 100 S rfl rfl rfl rfl rfl (lb rfl) fun a S => ?_
    refine sSkip 28 true 98 101 S rfl rfl rfl rfl rfl (lb rfl) fun a S => ?_
    refine sPickF (.bool false) S (wN rfl) rfl rfl rfl rfl rfl (lb rfl) fun a S => ?_
    refine sMove (.bool false) S (wN rfl) (.inr rfl) rfl rfl (lb rfl) fun a S => ?_
    exact leafL (leafT (⟨false, Option.some.inj h, S.fix [] [] (by decide) rfl rfl rfl⟩))
  refine sMove (iv r33.2) S (wG 18 true 88 rfl rfl rfl hc66) (.inl rfl) rfl rfl (lb rfl) fun a S => ?_
  refine sMove (iv r39.2) S (wG 18 true 88 rfl rfl rfl hc66) (.inl rfl) rfl rfl (lb rfl) fun a S => ?_
  refine sBin (.bool (r33.2 == r39.2)) S (wG 18 true 88 rfl rfl rfl hc66) rfl rfl rfl (bEq _ _ _ _ .i64 r33.2 r39.2) rfl (lb rfl) fun a S => ?_
  refine sPickT (.bool (r33.2 == r39.2)) S (wN rfl) rfl rfl hc66 rfl rfl (lb rfl) fun a S => ?_
  refine sMove (.bool (r33.2 == r39.2)) S (wN rfl) (.inl rfl) rfl rfl (lb rfl) fun a S => ?_
  rcases iteSome h with ⟨hc67, h⟩ | ⟨hc67, h⟩
  rotate_left
  · refine sSkip 23 true 93 94 S rfl rfl rfl hc67 rfl (lb rfl) fun a S => ?_
    refine sSkip 23 true 93 95 S rfl rfl rfl hc67 rfl (lb rfl) fun a S => ?_
    refine sSkip 23 true 93 96 S rfl rfl rfl hc67 rfl (lb rfl) fun a S => ?_
    refine sPickF (.bool false) S (wN rfl) rfl rfl hc67 rfl rfl (lb rfl) fun a S => ?_
    refine sMove (.bool false) S (wN rfl) (.inl rfl) rfl rfl (lb rfl) fun a S => ?_
    refine sSkip 28 true 98 99 S rfl rfl rfl rfl rfl (lb rfl) fun a S => ?_
    refine sSkip 28 true 98 100 S rfl rfl rfl rfl rfl (lb rfl) fun a S => ?_
    refine sSkip 28 true 98 101 S rfl rfl rfl rfl rfl (lb rfl) fun a S => ?_
    refine sPickF (.bool false) S (wN rfl) rfl rfl rfl rfl rfl (lb rfl) fun a S => ?_
    refine sMove (.bool false) S (wN rfl) (.inr rfl) rfl rfl (lb rfl) fun a S => ?_
    exact leafL (leafT (⟨false, Option.some.inj h, S.fix [] [] (by decide) rfl rfl rfl⟩))
  refine sMove (.slice ad48 r45.1.length cp49) S (wG 23 true 93 rfl rfl rfl hc67) (.inl rfl) rfl rfl (lb rfl) fun a S => ?_
  refine sMove (.slice ad54 r51.1.length cp55) S (wG 23 true 93 rfl rfl rfl hc67) (.inl rfl) rfl rfl (lb rfl) fun a S => ?_
  obtain ⟨r68, hx69, h⟩ := bindSome h
  have S1 := S.mem
  refine sCallQ (X := Unit) (f := 29) (vs := [.slice ad48 r45.1.length cp49, .slice ad54 r51.1.length cp55]) (val := fun _ => .bool r68) S (wG 23 true 93 rfl rfl rfl hc67) rfl callee29 rfl (S1.quiet [1, 0] rfl) (fun E1 w1 S1 => c_raddleref46_Same E1 w1 r45.1 (.slice ad48 r45.1.length cp49) r51.1 (.slice ad54 r51.1.length cp55) r68 hx69 S1) rfl (lb rfl) fun _ a w S => ?_
  refine sPickT (.bool r68) S (wN rfl) rfl rfl hc67 rfl rfl (lb rfl) fun a S => ?_
  refine sMove (.bool r68) S (wN rfl) (.inl rfl) rfl rfl (lb rfl) fun a S => ?_
  rcases iteSome h with ⟨hc70, h⟩ | ⟨hc70, h⟩
  rotate_left
  · refine sSkip 28 true 98 99 S rfl rfl rfl hc70 rfl (lb rfl) fun a S => ?_
    refine sSkip 28 true 98 100 S rfl rfl rfl hc70 rfl (lb rfl) fun a S => ?_
    refine sSkip 28 true 98 101 S rfl rfl rfl hc70 rfl (lb rfl) fun a S => ?_
    refine sPickF (.bool false) S (wN rfl) rfl rfl hc70 rfl rfl (lb rfl) fun a S => ?_
    refine sMove (.bool false) S (wN rfl) (.inr rfl) rfl rfl (lb rfl) fun a S => ?_
    exact leafL (leafT (⟨false, Option.some.inj h, S.fix [] [] (by decide) rfl rfl rfl⟩))
  refine sMove (iv r45.2) S (wG 28 true 98 rfl rfl rfl hc70) (.inl rfl) rfl rfl (lb rfl) fun a S => ?_
  refine sMove (iv r51.2) S (wG 28 true 98 rfl rfl rfl hc70) (.inl rfl) rfl rfl (lb rfl) fun a S => ?_
  refine sBin (.bool (r45.2 == r51.2)) S (wG 28 true 98 rfl rfl rfl hc70) rfl rfl rfl (bEq _ _ _ _ .i64 r45.2 r51.2) rfl (lb rfl) fun a S => ?_
  refine sPickT (.bool (r45.2 == r51.2)) S (wN rfl) rfl rfl hc70 rfl rfl (lb rfl) fun a S => ?_
  refine sMove (.bool (r45.2 == r51.2)) S (wN rfl) (.inr rfl) rfl rfl (lb rfl) fun a S => ?_
  exact leafL (leafT (⟨r45.2 == r51.2, Option.some.inj h, S.fix [] [] (by decide) rfl rfl rfl⟩))

end Go.Proofs.Ytffikfajljbmnaa
namespace Go.Proofs.Ytffikfajljbmnaa
open Go.RowKit
set_option linter.unusedVariables false

theorem steq (x y : api_Stitch) : ((x.Kind == y.Kind) && ((x.Purl == y.Purl) && ((x.A == y.A) && ((x.B == y.B) && true)))) = decide (x = y) := by
  by_cases h : x = y
  · subst h; simp
  · rw [dF h]
    refine Bool.eq_false_iff.2 fun hb => h ?_
    simp only [Bool.and_eq_true, beq_iff_eq, and_true] at hb
    cases x; cases y
    simp only at hb
    obtain ⟨h1, h2, h3, h4⟩ := hb
    rw [h1, h2, h3, h4]
theorem min3_nat (x y z : Nat) : min3 (x : Int) (y : Int) (z : Int) = ((min (min x y) z : Nat) : Int) := by
  unfold min3
  repeat' split
  all_goals omega
/-- places from k on are set -/
def stS {β : Type} (z : β) (W : Nat → β) (n k : Nat) : List β := (List.range (n + 1)).map fun j => if k ≤ j then W j else z
theorem stS_len {β : Type} (z : β) (W : Nat → β) (n k : Nat) : (stS z W n k).length = n + 1 := by simp [stS]
theorem stS_get {β : Type} (z : β) (W : Nat → β) {n k j : Nat} (hj : j ≤ n) (hk : k ≤ j) : idxO (stS z W n k) (j : Int) = some (W j) := by
  rw [idxO_nat (by rw [stS_len]; omega)]
  simp [stS, hk]
theorem stS_idx {β : Type} (z : β) (W : Nat → β) {n k j : Nat} (hj : j ≤ n) : ∃ y, idxO (stS z W n k) (j : Int) = some y := ⟨_, idxO_nat (by rw [stS_len]; omega)⟩
theorem stS_list {β : Type} (z : β) (W : Nat → β) (n k : Nat) : (stS z W n (k + 1)).set k (W k) = stS z W n k := by
  apply List.ext_getElem?
  intro t
  by_cases ht : t < n + 1
  · rw [List.getElem?_set]
    simp only [stS, List.getElem?_map, List.getElem?_range ht, Option.map_some, List.length_map, List.length_range]
    by_cases e : k = t
    · subst e; rw [if_pos rfl, if_pos ht, if_pos (Nat.le_refl _)]
    · rw [if_neg e]
      by_cases e2 : k ≤ t
      · rw [if_pos (by omega), if_pos e2]
      · rw [if_neg (by omega), if_neg e2]
  · rw [List.getElem?_eq_none (by simp [stS]; omega), List.getElem?_eq_none (by simp [stS]; omega)]
theorem stS_set {β : Type} (z : β) (W : Nat → β) {n k : Nat} (hk : k ≤ n) {v : β} (hv : v = W k) : setO (stS z W n (k + 1)) (k : Int) v = some (stS z W n k) := by
  rw [setO_nat (by rw [stS_len]; omega), hv, stS_list]
theorem stS_same {β : Type} (z : β) (W : Nat → β) {n k : Nat} (h : W k = z) : stS z W n (k + 1) = stS z W n k := by
  unfold stS
  refine map_cong fun j _ => ?_
  by_cases e : k = j
  · subst e; rw [if_neg (by omega), if_pos (Nat.le_refl _), h]
  · by_cases e2 : k ≤ j
    · rw [if_pos (by omega), if_pos e2]
    · rw [if_neg (by omega), if_neg e2]
theorem stS_top {β : Type} (z : β) (W : Nat → β) (n : Nat) : stS z W n (n + 1) = List.replicate (n + 1) z := by
  unfold stS
  have : (List.range (n + 1)).map (fun j => if n + 1 ≤ j then W j else z) = (List.range (n + 1)).map fun _ => z := map_cong fun j hj => if_neg (by omega)
  rw [this]
  simp [List.map_const']
/-- a loop that goes down -/
theorem loop_dn {σ τ : Type} {B : Int × σ → Option ((Int × σ) ⊕ τ)} (n : Nat) (st : Nat → σ) {t : τ} (h : ∀ k, k ≤ n → B ((k : Int), st (k + 1)) = some (.inl ((k : Int) - 1, st k))) (hn : B (-1, st 0) = some (.inr t)) : whileO B ((n : Int), st (n + 1)) = some t := by
  have key : ∀ k, k ≤ n + 1 → whileO B ((k : Int) - 1, st k) = some t := by
    intro k
    induction k with
    | zero => intro _; exact whileO_done hn
    | succ k ih =>
      intro hk
      rw [show (((k + 1 : Nat) : Int) - 1) = (k : Int) by omega, whileO_step (h k (by omega))]
      exact ih (by omega)
  have := key (n + 1) (Nat.le_refl _)
  rw [show (((n + 1 : Nat) : Int) - 1) = (n : Int) by omega] at this
  exact this
theorem loop_dn2 {σ τ : Type} {B : σ × Int → Option ((σ × Int) ⊕ τ)} (n : Nat) (st : Nat → σ) {t : τ} (h : ∀ k, k ≤ n → B (st (k + 1), (k : Int)) = some (.inl (st k, (k : Int) - 1))) (hn : B (st 0, -1) = some (.inr t)) : whileO B (st (n + 1), (n : Int)) = some t := by
  have key : ∀ k, k ≤ n + 1 → whileO B (st k, (k : Int) - 1) = some t := by
    intro k
    induction k with
    | zero => intro _; exact whileO_done hn
    | succ k ih =>
      intro hk
      rw [show (((k + 1 : Nat) : Int) - 1) = (k : Int) by omega, whileO_step (h k (by omega))]
      exact ih (by omega)
  have := key (n + 1) (Nat.le_refl _)
  rw [show (((n + 1 : Nat) : Int) - 1) = (n : Int) by omega] at this
  exact this
theorem w64_pred {k : Nat} (h : k ≤ 9223372036854775807) : w64 ((k : Int) - 1) = (k : Int) - 1 := w64_of (by omega) (by omega)
section
variable {α : Type} (al : α → Nat) (bo : α → α → Nat)
def Wg (a b : List α) (i k : Nat) : Nat := wed al bo (a.drop i) (b.drop k)
end
section
variable {α : Type} {al : α → Nat} {bo : α → α → Nat} {a b : List α}
theorem Wg_end : Wg al bo a b a.length b.length = 0 := by unfold Wg; rw [List.drop_length, List.drop_length]; rfl
theorem Wg_b {k : Nat} (hk : k < b.length) : Wg al bo a b a.length k = Wg al bo a b a.length (k + 1) + al b[k] := by
  unfold Wg; rw [List.drop_length, List.drop_eq_getElem_cons hk]; rfl
theorem Wg_a {i : Nat} (hi : i < a.length) : Wg al bo a b i b.length = Wg al bo a b (i + 1) b.length + al a[i] := by
  unfold Wg; rw [List.drop_length, List.drop_eq_getElem_cons hi]; rfl
theorem Wg_ab {i k : Nat} (hi : i < a.length) (hk : k < b.length) : Wg al bo a b i k = min (min (Wg al bo a b (i + 1) k + al a[i]) (Wg al bo a b i (k + 1) + al b[k])) (Wg al bo a b (i + 1) (k + 1) + bo a[i] b[k]) := by
  unfold Wg; rw [List.drop_eq_getElem_cons hi, List.drop_eq_getElem_cons hk, wed_cc]
theorem sumA_drop (b : List α) (k : Nat) : sumA al (b.drop k) ≤ sumA al b := by
  induction b generalizing k with
  | nil => simp [sumA]
  | cons y b ih =>
    cases k with
    | zero => exact Nat.le_refl _
    | succ k => have := ih k; simp only [List.drop_succ_cons, sumA]; omega
theorem Wg_bd (i k : Nat) : Wg al bo a b i k ≤ sumA al a + sumA al b := by
  have h1 := wed_sum (al := al) (bo := bo) (a.drop i) (b.drop k)
  have h2 := sumA_drop (al := al) a i
  have h3 := sumA_drop (al := al) b k
  unfold Wg
  omega
end
/-- the table -/
def tbS {α : Type} (al : α → Nat) (bo : α → α → Nat) (a b : List α) (i : Nat) : List (List Int) := stS [] (fun i => stS 0 (fun k => ((Wg al bo a b i k : Nat) : Int)) b.length 0) a.length i
theorem tb_row {α : Type} (al : α → Nat) (bo : α → α → Nat) (a b : List α) {i j : Nat} (hi : i ≤ a.length) (hj : j ≤ i) : idxO (tbS al bo a b j) (i : Int) = some (stS 0 (fun k => ((Wg al bo a b i k : Nat) : Int)) b.length 0) := stS_get _ _ hi hj
theorem tb_val {α : Type} (al : α → Nat) (bo : α → α → Nat) (a b : List α) (i : Nat) {k : Nat} (hk : k ≤ b.length) : idxO (stS 0 (fun k => ((Wg al bo a b i k : Nat) : Int)) b.length 0) (k : Int) = some ((Wg al bo a b i k : Nat) : Int) := stS_get _ _ hk (Nat.zero_le _)
theorem rowS_set {α : Type} (al : α → Nat) (bo : α → α → Nat) (a b : List α) (i : Nat) {k : Nat} (hk : k ≤ b.length) : setO (stS (0 : Int) (fun k => ((Wg al bo a b i k : Nat) : Int)) b.length (k + 1)) (k : Int) ((Wg al bo a b i k : Nat) : Int) = some (stS 0 (fun k => ((Wg al bo a b i k : Nat) : Int)) b.length k) := stS_set _ _ hk rfl
theorem ctable_eq (a b : List api_Stitch) (ha : a.length ≤ 1000) (hb : b.length ≤ 1000) : F_compare_cellTable a b = some (tbS al1 bo1 a b 0) := by
  have hbd : ∀ i k, Wg al1 bo1 a b i k ≤ 2000 := by
    intro i k
    have h1 := Wg_bd (al := al1) (bo := bo1) (a := a) (b := b) i k
    rw [sumA_one (al := al1) (fun _ => rfl), sumA_one (al := al1) (fun _ => rfl)] at h1
    omega
  have hc2 : ∀ x y, F_compare_cellTable_2 x y = some ((bo1 x y : Nat) : Int) := by
    intro x y
    unfold F_compare_cellTable_2
    rw [steq]
    by_cases h : x = y
    · rw [dT h, bo1_eq h]; rfl
    · rw [dF h, bo1_ne h]; rfl
  have hc1 : ∀ x, F_compare_cellTable_1 x = some ((al1 x : Nat) : Int) := fun x => rfl
  have hrow : ∀ i, i ≤ a.length → whileO (compare_table_api_Stitch__s0_l1 (i : Int) a b (tbS al1 bo1 a b (i + 1))) ((b.length : Int), List.replicate (b.length + 1) 0) = some (stS 0 (fun k => ((Wg al1 bo1 a b i k : Nat) : Int)) b.length 0) := by
    intro i hi
    have h := loop_dn (B := compare_table_api_Stitch__s0_l1 (i : Int) a b (tbS al1 bo1 a b (i + 1))) b.length (fun k => stS 0 (fun k => ((Wg al1 bo1 a b i k : Nat) : Int)) b.length k) (t := stS 0 (fun k => ((Wg al1 bo1 a b i k : Nat) : Int)) b.length 0)
      (fun k hk => by
        have b1 := hbd i (k + 1)
        have b2 := hbd (i + 1) k
        have b3 := hbd (i + 1) (k + 1)
        obtain ⟨y, hy⟩ := stS_idx (0 : Int) (fun k => ((Wg al1 bo1 a b i k : Nat) : Int)) (k := k + 1) hk
        unfold compare_table_api_Stitch__s0_l1
        simp only [dT (show (0 : Int) ≤ (k : Int) by omega), if_true]
        by_cases e1 : i = a.length
        · by_cases e2 : k = b.length
          · simp only [bT (show (i : Int) = (a.length : Int) by omega), bT (show (k : Int) = (b.length : Int) by omega), if_true, Option.bind_some, w64_pred (show k ≤ 9223372036854775807 by omega)]
            rw [stS_same (0 : Int) (fun k => ((Wg al1 bo1 a b i k : Nat) : Int)) (by rw [e1, e2, Wg_end]; rfl)]
          · have hk2 : k < b.length := by omega
            simp only [bT (show (i : Int) = (a.length : Int) by omega), bF (show ¬ (k : Int) = (b.length : Int) by omega), if_true, Bool.false_eq_true, if_false, Option.bind_some, w64_succ (show k < 9223372036854775807 by omega), stS_get (0 : Int) (fun k => ((Wg al1 bo1 a b i k : Nat) : Int)) (show k + 1 ≤ b.length by omega) (Nat.le_refl _), idxO_nat hk2, hc1, hy, w64_pred (show k ≤ 9223372036854775807 by omega)]
            have hv : w64 (((Wg al1 bo1 a b i (k + 1) : Nat) : Int) + ((al1 b[k] : Nat) : Int)) = ((Wg al1 bo1 a b i k : Nat) : Int) := by rw [wadd (by simp only [al1]; omega), e1, Wg_b hk2]
            rw [hv, rowS_set al1 bo1 a b i hk]
            rfl
        · have hi2 : i < a.length := by omega
          by_cases e2 : k = b.length
          · simp only [bF (show ¬ (i : Int) = (a.length : Int) by omega), bT (show (k : Int) = (b.length : Int) by omega), if_true, Bool.false_eq_true, if_false, Option.bind_some, w64_succ (show i < 9223372036854775807 by omega), tb_row al1 bo1 a b (show i + 1 ≤ a.length by omega) (Nat.le_refl _), tb_val al1 bo1 a b (i + 1) hk, idxO_nat hi2, hc1, hy, w64_pred (show k ≤ 9223372036854775807 by omega)]
            have hv : w64 (((Wg al1 bo1 a b (i + 1) k : Nat) : Int) + ((al1 a[i] : Nat) : Int)) = ((Wg al1 bo1 a b i k : Nat) : Int) := by rw [wadd (by simp only [al1]; omega), e2, Wg_a hi2]
            rw [hv, rowS_set al1 bo1 a b i hk]
            rfl
          · have hk2 : k < b.length := by omega
            have b4 := bo1_le a[i] b[k]
            simp only [bF (show ¬ (i : Int) = (a.length : Int) by omega), bF (show ¬ (k : Int) = (b.length : Int) by omega), Bool.false_eq_true, if_false, Option.bind_some, w64_succ (show i < 9223372036854775807 by omega), w64_succ (show k < 9223372036854775807 by omega), tb_row al1 bo1 a b (show i + 1 ≤ a.length by omega) (Nat.le_refl _), tb_val al1 bo1 a b (i + 1) hk, tb_val al1 bo1 a b (i + 1) (show k + 1 ≤ b.length by omega), stS_get (0 : Int) (fun k => ((Wg al1 bo1 a b i k : Nat) : Int)) (show k + 1 ≤ b.length by omega) (Nat.le_refl _), idxO_nat hi2, idxO_nat hk2, hc1, hc2, hy, w64_pred (show k ≤ 9223372036854775807 by omega)]
            have hv : min3 (w64 (((Wg al1 bo1 a b (i + 1) k : Nat) : Int) + ((al1 a[i] : Nat) : Int))) (w64 (((Wg al1 bo1 a b i (k + 1) : Nat) : Int) + ((al1 b[k] : Nat) : Int))) (w64 (((Wg al1 bo1 a b (i + 1) (k + 1) : Nat) : Int) + ((bo1 a[i] b[k] : Nat) : Int))) = ((Wg al1 bo1 a b i k : Nat) : Int) := by
              rw [wadd (a := Wg al1 bo1 a b (i + 1) k) (by simp only [al1]; omega), wadd (a := Wg al1 bo1 a b i (k + 1)) (by simp only [al1]; omega), wadd (by omega), min3_nat, Wg_ab hi2 hk2]
            rw [hv, rowS_set al1 bo1 a b i hk]
            rfl)
      (by
        unfold compare_table_api_Stitch__s0_l1
        simp only [dF (show ¬ (0 : Int) ≤ -1 by decide), Bool.false_eq_true, if_false])
    rw [stS_top] at h
    exact h
  have h := loop_dn2 (B := compare_table_api_Stitch__s0_l2 b a) a.length (fun i => tbS al1 bo1 a b i) (t := tbS al1 bo1 a b 0)
    (fun i hi => by
      obtain ⟨y, hy⟩ := stS_idx ([] : List Int) (fun i => stS 0 (fun k => ((Wg al1 bo1 a b i k : Nat) : Int)) b.length 0) (k := i + 1) hi
      have hy2 : idxO (tbS al1 bo1 a b (i + 1)) (i : Int) = some y := hy
      unfold compare_table_api_Stitch__s0_l2
      simp only [dT (show (0 : Int) ≤ (i : Int) by omega), if_true, w64_succ (show b.length < 9223372036854775807 by omega)]
      rw [makeO_of (k := b.length + 1) rfl (by omega)]
      simp only [Option.bind_some, hy2, hrow i hi, w64_pred (show i ≤ 9223372036854775807 by omega), Int.toNat_natCast]
      rw [show (tbS al1 bo1 a b (i + 1)).set i (stS 0 (fun k => ((Wg al1 bo1 a b i k : Nat) : Int)) b.length 0) = tbS al1 bo1 a b i from stS_list _ _ _ _])
    (by
      unfold compare_table_api_Stitch__s0_l2
      simp only [dF (show ¬ (0 : Int) ≤ -1 by decide), Bool.false_eq_true, if_false])
  have ht : tbS al1 bo1 a b (a.length + 1) = List.replicate (a.length + 1) [] := stS_top _ _ _
  rw [ht] at h
  unfold F_compare_cellTable F_compare_table_api_Stitch__s0
  simp only [w64_succ (show a.length < 9223372036854775807 by omega)]
  rw [makeO_of (k := a.length + 1) rfl (by omega)]
  simp only [Option.bind_some, h]
theorem rtable_eq (a b : List api_Stitch) (ha : a.length ≤ 1000) (hb : b.length ≤ 1000) : F_raddleref46_Table a b = some (tbS al1 bo1 a b 0) := by
  have hbd : ∀ i k, Wg al1 bo1 a b i k ≤ 2000 := by
    intro i k
    have h1 := Wg_bd (al := al1) (bo := bo1) (a := a) (b := b) i k
    rw [sumA_one (al := al1) (fun _ => rfl), sumA_one (al := al1) (fun _ => rfl)] at h1
    omega
  have hrow : ∀ i, i ≤ a.length → whileO (raddleref46_Table_l1 (i : Int) a b (tbS al1 bo1 a b (i + 1))) (List.replicate (b.length + 1) 0, (b.length : Int)) = some (stS 0 (fun k => ((Wg al1 bo1 a b i k : Nat) : Int)) b.length 0) := by
    intro i hi
    have h := loop_dn2 (B := raddleref46_Table_l1 (i : Int) a b (tbS al1 bo1 a b (i + 1))) b.length (fun k => stS 0 (fun k => ((Wg al1 bo1 a b i k : Nat) : Int)) b.length k) (t := stS 0 (fun k => ((Wg al1 bo1 a b i k : Nat) : Int)) b.length 0)
      (fun k hk => by
        have b1 := hbd i (k + 1)
        have b2 := hbd (i + 1) k
        have b3 := hbd (i + 1) (k + 1)
        obtain ⟨y, hy⟩ := stS_idx (0 : Int) (fun k => ((Wg al1 bo1 a b i k : Nat) : Int)) (k := k + 1) hk
        unfold raddleref46_Table_l1
        simp only [dT (show (0 : Int) ≤ (k : Int) by omega), if_true]
        by_cases e : i < a.length ∧ k < b.length
        · obtain ⟨hi2, hk2⟩ := e
          simp only [dT (show (i : Int) < (a.length : Int) by omega), dT (show (k : Int) < (b.length : Int) by omega), if_true, Option.bind_some, w64_succ (show i < 9223372036854775807 by omega), w64_succ (show k < 9223372036854775807 by omega), tb_row al1 bo1 a b (show i + 1 ≤ a.length by omega) (Nat.le_refl _), tb_val al1 bo1 a b (i + 1) hk, tb_val al1 bo1 a b (i + 1) (show k + 1 ≤ b.length by omega), idxO_nat hi2, idxO_nat hk2, steq]
          have hs : (if (!decide (a[i] = b[k])) = true then some (w64 (((Wg al1 bo1 a b (i + 1) (k + 1) : Nat) : Int) + 1)) else some ((Wg al1 bo1 a b (i + 1) (k + 1) : Nat) : Int)) = some ((Wg al1 bo1 a b (i + 1) (k + 1) + bo1 a[i] b[k] : Nat) : Int) := by
            by_cases c : a[i] = b[k]
            · rw [dT c, bo1_eq c]; rfl
            · rw [dF c, bo1_ne c]; simp only [Bool.not_false, if_true]; rw [w64_succ (by omega)]
          rw [hs]
          simp only [Option.bind_some, stS_get (0 : Int) (fun k => ((Wg al1 bo1 a b i k : Nat) : Int)) (show k + 1 ≤ b.length by omega) (Nat.le_refl _), hy, w64_pred (show k ≤ 9223372036854775807 by omega)]
          have hv : min3 ((Wg al1 bo1 a b (i + 1) (k + 1) + bo1 a[i] b[k] : Nat) : Int) (w64 (((Wg al1 bo1 a b (i + 1) k : Nat) : Int) + 1)) (w64 (((Wg al1 bo1 a b i (k + 1) : Nat) : Int) + 1)) = ((Wg al1 bo1 a b i k : Nat) : Int) := by
            rw [w64_succ (k := Wg al1 bo1 a b (i + 1) k) (by omega), w64_succ (k := Wg al1 bo1 a b i (k + 1)) (by omega), min3_nat, Wg_ab hi2 hk2]
            simp only [al1]
            omega
          rw [hv, rowS_set al1 bo1 a b i hk]
          rfl
        · have hw : Wg al1 bo1 a b i k = a.length - i + (b.length - k) := by
            unfold Wg
            by_cases c : i < a.length
            · rw [show k = b.length by omega, List.drop_length, wed_nil, sumA_one (al := al1) (fun _ => rfl), List.length_drop]; omega
            · rw [show i = a.length by omega, List.drop_length]
              show sumA al1 (b.drop k) = _
              rw [sumA_one (al := al1) (fun _ => rfl), List.length_drop]; omega
          have hz : w64 (w64 (w64 ((a.length : Int) - (i : Int)) + (b.length : Int)) - (k : Int)) = ((Wg al1 bo1 a b i k : Nat) : Int) := by
            rw [hw, w64_of (x := (a.length : Int) - (i : Int)) (by omega) (by omega), w64_of (x := (a.length : Int) - (i : Int) + (b.length : Int)) (by omega) (by omega), w64_of (by omega) (by omega)]
            omega
          have hb : (if decide ((i : Int) < (a.length : Int)) = true then some (decide ((k : Int) < (b.length : Int))) else some false) = some false := by
            by_cases c : i < a.length
            · rw [dT (show (i : Int) < (a.length : Int) by omega), if_pos rfl, dF (show ¬ (k : Int) < (b.length : Int) by omega)]
            · rw [dF (show ¬ (i : Int) < (a.length : Int) by omega)]; rfl
          rw [hb]
          simp only [Option.bind_some, Bool.false_eq_true, if_false, hz, hy, w64_pred (show k ≤ 9223372036854775807 by omega)]
          rw [rowS_set al1 bo1 a b i hk]
          rfl)
      (by
        unfold raddleref46_Table_l1
        simp only [dF (show ¬ (0 : Int) ≤ -1 by decide), Bool.false_eq_true, if_false])
    rw [stS_top] at h
    exact h
  have h := loop_dn2 (B := raddleref46_Table_l2 b a) a.length (fun i => tbS al1 bo1 a b i) (t := tbS al1 bo1 a b 0)
    (fun i hi => by
      obtain ⟨y, hy⟩ := stS_idx ([] : List Int) (fun i => stS 0 (fun k => ((Wg al1 bo1 a b i k : Nat) : Int)) b.length 0) (k := i + 1) hi
      have hy2 : idxO (tbS al1 bo1 a b (i + 1)) (i : Int) = some y := hy
      have hs : setO (tbS al1 bo1 a b (i + 1)) (i : Int) (stS 0 (fun k => ((Wg al1 bo1 a b i k : Nat) : Int)) b.length 0) = some (tbS al1 bo1 a b i) := stS_set _ _ hi rfl
      unfold raddleref46_Table_l2
      simp only [dT (show (0 : Int) ≤ (i : Int) by omega), if_true, w64_succ (show b.length < 9223372036854775807 by omega)]
      rw [makeO_of (k := b.length + 1) rfl (by omega)]
      simp only [Option.bind_some, hrow i hi, hy2, hs, w64_pred (show i ≤ 9223372036854775807 by omega)])
    (by
      unfold raddleref46_Table_l2
      simp only [dF (show ¬ (0 : Int) ≤ -1 by decide), Bool.false_eq_true, if_false])
  have ht : tbS al1 bo1 a b (a.length + 1) = List.replicate (a.length + 1) [] := stS_top _ _ _
  rw [ht] at h
  unfold F_raddleref46_Table
  simp only [w64_succ (show a.length < 9223372036854775807 by omega)]
  rw [makeO_of (k := a.length + 1) rfl (by omega)]
  simp only [Option.bind_some, h]

end Go.Proofs.Ytffikfajljbmnaa
namespace Go.Proofs.Ytffikfajljbmnaa
open Go.RowKit
set_option linter.unusedVariables false

theorem tb_at (a b : List api_Stitch) {i k : Nat} (hi : i ≤ a.length) (hk : k ≤ b.length) : ∃ r, idxO (tbS al1 bo1 a b 0) (i : Int) = some r ∧ idxO r (k : Int) = some ((D1 (a.drop i) (b.drop k) : Nat) : Int) :=
  ⟨_, tb_row al1 bo1 a b hi (Nat.zero_le _), tb_val al1 bo1 a b i hk⟩
theorem D1_bd (a b : List api_Stitch) : D1 a b ≤ a.length + b.length := by have := D1_max a b; omega
theorem edits_loop (a b : List api_Stitch) (ha : a.length ≤ 1000) (hb : b.length ≤ 1000) : ∀ (n i k : Nat) (out : List api_CellStep), i ≤ a.length → k ≤ b.length → (a.length - i) + (b.length - k) ≤ n → out.length + n ≤ 100000 →
    whileO (compare_Edits_l2 a b (tbS al1 bo1 a b 0)) (out, (i : Int), (k : Int)) = some (out ++ eds n (a.drop i) (b.drop k)) := by
  intro n
  induction n with
  | zero =>
    intro i k out hi hk h _
    have e1 : i = a.length := by omega
    have e2 : k = b.length := by omega
    refine whileO_done ?_
    unfold compare_Edits_l2
    simp only [dF (show ¬ (i : Int) < (a.length : Int) by omega), dF (show ¬ (k : Int) < (b.length : Int) by omega), Bool.false_eq_true, if_false, Option.bind_some, eds, List.append_nil]
  | succ n ih =>
    intro i k out hi hk h ho
    by_cases c1 : i < a.length
    · obtain ⟨r, h1, h2⟩ := tb_at a b hi hk
      obtain ⟨r', h3, h4⟩ := tb_at a b (show i + 1 ≤ a.length by omega) hk
      have bd := D1_bd (a.drop (i + 1)) (b.drop k)
      rw [List.length_drop, List.length_drop] at bd
      by_cases c2 : k < b.length
      · obtain ⟨r'', h5, h6⟩ := tb_at a b (show i + 1 ≤ a.length by omega) (show k + 1 ≤ b.length by omega)
        obtain rfl : r' = r'' := Option.some.inj (h3.symm.trans h5)
        have bd2 := D1_bd (a.drop (i + 1)) (b.drop (k + 1))
        rw [List.length_drop, List.length_drop] at bd2
        rw [List.drop_eq_getElem_cons c1, List.drop_eq_getElem_cons c2] at *
        simp only [eds]
        have hstep : compare_Edits_l2 a b (tbS al1 bo1 a b 0) (out, (i : Int), (k : Int)) =
            (if a[i] = b[k] ∧ D1 (a[i] :: a.drop (i + 1)) (b[k] :: b.drop (k + 1)) = D1 (a.drop (i + 1)) (b.drop (k + 1)) then some (.inl (out ++ [⟨1, z0⟩], ((i + 1 : Nat) : Int), ((k + 1 : Nat) : Int)))
            else if ¬ a[i] = b[k] ∧ D1 (a[i] :: a.drop (i + 1)) (b[k] :: b.drop (k + 1)) = 1 + D1 (a.drop (i + 1)) (b.drop (k + 1)) then some (.inl (out ++ [⟨2, b[k]⟩], ((i + 1 : Nat) : Int), ((k + 1 : Nat) : Int)))
            else if D1 (a[i] :: a.drop (i + 1)) (b[k] :: b.drop (k + 1)) = 1 + D1 (a.drop (i + 1)) (b[k] :: b.drop (k + 1)) then some (.inl (out ++ [⟨4, z0⟩], ((i + 1 : Nat) : Int), (k : Int)))
            else some (.inl (out ++ [⟨3, b[k]⟩], (i : Int), ((k + 1 : Nat) : Int)))) := by
          have w1 : w64 (1 + ((D1 (a.drop (i + 1)) (b.drop (k + 1)) : Nat) : Int)) = ((1 + D1 (a.drop (i + 1)) (b.drop (k + 1)) : Nat) : Int) := by rw [w64_of (by omega) (by omega)]; omega
          have w2 : w64 (1 + ((D1 (a.drop (i + 1)) (b[k] :: b.drop (k + 1)) : Nat) : Int)) = ((1 + D1 (a.drop (i + 1)) (b[k] :: b.drop (k + 1)) : Nat) : Int) := by rw [w64_of (by omega) (by omega)]; omega
          generalize D1 (a.drop (i + 1)) (b.drop (k + 1)) = d2 at *
          generalize D1 (a.drop (i + 1)) (b[k] :: b.drop (k + 1)) = d3 at *
          generalize D1 (a[i] :: a.drop (i + 1)) (b[k] :: b.drop (k + 1)) = d1 at *
          unfold compare_Edits_l2
          simp only [dT (show (i : Int) < (a.length : Int) by omega), dT (show (k : Int) < (b.length : Int) by omega), if_true, Option.bind_some, h1, h2, h3, h4, h6, idxO_nat c1, idxO_nat c2, steq, w64_succ (show i < 9223372036854775807 by omega), w64_succ (show k < 9223372036854775807 by omega), w1, w2]
          have hap : ∀ s : api_CellStep, appO out [s] = some (out ++ [s]) := fun s => appO_of (by simp; omega)
          by_cases q1 : a[i] = b[k]
          · by_cases q2 : d1 = d2
            · rw [if_pos (show a[i] = b[k] ∧ d1 = d2 from ⟨q1, q2⟩)]
              simp only [dT q1, if_true, bT (show (d1 : Int) = (d2 : Int) by omega), Option.bind_some, hap]
              rfl
            · rw [if_neg (show ¬ (a[i] = b[k] ∧ d1 = d2) from fun x => q2 x.2), if_neg (show ¬ (¬ a[i] = b[k] ∧ d1 = 1 + d2) from fun x => x.1 q1)]
              by_cases q3 : d1 = 1 + d3
              · rw [if_pos q3]
                simp only [dT q1, if_true, bF (show ¬ (d1 : Int) = (d2 : Int) by omega), Bool.false_eq_true, if_false, Bool.not_true, bT (show (d1 : Int) = ((1 + d3 : Nat) : Int) by omega), Option.bind_some, hap]
                rfl
              · rw [if_neg q3]
                simp only [dT q1, if_true, bF (show ¬ (d1 : Int) = (d2 : Int) by omega), Bool.false_eq_true, if_false, Bool.not_true, bF (show ¬ (d1 : Int) = ((1 + d3 : Nat) : Int) by omega), Option.bind_some, hap]
          · rw [if_neg (show ¬ (a[i] = b[k] ∧ d1 = d2) from fun x => q1 x.1)]
            by_cases q2 : d1 = 1 + d2
            · rw [if_pos (show ¬ a[i] = b[k] ∧ d1 = 1 + d2 from ⟨q1, q2⟩)]
              simp only [dF q1, Bool.false_eq_true, if_false, Bool.not_false, if_true, bT (show (d1 : Int) = ((1 + d2 : Nat) : Int) by omega), Option.bind_some, hap]
            · rw [if_neg (show ¬ (¬ a[i] = b[k] ∧ d1 = 1 + d2) from fun x => q2 x.2)]
              by_cases q3 : d1 = 1 + d3
              · rw [if_pos q3]
                simp only [dF q1, Bool.false_eq_true, if_false, Bool.not_false, if_true, bF (show ¬ (d1 : Int) = ((1 + d2 : Nat) : Int) by omega), bT (show (d1 : Int) = ((1 + d3 : Nat) : Int) by omega), Option.bind_some, hap]
                rfl
              · rw [if_neg q3]
                simp only [dF q1, Bool.false_eq_true, if_false, Bool.not_false, if_true, bF (show ¬ (d1 : Int) = ((1 + d2 : Nat) : Int) by omega), bF (show ¬ (d1 : Int) = ((1 + d3 : Nat) : Int) by omega), Option.bind_some, hap]
        by_cases q1 : a[i] = b[k] ∧ D1 (a[i] :: a.drop (i + 1)) (b[k] :: b.drop (k + 1)) = D1 (a.drop (i + 1)) (b.drop (k + 1))
        · rw [if_pos q1] at hstep ⊢
          rw [whileO_step hstep, ih (i + 1) (k + 1) _ (by omega) (by omega) (by omega) (by simp; omega), List.append_assoc]
          rfl
        rw [if_neg q1] at hstep ⊢
        by_cases q2 : ¬ a[i] = b[k] ∧ D1 (a[i] :: a.drop (i + 1)) (b[k] :: b.drop (k + 1)) = 1 + D1 (a.drop (i + 1)) (b.drop (k + 1))
        · rw [if_pos q2] at hstep ⊢
          rw [whileO_step hstep, ih (i + 1) (k + 1) _ (by omega) (by omega) (by omega) (by simp; omega), List.append_assoc]
          rfl
        rw [if_neg q2] at hstep ⊢
        by_cases q3 : D1 (a[i] :: a.drop (i + 1)) (b[k] :: b.drop (k + 1)) = 1 + D1 (a.drop (i + 1)) (b[k] :: b.drop (k + 1))
        · rw [if_pos q3] at hstep ⊢
          rw [whileO_step hstep, ih (i + 1) k _ (by omega) (by omega) (by omega) (by simp; omega), List.append_assoc, List.drop_eq_getElem_cons c2]
          rfl
        · rw [if_neg q3] at hstep ⊢
          rw [whileO_step hstep, ih i (k + 1) _ (by omega) (by omega) (by omega) (by simp; omega), List.append_assoc, List.drop_eq_getElem_cons c1]
          rfl
      · have e2 : k = b.length := by omega
        have hstep : compare_Edits_l2 a b (tbS al1 bo1 a b 0) (out, (i : Int), (k : Int)) = some (.inl (out ++ [⟨4, z0⟩], ((i + 1 : Nat) : Int), (k : Int))) := by
          have hd : D1 (a.drop i) (b.drop k) = 1 + D1 (a.drop (i + 1)) (b.drop k) := by
            rw [e2, List.drop_length, List.drop_eq_getElem_cons c1]; exact Nat.add_comm (D1 (a.drop (i + 1)) []) 1
          have w2 : w64 (1 + ((D1 (a.drop (i + 1)) (b.drop k) : Nat) : Int)) = ((1 + D1 (a.drop (i + 1)) (b.drop k) : Nat) : Int) := by rw [w64_of (by omega) (by omega)]; omega
          have hap : ∀ s : api_CellStep, appO out [s] = some (out ++ [s]) := fun s => appO_of (by simp; omega)
          unfold compare_Edits_l2
          simp only [dT (show (i : Int) < (a.length : Int) by omega), dF (show ¬ (k : Int) < (b.length : Int) by omega), if_true, Bool.false_eq_true, if_false, Option.bind_some, h1, h2, h3, h4, w64_succ (show i < 9223372036854775807 by omega), w2, hd, beq_self_eq_true, hap]
          rfl
        rw [whileO_step hstep, ih (i + 1) k _ (by omega) (by omega) (by omega) (by simp; omega), List.append_assoc, e2, List.drop_length, List.drop_eq_getElem_cons c1]
        rfl
    · have e1 : i = a.length := by omega
      by_cases c2 : k < b.length
      · obtain ⟨r, h1, h2⟩ := tb_at a b hi hk
        have hstep : compare_Edits_l2 a b (tbS al1 bo1 a b 0) (out, (i : Int), (k : Int)) = some (.inl (out ++ [⟨3, b[k]⟩], (i : Int), ((k + 1 : Nat) : Int))) := by
          have hap : ∀ s : api_CellStep, appO out [s] = some (out ++ [s]) := fun s => appO_of (by simp; omega)
          unfold compare_Edits_l2
          simp only [dF (show ¬ (i : Int) < (a.length : Int) by omega), dT (show (k : Int) < (b.length : Int) by omega), if_true, Bool.false_eq_true, if_false, Option.bind_some, h1, h2, idxO_nat c2, w64_succ (show k < 9223372036854775807 by omega), hap]
        rw [whileO_step hstep, ih i (k + 1) _ (by omega) (by omega) (by omega) (by simp; omega), List.append_assoc, e1, List.drop_length, List.drop_eq_getElem_cons c2]
        rfl
      · have e2 : k = b.length := by omega
        have hx : eds (n + 1) (a.drop i) (b.drop k) = [] := by rw [e1, e2, List.drop_length, List.drop_length]; rfl
        rw [hx, List.append_nil]
        refine whileO_done ?_
        unfold compare_Edits_l2
        simp only [dF (show ¬ (i : Int) < (a.length : Int) by omega), dF (show ¬ (k : Int) < (b.length : Int) by omega), Bool.false_eq_true, if_false, Option.bind_some]
/-- what Edits answers -/
def editsS (a b : List api_Stitch) : List api_CellStep × Int × Int :=
  if allS a = 0 then (if allS b = 0 then (eds (a.length + b.length) a b, ((D1 a b : Nat) : Int), 0) else ([], 0, allS b)) else ([], 0, allS a)
theorem edits_eq {a b : List api_Stitch} (wa : ∀ p, p ∈ a → wfS p) (wb : ∀ p, p ∈ b → wfS p) : F_compare_Edits a b = some (editsS a b) := by
  have hw : whileO (compare_Edits_l1 a b) 0 = some (if allS a = 0 then (if allS b = 0 then .inr () else .inl ([], 0, allS b)) else .inl ([], 0, allS a)) := by
    have h0 : compare_Edits_l1 a b 0 = some (if allS a = 0 then .inl 1 else .inr (.inl ([], 0, allS a))) := by
      unfold compare_Edits_l1
      simp only [show decide ((0 : Int) < 2) = true from rfl, if_true, show idxO ([a, b] : List (List api_Stitch)) 0 = some a from rfl, Option.bind_some, all_eq wa]
      by_cases h : allS a = 0
      · rw [nF h, if_pos h]; rfl
      · rw [nT h, if_neg h]; rfl
    have h1 : compare_Edits_l1 a b 1 = some (if allS b = 0 then .inl 2 else .inr (.inl ([], 0, allS b))) := by
      unfold compare_Edits_l1
      simp only [show decide ((1 : Int) < 2) = true from rfl, if_true, show idxO ([a, b] : List (List api_Stitch)) 1 = some b from rfl, Option.bind_some, all_eq wb]
      by_cases h : allS b = 0
      · rw [nF h, if_pos h]; rfl
      · rw [nT h, if_neg h]; rfl
    have h2 : compare_Edits_l1 a b 2 = some (.inr (.inr ())) := by
      unfold compare_Edits_l1
      simp only [show decide ((2 : Int) < 2) = false from rfl, Bool.false_eq_true, if_false]
    by_cases ha : allS a = 0
    · rw [if_pos ha] at h0 ⊢
      rw [whileO_step h0]
      by_cases hb : allS b = 0
      · rw [if_pos hb] at h1 ⊢
        rw [whileO_step h1, whileO_done h2]
      · rw [if_neg hb] at h1 ⊢
        rw [whileO_done h1]
    · rw [if_neg ha] at h0 ⊢
      rw [whileO_done h0]
  unfold F_compare_Edits editsS
  rw [hw]
  by_cases ha : allS a = 0
  case neg => rw [if_neg ha, if_neg ha]; rfl
  by_cases hb : allS b = 0
  case neg => rw [if_pos ha, if_pos ha, if_neg hb, if_neg hb]; rfl
  rw [if_pos ha, if_pos ha, if_pos hb, if_pos hb]
  have la := (allS_ok ha).1
  have lb := (allS_ok hb).1
  have hl := edits_loop a b (by omega) (by omega) (a.length + b.length) 0 0 [] (by omega) (by omega) (by omega) (by simp; omega)
  obtain ⟨r, h1, h2⟩ := tb_at a b (Nat.zero_le _) (Nat.zero_le _)
  have h0 : ((0 : Nat) : Int) = 0 := rfl
  rw [h0] at hl h1 h2
  simp only [List.drop_zero, List.nil_append] at hl h2
  simp only [Option.bind_some, ctable_eq a b (by omega) (by omega), hl, h1, h2]
theorem redits_loop (a b : List api_Stitch) (ha : a.length ≤ 1000) (hb : b.length ≤ 1000) : ∀ (n i k : Nat) (out : List api_CellStep), i ≤ a.length → k ≤ b.length → (a.length - i) + (b.length - k) ≤ n → out.length + n ≤ 100000 →
    whileO (raddleref46_Edits_l1 a b (tbS al1 bo1 a b 0)) (out, (i : Int), (k : Int)) = some (out ++ eds n (a.drop i) (b.drop k)) := by
  intro n
  induction n with
  | zero =>
    intro i k out hi hk h _
    have e1 : i = a.length := by omega
    have e2 : k = b.length := by omega
    refine whileO_done ?_
    unfold raddleref46_Edits_l1
    simp only [dF (show ¬ (i : Int) < (a.length : Int) by omega), dF (show ¬ (k : Int) < (b.length : Int) by omega), Bool.false_eq_true, if_false, Option.bind_some, eds, List.append_nil]
  | succ n ih =>
    intro i k out hi hk h ho
    by_cases c1 : i < a.length
    · obtain ⟨r, h1, h2⟩ := tb_at a b hi hk
      obtain ⟨r', h3, h4⟩ := tb_at a b (show i + 1 ≤ a.length by omega) hk
      have bd := D1_bd (a.drop (i + 1)) (b.drop k)
      rw [List.length_drop, List.length_drop] at bd
      by_cases c2 : k < b.length
      · obtain ⟨r'', h5, h6⟩ := tb_at a b (show i + 1 ≤ a.length by omega) (show k + 1 ≤ b.length by omega)
        obtain rfl : r' = r'' := Option.some.inj (h3.symm.trans h5)
        have bd2 := D1_bd (a.drop (i + 1)) (b.drop (k + 1))
        rw [List.length_drop, List.length_drop] at bd2
        rw [List.drop_eq_getElem_cons c1, List.drop_eq_getElem_cons c2] at *
        simp only [eds]
        have hstep : raddleref46_Edits_l1 a b (tbS al1 bo1 a b 0) (out, (i : Int), (k : Int)) =
            (if a[i] = b[k] ∧ D1 (a[i] :: a.drop (i + 1)) (b[k] :: b.drop (k + 1)) = D1 (a.drop (i + 1)) (b.drop (k + 1)) then some (.inl (out ++ [⟨1, z0⟩], ((i + 1 : Nat) : Int), ((k + 1 : Nat) : Int)))
            else if ¬ a[i] = b[k] ∧ D1 (a[i] :: a.drop (i + 1)) (b[k] :: b.drop (k + 1)) = 1 + D1 (a.drop (i + 1)) (b.drop (k + 1)) then some (.inl (out ++ [⟨2, b[k]⟩], ((i + 1 : Nat) : Int), ((k + 1 : Nat) : Int)))
            else if D1 (a[i] :: a.drop (i + 1)) (b[k] :: b.drop (k + 1)) = 1 + D1 (a.drop (i + 1)) (b[k] :: b.drop (k + 1)) then some (.inl (out ++ [⟨4, z0⟩], ((i + 1 : Nat) : Int), (k : Int)))
            else some (.inl (out ++ [⟨3, b[k]⟩], (i : Int), ((k + 1 : Nat) : Int)))) := by
          have w1 : w64 (((D1 (a.drop (i + 1)) (b.drop (k + 1)) : Nat) : Int) + 1) = ((1 + D1 (a.drop (i + 1)) (b.drop (k + 1)) : Nat) : Int) := by rw [w64_of (by omega) (by omega)]; omega
          have w2 : w64 (((D1 (a.drop (i + 1)) (b[k] :: b.drop (k + 1)) : Nat) : Int) + 1) = ((1 + D1 (a.drop (i + 1)) (b[k] :: b.drop (k + 1)) : Nat) : Int) := by rw [w64_of (by omega) (by omega)]; omega
          generalize D1 (a.drop (i + 1)) (b.drop (k + 1)) = d2 at *
          generalize D1 (a.drop (i + 1)) (b[k] :: b.drop (k + 1)) = d3 at *
          generalize D1 (a[i] :: a.drop (i + 1)) (b[k] :: b.drop (k + 1)) = d1 at *
          unfold raddleref46_Edits_l1
          simp only [dT (show (i : Int) < (a.length : Int) by omega), dT (show (k : Int) < (b.length : Int) by omega), if_true, Option.bind_some, h1, h2, h3, h4, h6, idxO_nat c1, idxO_nat c2, steq, w64_succ (show i < 9223372036854775807 by omega), w64_succ (show k < 9223372036854775807 by omega), w1, w2]
          have hap : ∀ s : api_CellStep, appO out [s] = some (out ++ [s]) := fun s => appO_of (by simp; omega)
          by_cases q1 : a[i] = b[k]
          · by_cases q2 : d1 = d2
            · rw [if_pos (show a[i] = b[k] ∧ d1 = d2 from ⟨q1, q2⟩)]
              simp only [dT q1, if_true, bT (show (d1 : Int) = (d2 : Int) by omega), Option.bind_some, hap]
              rfl
            · rw [if_neg (show ¬ (a[i] = b[k] ∧ d1 = d2) from fun x => q2 x.2), if_neg (show ¬ (¬ a[i] = b[k] ∧ d1 = 1 + d2) from fun x => x.1 q1)]
              by_cases q3 : d1 = 1 + d3
              · rw [if_pos q3]
                simp only [dT q1, if_true, bF (show ¬ (d1 : Int) = (d2 : Int) by omega), Bool.false_eq_true, if_false, Bool.not_true, bT (show (d1 : Int) = ((1 + d3 : Nat) : Int) by omega), Option.bind_some, hap]
                rfl
              · rw [if_neg q3]
                simp only [dT q1, if_true, bF (show ¬ (d1 : Int) = (d2 : Int) by omega), Bool.false_eq_true, if_false, Bool.not_true, bF (show ¬ (d1 : Int) = ((1 + d3 : Nat) : Int) by omega), Option.bind_some, hap]
          · rw [if_neg (show ¬ (a[i] = b[k] ∧ d1 = d2) from fun x => q1 x.1)]
            by_cases q2 : d1 = 1 + d2
            · rw [if_pos (show ¬ a[i] = b[k] ∧ d1 = 1 + d2 from ⟨q1, q2⟩)]
              simp only [dF q1, Bool.false_eq_true, if_false, Bool.not_false, if_true, bT (show (d1 : Int) = ((1 + d2 : Nat) : Int) by omega), Option.bind_some, hap]
            · rw [if_neg (show ¬ (¬ a[i] = b[k] ∧ d1 = 1 + d2) from fun x => q2 x.2)]
              by_cases q3 : d1 = 1 + d3
              · rw [if_pos q3]
                simp only [dF q1, Bool.false_eq_true, if_false, Bool.not_false, if_true, bF (show ¬ (d1 : Int) = ((1 + d2 : Nat) : Int) by omega), bT (show (d1 : Int) = ((1 + d3 : Nat) : Int) by omega), Option.bind_some, hap]
                rfl
              · rw [if_neg q3]
                simp only [dF q1, Bool.false_eq_true, if_false, Bool.not_false, if_true, bF (show ¬ (d1 : Int) = ((1 + d2 : Nat) : Int) by omega), bF (show ¬ (d1 : Int) = ((1 + d3 : Nat) : Int) by omega), Option.bind_some, hap]
        by_cases q1 : a[i] = b[k] ∧ D1 (a[i] :: a.drop (i + 1)) (b[k] :: b.drop (k + 1)) = D1 (a.drop (i + 1)) (b.drop (k + 1))
        · rw [if_pos q1] at hstep ⊢
          rw [whileO_step hstep, ih (i + 1) (k + 1) _ (by omega) (by omega) (by omega) (by simp; omega), List.append_assoc]
          rfl
        rw [if_neg q1] at hstep ⊢
        by_cases q2 : ¬ a[i] = b[k] ∧ D1 (a[i] :: a.drop (i + 1)) (b[k] :: b.drop (k + 1)) = 1 + D1 (a.drop (i + 1)) (b.drop (k + 1))
        · rw [if_pos q2] at hstep ⊢
          rw [whileO_step hstep, ih (i + 1) (k + 1) _ (by omega) (by omega) (by omega) (by simp; omega), List.append_assoc]
          rfl
        rw [if_neg q2] at hstep ⊢
        by_cases q3 : D1 (a[i] :: a.drop (i + 1)) (b[k] :: b.drop (k + 1)) = 1 + D1 (a.drop (i + 1)) (b[k] :: b.drop (k + 1))
        · rw [if_pos q3] at hstep ⊢
          rw [whileO_step hstep, ih (i + 1) k _ (by omega) (by omega) (by omega) (by simp; omega), List.append_assoc, List.drop_eq_getElem_cons c2]
          rfl
        · rw [if_neg q3] at hstep ⊢
          rw [whileO_step hstep, ih i (k + 1) _ (by omega) (by omega) (by omega) (by simp; omega), List.append_assoc, List.drop_eq_getElem_cons c1]
          rfl
      · have e2 : k = b.length := by omega
        have hstep : raddleref46_Edits_l1 a b (tbS al1 bo1 a b 0) (out, (i : Int), (k : Int)) = some (.inl (out ++ [⟨4, z0⟩], ((i + 1 : Nat) : Int), (k : Int))) := by
          have hd : D1 (a.drop i) (b.drop k) = 1 + D1 (a.drop (i + 1)) (b.drop k) := by
            rw [e2, List.drop_length, List.drop_eq_getElem_cons c1]; exact Nat.add_comm (D1 (a.drop (i + 1)) []) 1
          have w2 : w64 (((D1 (a.drop (i + 1)) (b.drop k) : Nat) : Int) + 1) = ((1 + D1 (a.drop (i + 1)) (b.drop k) : Nat) : Int) := by rw [w64_of (by omega) (by omega)]; omega
          have hap : ∀ s : api_CellStep, appO out [s] = some (out ++ [s]) := fun s => appO_of (by simp; omega)
          unfold raddleref46_Edits_l1
          simp only [dT (show (i : Int) < (a.length : Int) by omega), dF (show ¬ (k : Int) < (b.length : Int) by omega), if_true, Bool.false_eq_true, if_false, Option.bind_some, h1, h2, h3, h4, w64_succ (show i < 9223372036854775807 by omega), w2, hd, beq_self_eq_true, hap]
          rfl
        rw [whileO_step hstep, ih (i + 1) k _ (by omega) (by omega) (by omega) (by simp; omega), List.append_assoc, e2, List.drop_length, List.drop_eq_getElem_cons c1]
        rfl
    · have e1 : i = a.length := by omega
      by_cases c2 : k < b.length
      · obtain ⟨r, h1, h2⟩ := tb_at a b hi hk
        have hstep : raddleref46_Edits_l1 a b (tbS al1 bo1 a b 0) (out, (i : Int), (k : Int)) = some (.inl (out ++ [⟨3, b[k]⟩], (i : Int), ((k + 1 : Nat) : Int))) := by
          have hap : ∀ s : api_CellStep, appO out [s] = some (out ++ [s]) := fun s => appO_of (by simp; omega)
          unfold raddleref46_Edits_l1
          simp only [dF (show ¬ (i : Int) < (a.length : Int) by omega), dT (show (k : Int) < (b.length : Int) by omega), if_true, Bool.false_eq_true, if_false, Option.bind_some, h1, h2, idxO_nat c2, w64_succ (show k < 9223372036854775807 by omega), hap]
        rw [whileO_step hstep, ih i (k + 1) _ (by omega) (by omega) (by omega) (by simp; omega), List.append_assoc, e1, List.drop_length, List.drop_eq_getElem_cons c2]
        rfl
      · have e2 : k = b.length := by omega
        have hx : eds (n + 1) (a.drop i) (b.drop k) = [] := by rw [e1, e2, List.drop_length, List.drop_length]; rfl
        rw [hx, List.append_nil]
        refine whileO_done ?_
        unfold raddleref46_Edits_l1
        simp only [dF (show ¬ (i : Int) < (a.length : Int) by omega), dF (show ¬ (k : Int) < (b.length : Int) by omega), Bool.false_eq_true, if_false, Option.bind_some]
theorem redits_eq (a b : List api_Stitch) : F_raddleref46_Edits a b = some (editsS a b) := by
  unfold F_raddleref46_Edits editsS
  rw [rall_eq, rall_eq]
  by_cases ha : allS a = 0
  case neg => rw [if_neg ha]; simp only [Option.bind_some, nT ha, if_true]
  by_cases hb : allS b = 0
  case neg => rw [if_pos ha, if_neg hb]; simp only [Option.bind_some, nF ha, nT hb, Bool.false_eq_true, if_false, if_true]
  rw [if_pos ha, if_pos hb]
  have la := (allS_ok ha).1
  have lb := (allS_ok hb).1
  have hl := redits_loop a b (by omega) (by omega) (a.length + b.length) 0 0 [] (by omega) (by omega) (by omega) (by simp; omega)
  obtain ⟨r, h1, h2⟩ := tb_at a b (Nat.zero_le _) (Nat.zero_le _)
  have h0 : ((0 : Nat) : Int) = 0 := rfl
  rw [h0] at hl h1 h2
  simp only [List.drop_zero, List.nil_append] at hl h2
  simp only [Option.bind_some, nF ha, nF hb, Bool.false_eq_true, if_false, rtable_eq a b (by omega) (by omega), hl, h1, h2]

end Go.Proofs.Ytffikfajljbmnaa
