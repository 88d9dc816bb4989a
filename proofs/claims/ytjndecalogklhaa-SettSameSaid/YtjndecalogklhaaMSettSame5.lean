/- Several texts in one: G41s0 G41 PlR G10 G36 G37 G12 G42 G14 G16 G9 -/
import Derived.WalkKit
import Derived.Maps.AppendAt
import Derived.Deep.AppendLies
import Derived.KernelRfl
import Derived.Laws.OwnMore
import Derived.Great.BuildSlice
import Derived.Orders
import Derived.Laws.StructEq
import Derived.ChangeKeysEq
import Derived.Test.YtjndecalogklhaaProg
import Derived.ProofKit
import Derived.OpenShut
import Derived.ChangeOld
import Derived.Deep.Slices
import Derived.Lib.SmallJoins
import Derived.JoinedOf
import Derived.JoinedAt
import Derived.Below
import Derived.Test.YtjndecalogklhaaRows
import Derived.Test.YtjndecalogklhaaMSettSame4
namespace Go.Proofs.Ytjndecalogklhaa
open Go.RowKit
set_option linter.unusedVariables false

def anc_raddleref23_Make_s0_0 : List (List Nat) := [[], [], [0, 1], [], [], [3, 4], [0, 1, 2, 3, 4, 5], [], [0, 1, 2, 3, 4, 5, 6, 7]]
noncomputable def F_raddleref23_Make_s0 (p0 : Int) (p1 : Int) : Option (api_Ratio × Int) :=
  if p1 == 0 then
    some ((api_Ratio.mk 0 0), 18)
  else
    Option.bind (α := Bool) (
      if p0 == (-9223372036854775808) then
        some (p1 == (-9223372036854775808))
      else
        some false) fun o8 =>
    if o8 then
      some ((api_Ratio.mk 1 1), 0)
    else
      Option.bind (α := Bool) (
        if p0 == (-9223372036854775808) then
          some true
        else
          some (p1 == (-9223372036854775808))) fun o15 =>
      if o15 then
        Option.bind (α := Bool) (
          Option.bind (remI p0 2) fun z24 =>
          if z24 == 0 then
            Option.bind (remI p1 2) fun z27 =>
            some (z27 == 0)
          else
            some false) fun o21 =>
        if o21 then
          Option.bind (quoI p0 2) fun z31 =>
          Option.bind (quoI p1 2) fun z33 =>
          Option.bind (F_raddleref23_Make_s1 z31 z33) fun r35 =>
          some (r35.1, r35.2)
        else
          some ((api_Ratio.mk 0 0), 16)
      else
        Option.bind (α := (Int × Int)) (
          if decide (p1 < 0) then
            some (w64 (0 - p0), w64 (0 - p1))
          else
            some (p0, p1)) fun (o39, o40) =>
        Option.bind (F_raddleref23_common o39 o40) fun r46 =>
        Option.bind (quoI o39 r46) fun z49 =>
        Option.bind (quoI o40 r46) fun z51 =>
        Option.bind (F_raddleref23_Check (api_Ratio.mk z49 z51)) fun r57 =>
        if r57 != 0 then
          some ((api_Ratio.mk 0 0), 16)
        else
          some ((api_Ratio.mk z49 z51), 0)
def c_raddleref23_Make_s0_val (r : (api_Ratio × Int)) (x : Value) : Value := .tuple #[x, .int .i64 r.2]
def c_raddleref23_Make_s0_D (r : (api_Ratio × Int)) (x : Value) : List Fact := [fRep r_api_Ratio x r.1]
set_option maxHeartbeats 4000000 in
set_option maxRecDepth 100000 in
theorem c_raddleref23_Make_s0 (E : Nat → Prop) (w0 : World) (p0 : Int) (p1 : Int) (r : (api_Ratio × Int)) (h : F_raddleref23_Make_s0 p0 p1 = some r) (S : St0 E [] w0 w0 [] []) :
    Calls Try.prog 41 #[.int .i64 p0, .int .i64 p1] w0 (Ret (X := Value) E [] w0 (c_raddleref23_Make_s0_val r) (fun _ => []) (c_raddleref23_Make_s0_D r)) := by
  unfold F_raddleref23_Make_s0 at h
  refine sEnter (args := [.int .i64 p0, .int .i64 p1]) 61 Try.func41 rfl rfl (by simp) S (fun a S => ?_)
  refine sSeq (fun K1 hK1 => ?_)
  refine sRegion ?_
  refine sAlloc (.agg #[.int .i64 0, .int .i64 0]) S (wN rfl) rfl (by kernel_rfl) [.int .i64 0, .int .i64 0] rfl rfl (by decide) (fun a b2 w S => ?_)
  refine sMove (.int .i64 0) S (wN rfl) (.inr rfl) (by kernel_rfl) rfl (by decide) (fun a S => ?_)
  refine leafL (leafT (hK1 _ _ ?_))
  refine sSeq (fun K3 hK3 => ?_)
  refine sSeq (fun K4 hK4 => ?_)
  refine sRegion ?_
  refine sMove (.int .i64 p1) S (wN rfl) (.inl rfl) (by kernel_rfl) rfl (by decide) (fun a S => ?_)
  refine sBin (.bool (p1 == 0)) S (wN rfl) rfl (by kernel_rfl) (by kernel_rfl) (bEq _ _ _ _ .i64 p1 0) rfl (by decide) (fun a S => ?_)
  refine leafL (leafT (hK4 _ _ ?_))
  rcases iteSome h with ⟨hc5, h⟩ | ⟨hc5, h⟩
  · refine sCondT (b := p1 == 0) S (by kernel_rfl) hc5 ?_
    refine sSeq (fun K6 hK6 => ?_)
    refine sRegion ?_
    refine sBuild [] [.int .i64 0, .int .i64 0] S (wN rfl) rfl (by kernel_rfl) (by kernel_rfl) rfl (by decide) (fun a S => ?_)
    refine sStore (p := b2) (off := 0) (T := 34) (vs := [.int .i64 0, .int .i64 0]) (v := .agg #[.int .i64 0, .int .i64 0]) 0 [.int .i64 0, .int .i64 0] S (wN rfl) rfl (by kernel_rfl) (by kernel_rfl) rfl (by kernel_rfl) (by kernel_rfl) rfl (by simp) rfl (fun a w S => ?_)
    refine sMove (.int .i64 18) S (wN rfl) (.inr rfl) (by kernel_rfl) rfl (by decide) (fun a S => ?_)
    refine leafL (leafT (hK6 _ _ ?_))
    obtain rfl := Option.some.inj h
    have S := S.learn (fRep r_api_Ratio (.agg #[.int .i64 0, .int .i64 0]) (api_Ratio.mk 0 0)) rfl
    exact wp_ret (rThen (sRet (.tuple #[.agg #[.int .i64 0, .int .i64 0], .int .i64 18]) S (rsl2 rfl (rvN (c := 4) (t := 34) (T := 34) (p := b2) 0 [.int .i64 0, .int .i64 0] S (by kernel_rfl) (by kernel_rfl) (by kernel_rfl) (by kernel_rfl)) (rvT (t := 5) (v := .int .i64 18) S (by kernel_rfl))) ⟨(.agg #[.int .i64 0, .int .i64 0]), rfl, S.mem.sel [] [0] (by decide) (by kernel_rfl) (by kernel_rfl)⟩))
  · refine sCondF (b := p1 == 0) S (by kernel_rfl) hc5 ?_
    refine wp_skip (leafT (hK3 _ _ ?_))
    refine sSeq (fun K7 hK7 => ?_)
    obtain ⟨t9, h, g10⟩ := bindSome h
    refine sCut (fun a w => ∃ o8, o8 = t9 ∧ St E [] w0 61 a w [(0, .int .i64 p0), (1, .int .i64 p1), (4, .pointer (some ⟨b2, 0, none⟩)), (16, .bool o8)] [eBox b2 34 [.int .i64 0, .int .i64 0]] []) ?_ (fun a w hI => ?_)
    · refine sRegion ?_
      refine sMove (.int .i64 p0) S (wN rfl) (.inl rfl) (by kernel_rfl) rfl (by decide) (fun a S => ?_)
      refine sBin (.bool (p0 == (-9223372036854775808))) S (wN rfl) rfl (by kernel_rfl) (by kernel_rfl) (bEq _ _ _ _ .i64 p0 (-9223372036854775808)) rfl (by decide) (fun a S => ?_)
      refine sMove (.bool (p0 == (-9223372036854775808))) S (wN rfl) (.inl rfl) (by kernel_rfl) rfl (by decide) (fun a S => ?_)
      rcases iteSome h with ⟨hc11, h⟩ | ⟨hc11, h⟩
      · refine sMove (.int .i64 p1) S (wG (c := p0 == (-9223372036854775808)) 2 true 13 rfl rfl (by kernel_rfl) hc11) (.inl rfl) (by kernel_rfl) rfl (by decide) (fun a S => ?_)
        refine sBin (.bool (p1 == (-9223372036854775808))) S (wG (c := p0 == (-9223372036854775808)) 2 true 13 rfl rfl (by kernel_rfl) hc11) rfl (by kernel_rfl) (by kernel_rfl) (bEq _ _ _ _ .i64 p1 (-9223372036854775808)) rfl (by decide) (fun a S => ?_)
        refine sPickT (b := p0 == (-9223372036854775808)) (.bool (p1 == (-9223372036854775808))) S (wN rfl) rfl (by kernel_rfl) hc11 (by kernel_rfl) rfl (by decide) (fun a S => ?_)
        exact leafL (leafT (⟨p1 == (-9223372036854775808), Option.some.inj h, S.fix [0] [] (by decide) (by kernel_rfl) (by kernel_rfl) (by kernel_rfl)⟩))
      · refine sSkip (c := p0 == (-9223372036854775808)) 2 true 13 14 S rfl rfl (by kernel_rfl) hc11 rfl (by decide) (fun a S => ?_)
        refine sSkip (c := p0 == (-9223372036854775808)) 2 true 13 15 S rfl rfl (by kernel_rfl) hc11 rfl (by decide) (fun a S => ?_)
        refine sPickF (b := p0 == (-9223372036854775808)) (.bool false) S (wN rfl) rfl (by kernel_rfl) hc11 (by kernel_rfl) rfl (by decide) (fun a S => ?_)
        exact leafL (leafT (⟨false, Option.some.inj h, S.fix [0] [] (by decide) (by kernel_rfl) (by kernel_rfl) (by kernel_rfl)⟩))
    · obtain ⟨o8, rfl, S⟩ := hI
      have h := g10
      clear g10
      try dsimp only at h
      rcases iteSome h with ⟨hc12, h⟩ | ⟨hc12, h⟩
      · refine sCondT (b := o8) S (by kernel_rfl) hc12 ?_
        refine sSeq (fun K13 hK13 => ?_)
        refine sRegion ?_
        refine sBuild [(0, .int .i64 1), (1, .int .i64 1)] [.int .i64 1, .int .i64 1] S (wN rfl) rfl (by kernel_rfl) (by kernel_rfl) rfl (by decide) (fun a S => ?_)
        refine sStore (p := b2) (off := 0) (T := 34) (vs := [.int .i64 0, .int .i64 0]) (v := .agg #[.int .i64 1, .int .i64 1]) 0 [.int .i64 1, .int .i64 1] S (wN rfl) rfl (by kernel_rfl) (by kernel_rfl) rfl (by kernel_rfl) (by kernel_rfl) rfl (by simp) rfl (fun a w S => ?_)
        refine sMove (.int .i64 0) S (wN rfl) (.inr rfl) (by kernel_rfl) rfl (by decide) (fun a S => ?_)
        refine leafL (leafT (hK13 _ _ ?_))
        obtain rfl := Option.some.inj h
        have S := S.learn (fRep r_api_Ratio (.agg #[.int .i64 1, .int .i64 1]) (api_Ratio.mk 1 1)) rfl
        exact wp_ret (rThen (sRet (.tuple #[.agg #[.int .i64 1, .int .i64 1], .int .i64 0]) S (rsl2 rfl (rvN (c := 4) (t := 34) (T := 34) (p := b2) 0 [.int .i64 1, .int .i64 1] S (by kernel_rfl) (by kernel_rfl) (by kernel_rfl) (by kernel_rfl)) (rvT (t := 5) (v := .int .i64 0) S (by kernel_rfl))) ⟨(.agg #[.int .i64 1, .int .i64 1]), rfl, S.mem.sel [] [0] (by decide) (by kernel_rfl) (by kernel_rfl)⟩))
      · refine sCondF (b := o8) S (by kernel_rfl) hc12 ?_
        refine wp_skip (leafT (hK7 _ _ ?_))
        refine sSeq (fun K14 hK14 => ?_)
        obtain ⟨t16, h, g17⟩ := bindSome h
        refine sCut (fun a w => ∃ o15, o15 = t16 ∧ St E [] w0 61 a w [(0, .int .i64 p0), (1, .int .i64 p1), (4, .pointer (some ⟨b2, 0, none⟩)), (23, .bool o15)] [eBox b2 34 [.int .i64 0, .int .i64 0]] []) ?_ (fun a w hI => ?_)
        · refine sRegion ?_
          refine sMove (.int .i64 p0) S (wN rfl) (.inl rfl) (by kernel_rfl) rfl (by decide) (fun a S => ?_)
          refine sBin (.bool (p0 == (-9223372036854775808))) S (wN rfl) rfl (by kernel_rfl) (by kernel_rfl) (bEq _ _ _ _ .i64 p0 (-9223372036854775808)) rfl (by decide) (fun a S => ?_)
          refine sMove (.bool (p0 == (-9223372036854775808))) S (wN rfl) (.inl rfl) (by kernel_rfl) rfl (by decide) (fun a S => ?_)
          rcases iteSome h with ⟨hc18, h⟩ | ⟨hc18, h⟩
          · refine sSkip (c := p0 == (-9223372036854775808)) 2 false 20 21 S rfl rfl (by kernel_rfl) hc18 rfl (by decide) (fun a S => ?_)
            refine sSkip (c := p0 == (-9223372036854775808)) 2 false 20 22 S rfl rfl (by kernel_rfl) hc18 rfl (by decide) (fun a S => ?_)
            refine sPickT (b := p0 == (-9223372036854775808)) (.bool true) S (wN rfl) rfl (by kernel_rfl) hc18 (by kernel_rfl) rfl (by decide) (fun a S => ?_)
            exact leafL (leafT (⟨true, Option.some.inj h, S.fix [0] [] (by decide) (by kernel_rfl) (by kernel_rfl) (by kernel_rfl)⟩))
          · refine sMove (.int .i64 p1) S (wG (c := p0 == (-9223372036854775808)) 2 false 20 rfl rfl (by kernel_rfl) hc18) (.inl rfl) (by kernel_rfl) rfl (by decide) (fun a S => ?_)
            refine sBin (.bool (p1 == (-9223372036854775808))) S (wG (c := p0 == (-9223372036854775808)) 2 false 20 rfl rfl (by kernel_rfl) hc18) rfl (by kernel_rfl) (by kernel_rfl) (bEq _ _ _ _ .i64 p1 (-9223372036854775808)) rfl (by decide) (fun a S => ?_)
            refine sPickF (b := p0 == (-9223372036854775808)) (.bool (p1 == (-9223372036854775808))) S (wN rfl) rfl (by kernel_rfl) hc18 (by kernel_rfl) rfl (by decide) (fun a S => ?_)
            exact leafL (leafT (⟨p1 == (-9223372036854775808), Option.some.inj h, S.fix [0] [] (by decide) (by kernel_rfl) (by kernel_rfl) (by kernel_rfl)⟩))
        · obtain ⟨o15, rfl, S⟩ := hI
          have h := g17
          clear g17
          try dsimp only at h
          rcases iteSome h with ⟨hc19, h⟩ | ⟨hc19, h⟩
          · refine sCondT (b := o15) S (by kernel_rfl) hc19 ?_
            refine sSeq (fun K20 hK20 => ?_)
            obtain ⟨t22, h, g23⟩ := bindSome h
            refine sCut (fun a w => ∃ o21, o21 = t22 ∧ St E [] w0 61 a w [(0, .int .i64 p0), (1, .int .i64 p1), (4, .pointer (some ⟨b2, 0, none⟩)), (31, .bool o21)] [eBox b2 34 [.int .i64 0, .int .i64 0]] []) ?_ (fun a w hI => ?_)
            · refine sRegion ?_
              refine sMove (.int .i64 p0) S (wN rfl) (.inl rfl) (by kernel_rfl) rfl (by decide) (fun a S => ?_)
              obtain ⟨z24, hx25, h⟩ := bindSome h
              refine sBin (.int .i64 z24) S (wN rfl) rfl (by kernel_rfl) (by kernel_rfl) (bRem _ _ _ _ (x := p0) (y := 2) hx25) rfl (by decide) (fun a S => ?_)
              refine sBin (.bool (z24 == 0)) S (wN rfl) rfl (by kernel_rfl) (by kernel_rfl) (bEq _ _ _ _ .i64 z24 0) rfl (by decide) (fun a S => ?_)
              refine sMove (.bool (z24 == 0)) S (wN rfl) (.inl rfl) (by kernel_rfl) rfl (by decide) (fun a S => ?_)
              rcases iteSome h with ⟨hc26, h⟩ | ⟨hc26, h⟩
              · refine sMove (.int .i64 p1) S (wG (c := z24 == 0) 3 true 27 rfl rfl (by kernel_rfl) hc26) (.inl rfl) (by kernel_rfl) rfl (by decide) (fun a S => ?_)
                obtain ⟨z27, hx28, h⟩ := bindSome h
                refine sBin (.int .i64 z27) S (wG (c := z24 == 0) 3 true 27 rfl rfl (by kernel_rfl) hc26) rfl (by kernel_rfl) (by kernel_rfl) (bRem _ _ _ _ (x := p1) (y := 2) hx28) rfl (by decide) (fun a S => ?_)
                refine sBin (.bool (z27 == 0)) S (wG (c := z24 == 0) 3 true 27 rfl rfl (by kernel_rfl) hc26) rfl (by kernel_rfl) (by kernel_rfl) (bEq _ _ _ _ .i64 z27 0) rfl (by decide) (fun a S => ?_)
                refine sPickT (b := z24 == 0) (.bool (z27 == 0)) S (wN rfl) rfl (by kernel_rfl) hc26 (by kernel_rfl) rfl (by decide) (fun a S => ?_)
                exact leafL (leafT (⟨z27 == 0, Option.some.inj h, S.fix [0] [] (by decide) (by kernel_rfl) (by kernel_rfl) (by kernel_rfl)⟩))
              · refine sSkip (c := z24 == 0) 3 true 27 28 S rfl rfl (by kernel_rfl) hc26 rfl (by decide) (fun a S => ?_)
                refine sSkip (c := z24 == 0) 3 true 27 29 S rfl rfl (by kernel_rfl) hc26 rfl (by decide) (fun a S => ?_)
                refine sSkip (c := z24 == 0) 3 true 27 30 S rfl rfl (by kernel_rfl) hc26 rfl (by decide) (fun a S => ?_)
                refine sPickF (b := z24 == 0) (.bool false) S (wN rfl) rfl (by kernel_rfl) hc26 (by kernel_rfl) rfl (by decide) (fun a S => ?_)
                exact leafL (leafT (⟨false, Option.some.inj h, S.fix [0] [] (by decide) (by kernel_rfl) (by kernel_rfl) (by kernel_rfl)⟩))
            · obtain ⟨o21, rfl, S⟩ := hI
              have h := g23
              clear g23
              try dsimp only at h
              rcases iteSome h with ⟨hc29, h⟩ | ⟨hc29, h⟩
              · refine sCondT (b := o21) S (by kernel_rfl) hc29 ?_
                refine sSeq (fun K30 hK30 => ?_)
                refine sRegion ?_
                refine sMove (.int .i64 p0) S (wN rfl) (.inl rfl) (by kernel_rfl) rfl (by decide) (fun a S => ?_)
                obtain ⟨z31, hx32, h⟩ := bindSome h
                refine sBin (.int .i64 z31) S (wN rfl) rfl (by kernel_rfl) (by kernel_rfl) (bQuo _ _ _ _ (x := p0) (y := 2) hx32) rfl (by decide) (fun a S => ?_)
                refine sMove (.int .i64 p1) S (wN rfl) (.inl rfl) (by kernel_rfl) rfl (by decide) (fun a S => ?_)
                obtain ⟨z33, hx34, h⟩ := bindSome h
                refine sBin (.int .i64 z33) S (wN rfl) rfl (by kernel_rfl) (by kernel_rfl) (bQuo _ _ _ _ (x := p1) (y := 2) hx34) rfl (by decide) (fun a S => ?_)
                obtain ⟨r35, hx36, h⟩ := bindSome h
                refine sCall (X := Value) (f := 41) (vs := [.int .i64 z31, .int .i64 z33]) (val := c_raddleref23_Make_s1_val r35) (B' := fun _ => []) (D' := c_raddleref23_Make_s1_D r35) [] [eBox b2 34 [.int .i64 0, .int .i64 0]] [] [0] [] S (wN rfl) rfl callee41 (by kernel_rfl) (by decide) (by kernel_rfl) (by kernel_rfl) (fun E1 w1 S1 => c_raddleref23_Make_s1 E1 w1 z31 z33 r35 hx36 S1) rfl (by decide) (fun u37 a w S => ?_)
                obtain rfl : u37 = .agg #[.int .i64 r35.1.Num, .int .i64 r35.1.Den] := S.mem.know (i := 0) (e := fRep r_api_Ratio (u37) r35.1) (by kernel_rfl)
                refine sExtract (vs := [.agg #[.int .i64 r35.1.Num, .int .i64 r35.1.Den], .int .i64 r35.2]) (.agg #[.int .i64 r35.1.Num, .int .i64 r35.1.Den]) S (wN rfl) rfl (by kernel_rfl) rfl rfl (by decide) (fun a S => ?_)
                refine sExtract (vs := [.agg #[.int .i64 r35.1.Num, .int .i64 r35.1.Den], .int .i64 r35.2]) (.int .i64 r35.2) S (wN rfl) rfl (by kernel_rfl) rfl rfl (by decide) (fun a S => ?_)
                refine sStore (p := b2) (off := 0) (T := 34) (vs := [.int .i64 0, .int .i64 0]) (v := .agg #[.int .i64 r35.1.Num, .int .i64 r35.1.Den]) 0 [.int .i64 r35.1.Num, .int .i64 r35.1.Den] S (wN rfl) rfl (by kernel_rfl) (by kernel_rfl) rfl (by kernel_rfl) (by kernel_rfl) rfl (by simp) rfl (fun a w S => ?_)
                refine sMove (.int .i64 r35.2) S (wN rfl) (.inr rfl) (by kernel_rfl) rfl (by decide) (fun a S => ?_)
                refine leafL (leafT (hK30 _ _ ?_))
                obtain rfl := Option.some.inj h
                exact wp_ret (rThen (rThen (sRet (.tuple #[.agg #[.int .i64 r35.1.Num, .int .i64 r35.1.Den], .int .i64 r35.2]) S (rsl2 rfl (rvN (c := 4) (t := 34) (T := 34) (p := b2) 0 [.int .i64 r35.1.Num, .int .i64 r35.1.Den] S (by kernel_rfl) (by kernel_rfl) (by kernel_rfl) (by kernel_rfl)) (rvT (t := 5) (v := .int .i64 r35.2) S (by kernel_rfl))) ⟨(.agg #[.int .i64 r35.1.Num, .int .i64 r35.1.Den]), rfl, S.mem.sel [] [0] (by decide) (by kernel_rfl) (by kernel_rfl)⟩)))
              · refine sCondF (b := o21) S (by kernel_rfl) hc29 ?_
                refine wp_skip (leafT (hK20 _ _ ?_))
                refine sSeq (fun K38 hK38 => ?_)
                refine sRegion ?_
                refine sBuild [] [.int .i64 0, .int .i64 0] S (wN rfl) rfl (by kernel_rfl) (by kernel_rfl) rfl (by decide) (fun a S => ?_)
                refine sStore (p := b2) (off := 0) (T := 34) (vs := [.int .i64 0, .int .i64 0]) (v := .agg #[.int .i64 0, .int .i64 0]) 0 [.int .i64 0, .int .i64 0] S (wN rfl) rfl (by kernel_rfl) (by kernel_rfl) rfl (by kernel_rfl) (by kernel_rfl) rfl (by simp) rfl (fun a w S => ?_)
                refine sMove (.int .i64 16) S (wN rfl) (.inr rfl) (by kernel_rfl) rfl (by decide) (fun a S => ?_)
                refine leafL (leafT (hK38 _ _ ?_))
                obtain rfl := Option.some.inj h
                have S := S.learn (fRep r_api_Ratio (.agg #[.int .i64 0, .int .i64 0]) (api_Ratio.mk 0 0)) rfl
                exact wp_ret (rThen (sRet (.tuple #[.agg #[.int .i64 0, .int .i64 0], .int .i64 16]) S (rsl2 rfl (rvN (c := 4) (t := 34) (T := 34) (p := b2) 0 [.int .i64 0, .int .i64 0] S (by kernel_rfl) (by kernel_rfl) (by kernel_rfl) (by kernel_rfl)) (rvT (t := 5) (v := .int .i64 16) S (by kernel_rfl))) ⟨(.agg #[.int .i64 0, .int .i64 0]), rfl, S.mem.sel [] [0] (by decide) (by kernel_rfl) (by kernel_rfl)⟩))
          · refine sCondF (b := o15) S (by kernel_rfl) hc19 ?_
            refine wp_skip (leafT (hK14 _ _ ?_))
            obtain ⟨t41, h, g42⟩ := bindSome h
            refine sCut (fun a w => ∃ o39, ∃ o40, (o39, o40) = t41 ∧ St E [] w0 61 a w [(0, .int .i64 o39), (1, .int .i64 o40), (4, .pointer (some ⟨b2, 0, none⟩))] [eBox b2 34 [.int .i64 0, .int .i64 0]] []) ?_ (fun a w hI => ?_)
            · refine sSeq (fun K43 hK43 => ?_)
              refine sRegion ?_
              refine sMove (.int .i64 p1) S (wN rfl) (.inl rfl) (by kernel_rfl) rfl (by decide) (fun a S => ?_)
              refine sBin (.bool (decide (p1 < 0))) S (wN rfl) rfl (by kernel_rfl) (by kernel_rfl) (bLt _ _ _ _ .i64 p1 0) rfl (by decide) (fun a S => ?_)
              refine leafL (leafT (hK43 _ _ ?_))
              rcases iteSome h with ⟨hc44, h⟩ | ⟨hc44, h⟩
              · refine sCondT (b := decide (p1 < 0)) S (by kernel_rfl) hc44 ?_
                refine sRegion ?_
                refine sMove (.int .i64 p0) S (wN rfl) (.inl rfl) (by kernel_rfl) rfl (by decide) (fun a S => ?_)
                refine sNeg (b := p0) S (wN rfl) rfl (by kernel_rfl) rfl (by decide) (fun a S => ?_)
                refine sMove (.int .i64 p1) S (wN rfl) (.inl rfl) (by kernel_rfl) rfl (by decide) (fun a S => ?_)
                refine sNeg (b := p1) S (wN rfl) rfl (by kernel_rfl) rfl (by decide) (fun a S => ?_)
                refine sMove (.int .i64 (w64 (0 - p0))) S (wN rfl) (.inr rfl) (by kernel_rfl) rfl (by decide) (fun a S => ?_)
                refine sMove (.int .i64 (w64 (0 - p1))) S (wN rfl) (.inr rfl) (by kernel_rfl) rfl (by decide) (fun a S => ?_)
                exact leafL (leafT (⟨w64 (0 - p0), w64 (0 - p1), Option.some.inj h, S.fix [0] [] (by decide) (by kernel_rfl) (by kernel_rfl) (by kernel_rfl)⟩))
              · refine sCondF (b := decide (p1 < 0)) S (by kernel_rfl) hc44 ?_
                exact wp_skip (leafT (⟨p0, p1, Option.some.inj h, S.fix [0] [] (by decide) (by kernel_rfl) (by kernel_rfl) (by kernel_rfl)⟩))
            · obtain ⟨o39, o40, rfl, S⟩ := hI
              have h := g42
              clear g42
              try dsimp only at h
              refine sSeq (fun K45 hK45 => ?_)
              refine sRegion ?_
              refine sMove (.int .i64 o39) S (wN rfl) (.inl rfl) (by kernel_rfl) rfl (by decide) (fun a S => ?_)
              refine sMove (.int .i64 o40) S (wN rfl) (.inl rfl) (by kernel_rfl) rfl (by decide) (fun a S => ?_)
              obtain ⟨r46, hx47, h⟩ := bindSome h
              have S1 := S.mem
              refine sCallQ (X := Unit) (f := 60) (vs := [.int .i64 o39, .int .i64 o40]) (val := fun _ => .int .i64 r46) S (wN rfl) rfl callee60 (by kernel_rfl) (S1.quiet [] (by kernel_rfl)) (fun E1 w1 S1 => c_raddleref23_common E1 w1 o39 o40 r46 hx47 S1) rfl (by decide) (fun _ a w S => ?_)
              refine sMove (.int .i64 r46) S (wN rfl) (.inr rfl) (by kernel_rfl) rfl (by decide) (fun a S => ?_)
              refine leafL (leafT (hK45 _ _ ?_))
              refine sSeq (fun K48 hK48 => ?_)
              obtain ⟨z49, hx50, h⟩ := bindSome h
              obtain ⟨z51, hx52, h⟩ := bindSome h
              refine sDraw (nf := [7, 8]) (W := [(0, 49, .int .i64 o39), (1, 50, .int .i64 r46), (2, 51, .int .i64 z49), (3, 52, .int .i64 o40), (4, 53, .int .i64 r46), (5, 54, .int .i64 z51), (6, 55, .agg #[.int .i64 z49, .int .i64 z51])]) (by kernel_rfl) S ?_
              refine node_by (A := anc_raddleref23_Make_s0_0) (nf := [7, 8]) (Y := []) (W := [(0, 49, .int .i64 o39), (1, 50, .int .i64 r46), (2, 51, .int .i64 z49), (3, 52, .int .i64 o40), (4, 53, .int .i64 r46), (5, 54, .int .i64 z51), (6, 55, .agg #[.int .i64 z49, .int .i64 z51])]) 9 (by kernel_rfl) (by kernel_rfl) (by kernel_rfl) (by kernel_rfl) (by kernel_rfl) [0, 1, 2, 3, 4, 5, 6] (by kernel_rfl) (by decide) (by decide) (aF 0 8 (by decide) ?_ (aF 1 7 (by decide) ?_ (aF 2 6 (by decide) ?_ (aF 3 5 (by decide) ?_ (aF 4 4 (by decide) ?_ (aF 5 3 (by decide) ?_ (aF 6 2 (by decide) ?_ (aN 7 1 (by decide) ?_ (aB 8 0 7 (by decide) (trivial)))))))))) [] (fun q hq => by cases hq) (fun hY => absurd (hY 7 (by decide)) (by decide))
              · refine fI 49 (.int .i64 o39) [(0, .int .i64 o39)] 0 [none] rfl rfl (by kernel_rfl) rfl (by kernel_rfl) (by kernel_rfl) fun G a w S => ?_
                refine sMove (.int .i64 o39) S (wN rfl) (.inl rfl) (by kernel_rfl) rfl (by decide) (fun a S => ?_)
                exact leafL ⟨rfl, S⟩
              · refine fI 50 (.int .i64 r46) [(6, .int .i64 r46)] 1 [none] rfl rfl (by kernel_rfl) rfl (by kernel_rfl) (by kernel_rfl) fun G a w S => ?_
                refine sMove (.int .i64 r46) S (wN rfl) (.inl rfl) (by kernel_rfl) rfl (by decide) (fun a S => ?_)
                exact leafL ⟨rfl, S⟩
              · refine fI 51 (.int .i64 z49) [(49, .int .i64 o39), (50, .int .i64 r46)] 2 [some 0, some 1] rfl rfl (by kernel_rfl) rfl (by kernel_rfl) (by kernel_rfl) fun G a w S => ?_
                refine sBin (.int .i64 z49) S (wN rfl) rfl (by kernel_rfl) (by kernel_rfl) (bQuo _ _ _ _ (x := o39) (y := r46) hx50) rfl (by decide) (fun a S => ?_)
                exact leafL ⟨rfl, S⟩
              · refine fI 52 (.int .i64 o40) [(1, .int .i64 o40)] 3 [none] rfl rfl (by kernel_rfl) rfl (by kernel_rfl) (by kernel_rfl) fun G a w S => ?_
                refine sMove (.int .i64 o40) S (wN rfl) (.inl rfl) (by kernel_rfl) rfl (by decide) (fun a S => ?_)
                exact leafL ⟨rfl, S⟩
              · refine fI 53 (.int .i64 r46) [(6, .int .i64 r46)] 4 [none] rfl rfl (by kernel_rfl) rfl (by kernel_rfl) (by kernel_rfl) fun G a w S => ?_
                refine sMove (.int .i64 r46) S (wN rfl) (.inl rfl) (by kernel_rfl) rfl (by decide) (fun a S => ?_)
                exact leafL ⟨rfl, S⟩
              · refine fI 54 (.int .i64 z51) [(52, .int .i64 o40), (53, .int .i64 r46)] 5 [some 3, some 4] rfl rfl (by kernel_rfl) rfl (by kernel_rfl) (by kernel_rfl) fun G a w S => ?_
                refine sBin (.int .i64 z51) S (wN rfl) rfl (by kernel_rfl) (by kernel_rfl) (bQuo _ _ _ _ (x := o40) (y := r46) hx52) rfl (by decide) (fun a S => ?_)
                exact leafL ⟨rfl, S⟩
              · refine fI 55 (.agg #[.int .i64 z49, .int .i64 z51]) [(51, .int .i64 z49), (54, .int .i64 z51)] 6 [some 2, some 5] rfl rfl (by kernel_rfl) rfl (by kernel_rfl) (by kernel_rfl) fun G a w S => ?_
                refine sBuild [(0, .int .i64 z49), (1, .int .i64 z51)] [.int .i64 z49, .int .i64 z51] S (wN rfl) rfl (by kernel_rfl) (by kernel_rfl) rfl (by decide) (fun a S => ?_)
                exact leafL ⟨rfl, S⟩
              · refine ⟨_, [], rfl, (srcs_of [] rfl (by kernel_rfl) (by kernel_rfl)), fun G a w S => ?_⟩
                refine sAlloc (.agg #[.int .i64 0, .int .i64 0]) S (wN rfl) rfl (by kernel_rfl) [.int .i64 0, .int .i64 0] rfl rfl (by decide) (fun a b54 w S => ?_)
                refine leafL ⟨rfl, _, _, .inl ⟨7, (.pointer (some ⟨b54, 0, none⟩)), [], rfl, S, hz_of (by kernel_rfl), ?_⟩⟩
                refine node_by (A := anc_raddleref23_Make_s0_0) (nf := [7, 8]) (Y := [7]) 9 (by kernel_rfl) (by kernel_rfl) (by kernel_rfl) (by kernel_rfl) (by kernel_rfl) [7, 0, 1, 2, 3, 4, 5, 6] (by kernel_rfl) (by decide) (by decide) (aF 0 8 (by decide) ?_ (aF 1 7 (by decide) ?_ (aF 2 6 (by decide) ?_ (aF 3 5 (by decide) ?_ (aF 4 4 (by decide) ?_ (aF 5 3 (by decide) ?_ (aF 6 2 (by decide) ?_ (aY 7 1 (by decide) (aN 8 0 (by decide) ?_ (trivial)))))))))) [] (fun q hq => by cases hq) (fun hY => absurd (hY 8 (by decide)) (by decide))
                · refine fI 49 (.int .i64 o39) [(0, .int .i64 o39)] 1 [none] rfl rfl (by kernel_rfl) rfl (by kernel_rfl) (by kernel_rfl) fun G a w S => ?_
                  refine sMove (.int .i64 o39) S (wN rfl) (.inl rfl) (by kernel_rfl) rfl (by decide) (fun a S => ?_)
                  exact leafL ⟨rfl, S⟩
                · refine fI 50 (.int .i64 r46) [(6, .int .i64 r46)] 2 [none] rfl rfl (by kernel_rfl) rfl (by kernel_rfl) (by kernel_rfl) fun G a w S => ?_
                  refine sMove (.int .i64 r46) S (wN rfl) (.inl rfl) (by kernel_rfl) rfl (by decide) (fun a S => ?_)
                  exact leafL ⟨rfl, S⟩
                · refine fI 51 (.int .i64 z49) [(49, .int .i64 o39), (50, .int .i64 r46)] 3 [some 1, some 2] rfl rfl (by kernel_rfl) rfl (by kernel_rfl) (by kernel_rfl) fun G a w S => ?_
                  refine sBin (.int .i64 z49) S (wN rfl) rfl (by kernel_rfl) (by kernel_rfl) (bQuo _ _ _ _ (x := o39) (y := r46) hx50) rfl (by decide) (fun a S => ?_)
                  exact leafL ⟨rfl, S⟩
                · refine fI 52 (.int .i64 o40) [(1, .int .i64 o40)] 4 [none] rfl rfl (by kernel_rfl) rfl (by kernel_rfl) (by kernel_rfl) fun G a w S => ?_
                  refine sMove (.int .i64 o40) S (wN rfl) (.inl rfl) (by kernel_rfl) rfl (by decide) (fun a S => ?_)
                  exact leafL ⟨rfl, S⟩
                · refine fI 53 (.int .i64 r46) [(6, .int .i64 r46)] 5 [none] rfl rfl (by kernel_rfl) rfl (by kernel_rfl) (by kernel_rfl) fun G a w S => ?_
                  refine sMove (.int .i64 r46) S (wN rfl) (.inl rfl) (by kernel_rfl) rfl (by decide) (fun a S => ?_)
                  exact leafL ⟨rfl, S⟩
                · refine fI 54 (.int .i64 z51) [(52, .int .i64 o40), (53, .int .i64 r46)] 6 [some 4, some 5] rfl rfl (by kernel_rfl) rfl (by kernel_rfl) (by kernel_rfl) fun G a w S => ?_
                  refine sBin (.int .i64 z51) S (wN rfl) rfl (by kernel_rfl) (by kernel_rfl) (bQuo _ _ _ _ (x := o40) (y := r46) hx52) rfl (by decide) (fun a S => ?_)
                  exact leafL ⟨rfl, S⟩
                · refine fI 55 (.agg #[.int .i64 z49, .int .i64 z51]) [(51, .int .i64 z49), (54, .int .i64 z51)] 7 [some 3, some 6] rfl rfl (by kernel_rfl) rfl (by kernel_rfl) (by kernel_rfl) fun G a w S => ?_
                  refine sBuild [(0, .int .i64 z49), (1, .int .i64 z51)] [.int .i64 z49, .int .i64 z51] S (wN rfl) rfl (by kernel_rfl) (by kernel_rfl) rfl (by decide) (fun a S => ?_)
                  exact leafL ⟨rfl, S⟩
                · refine ⟨_, [(7, .pointer (some ⟨b54, 0, none⟩)), (55, .agg #[.int .i64 z49, .int .i64 z51])], rfl, (srcs_of [some 0, some 7] rfl (by kernel_rfl) (by kernel_rfl)), fun G a w S => ?_⟩
                  refine sStore (p := b54) (off := 0) (T := 34) (vs := [.int .i64 0, .int .i64 0]) (v := .agg #[.int .i64 z49, .int .i64 z51]) 0 [.int .i64 z49, .int .i64 z51] S (wN rfl) rfl (by kernel_rfl) (by kernel_rfl) rfl (by kernel_rfl) (by kernel_rfl) rfl (by simp) rfl (fun a w S => ?_)
                  refine leafL ⟨rfl, _, _, .inr ⟨[], rfl, S, hz_of (by kernel_rfl), ?_⟩⟩
                  refine node_by (A := anc_raddleref23_Make_s0_0) (nf := [7, 8]) (Y := [8, 7]) 9 (by kernel_rfl) (by kernel_rfl) (by kernel_rfl) (by kernel_rfl) (by kernel_rfl) [7, 0, 1, 2, 3, 4, 5, 6] (by kernel_rfl) (by decide) (by decide) (aD 0 8 8 (by decide) (aD 1 7 8 (by decide) (aD 2 6 8 (by decide) (aD 3 5 8 (by decide) (aD 4 4 8 (by decide) (aD 5 3 8 (by decide) (aD 6 2 8 (by decide) (aY 7 1 (by decide) (aY 8 0 (by decide) (trivial)))))))))) [(4, .pointer (some ⟨b2, 0, none⟩)), (7, .pointer (some ⟨b54, 0, none⟩))] (fin_of [none, some 0] rfl (by kernel_rfl) (by kernel_rfl)) (fun _ a w S => ?_)
                  · refine leafT (hK48 _ _ ?_)
                    refine sSeq (fun K55 hK55 => ?_)
                    refine sSeq (fun K56 hK56 => ?_)
                    refine sRegion ?_
                    refine sLoadN (p := b54) (off := 0) (T := 34) (vs := [.int .i64 z49, .int .i64 z51]) 0 [.int .i64 z49, .int .i64 z51] S (wN rfl) rfl (by kernel_rfl) (by kernel_rfl) (by kernel_rfl) (by kernel_rfl) rfl rfl (by decide) (fun a S => ?_)
                    obtain ⟨r57, hx58, h⟩ := bindSome h
                    have S1 := S.mem
                    have S1 := S1.learn (fRep r_api_Ratio (.agg #[.int .i64 z49, .int .i64 z51]) (api_Ratio.mk z49 z51)) rfl
                    refine sCallQ (X := Unit) (f := 45) (vs := [.agg #[.int .i64 z49, .int .i64 z51]]) (val := fun _ => .int .i64 r57) S (wN rfl) rfl callee45 (by kernel_rfl) (S1.quiet [0] (by kernel_rfl)) (fun E1 w1 S1 => c_raddleref23_Check E1 w1 (api_Ratio.mk z49 z51) (.agg #[.int .i64 z49, .int .i64 z51]) r57 hx58 S1) rfl (by decide) (fun _ a w S => ?_)
                    refine sBin (.bool (r57 != 0)) S (wN rfl) rfl (by kernel_rfl) (by kernel_rfl) (bNe _ _ _ _ .i64 r57 0) rfl (by decide) (fun a S => ?_)
                    refine leafL (leafT (hK56 _ _ ?_))
                    rcases iteSome h with ⟨hc59, h⟩ | ⟨hc59, h⟩
                    · refine sCondT (b := r57 != 0) S (by kernel_rfl) hc59 ?_
                      refine sSeq (fun K60 hK60 => ?_)
                      refine sRegion ?_
                      refine sBuild [] [.int .i64 0, .int .i64 0] S (wN rfl) rfl (by kernel_rfl) (by kernel_rfl) rfl (by decide) (fun a S => ?_)
                      refine sStore (p := b2) (off := 0) (T := 34) (vs := [.int .i64 0, .int .i64 0]) (v := .agg #[.int .i64 0, .int .i64 0]) 1 [.int .i64 0, .int .i64 0] S (wN rfl) rfl (by kernel_rfl) (by kernel_rfl) rfl (by kernel_rfl) (by kernel_rfl) rfl (by simp) rfl (fun a w S => ?_)
                      refine sMove (.int .i64 16) S (wN rfl) (.inr rfl) (by kernel_rfl) rfl (by decide) (fun a S => ?_)
                      refine leafL (leafT (hK60 _ _ ?_))
                      obtain rfl := Option.some.inj h
                      have S := S.learn (fRep r_api_Ratio (.agg #[.int .i64 0, .int .i64 0]) (api_Ratio.mk 0 0)) rfl
                      exact wp_ret (rThen (sRet (.tuple #[.agg #[.int .i64 0, .int .i64 0], .int .i64 16]) S (rsl2 rfl (rvN (c := 4) (t := 34) (T := 34) (p := b2) 0 [.int .i64 0, .int .i64 0] S (by kernel_rfl) (by kernel_rfl) (by kernel_rfl) (by kernel_rfl)) (rvT (t := 5) (v := .int .i64 16) S (by kernel_rfl))) ⟨(.agg #[.int .i64 0, .int .i64 0]), rfl, S.mem.sel [] [0] (by decide) (by kernel_rfl) (by kernel_rfl)⟩))
                    · refine sCondF (b := r57 != 0) S (by kernel_rfl) hc59 ?_
                      refine wp_skip (leafT (hK55 _ _ ?_))
                      refine sSeq (fun K61 hK61 => ?_)
                      refine sRegion ?_
                      refine sLoadN (p := b54) (off := 0) (T := 34) (vs := [.int .i64 z49, .int .i64 z51]) 0 [.int .i64 z49, .int .i64 z51] S (wN rfl) rfl (by kernel_rfl) (by kernel_rfl) (by kernel_rfl) (by kernel_rfl) rfl rfl (by decide) (fun a S => ?_)
                      refine sStore (p := b2) (off := 0) (T := 34) (vs := [.int .i64 0, .int .i64 0]) (v := .agg #[.int .i64 z49, .int .i64 z51]) 1 [.int .i64 z49, .int .i64 z51] S (wN rfl) rfl (by kernel_rfl) (by kernel_rfl) rfl (by kernel_rfl) (by kernel_rfl) rfl (by simp) rfl (fun a w S => ?_)
                      refine sMove (.int .i64 0) S (wN rfl) (.inr rfl) (by kernel_rfl) rfl (by decide) (fun a S => ?_)
                      refine leafL (leafT (hK61 _ _ ?_))
                      obtain rfl := Option.some.inj h
                      have S := S.learn (fRep r_api_Ratio (.agg #[.int .i64 z49, .int .i64 z51]) (api_Ratio.mk z49 z51)) rfl
                      exact wp_ret (sRet (.tuple #[.agg #[.int .i64 z49, .int .i64 z51], .int .i64 0]) S (rsl2 rfl (rvN (c := 4) (t := 34) (T := 34) (p := b2) 0 [.int .i64 z49, .int .i64 z51] S (by kernel_rfl) (by kernel_rfl) (by kernel_rfl) (by kernel_rfl)) (rvT (t := 5) (v := .int .i64 0) S (by kernel_rfl))) ⟨(.agg #[.int .i64 z49, .int .i64 z51]), rfl, S.mem.sel [] [0] (by decide) (by kernel_rfl) (by kernel_rfl)⟩)

end Go.Proofs.Ytjndecalogklhaa
namespace Go.Proofs.Ytjndecalogklhaa
open Go.RowKit
set_option linter.unusedVariables false

def anc_raddleref23_Make_0 : List (List Nat) := [[], [], [0, 1], [], [], [3, 4], [0, 1, 2, 3, 4, 5], [], [0, 1, 2, 3, 4, 5, 6, 7]]
noncomputable def F_raddleref23_Make (p0 : Int) (p1 : Int) : Option (api_Ratio × Int) :=
  if p1 == 0 then
    some ((api_Ratio.mk 0 0), 18)
  else
    Option.bind (α := Bool) (
      if p0 == (-9223372036854775808) then
        some (p1 == (-9223372036854775808))
      else
        some false) fun o8 =>
    if o8 then
      some ((api_Ratio.mk 1 1), 0)
    else
      Option.bind (α := Bool) (
        if p0 == (-9223372036854775808) then
          some true
        else
          some (p1 == (-9223372036854775808))) fun o15 =>
      if o15 then
        Option.bind (α := Bool) (
          Option.bind (remI p0 2) fun z24 =>
          if z24 == 0 then
            Option.bind (remI p1 2) fun z27 =>
            some (z27 == 0)
          else
            some false) fun o21 =>
        if o21 then
          Option.bind (quoI p0 2) fun z31 =>
          Option.bind (quoI p1 2) fun z33 =>
          Option.bind (F_raddleref23_Make_s0 z31 z33) fun r35 =>
          some (r35.1, r35.2)
        else
          some ((api_Ratio.mk 0 0), 16)
      else
        Option.bind (α := (Int × Int)) (
          if decide (p1 < 0) then
            some (w64 (0 - p0), w64 (0 - p1))
          else
            some (p0, p1)) fun (o39, o40) =>
        Option.bind (F_raddleref23_common o39 o40) fun r46 =>
        Option.bind (quoI o39 r46) fun z49 =>
        Option.bind (quoI o40 r46) fun z51 =>
        Option.bind (F_raddleref23_Check (api_Ratio.mk z49 z51)) fun r57 =>
        if r57 != 0 then
          some ((api_Ratio.mk 0 0), 16)
        else
          some ((api_Ratio.mk z49 z51), 0)
def c_raddleref23_Make_val (r : (api_Ratio × Int)) (x : Value) : Value := .tuple #[x, .int .i64 r.2]
def c_raddleref23_Make_D (r : (api_Ratio × Int)) (x : Value) : List Fact := [fRep r_api_Ratio x r.1]
set_option maxHeartbeats 4000000 in
set_option maxRecDepth 100000 in
theorem c_raddleref23_Make (E : Nat → Prop) (w0 : World) (p0 : Int) (p1 : Int) (r : (api_Ratio × Int)) (h : F_raddleref23_Make p0 p1 = some r) (S : St0 E [] w0 w0 [] []) :
    Calls Try.prog 41 #[.int .i64 p0, .int .i64 p1] w0 (Ret (X := Value) E [] w0 (c_raddleref23_Make_val r) (fun _ => []) (c_raddleref23_Make_D r)) := by
  unfold F_raddleref23_Make at h
  refine sEnter (args := [.int .i64 p0, .int .i64 p1]) 61 Try.func41 rfl rfl (by simp) S (fun a S => ?_)
  refine sSeq (fun K1 hK1 => ?_)
  refine sRegion ?_
  refine sAlloc (.agg #[.int .i64 0, .int .i64 0]) S (wN rfl) rfl (by kernel_rfl) [.int .i64 0, .int .i64 0] rfl rfl (by decide) (fun a b2 w S => ?_)
  refine sMove (.int .i64 0) S (wN rfl) (.inr rfl) (by kernel_rfl) rfl (by decide) (fun a S => ?_)
  refine leafL (leafT (hK1 _ _ ?_))
  refine sSeq (fun K3 hK3 => ?_)
  refine sSeq (fun K4 hK4 => ?_)
  refine sRegion ?_
  refine sMove (.int .i64 p1) S (wN rfl) (.inl rfl) (by kernel_rfl) rfl (by decide) (fun a S => ?_)
  refine sBin (.bool (p1 == 0)) S (wN rfl) rfl (by kernel_rfl) (by kernel_rfl) (bEq _ _ _ _ .i64 p1 0) rfl (by decide) (fun a S => ?_)
  refine leafL (leafT (hK4 _ _ ?_))
  rcases iteSome h with ⟨hc5, h⟩ | ⟨hc5, h⟩
  · refine sCondT (b := p1 == 0) S (by kernel_rfl) hc5 ?_
    refine sSeq (fun K6 hK6 => ?_)
    refine sRegion ?_
    refine sBuild [] [.int .i64 0, .int .i64 0] S (wN rfl) rfl (by kernel_rfl) (by kernel_rfl) rfl (by decide) (fun a S => ?_)
    refine sStore (p := b2) (off := 0) (T := 34) (vs := [.int .i64 0, .int .i64 0]) (v := .agg #[.int .i64 0, .int .i64 0]) 0 [.int .i64 0, .int .i64 0] S (wN rfl) rfl (by kernel_rfl) (by kernel_rfl) rfl (by kernel_rfl) (by kernel_rfl) rfl (by simp) rfl (fun a w S => ?_)
    refine sMove (.int .i64 18) S (wN rfl) (.inr rfl) (by kernel_rfl) rfl (by decide) (fun a S => ?_)
    refine leafL (leafT (hK6 _ _ ?_))
    obtain rfl := Option.some.inj h
    have S := S.learn (fRep r_api_Ratio (.agg #[.int .i64 0, .int .i64 0]) (api_Ratio.mk 0 0)) rfl
    exact wp_ret (rThen (sRet (.tuple #[.agg #[.int .i64 0, .int .i64 0], .int .i64 18]) S (rsl2 rfl (rvN (c := 4) (t := 34) (T := 34) (p := b2) 0 [.int .i64 0, .int .i64 0] S (by kernel_rfl) (by kernel_rfl) (by kernel_rfl) (by kernel_rfl)) (rvT (t := 5) (v := .int .i64 18) S (by kernel_rfl))) ⟨(.agg #[.int .i64 0, .int .i64 0]), rfl, S.mem.sel [] [0] (by decide) (by kernel_rfl) (by kernel_rfl)⟩))
  · refine sCondF (b := p1 == 0) S (by kernel_rfl) hc5 ?_
    refine wp_skip (leafT (hK3 _ _ ?_))
    refine sSeq (fun K7 hK7 => ?_)
    obtain ⟨t9, h, g10⟩ := bindSome h
    refine sCut (fun a w => ∃ o8, o8 = t9 ∧ St E [] w0 61 a w [(0, .int .i64 p0), (1, .int .i64 p1), (4, .pointer (some ⟨b2, 0, none⟩)), (16, .bool o8)] [eBox b2 34 [.int .i64 0, .int .i64 0]] []) ?_ (fun a w hI => ?_)
    · refine sRegion ?_
      refine sMove (.int .i64 p0) S (wN rfl) (.inl rfl) (by kernel_rfl) rfl (by decide) (fun a S => ?_)
      refine sBin (.bool (p0 == (-9223372036854775808))) S (wN rfl) rfl (by kernel_rfl) (by kernel_rfl) (bEq _ _ _ _ .i64 p0 (-9223372036854775808)) rfl (by decide) (fun a S => ?_)
      refine sMove (.bool (p0 == (-9223372036854775808))) S (wN rfl) (.inl rfl) (by kernel_rfl) rfl (by decide) (fun a S => ?_)
      rcases iteSome h with ⟨hc11, h⟩ | ⟨hc11, h⟩
      · refine sMove (.int .i64 p1) S (wG (c := p0 == (-9223372036854775808)) 2 true 13 rfl rfl (by kernel_rfl) hc11) (.inl rfl) (by kernel_rfl) rfl (by decide) (fun a S => ?_)
        refine sBin (.bool (p1 == (-9223372036854775808))) S (wG (c := p0 == (-9223372036854775808)) 2 true 13 rfl rfl (by kernel_rfl) hc11) rfl (by kernel_rfl) (by kernel_rfl) (bEq _ _ _ _ .i64 p1 (-9223372036854775808)) rfl (by decide) (fun a S => ?_)
        refine sPickT (b := p0 == (-9223372036854775808)) (.bool (p1 == (-9223372036854775808))) S (wN rfl) rfl (by kernel_rfl) hc11 (by kernel_rfl) rfl (by decide) (fun a S => ?_)
        exact leafL (leafT (⟨p1 == (-9223372036854775808), Option.some.inj h, S.fix [0] [] (by decide) (by kernel_rfl) (by kernel_rfl) (by kernel_rfl)⟩))
      · refine sSkip (c := p0 == (-9223372036854775808)) 2 true 13 14 S rfl rfl (by kernel_rfl) hc11 rfl (by decide) (fun a S => ?_)
        refine sSkip (c := p0 == (-9223372036854775808)) 2 true 13 15 S rfl rfl (by kernel_rfl) hc11 rfl (by decide) (fun a S => ?_)
        refine sPickF (b := p0 == (-9223372036854775808)) (.bool false) S (wN rfl) rfl (by kernel_rfl) hc11 (by kernel_rfl) rfl (by decide) (fun a S => ?_)
        exact leafL (leafT (⟨false, Option.some.inj h, S.fix [0] [] (by decide) (by kernel_rfl) (by kernel_rfl) (by kernel_rfl)⟩))
    · obtain ⟨o8, rfl, S⟩ := hI
      have h := g10
      clear g10
      try dsimp only at h
      rcases iteSome h with ⟨hc12, h⟩ | ⟨hc12, h⟩
      · refine sCondT (b := o8) S (by kernel_rfl) hc12 ?_
        refine sSeq (fun K13 hK13 => ?_)
        refine sRegion ?_
        refine sBuild [(0, .int .i64 1), (1, .int .i64 1)] [.int .i64 1, .int .i64 1] S (wN rfl) rfl (by kernel_rfl) (by kernel_rfl) rfl (by decide) (fun a S => ?_)
        refine sStore (p := b2) (off := 0) (T := 34) (vs := [.int .i64 0, .int .i64 0]) (v := .agg #[.int .i64 1, .int .i64 1]) 0 [.int .i64 1, .int .i64 1] S (wN rfl) rfl (by kernel_rfl) (by kernel_rfl) rfl (by kernel_rfl) (by kernel_rfl) rfl (by simp) rfl (fun a w S => ?_)
        refine sMove (.int .i64 0) S (wN rfl) (.inr rfl) (by kernel_rfl) rfl (by decide) (fun a S => ?_)
        refine leafL (leafT (hK13 _ _ ?_))
        obtain rfl := Option.some.inj h
        have S := S.learn (fRep r_api_Ratio (.agg #[.int .i64 1, .int .i64 1]) (api_Ratio.mk 1 1)) rfl
        exact wp_ret (rThen (sRet (.tuple #[.agg #[.int .i64 1, .int .i64 1], .int .i64 0]) S (rsl2 rfl (rvN (c := 4) (t := 34) (T := 34) (p := b2) 0 [.int .i64 1, .int .i64 1] S (by kernel_rfl) (by kernel_rfl) (by kernel_rfl) (by kernel_rfl)) (rvT (t := 5) (v := .int .i64 0) S (by kernel_rfl))) ⟨(.agg #[.int .i64 1, .int .i64 1]), rfl, S.mem.sel [] [0] (by decide) (by kernel_rfl) (by kernel_rfl)⟩))
      · refine sCondF (b := o8) S (by kernel_rfl) hc12 ?_
        refine wp_skip (leafT (hK7 _ _ ?_))
        refine sSeq (fun K14 hK14 => ?_)
        obtain ⟨t16, h, g17⟩ := bindSome h
        refine sCut (fun a w => ∃ o15, o15 = t16 ∧ St E [] w0 61 a w [(0, .int .i64 p0), (1, .int .i64 p1), (4, .pointer (some ⟨b2, 0, none⟩)), (23, .bool o15)] [eBox b2 34 [.int .i64 0, .int .i64 0]] []) ?_ (fun a w hI => ?_)
        · refine sRegion ?_
          refine sMove (.int .i64 p0) S (wN rfl) (.inl rfl) (by kernel_rfl) rfl (by decide) (fun a S => ?_)
          refine sBin (.bool (p0 == (-9223372036854775808))) S (wN rfl) rfl (by kernel_rfl) (by kernel_rfl) (bEq _ _ _ _ .i64 p0 (-9223372036854775808)) rfl (by decide) (fun a S => ?_)
          refine sMove (.bool (p0 == (-9223372036854775808))) S (wN rfl) (.inl rfl) (by kernel_rfl) rfl (by decide) (fun a S => ?_)
          rcases iteSome h with ⟨hc18, h⟩ | ⟨hc18, h⟩
          · refine sSkip (c := p0 == (-9223372036854775808)) 2 false 20 21 S rfl rfl (by kernel_rfl) hc18 rfl (by decide) (fun a S => ?_)
            refine sSkip (c := p0 == (-9223372036854775808)) 2 false 20 22 S rfl rfl (by kernel_rfl) hc18 rfl (by decide) (fun a S => ?_)
            refine sPickT (b := p0 == (-9223372036854775808)) (.bool true) S (wN rfl) rfl (by kernel_rfl) hc18 (by kernel_rfl) rfl (by decide) (fun a S => ?_)
            exact leafL (leafT (⟨true, Option.some.inj h, S.fix [0] [] (by decide) (by kernel_rfl) (by kernel_rfl) (by kernel_rfl)⟩))
          · refine sMove (.int .i64 p1) S (wG (c := p0 == (-9223372036854775808)) 2 false 20 rfl rfl (by kernel_rfl) hc18) (.inl rfl) (by kernel_rfl) rfl (by decide) (fun a S => ?_)
            refine sBin (.bool (p1 == (-9223372036854775808))) S (wG (c := p0 == (-9223372036854775808)) 2 false 20 rfl rfl (by kernel_rfl) hc18) rfl (by kernel_rfl) (by kernel_rfl) (bEq _ _ _ _ .i64 p1 (-9223372036854775808)) rfl (by decide) (fun a S => ?_)
            refine sPickF (b := p0 == (-9223372036854775808)) (.bool (p1 == (-9223372036854775808))) S (wN rfl) rfl (by kernel_rfl) hc18 (by kernel_rfl) rfl (by decide) (fun a S => ?_)
            exact leafL (leafT (⟨p1 == (-9223372036854775808), Option.some.inj h, S.fix [0] [] (by decide) (by kernel_rfl) (by kernel_rfl) (by kernel_rfl)⟩))
        · obtain ⟨o15, rfl, S⟩ := hI
          have h := g17
          clear g17
          try dsimp only at h
          rcases iteSome h with ⟨hc19, h⟩ | ⟨hc19, h⟩
          · refine sCondT (b := o15) S (by kernel_rfl) hc19 ?_
            refine sSeq (fun K20 hK20 => ?_)
            obtain ⟨t22, h, g23⟩ := bindSome h
            refine sCut (fun a w => ∃ o21, o21 = t22 ∧ St E [] w0 61 a w [(0, .int .i64 p0), (1, .int .i64 p1), (4, .pointer (some ⟨b2, 0, none⟩)), (31, .bool o21)] [eBox b2 34 [.int .i64 0, .int .i64 0]] []) ?_ (fun a w hI => ?_)
            · refine sRegion ?_
              refine sMove (.int .i64 p0) S (wN rfl) (.inl rfl) (by kernel_rfl) rfl (by decide) (fun a S => ?_)
              obtain ⟨z24, hx25, h⟩ := bindSome h
              refine sBin (.int .i64 z24) S (wN rfl) rfl (by kernel_rfl) (by kernel_rfl) (bRem _ _ _ _ (x := p0) (y := 2) hx25) rfl (by decide) (fun a S => ?_)
              refine sBin (.bool (z24 == 0)) S (wN rfl) rfl (by kernel_rfl) (by kernel_rfl) (bEq _ _ _ _ .i64 z24 0) rfl (by decide) (fun a S => ?_)
              refine sMove (.bool (z24 == 0)) S (wN rfl) (.inl rfl) (by kernel_rfl) rfl (by decide) (fun a S => ?_)
              rcases iteSome h with ⟨hc26, h⟩ | ⟨hc26, h⟩
              · refine sMove (.int .i64 p1) S (wG (c := z24 == 0) 3 true 27 rfl rfl (by kernel_rfl) hc26) (.inl rfl) (by kernel_rfl) rfl (by decide) (fun a S => ?_)
                obtain ⟨z27, hx28, h⟩ := bindSome h
                refine sBin (.int .i64 z27) S (wG (c := z24 == 0) 3 true 27 rfl rfl (by kernel_rfl) hc26) rfl (by kernel_rfl) (by kernel_rfl) (bRem _ _ _ _ (x := p1) (y := 2) hx28) rfl (by decide) (fun a S => ?_)
                refine sBin (.bool (z27 == 0)) S (wG (c := z24 == 0) 3 true 27 rfl rfl (by kernel_rfl) hc26) rfl (by kernel_rfl) (by kernel_rfl) (bEq _ _ _ _ .i64 z27 0) rfl (by decide) (fun a S => ?_)
                refine sPickT (b := z24 == 0) (.bool (z27 == 0)) S (wN rfl) rfl (by kernel_rfl) hc26 (by kernel_rfl) rfl (by decide) (fun a S => ?_)
                exact leafL (leafT (⟨z27 == 0, Option.some.inj h, S.fix [0] [] (by decide) (by kernel_rfl) (by kernel_rfl) (by kernel_rfl)⟩))
              · refine sSkip (c := z24 == 0) 3 true 27 28 S rfl rfl (by kernel_rfl) hc26 rfl (by decide) (fun a S => ?_)
                refine sSkip (c := z24 == 0) 3 true 27 29 S rfl rfl (by kernel_rfl) hc26 rfl (by decide) (fun a S => ?_)
                refine sSkip (c := z24 == 0) 3 true 27 30 S rfl rfl (by kernel_rfl) hc26 rfl (by decide) (fun a S => ?_)
                refine sPickF (b := z24 == 0) (.bool false) S (wN rfl) rfl (by kernel_rfl) hc26 (by kernel_rfl) rfl (by decide) (fun a S => ?_)
                exact leafL (leafT (⟨false, Option.some.inj h, S.fix [0] [] (by decide) (by kernel_rfl) (by kernel_rfl) (by kernel_rfl)⟩))
            · obtain ⟨o21, rfl, S⟩ := hI
              have h := g23
              clear g23
              try dsimp only at h
              rcases iteSome h with ⟨hc29, h⟩ | ⟨hc29, h⟩
              · refine sCondT (b := o21) S (by kernel_rfl) hc29 ?_
                refine sSeq (fun K30 hK30 => ?_)
                refine sRegion ?_
                refine sMove (.int .i64 p0) S (wN rfl) (.inl rfl) (by kernel_rfl) rfl (by decide) (fun a S => ?_)
                obtain ⟨z31, hx32, h⟩ := bindSome h
                refine sBin (.int .i64 z31) S (wN rfl) rfl (by kernel_rfl) (by kernel_rfl) (bQuo _ _ _ _ (x := p0) (y := 2) hx32) rfl (by decide) (fun a S => ?_)
                refine sMove (.int .i64 p1) S (wN rfl) (.inl rfl) (by kernel_rfl) rfl (by decide) (fun a S => ?_)
                obtain ⟨z33, hx34, h⟩ := bindSome h
                refine sBin (.int .i64 z33) S (wN rfl) rfl (by kernel_rfl) (by kernel_rfl) (bQuo _ _ _ _ (x := p1) (y := 2) hx34) rfl (by decide) (fun a S => ?_)
                obtain ⟨r35, hx36, h⟩ := bindSome h
                refine sCall (X := Value) (f := 41) (vs := [.int .i64 z31, .int .i64 z33]) (val := c_raddleref23_Make_s0_val r35) (B' := fun _ => []) (D' := c_raddleref23_Make_s0_D r35) [] [eBox b2 34 [.int .i64 0, .int .i64 0]] [] [0] [] S (wN rfl) rfl callee41 (by kernel_rfl) (by decide) (by kernel_rfl) (by kernel_rfl) (fun E1 w1 S1 => c_raddleref23_Make_s0 E1 w1 z31 z33 r35 hx36 S1) rfl (by decide) (fun u37 a w S => ?_)
                obtain rfl : u37 = .agg #[.int .i64 r35.1.Num, .int .i64 r35.1.Den] := S.mem.know (i := 0) (e := fRep r_api_Ratio (u37) r35.1) (by kernel_rfl)
                refine sExtract (vs := [.agg #[.int .i64 r35.1.Num, .int .i64 r35.1.Den], .int .i64 r35.2]) (.agg #[.int .i64 r35.1.Num, .int .i64 r35.1.Den]) S (wN rfl) rfl (by kernel_rfl) rfl rfl (by decide) (fun a S => ?_)
                refine sExtract (vs := [.agg #[.int .i64 r35.1.Num, .int .i64 r35.1.Den], .int .i64 r35.2]) (.int .i64 r35.2) S (wN rfl) rfl (by kernel_rfl) rfl rfl (by decide) (fun a S => ?_)
                refine sStore (p := b2) (off := 0) (T := 34) (vs := [.int .i64 0, .int .i64 0]) (v := .agg #[.int .i64 r35.1.Num, .int .i64 r35.1.Den]) 0 [.int .i64 r35.1.Num, .int .i64 r35.1.Den] S (wN rfl) rfl (by kernel_rfl) (by kernel_rfl) rfl (by kernel_rfl) (by kernel_rfl) rfl (by simp) rfl (fun a w S => ?_)
                refine sMove (.int .i64 r35.2) S (wN rfl) (.inr rfl) (by kernel_rfl) rfl (by decide) (fun a S => ?_)
                refine leafL (leafT (hK30 _ _ ?_))
                obtain rfl := Option.some.inj h
                exact wp_ret (rThen (rThen (sRet (.tuple #[.agg #[.int .i64 r35.1.Num, .int .i64 r35.1.Den], .int .i64 r35.2]) S (rsl2 rfl (rvN (c := 4) (t := 34) (T := 34) (p := b2) 0 [.int .i64 r35.1.Num, .int .i64 r35.1.Den] S (by kernel_rfl) (by kernel_rfl) (by kernel_rfl) (by kernel_rfl)) (rvT (t := 5) (v := .int .i64 r35.2) S (by kernel_rfl))) ⟨(.agg #[.int .i64 r35.1.Num, .int .i64 r35.1.Den]), rfl, S.mem.sel [] [0] (by decide) (by kernel_rfl) (by kernel_rfl)⟩)))
              · refine sCondF (b := o21) S (by kernel_rfl) hc29 ?_
                refine wp_skip (leafT (hK20 _ _ ?_))
                refine sSeq (fun K38 hK38 => ?_)
                refine sRegion ?_
                refine sBuild [] [.int .i64 0, .int .i64 0] S (wN rfl) rfl (by kernel_rfl) (by kernel_rfl) rfl (by decide) (fun a S => ?_)
                refine sStore (p := b2) (off := 0) (T := 34) (vs := [.int .i64 0, .int .i64 0]) (v := .agg #[.int .i64 0, .int .i64 0]) 0 [.int .i64 0, .int .i64 0] S (wN rfl) rfl (by kernel_rfl) (by kernel_rfl) rfl (by kernel_rfl) (by kernel_rfl) rfl (by simp) rfl (fun a w S => ?_)
                refine sMove (.int .i64 16) S (wN rfl) (.inr rfl) (by kernel_rfl) rfl (by decide) (fun a S => ?_)
                refine leafL (leafT (hK38 _ _ ?_))
                obtain rfl := Option.some.inj h
                have S := S.learn (fRep r_api_Ratio (.agg #[.int .i64 0, .int .i64 0]) (api_Ratio.mk 0 0)) rfl
                exact wp_ret (rThen (sRet (.tuple #[.agg #[.int .i64 0, .int .i64 0], .int .i64 16]) S (rsl2 rfl (rvN (c := 4) (t := 34) (T := 34) (p := b2) 0 [.int .i64 0, .int .i64 0] S (by kernel_rfl) (by kernel_rfl) (by kernel_rfl) (by kernel_rfl)) (rvT (t := 5) (v := .int .i64 16) S (by kernel_rfl))) ⟨(.agg #[.int .i64 0, .int .i64 0]), rfl, S.mem.sel [] [0] (by decide) (by kernel_rfl) (by kernel_rfl)⟩))
          · refine sCondF (b := o15) S (by kernel_rfl) hc19 ?_
            refine wp_skip (leafT (hK14 _ _ ?_))
            obtain ⟨t41, h, g42⟩ := bindSome h
            refine sCut (fun a w => ∃ o39, ∃ o40, (o39, o40) = t41 ∧ St E [] w0 61 a w [(0, .int .i64 o39), (1, .int .i64 o40), (4, .pointer (some ⟨b2, 0, none⟩))] [eBox b2 34 [.int .i64 0, .int .i64 0]] []) ?_ (fun a w hI => ?_)
            · refine sSeq (fun K43 hK43 => ?_)
              refine sRegion ?_
              refine sMove (.int .i64 p1) S (wN rfl) (.inl rfl) (by kernel_rfl) rfl (by decide) (fun a S => ?_)
              refine sBin (.bool (decide (p1 < 0))) S (wN rfl) rfl (by kernel_rfl) (by kernel_rfl) (bLt _ _ _ _ .i64 p1 0) rfl (by decide) (fun a S => ?_)
              refine leafL (leafT (hK43 _ _ ?_))
              rcases iteSome h with ⟨hc44, h⟩ | ⟨hc44, h⟩
              · refine sCondT (b := decide (p1 < 0)) S (by kernel_rfl) hc44 ?_
                refine sRegion ?_
                refine sMove (.int .i64 p0) S (wN rfl) (.inl rfl) (by kernel_rfl) rfl (by decide) (fun a S => ?_)
                refine sNeg (b := p0) S (wN rfl) rfl (by kernel_rfl) rfl (by decide) (fun a S => ?_)
                refine sMove (.int .i64 p1) S (wN rfl) (.inl rfl) (by kernel_rfl) rfl (by decide) (fun a S => ?_)
                refine sNeg (b := p1) S (wN rfl) rfl (by kernel_rfl) rfl (by decide) (fun a S => ?_)
                refine sMove (.int .i64 (w64 (0 - p0))) S (wN rfl) (.inr rfl) (by kernel_rfl) rfl (by decide) (fun a S => ?_)
                refine sMove (.int .i64 (w64 (0 - p1))) S (wN rfl) (.inr rfl) (by kernel_rfl) rfl (by decide) (fun a S => ?_)
                exact leafL (leafT (⟨w64 (0 - p0), w64 (0 - p1), Option.some.inj h, S.fix [0] [] (by decide) (by kernel_rfl) (by kernel_rfl) (by kernel_rfl)⟩))
              · refine sCondF (b := decide (p1 < 0)) S (by kernel_rfl) hc44 ?_
                exact wp_skip (leafT (⟨p0, p1, Option.some.inj h, S.fix [0] [] (by decide) (by kernel_rfl) (by kernel_rfl) (by kernel_rfl)⟩))
            · obtain ⟨o39, o40, rfl, S⟩ := hI
              have h := g42
              clear g42
              try dsimp only at h
              refine sSeq (fun K45 hK45 => ?_)
              refine sRegion ?_
              refine sMove (.int .i64 o39) S (wN rfl) (.inl rfl) (by kernel_rfl) rfl (by decide) (fun a S => ?_)
              refine sMove (.int .i64 o40) S (wN rfl) (.inl rfl) (by kernel_rfl) rfl (by decide) (fun a S => ?_)
              obtain ⟨r46, hx47, h⟩ := bindSome h
              have S1 := S.mem
              refine sCallQ (X := Unit) (f := 60) (vs := [.int .i64 o39, .int .i64 o40]) (val := fun _ => .int .i64 r46) S (wN rfl) rfl callee60 (by kernel_rfl) (S1.quiet [] (by kernel_rfl)) (fun E1 w1 S1 => c_raddleref23_common E1 w1 o39 o40 r46 hx47 S1) rfl (by decide) (fun _ a w S => ?_)
              refine sMove (.int .i64 r46) S (wN rfl) (.inr rfl) (by kernel_rfl) rfl (by decide) (fun a S => ?_)
              refine leafL (leafT (hK45 _ _ ?_))
              refine sSeq (fun K48 hK48 => ?_)
              obtain ⟨z49, hx50, h⟩ := bindSome h
              obtain ⟨z51, hx52, h⟩ := bindSome h
              refine sDraw (nf := [7, 8]) (W := [(0, 49, .int .i64 o39), (1, 50, .int .i64 r46), (2, 51, .int .i64 z49), (3, 52, .int .i64 o40), (4, 53, .int .i64 r46), (5, 54, .int .i64 z51), (6, 55, .agg #[.int .i64 z49, .int .i64 z51])]) (by kernel_rfl) S ?_
              refine node_by (A := anc_raddleref23_Make_0) (nf := [7, 8]) (Y := []) (W := [(0, 49, .int .i64 o39), (1, 50, .int .i64 r46), (2, 51, .int .i64 z49), (3, 52, .int .i64 o40), (4, 53, .int .i64 r46), (5, 54, .int .i64 z51), (6, 55, .agg #[.int .i64 z49, .int .i64 z51])]) 9 (by kernel_rfl) (by kernel_rfl) (by kernel_rfl) (by kernel_rfl) (by kernel_rfl) [0, 1, 2, 3, 4, 5, 6] (by kernel_rfl) (by decide) (by decide) (aF 0 8 (by decide) ?_ (aF 1 7 (by decide) ?_ (aF 2 6 (by decide) ?_ (aF 3 5 (by decide) ?_ (aF 4 4 (by decide) ?_ (aF 5 3 (by decide) ?_ (aF 6 2 (by decide) ?_ (aN 7 1 (by decide) ?_ (aB 8 0 7 (by decide) (trivial)))))))))) [] (fun q hq => by cases hq) (fun hY => absurd (hY 7 (by decide)) (by decide))
              · refine fI 49 (.int .i64 o39) [(0, .int .i64 o39)] 0 [none] rfl rfl (by kernel_rfl) rfl (by kernel_rfl) (by kernel_rfl) fun G a w S => ?_
                refine sMove (.int .i64 o39) S (wN rfl) (.inl rfl) (by kernel_rfl) rfl (by decide) (fun a S => ?_)
                exact leafL ⟨rfl, S⟩
              · refine fI 50 (.int .i64 r46) [(6, .int .i64 r46)] 1 [none] rfl rfl (by kernel_rfl) rfl (by kernel_rfl) (by kernel_rfl) fun G a w S => ?_
                refine sMove (.int .i64 r46) S (wN rfl) (.inl rfl) (by kernel_rfl) rfl (by decide) (fun a S => ?_)
                exact leafL ⟨rfl, S⟩
              · refine fI 51 (.int .i64 z49) [(49, .int .i64 o39), (50, .int .i64 r46)] 2 [some 0, some 1] rfl rfl (by kernel_rfl) rfl (by kernel_rfl) (by kernel_rfl) fun G a w S => ?_
                refine sBin (.int .i64 z49) S (wN rfl) rfl (by kernel_rfl) (by kernel_rfl) (bQuo _ _ _ _ (x := o39) (y := r46) hx50) rfl (by decide) (fun a S => ?_)
                exact leafL ⟨rfl, S⟩
              · refine fI 52 (.int .i64 o40) [(1, .int .i64 o40)] 3 [none] rfl rfl (by kernel_rfl) rfl (by kernel_rfl) (by kernel_rfl) fun G a w S => ?_
                refine sMove (.int .i64 o40) S (wN rfl) (.inl rfl) (by kernel_rfl) rfl (by decide) (fun a S => ?_)
                exact leafL ⟨rfl, S⟩
              · refine fI 53 (.int .i64 r46) [(6, .int .i64 r46)] 4 [none] rfl rfl (by kernel_rfl) rfl (by kernel_rfl) (by kernel_rfl) fun G a w S => ?_
                refine sMove (.int .i64 r46) S (wN rfl) (.inl rfl) (by kernel_rfl) rfl (by decide) (fun a S => ?_)
                exact leafL ⟨rfl, S⟩
              · refine fI 54 (.int .i64 z51) [(52, .int .i64 o40), (53, .int .i64 r46)] 5 [some 3, some 4] rfl rfl (by kernel_rfl) rfl (by kernel_rfl) (by kernel_rfl) fun G a w S => ?_
                refine sBin (.int .i64 z51) S (wN rfl) rfl (by kernel_rfl) (by kernel_rfl) (bQuo _ _ _ _ (x := o40) (y := r46) hx52) rfl (by decide) (fun a S => ?_)
                exact leafL ⟨rfl, S⟩
              · refine fI 55 (.agg #[.int .i64 z49, .int .i64 z51]) [(51, .int .i64 z49), (54, .int .i64 z51)] 6 [some 2, some 5] rfl rfl (by kernel_rfl) rfl (by kernel_rfl) (by kernel_rfl) fun G a w S => ?_
                refine sBuild [(0, .int .i64 z49), (1, .int .i64 z51)] [.int .i64 z49, .int .i64 z51] S (wN rfl) rfl (by kernel_rfl) (by kernel_rfl) rfl (by decide) (fun a S => ?_)
                exact leafL ⟨rfl, S⟩
              · refine ⟨_, [], rfl, (srcs_of [] rfl (by kernel_rfl) (by kernel_rfl)), fun G a w S => ?_⟩
                refine sAlloc (.agg #[.int .i64 0, .int .i64 0]) S (wN rfl) rfl (by kernel_rfl) [.int .i64 0, .int .i64 0] rfl rfl (by decide) (fun a b54 w S => ?_)
                refine leafL ⟨rfl, _, _, .inl ⟨7, (.pointer (some ⟨b54, 0, none⟩)), [], rfl, S, hz_of (by kernel_rfl), ?_⟩⟩
                refine node_by (A := anc_raddleref23_Make_0) (nf := [7, 8]) (Y := [7]) 9 (by kernel_rfl) (by kernel_rfl) (by kernel_rfl) (by kernel_rfl) (by kernel_rfl) [7, 0, 1, 2, 3, 4, 5, 6] (by kernel_rfl) (by decide) (by decide) (aF 0 8 (by decide) ?_ (aF 1 7 (by decide) ?_ (aF 2 6 (by decide) ?_ (aF 3 5 (by decide) ?_ (aF 4 4 (by decide) ?_ (aF 5 3 (by decide) ?_ (aF 6 2 (by decide) ?_ (aY 7 1 (by decide) (aN 8 0 (by decide) ?_ (trivial)))))))))) [] (fun q hq => by cases hq) (fun hY => absurd (hY 8 (by decide)) (by decide))
                · refine fI 49 (.int .i64 o39) [(0, .int .i64 o39)] 1 [none] rfl rfl (by kernel_rfl) rfl (by kernel_rfl) (by kernel_rfl) fun G a w S => ?_
                  refine sMove (.int .i64 o39) S (wN rfl) (.inl rfl) (by kernel_rfl) rfl (by decide) (fun a S => ?_)
                  exact leafL ⟨rfl, S⟩
                · refine fI 50 (.int .i64 r46) [(6, .int .i64 r46)] 2 [none] rfl rfl (by kernel_rfl) rfl (by kernel_rfl) (by kernel_rfl) fun G a w S => ?_
                  refine sMove (.int .i64 r46) S (wN rfl) (.inl rfl) (by kernel_rfl) rfl (by decide) (fun a S => ?_)
                  exact leafL ⟨rfl, S⟩
                · refine fI 51 (.int .i64 z49) [(49, .int .i64 o39), (50, .int .i64 r46)] 3 [some 1, some 2] rfl rfl (by kernel_rfl) rfl (by kernel_rfl) (by kernel_rfl) fun G a w S => ?_
                  refine sBin (.int .i64 z49) S (wN rfl) rfl (by kernel_rfl) (by kernel_rfl) (bQuo _ _ _ _ (x := o39) (y := r46) hx50) rfl (by decide) (fun a S => ?_)
                  exact leafL ⟨rfl, S⟩
                · refine fI 52 (.int .i64 o40) [(1, .int .i64 o40)] 4 [none] rfl rfl (by kernel_rfl) rfl (by kernel_rfl) (by kernel_rfl) fun G a w S => ?_
                  refine sMove (.int .i64 o40) S (wN rfl) (.inl rfl) (by kernel_rfl) rfl (by decide) (fun a S => ?_)
                  exact leafL ⟨rfl, S⟩
                · refine fI 53 (.int .i64 r46) [(6, .int .i64 r46)] 5 [none] rfl rfl (by kernel_rfl) rfl (by kernel_rfl) (by kernel_rfl) fun G a w S => ?_
                  refine sMove (.int .i64 r46) S (wN rfl) (.inl rfl) (by kernel_rfl) rfl (by decide) (fun a S => ?_)
                  exact leafL ⟨rfl, S⟩
                · refine fI 54 (.int .i64 z51) [(52, .int .i64 o40), (53, .int .i64 r46)] 6 [some 4, some 5] rfl rfl (by kernel_rfl) rfl (by kernel_rfl) (by kernel_rfl) fun G a w S => ?_
                  refine sBin (.int .i64 z51) S (wN rfl) rfl (by kernel_rfl) (by kernel_rfl) (bQuo _ _ _ _ (x := o40) (y := r46) hx52) rfl (by decide) (fun a S => ?_)
                  exact leafL ⟨rfl, S⟩
                · refine fI 55 (.agg #[.int .i64 z49, .int .i64 z51]) [(51, .int .i64 z49), (54, .int .i64 z51)] 7 [some 3, some 6] rfl rfl (by kernel_rfl) rfl (by kernel_rfl) (by kernel_rfl) fun G a w S => ?_
                  refine sBuild [(0, .int .i64 z49), (1, .int .i64 z51)] [.int .i64 z49, .int .i64 z51] S (wN rfl) rfl (by kernel_rfl) (by kernel_rfl) rfl (by decide) (fun a S => ?_)
                  exact leafL ⟨rfl, S⟩
                · refine ⟨_, [(7, .pointer (some ⟨b54, 0, none⟩)), (55, .agg #[.int .i64 z49, .int .i64 z51])], rfl, (srcs_of [some 0, some 7] rfl (by kernel_rfl) (by kernel_rfl)), fun G a w S => ?_⟩
                  refine sStore (p := b54) (off := 0) (T := 34) (vs := [.int .i64 0, .int .i64 0]) (v := .agg #[.int .i64 z49, .int .i64 z51]) 0 [.int .i64 z49, .int .i64 z51] S (wN rfl) rfl (by kernel_rfl) (by kernel_rfl) rfl (by kernel_rfl) (by kernel_rfl) rfl (by simp) rfl (fun a w S => ?_)
                  refine leafL ⟨rfl, _, _, .inr ⟨[], rfl, S, hz_of (by kernel_rfl), ?_⟩⟩
                  refine node_by (A := anc_raddleref23_Make_0) (nf := [7, 8]) (Y := [8, 7]) 9 (by kernel_rfl) (by kernel_rfl) (by kernel_rfl) (by kernel_rfl) (by kernel_rfl) [7, 0, 1, 2, 3, 4, 5, 6] (by kernel_rfl) (by decide) (by decide) (aD 0 8 8 (by decide) (aD 1 7 8 (by decide) (aD 2 6 8 (by decide) (aD 3 5 8 (by decide) (aD 4 4 8 (by decide) (aD 5 3 8 (by decide) (aD 6 2 8 (by decide) (aY 7 1 (by decide) (aY 8 0 (by decide) (trivial)))))))))) [(4, .pointer (some ⟨b2, 0, none⟩)), (7, .pointer (some ⟨b54, 0, none⟩))] (fin_of [none, some 0] rfl (by kernel_rfl) (by kernel_rfl)) (fun _ a w S => ?_)
                  · refine leafT (hK48 _ _ ?_)
                    refine sSeq (fun K55 hK55 => ?_)
                    refine sSeq (fun K56 hK56 => ?_)
                    refine sRegion ?_
                    refine sLoadN (p := b54) (off := 0) (T := 34) (vs := [.int .i64 z49, .int .i64 z51]) 0 [.int .i64 z49, .int .i64 z51] S (wN rfl) rfl (by kernel_rfl) (by kernel_rfl) (by kernel_rfl) (by kernel_rfl) rfl rfl (by decide) (fun a S => ?_)
                    obtain ⟨r57, hx58, h⟩ := bindSome h
                    have S1 := S.mem
                    have S1 := S1.learn (fRep r_api_Ratio (.agg #[.int .i64 z49, .int .i64 z51]) (api_Ratio.mk z49 z51)) rfl
                    refine sCallQ (X := Unit) (f := 45) (vs := [.agg #[.int .i64 z49, .int .i64 z51]]) (val := fun _ => .int .i64 r57) S (wN rfl) rfl callee45 (by kernel_rfl) (S1.quiet [0] (by kernel_rfl)) (fun E1 w1 S1 => c_raddleref23_Check E1 w1 (api_Ratio.mk z49 z51) (.agg #[.int .i64 z49, .int .i64 z51]) r57 hx58 S1) rfl (by decide) (fun _ a w S => ?_)
                    refine sBin (.bool (r57 != 0)) S (wN rfl) rfl (by kernel_rfl) (by kernel_rfl) (bNe _ _ _ _ .i64 r57 0) rfl (by decide) (fun a S => ?_)
                    refine leafL (leafT (hK56 _ _ ?_))
                    rcases iteSome h with ⟨hc59, h⟩ | ⟨hc59, h⟩
                    · refine sCondT (b := r57 != 0) S (by kernel_rfl) hc59 ?_
                      refine sSeq (fun K60 hK60 => ?_)
                      refine sRegion ?_
                      refine sBuild [] [.int .i64 0, .int .i64 0] S (wN rfl) rfl (by kernel_rfl) (by kernel_rfl) rfl (by decide) (fun a S => ?_)
                      refine sStore (p := b2) (off := 0) (T := 34) (vs := [.int .i64 0, .int .i64 0]) (v := .agg #[.int .i64 0, .int .i64 0]) 1 [.int .i64 0, .int .i64 0] S (wN rfl) rfl (by kernel_rfl) (by kernel_rfl) rfl (by kernel_rfl) (by kernel_rfl) rfl (by simp) rfl (fun a w S => ?_)
                      refine sMove (.int .i64 16) S (wN rfl) (.inr rfl) (by kernel_rfl) rfl (by decide) (fun a S => ?_)
                      refine leafL (leafT (hK60 _ _ ?_))
                      obtain rfl := Option.some.inj h
                      have S := S.learn (fRep r_api_Ratio (.agg #[.int .i64 0, .int .i64 0]) (api_Ratio.mk 0 0)) rfl
                      exact wp_ret (rThen (sRet (.tuple #[.agg #[.int .i64 0, .int .i64 0], .int .i64 16]) S (rsl2 rfl (rvN (c := 4) (t := 34) (T := 34) (p := b2) 0 [.int .i64 0, .int .i64 0] S (by kernel_rfl) (by kernel_rfl) (by kernel_rfl) (by kernel_rfl)) (rvT (t := 5) (v := .int .i64 16) S (by kernel_rfl))) ⟨(.agg #[.int .i64 0, .int .i64 0]), rfl, S.mem.sel [] [0] (by decide) (by kernel_rfl) (by kernel_rfl)⟩))
                    · refine sCondF (b := r57 != 0) S (by kernel_rfl) hc59 ?_
                      refine wp_skip (leafT (hK55 _ _ ?_))
                      refine sSeq (fun K61 hK61 => ?_)
                      refine sRegion ?_
                      refine sLoadN (p := b54) (off := 0) (T := 34) (vs := [.int .i64 z49, .int .i64 z51]) 0 [.int .i64 z49, .int .i64 z51] S (wN rfl) rfl (by kernel_rfl) (by kernel_rfl) (by kernel_rfl) (by kernel_rfl) rfl rfl (by decide) (fun a S => ?_)
                      refine sStore (p := b2) (off := 0) (T := 34) (vs := [.int .i64 0, .int .i64 0]) (v := .agg #[.int .i64 z49, .int .i64 z51]) 1 [.int .i64 z49, .int .i64 z51] S (wN rfl) rfl (by kernel_rfl) (by kernel_rfl) rfl (by kernel_rfl) (by kernel_rfl) rfl (by simp) rfl (fun a w S => ?_)
                      refine sMove (.int .i64 0) S (wN rfl) (.inr rfl) (by kernel_rfl) rfl (by decide) (fun a S => ?_)
                      refine leafL (leafT (hK61 _ _ ?_))
                      obtain rfl := Option.some.inj h
                      have S := S.learn (fRep r_api_Ratio (.agg #[.int .i64 z49, .int .i64 z51]) (api_Ratio.mk z49 z51)) rfl
                      exact wp_ret (sRet (.tuple #[.agg #[.int .i64 z49, .int .i64 z51], .int .i64 0]) S (rsl2 rfl (rvN (c := 4) (t := 34) (T := 34) (p := b2) 0 [.int .i64 z49, .int .i64 z51] S (by kernel_rfl) (by kernel_rfl) (by kernel_rfl) (by kernel_rfl)) (rvT (t := 5) (v := .int .i64 0) S (by kernel_rfl))) ⟨(.agg #[.int .i64 z49, .int .i64 z51]), rfl, S.mem.sel [] [0] (by decide) (by kernel_rfl) (by kernel_rfl)⟩)

end Go.Proofs.Ytjndecalogklhaa
namespace Go.Proofs.Ytjndecalogklhaa
open Go.RowKit
set_option linter.unusedVariables false

theorem gcd_loop {B : Int × Int → Option ((Int × Int) ⊕ Int)} (hB : ∀ a b : Int, B (a, b) = if (b != 0) = true then Option.bind (remI a b) fun z => some (.inl (b, z)) else some (.inr a)) (a b : Nat) : whileO B ((a : Int), (b : Int)) = some ((Nat.gcd a b : Nat) : Int) := by
  have key : ∃ t, whileO B ((a : Int), (b : Int)) = some t ∧ t = ((Nat.gcd a b : Nat) : Int) := by
    refine whileO_inv (fun s => ∃ x y : Nat, s = ((x : Int), (y : Int)) ∧ Nat.gcd x y = Nat.gcd a b) (fun s => s.2.toNat) _ ⟨a, b, rfl, rfl⟩ ?_
    rintro s ⟨x, y, rfl, hg⟩
    rw [hB]
    by_cases hy : y = 0
    · subst hy
      refine .inr ⟨(x : Int), by simp, ?_⟩
      rw [← hg, Nat.gcd_zero_right]
    · have h1 : ((y : Int) != 0) = true := nT (by omega)
      have h2 : remI (x : Int) (y : Int) = some ((x % y : Nat) : Int) := by
        unfold remI
        rw [if_neg (by omega)]
        rfl
      refine .inl ⟨((y : Int), ((x % y : Nat) : Int)), by rw [if_pos h1, h2]; rfl, ⟨y, x % y, rfl, ?_⟩, ?_⟩
      · rw [← hg, Nat.gcd_comm x y, Nat.gcd_rec y x, Nat.gcd_comm]
      · have := Nat.mod_lt x (Nat.pos_of_ne_zero hy)
        show ((x % y : Nat) : Int).toNat < ((y : Nat) : Int).toNat
        omega
  obtain ⟨t, h1, rfl⟩ := key
  exact h1
theorem ygcd_eq (a b : Nat) : F_yarn_gcd (a : Int) (b : Int) = some ((Nat.gcd a b : Nat) : Int) := by
  unfold F_yarn_gcd
  rw [gcd_loop (fun a b => rfl)]
  rfl
theorem common_eq (a b : Nat) : F_raddleref23_common (a : Int) (b : Int) = some ((Nat.gcd a b : Nat) : Int) := by
  unfold F_raddleref23_common
  rw [gcd_loop (fun a b => rfl)]
  simp only [Option.bind_some]
  have : decide (((Nat.gcd a b : Nat) : Int) < 0) = false := dF (by omega)
  simp only [this, Bool.false_eq_true, if_false]
theorem u64_of {x : Int} (h0 : 0 ≤ x) (h1 : x ≤ 18446744073709551615) : IntKind.u64.wrap x = x := by
  unfold IntKind.wrap
  simp [IntKind.bits, IntKind.signed]
  omega
theorem i64_of {x : Int} (h0 : -9223372036854775808 ≤ x) (h1 : x ≤ 9223372036854775807) : IntKind.i64.wrap x = x := w64_of h0 h1
theorem size_eq (a : Nat) (h : a ≤ 9223372036854775807) : F_yarn_size (a : Int) = some (a : Int) := by
  unfold F_yarn_size
  have : decide ((a : Int) < 0) = false := dF (by omega)
  simp only [this, Bool.false_eq_true, if_false, u64_of (show (0 : Int) ≤ a by omega) (by omega)]
/-- the ratio of two numbers that are not negative -/
def mk (a b : Nat) : api_Ratio × Int := if a / Nat.gcd a b ≤ 1000000000 ∧ b / Nat.gcd a b ≤ 1000000000 then (⟨((a / Nat.gcd a b : Nat) : Int), ((b / Nat.gcd a b : Nat) : Int)⟩, 0) else (⟨0, 0⟩, 16)
theorem quo_nat {a g : Nat} (hg : 0 < g) (ha : a ≤ 9223372036854775807) : quoI (a : Int) (g : Int) = some ((a / g : Nat) : Int) := by
  unfold quoI
  rw [if_neg (by omega)]
  have h1 : a / g ≤ a := Nat.div_le_self _ _
  have : ((a : Int).tdiv (g : Int)) = ((a / g : Nat) : Int) := rfl
  have hq : w64 ((a / g : Nat) : Int) = ((a / g : Nat) : Int) := by
    generalize a / g = q at *
    exact w64_of (by omega) (by omega)
  rw [this, hq]
theorem quoK_nat {a g : Nat} (hg : 0 < g) (ha : a ≤ 9223372036854775807) : quoK .u64 (a : Int) (g : Int) = some ((a / g : Nat) : Int) := by
  unfold quoK
  rw [if_neg (by omega)]
  have h1 : a / g ≤ a := Nat.div_le_self _ _
  have : ((a : Int).tdiv (g : Int)) = ((a / g : Nat) : Int) := rfl
  have hq : IntKind.u64.wrap ((a / g : Nat) : Int) = ((a / g : Nat) : Int) := by
    generalize a / g = q at *
    exact u64_of (by omega) (by omega)
  rw [this, hq]
theorem ymake_eq (a b : Nat) (ha : a ≤ 9223372036854775807) (hb : b ≤ 9223372036854775807) (hb0 : 0 < b) : F_yarn_Make (a : Int) (b : Int) = some (mk a b) := by
  have hg : 0 < Nat.gcd a b := Nat.gcd_pos_of_pos_right a hb0
  unfold F_yarn_Make mk
  simp only [bF (show ¬ (b : Int) = 0 by omega), Bool.false_eq_true, if_false, size_eq a ha, size_eq b hb, ygcd_eq, Option.bind_some, quoK_nat hg ha, quoK_nat hg hb, dF (show ¬ (a : Int) < 0 by omega), dF (show ¬ (b : Int) < 0 by omega), bne_self_eq_false]
  have h1 : a / Nat.gcd a b ≤ a := Nat.div_le_self _ _
  have h2 : b / Nat.gcd a b ≤ b := Nat.div_le_self _ _
  generalize a / Nat.gcd a b = x at *
  generalize b / Nat.gcd a b = y at *
  by_cases e1 : x ≤ 1000000000
  · by_cases e2 : y ≤ 1000000000
    · simp only [dF (show ¬ (1000000000 : Int) < x by omega), dF (show ¬ (1000000000 : Int) < y by omega), Bool.false_eq_true, if_false, Option.bind_some, i64_of (show (-9223372036854775808 : Int) ≤ x by omega) (by omega), i64_of (show (-9223372036854775808 : Int) ≤ y by omega) (by omega), e1, e2, and_self, if_true]
    · simp only [dF (show ¬ (1000000000 : Int) < x by omega), dT (show (1000000000 : Int) < y by omega), Bool.false_eq_true, if_false, if_true, Option.bind_some, e1, e2, and_false]
  · simp only [dT (show (1000000000 : Int) < x by omega), if_true, Option.bind_some, e1, false_and, if_false]
theorem rcheck_eq (x y : Nat) : F_raddleref23_Check ⟨(x : Int), (y : Int)⟩ = some (if 1 ≤ y ∧ y ≤ 1000000000 ∧ x ≤ 1000000000 ∧ Nat.gcd x y = 1 then 0 else 8) := by
  unfold F_raddleref23_Check
  simp only [common_eq, Option.bind_some]
  by_cases e1 : 1 ≤ y
  case neg => simp only [dT (show (y : Int) < 1 by omega), if_true, Option.bind_some, e1, false_and, if_false]
  by_cases e2 : y ≤ 1000000000
  case neg => simp only [dF (show ¬ (y : Int) < 1 by omega), dT (show (1000000000 : Int) < y by omega), Bool.false_eq_true, if_true, if_false, Option.bind_some, e2, false_and, and_false]
  by_cases e3 : x ≤ 1000000000
  case neg => simp only [dF (show ¬ (y : Int) < 1 by omega), dF (show ¬ (1000000000 : Int) < y by omega), dF (show ¬ (x : Int) < -1000000000 by omega), dT (show (1000000000 : Int) < x by omega), Bool.false_eq_true, if_true, if_false, Option.bind_some, e3, false_and, and_false]
  by_cases e4 : Nat.gcd x y = 1
  · simp only [dF (show ¬ (y : Int) < 1 by omega), dF (show ¬ (1000000000 : Int) < y by omega), dF (show ¬ (x : Int) < -1000000000 by omega), dF (show ¬ (1000000000 : Int) < x by omega), e4, show (((1 : Nat) : Int) != 1) = false from rfl, Bool.false_eq_true, if_true, if_false, Option.bind_some, e1, e2, e3, and_self]
  · simp only [dF (show ¬ (y : Int) < 1 by omega), dF (show ¬ (1000000000 : Int) < y by omega), dF (show ¬ (x : Int) < -1000000000 by omega), dF (show ¬ (1000000000 : Int) < x by omega), nT (show ¬ ((Nat.gcd x y : Nat) : Int) = 1 by omega), Bool.false_eq_true, if_true, if_false, Option.bind_some, e4, and_false]
theorem rmake_eq (a b : Nat) (ha : a ≤ 9223372036854775807) (hb : b ≤ 9223372036854775807) (hb0 : 0 < b) : F_raddleref23_Make (a : Int) (b : Int) = some (mk a b) := by
  have hg : 0 < Nat.gcd a b := Nat.gcd_pos_of_pos_right a hb0
  have h3 : Nat.gcd (a / Nat.gcd a b) (b / Nat.gcd a b) = 1 := Nat.gcd_div_gcd_div_gcd_of_pos_right hb0
  have h4 : 1 ≤ b / Nat.gcd a b := (Nat.le_div_iff_mul_le hg).2 (by rw [Nat.one_mul]; exact Nat.gcd_le_right a hb0)
  unfold F_raddleref23_Make mk
  simp only [bF (show ¬ (b : Int) = 0 by omega), bF (show ¬ (a : Int) = -9223372036854775808 by omega), bF (show ¬ (b : Int) = -9223372036854775808 by omega), dF (show ¬ (b : Int) < 0 by omega), Bool.false_eq_true, if_false, Option.bind_some, common_eq, quo_nat hg ha, quo_nat hg hb, rcheck_eq, h3, h4, and_true, true_and]
  generalize a / Nat.gcd a b = x at *
  generalize b / Nat.gcd a b = y at *
  by_cases e1 : x ≤ 1000000000
  · by_cases e2 : y ≤ 1000000000
    · simp only [e1, e2, and_self, if_true, bne_self_eq_false, Bool.false_eq_true, if_false]
    · simp only [e1, e2, and_true, false_and, and_false, if_false, nT (show ¬ (8 : Int) = 0 by omega), if_true]
  · simp only [e1, false_and, and_false, if_false, nT (show ¬ (8 : Int) = 0 by omega), if_true]

end Go.Proofs.Ytjndecalogklhaa
namespace Go.Proofs.Ytjndecalogklhaa
open Go.RowKit
set_option linter.unusedVariables false

def anc_raddleref01_Twin_0 : List (List Nat) := [[], [0], [], [2], [], [], [5], [4, 5, 6], [0, 1, 2, 3, 4, 5, 6, 7], [0, 1, 2, 3, 4, 5, 6, 7, 8]]
noncomputable def F_raddleref01_Twin (p0 : api_Grid) : Option api_Grid :=
  Option.bind (appO ([] : List Bool) p0.Bits) fun l11 =>
  some (api_Grid.mk p0.W p0.H l11)
def c_raddleref01_Twin_val (r : api_Grid) (x : Value) : Value := x
def c_raddleref01_Twin_D (r : api_Grid) (x : Value) : List Fact := [fRep r_api_Grid x r]
set_option maxHeartbeats 4000000 in
set_option maxRecDepth 100000 in
theorem c_raddleref01_Twin (E : Nat → Prop) (w0 : World) (p0 : api_Grid) (v0 : Value) (r : api_Grid) (h : F_raddleref01_Twin p0 = some r) (S : St0 E [] w0 w0 [] [fRep r_api_Grid (v0) p0]) :
    Calls Try.prog 10 #[v0] w0 (Ret (X := Value) E [] w0 (c_raddleref01_Twin_val r) (fun _ => []) (c_raddleref01_Twin_D r)) := by
  unfold F_raddleref01_Twin at h
  obtain ⟨u1, rfl, hu2⟩ := S.know (i := 0) (e := fRep r_api_Grid (v0) p0) (by kernel_rfl)
  have S := S.learn (fRep (rL rB) u1 p0.Bits) hu2
  obtain ⟨ad3, cp4, _, rfl, _⟩ := hu2
  refine sEnter (args := [.agg #[.int .i64 p0.W, .int .i64 p0.H, .slice ad3 p0.Bits.length cp4]]) 12 Try.func10 rfl rfl (by simp) S (fun a S => ?_)
  refine sSeq (fun K5 hK5 => ?_)
  refine sRegion ?_
  refine sBox (v := .agg #[.int .i64 p0.W, .int .i64 p0.H, .slice ad3 p0.Bits.length cp4]) S (wN rfl) rfl (by kernel_rfl) [.int .i64 p0.W, .int .i64 p0.H, .slice ad3 p0.Bits.length cp4] rfl rfl (by decide) (fun a b6 w S => ?_)
  refine sAlloc (.agg #[.int .i64 0, .int .i64 0, .slice none 0 0]) S (wN rfl) rfl (by kernel_rfl) [.int .i64 0, .int .i64 0, .slice none 0 0] rfl rfl (by decide) (fun a b7 w S => ?_)
  refine leafL (leafT (hK5 _ _ ?_))
  refine sSeq (fun K8 hK8 => ?_)
  obtain ⟨l11, hx12, h⟩ := bindSome h
  refine sDraw (nf := [4, 7, 9]) (W := [(0, 3, .pointer (some ⟨b6, 0, none⟩)), (1, 4, .int .i64 p0.W), (2, 5, .pointer (some ⟨b6, 1, none⟩)), (3, 6, .int .i64 p0.H), (5, 8, .pointer (some ⟨b6, 2, none⟩)), (6, 9, .slice ad3 p0.Bits.length cp4)]) (by kernel_rfl) S ?_
  refine node_by (A := anc_raddleref01_Twin_0) (nf := [4, 7, 9]) (Y := []) (W := [(0, 3, .pointer (some ⟨b6, 0, none⟩)), (1, 4, .int .i64 p0.W), (2, 5, .pointer (some ⟨b6, 1, none⟩)), (3, 6, .int .i64 p0.H), (5, 8, .pointer (some ⟨b6, 2, none⟩)), (6, 9, .slice ad3 p0.Bits.length cp4)]) 10 (by kernel_rfl) (by kernel_rfl) (by kernel_rfl) (by kernel_rfl) (by kernel_rfl) [0, 1, 2, 3, 5, 6] (by kernel_rfl) (by decide) (by decide) (aF 0 9 (by decide) ?_ (aF 1 8 (by decide) ?_ (aF 2 7 (by decide) ?_ (aF 3 6 (by decide) ?_ (aN 4 5 (by decide) ?_ (aF 5 4 (by decide) ?_ (aF 6 3 (by decide) ?_ (aB 7 2 4 (by decide) (aE 8 1 4 (by decide) (aB 9 0 4 (by decide) (trivial))))))))))) [] (fun q hq => by cases hq) (fun hY => absurd (hY 4 (by decide)) (by decide))
  · refine fI 3 (.pointer (some ⟨b6, 0, none⟩)) [(1, .pointer (some ⟨b6, 0, none⟩))] 0 [none] rfl rfl (by kernel_rfl) rfl (by kernel_rfl) (by kernel_rfl) fun G a w S => ?_
    refine sField (b := b6) (off := 0) 0 0 S (wN rfl) rfl (by kernel_rfl) (by kernel_rfl) rfl rfl (by decide) (fun a S => ?_)
    exact leafL ⟨rfl, S⟩
  · refine fI 4 (.int .i64 p0.W) [(3, .pointer (some ⟨b6, 0, none⟩))] 1 [some 0] rfl rfl (by kernel_rfl) rfl (by kernel_rfl) (by kernel_rfl) fun G a w S => ?_
    refine sLoad1 (p := b6) (off := 0) (T := 24) (vs := [.int .i64 p0.W, .int .i64 p0.H, .slice ad3 p0.Bits.length cp4]) 1 (.int .i64 p0.W) S (wN rfl) rfl (by kernel_rfl) (by kernel_rfl) (by kernel_rfl) rfl rfl (by decide) (fun a S => ?_)
    exact leafL ⟨rfl, S⟩
  · refine fI 5 (.pointer (some ⟨b6, 1, none⟩)) [(1, .pointer (some ⟨b6, 0, none⟩))] 2 [none] rfl rfl (by kernel_rfl) rfl (by kernel_rfl) (by kernel_rfl) fun G a w S => ?_
    refine sField (b := b6) (off := 0) 1 1 S (wN rfl) rfl (by kernel_rfl) (by kernel_rfl) rfl rfl (by decide) (fun a S => ?_)
    exact leafL ⟨rfl, S⟩
  · refine fI 6 (.int .i64 p0.H) [(5, .pointer (some ⟨b6, 1, none⟩))] 3 [some 2] rfl rfl (by kernel_rfl) rfl (by kernel_rfl) (by kernel_rfl) fun G a w S => ?_
    refine sLoad1 (p := b6) (off := 1) (T := 24) (vs := [.int .i64 p0.W, .int .i64 p0.H, .slice ad3 p0.Bits.length cp4]) 1 (.int .i64 p0.H) S (wN rfl) rfl (by kernel_rfl) (by kernel_rfl) (by kernel_rfl) rfl rfl (by decide) (fun a S => ?_)
    exact leafL ⟨rfl, S⟩
  · refine ⟨_, [], rfl, (srcs_of [] rfl (by kernel_rfl) (by kernel_rfl)), fun G a w S => ?_⟩
    refine sLit0 (α := Bool) rB (T := 4) S (wN rfl) rfl Try.underlying22 (by kernel_rfl) rfl (by decide) (fun a w ad15 cp16 S => ?_)
    refine leafL ⟨rfl, _, _, .inl ⟨7, (.slice ad15 ([] : List Bool).length cp16), [], rfl, S, hz_of (by kernel_rfl), ?_⟩⟩
    refine node_by (A := anc_raddleref01_Twin_0) (nf := [4, 7, 9]) (Y := [4]) 10 (by kernel_rfl) (by kernel_rfl) (by kernel_rfl) (by kernel_rfl) (by kernel_rfl) [4, 0, 1, 2, 3, 5, 6] (by kernel_rfl) (by decide) (by decide) (aF 0 9 (by decide) ?_ (aF 1 8 (by decide) ?_ (aF 2 7 (by decide) ?_ (aF 3 6 (by decide) ?_ (aY 4 5 (by decide) (aF 5 4 (by decide) ?_ (aF 6 3 (by decide) ?_ (aN 7 2 (by decide) ?_ (aE 8 1 7 (by decide) (aB 9 0 7 (by decide) (trivial))))))))))) [] (fun q hq => by cases hq) (fun hY => absurd (hY 7 (by decide)) (by decide))
    · refine fI 3 (.pointer (some ⟨b6, 0, none⟩)) [(1, .pointer (some ⟨b6, 0, none⟩))] 1 [none] rfl rfl (by kernel_rfl) rfl (by kernel_rfl) (by kernel_rfl) fun G a w S => ?_
      refine sField (b := b6) (off := 0) 0 0 S (wN rfl) rfl (by kernel_rfl) (by kernel_rfl) rfl rfl (by decide) (fun a S => ?_)
      exact leafL ⟨rfl, S⟩
    · refine fI 4 (.int .i64 p0.W) [(3, .pointer (some ⟨b6, 0, none⟩))] 2 [some 1] rfl rfl (by kernel_rfl) rfl (by kernel_rfl) (by kernel_rfl) fun G a w S => ?_
      refine sLoad1 (p := b6) (off := 0) (T := 24) (vs := [.int .i64 p0.W, .int .i64 p0.H, .slice ad3 p0.Bits.length cp4]) 2 (.int .i64 p0.W) S (wN rfl) rfl (by kernel_rfl) (by kernel_rfl) (by kernel_rfl) rfl rfl (by decide) (fun a S => ?_)
      exact leafL ⟨rfl, S⟩
    · refine fI 5 (.pointer (some ⟨b6, 1, none⟩)) [(1, .pointer (some ⟨b6, 0, none⟩))] 3 [none] rfl rfl (by kernel_rfl) rfl (by kernel_rfl) (by kernel_rfl) fun G a w S => ?_
      refine sField (b := b6) (off := 0) 1 1 S (wN rfl) rfl (by kernel_rfl) (by kernel_rfl) rfl rfl (by decide) (fun a S => ?_)
      exact leafL ⟨rfl, S⟩
    · refine fI 6 (.int .i64 p0.H) [(5, .pointer (some ⟨b6, 1, none⟩))] 4 [some 3] rfl rfl (by kernel_rfl) rfl (by kernel_rfl) (by kernel_rfl) fun G a w S => ?_
      refine sLoad1 (p := b6) (off := 1) (T := 24) (vs := [.int .i64 p0.W, .int .i64 p0.H, .slice ad3 p0.Bits.length cp4]) 2 (.int .i64 p0.H) S (wN rfl) rfl (by kernel_rfl) (by kernel_rfl) (by kernel_rfl) rfl rfl (by decide) (fun a S => ?_)
      exact leafL ⟨rfl, S⟩
    · refine fI 8 (.pointer (some ⟨b6, 2, none⟩)) [(1, .pointer (some ⟨b6, 0, none⟩))] 5 [none] rfl rfl (by kernel_rfl) rfl (by kernel_rfl) (by kernel_rfl) fun G a w S => ?_
      refine sField (b := b6) (off := 0) 2 2 S (wN rfl) rfl (by kernel_rfl) (by kernel_rfl) rfl rfl (by decide) (fun a S => ?_)
      exact leafL ⟨rfl, S⟩
    · refine fI 9 (.slice ad3 p0.Bits.length cp4) [(8, .pointer (some ⟨b6, 2, none⟩))] 6 [some 5] rfl rfl (by kernel_rfl) rfl (by kernel_rfl) (by kernel_rfl) fun G a w S => ?_
      refine sLoad1 (p := b6) (off := 2) (T := 24) (vs := [.int .i64 p0.W, .int .i64 p0.H, .slice ad3 p0.Bits.length cp4]) 2 (.slice ad3 p0.Bits.length cp4) S (wN rfl) rfl (by kernel_rfl) (by kernel_rfl) (by kernel_rfl) rfl rfl (by decide) (fun a S => ?_)
      exact leafL ⟨rfl, S⟩
    · refine ⟨_, [(7, .slice ad15 ([] : List Bool).length cp16), (9, .slice ad3 p0.Bits.length cp4)], rfl, (srcs_of [some 0, some 6] rfl (by kernel_rfl) (by kernel_rfl)), fun G a w S => ?_⟩
      refine sApp (r := rB) (T := 4) (xs := ([] : List Bool)) (ys := p0.Bits) (v := .slice ad15 ([] : List Bool).length cp16) (u := .slice ad3 p0.Bits.length cp4) 0 (.bool false) 1 S (wN rfl) rfl Try.underlying22 (by kernel_rfl) rfl (by decide) (by kernel_rfl) (by kernel_rfl) (by kernel_rfl) (src_D 0 S.mem (by kernel_rfl)) hx12 rfl (by decide) (fun a w ad17 cp18 S => ?_)
      refine leafL ⟨rfl, _, _, .inl ⟨10, (.slice ad17 l11.length cp18), [(8, 11, .agg #[.int .i64 p0.W, .int .i64 p0.H, .slice ad17 l11.length cp18])], rfl, S, hz_of (by kernel_rfl), ?_⟩⟩
      refine node_by (A := anc_raddleref01_Twin_0) (nf := [4, 7, 9]) (Y := [7, 4]) 10 (by kernel_rfl) (by kernel_rfl) (by kernel_rfl) (by kernel_rfl) (by kernel_rfl) [8, 7, 4, 0, 1, 2, 3, 5, 6] (by kernel_rfl) (by decide) (by decide) (aF 0 9 (by decide) ?_ (aF 1 8 (by decide) ?_ (aF 2 7 (by decide) ?_ (aF 3 6 (by decide) ?_ (aY 4 5 (by decide) (aD 5 4 7 (by decide) (aD 6 3 7 (by decide) (aY 7 2 (by decide) (aF 8 1 (by decide) ?_ (aN 9 0 (by decide) ?_ (trivial))))))))))) [] (fun q hq => by cases hq) (fun hY => absurd (hY 9 (by decide)) (by decide))
      · refine fI 3 (.pointer (some ⟨b6, 0, none⟩)) [(1, .pointer (some ⟨b6, 0, none⟩))] 3 [none] rfl rfl (by kernel_rfl) rfl (by kernel_rfl) (by kernel_rfl) fun G a w S => ?_
        refine sField (b := b6) (off := 0) 0 0 S (wN rfl) rfl (by kernel_rfl) (by kernel_rfl) rfl rfl (by decide) (fun a S => ?_)
        exact leafL ⟨rfl, S⟩
      · refine fI 4 (.int .i64 p0.W) [(3, .pointer (some ⟨b6, 0, none⟩))] 4 [some 3] rfl rfl (by kernel_rfl) rfl (by kernel_rfl) (by kernel_rfl) fun G a w S => ?_
        refine sLoad1 (p := b6) (off := 0) (T := 24) (vs := [.int .i64 p0.W, .int .i64 p0.H, .slice ad3 p0.Bits.length cp4]) 2 (.int .i64 p0.W) S (wN rfl) rfl (by kernel_rfl) (by kernel_rfl) (by kernel_rfl) rfl rfl (by decide) (fun a S => ?_)
        exact leafL ⟨rfl, S⟩
      · refine fI 5 (.pointer (some ⟨b6, 1, none⟩)) [(1, .pointer (some ⟨b6, 0, none⟩))] 5 [none] rfl rfl (by kernel_rfl) rfl (by kernel_rfl) (by kernel_rfl) fun G a w S => ?_
        refine sField (b := b6) (off := 0) 1 1 S (wN rfl) rfl (by kernel_rfl) (by kernel_rfl) rfl rfl (by decide) (fun a S => ?_)
        exact leafL ⟨rfl, S⟩
      · refine fI 6 (.int .i64 p0.H) [(5, .pointer (some ⟨b6, 1, none⟩))] 6 [some 5] rfl rfl (by kernel_rfl) rfl (by kernel_rfl) (by kernel_rfl) fun G a w S => ?_
        refine sLoad1 (p := b6) (off := 1) (T := 24) (vs := [.int .i64 p0.W, .int .i64 p0.H, .slice ad3 p0.Bits.length cp4]) 2 (.int .i64 p0.H) S (wN rfl) rfl (by kernel_rfl) (by kernel_rfl) (by kernel_rfl) rfl rfl (by decide) (fun a S => ?_)
        exact leafL ⟨rfl, S⟩
      · refine fI 11 (.agg #[.int .i64 p0.W, .int .i64 p0.H, .slice ad17 l11.length cp18]) [(4, .int .i64 p0.W), (6, .int .i64 p0.H), (10, .slice ad17 l11.length cp18)] 0 [some 4, some 6, some 1] rfl rfl (by kernel_rfl) rfl (by kernel_rfl) (by kernel_rfl) fun G a w S => ?_
        refine sBuild [(0, .int .i64 p0.W), (1, .int .i64 p0.H), (2, .slice ad17 l11.length cp18)] [.int .i64 p0.W, .int .i64 p0.H, .slice ad17 l11.length cp18] S (wN rfl) rfl (by kernel_rfl) (by kernel_rfl) rfl (by decide) (fun a S => ?_)
        exact leafL ⟨rfl, S⟩
      · refine ⟨_, [(2, .pointer (some ⟨b7, 0, none⟩)), (11, .agg #[.int .i64 p0.W, .int .i64 p0.H, .slice ad17 l11.length cp18])], rfl, (srcs_of [none, some 0] rfl (by kernel_rfl) (by kernel_rfl)), fun G a w S => ?_⟩
        refine sStore (p := b7) (off := 0) (T := 24) (vs := [.int .i64 0, .int .i64 0, .slice none 0 0]) (v := .agg #[.int .i64 p0.W, .int .i64 p0.H, .slice ad17 l11.length cp18]) 1 [.int .i64 p0.W, .int .i64 p0.H, .slice ad17 l11.length cp18] S (wN rfl) rfl (by kernel_rfl) (by kernel_rfl) rfl (by kernel_rfl) (by kernel_rfl) rfl (by simp) rfl (fun a w S => ?_)
        refine leafL ⟨rfl, _, _, .inr ⟨[], rfl, S, hz_of (by kernel_rfl), ?_⟩⟩
        refine node_by (A := anc_raddleref01_Twin_0) (nf := [4, 7, 9]) (Y := [9, 7, 4]) 10 (by kernel_rfl) (by kernel_rfl) (by kernel_rfl) (by kernel_rfl) (by kernel_rfl) [8, 7, 4, 0, 1, 2, 3, 5, 6] (by kernel_rfl) (by decide) (by decide) (aD 0 9 9 (by decide) (aD 1 8 9 (by decide) (aD 2 7 9 (by decide) (aD 3 6 9 (by decide) (aY 4 5 (by decide) (aD 5 4 9 (by decide) (aD 6 3 9 (by decide) (aY 7 2 (by decide) (aD 8 1 9 (by decide) (aY 9 0 (by decide) (trivial))))))))))) [(2, .pointer (some ⟨b7, 0, none⟩))] (fin_of [none] rfl (by kernel_rfl) (by kernel_rfl)) (fun _ a w S => ?_)
        · refine leafT (hK8 _ _ ?_)
          obtain rfl := Option.some.inj h
          have S := S.shutR (r := rB) (T := 4) (v := .slice ad17 l11.length cp18) (xs := l11) 1 (by kernel_rfl)
          have S := S.learn (fRep r_api_Grid (.agg #[.int .i64 p0.W, .int .i64 p0.H, .slice ad17 l11.length cp18]) (api_Grid.mk p0.W p0.H l11)) ⟨_, rfl, S.mem.know (i := 0) (e := fRep (rL rB) (.slice ad17 l11.length cp18) l11) (by kernel_rfl)⟩
          exact wp_ret (sRet (.agg #[.int .i64 p0.W, .int .i64 p0.H, .slice ad17 l11.length cp18]) S (rsl1 rfl (rvN (c := 2) (t := 24) (T := 24) (p := b7) 0 [.int .i64 p0.W, .int .i64 p0.H, .slice ad17 l11.length cp18] S (by kernel_rfl) (by kernel_rfl) (by kernel_rfl) (by kernel_rfl))) ⟨(.agg #[.int .i64 p0.W, .int .i64 p0.H, .slice ad17 l11.length cp18]), rfl, S.mem.sel [] [0] (by decide) (by kernel_rfl) (by kernel_rfl)⟩)
  · refine fI 8 (.pointer (some ⟨b6, 2, none⟩)) [(1, .pointer (some ⟨b6, 0, none⟩))] 4 [none] rfl rfl (by kernel_rfl) rfl (by kernel_rfl) (by kernel_rfl) fun G a w S => ?_
    refine sField (b := b6) (off := 0) 2 2 S (wN rfl) rfl (by kernel_rfl) (by kernel_rfl) rfl rfl (by decide) (fun a S => ?_)
    exact leafL ⟨rfl, S⟩
  · refine fI 9 (.slice ad3 p0.Bits.length cp4) [(8, .pointer (some ⟨b6, 2, none⟩))] 5 [some 4] rfl rfl (by kernel_rfl) rfl (by kernel_rfl) (by kernel_rfl) fun G a w S => ?_
    refine sLoad1 (p := b6) (off := 2) (T := 24) (vs := [.int .i64 p0.W, .int .i64 p0.H, .slice ad3 p0.Bits.length cp4]) 1 (.slice ad3 p0.Bits.length cp4) S (wN rfl) rfl (by kernel_rfl) (by kernel_rfl) (by kernel_rfl) rfl rfl (by decide) (fun a S => ?_)
    exact leafL ⟨rfl, S⟩

end Go.Proofs.Ytjndecalogklhaa
namespace Go.Proofs.Ytjndecalogklhaa
open Go.RowKit
set_option linter.unusedVariables false

noncomputable def F_raddleref01_Check (p0 : api_Grid) : Option Int :=
  Option.bind (α := Bool) (
    if decide (64 < p0.W) then
      some true
    else
      some (decide (64 < p0.H))) fun o8 =>
  if o8 then
    some 4
  else
    Option.bind (α := Bool) (
      if decide (p0.W < 1) then
        some true
      else
        if decide (p0.H < 1) then
          some true
        else
          some ((p0.Bits.length : Int) != (w64 (p0.W * p0.H)))) fun o15 =>
    if o15 then
      some 8
    else
      some 0
set_option maxHeartbeats 4000000 in
set_option maxRecDepth 100000 in
theorem c_raddleref01_Check (E : Nat → Prop) (w0 : World) (p0 : api_Grid) (v0 : Value) (r : Int) (h : F_raddleref01_Check p0 = some r) (S : St0 E [] w0 w0 [] [fRep r_api_Grid (v0) p0]) :
    Calls Try.prog 36 #[v0] w0 (Ret (X := Unit) E [] w0 (fun _ => .int .i64 r) (fun _ => []) (fun _ => [])) := by
  unfold F_raddleref01_Check at h
  obtain ⟨u1, rfl, hu2⟩ := S.know (i := 0) (e := fRep r_api_Grid (v0) p0) (by kernel_rfl)
  have S := S.learn (fRep (rL rB) u1 p0.Bits) hu2
  obtain ⟨ad3, cp4, _, rfl, _⟩ := hu2
  refine sEnter (args := [.agg #[.int .i64 p0.W, .int .i64 p0.H, .slice ad3 p0.Bits.length cp4]]) 30 Try.func36 rfl rfl (by simp) S (fun a S => ?_)
  refine sSeq (fun K5 hK5 => ?_)
  refine sRegion ?_
  refine sBox (v := .agg #[.int .i64 p0.W, .int .i64 p0.H, .slice ad3 p0.Bits.length cp4]) S (wN rfl) rfl (by kernel_rfl) [.int .i64 p0.W, .int .i64 p0.H, .slice ad3 p0.Bits.length cp4] rfl rfl (by decide) (fun a b6 w S => ?_)
  refine sMove (.int .i64 0) S (wN rfl) (.inr rfl) (by kernel_rfl) rfl (by decide) (fun a S => ?_)
  refine leafL (leafT (hK5 _ _ ?_))
  refine sSeq (fun K7 hK7 => ?_)
  obtain ⟨t9, h, g10⟩ := bindSome h
  refine sCut (fun a w => ∃ o8, o8 = t9 ∧ St E [] w0 30 a w [(1, .pointer (some ⟨b6, 0, none⟩)), (10, .bool o8)] [eBox b6 24 [.int .i64 p0.W, .int .i64 p0.H, .slice ad3 p0.Bits.length cp4]] [fRep (rL rB) (.slice ad3 p0.Bits.length cp4) p0.Bits]) ?_ (fun a w hI => ?_)
  · refine sRegion ?_
    refine sField (b := b6) (off := 0) 0 0 S (wN rfl) rfl (by kernel_rfl) (by kernel_rfl) rfl rfl (by decide) (fun a S => ?_)
    refine sLoad1 (p := b6) (off := 0) (T := 24) (vs := [.int .i64 p0.W, .int .i64 p0.H, .slice ad3 p0.Bits.length cp4]) 0 (.int .i64 p0.W) S (wN rfl) rfl (by kernel_rfl) (by kernel_rfl) (by kernel_rfl) rfl rfl (by decide) (fun a S => ?_)
    refine sBin (.bool (decide (64 < p0.W))) S (wN rfl) rfl (by kernel_rfl) (by kernel_rfl) (bGt _ _ _ _ .i64 p0.W 64) rfl (by decide) (fun a S => ?_)
    refine sMove (.bool (decide (64 < p0.W))) S (wN rfl) (.inl rfl) (by kernel_rfl) rfl (by decide) (fun a S => ?_)
    rcases iteSome h with ⟨hc11, h⟩ | ⟨hc11, h⟩
    · refine sSkip (c := decide (64 < p0.W)) 3 false 6 7 S rfl rfl (by kernel_rfl) hc11 rfl (by decide) (fun a S => ?_)
      refine sSkip (c := decide (64 < p0.W)) 3 false 6 8 S rfl rfl (by kernel_rfl) hc11 rfl (by decide) (fun a S => ?_)
      refine sSkip (c := decide (64 < p0.W)) 3 false 6 9 S rfl rfl (by kernel_rfl) hc11 rfl (by decide) (fun a S => ?_)
      refine sPickT (b := decide (64 < p0.W)) (.bool true) S (wN rfl) rfl (by kernel_rfl) hc11 (by kernel_rfl) rfl (by decide) (fun a S => ?_)
      exact leafL (leafT (⟨true, Option.some.inj h, S.fix [0] [0] (by decide) (by kernel_rfl) (by kernel_rfl) (by kernel_rfl)⟩))
    · refine sField (b := b6) (off := 0) 1 1 S (wG (c := decide (64 < p0.W)) 3 false 6 rfl rfl (by kernel_rfl) hc11) rfl (by kernel_rfl) (by kernel_rfl) rfl rfl (by decide) (fun a S => ?_)
      refine sLoad1 (p := b6) (off := 1) (T := 24) (vs := [.int .i64 p0.W, .int .i64 p0.H, .slice ad3 p0.Bits.length cp4]) 0 (.int .i64 p0.H) S (wG (c := decide (64 < p0.W)) 3 false 6 rfl rfl (by kernel_rfl) hc11) rfl (by kernel_rfl) (by kernel_rfl) (by kernel_rfl) rfl rfl (by decide) (fun a S => ?_)
      refine sBin (.bool (decide (64 < p0.H))) S (wG (c := decide (64 < p0.W)) 3 false 6 rfl rfl (by kernel_rfl) hc11) rfl (by kernel_rfl) (by kernel_rfl) (bGt _ _ _ _ .i64 p0.H 64) rfl (by decide) (fun a S => ?_)
      refine sPickF (b := decide (64 < p0.W)) (.bool (decide (64 < p0.H))) S (wN rfl) rfl (by kernel_rfl) hc11 (by kernel_rfl) rfl (by decide) (fun a S => ?_)
      exact leafL (leafT (⟨decide (64 < p0.H), Option.some.inj h, S.fix [0] [0] (by decide) (by kernel_rfl) (by kernel_rfl) (by kernel_rfl)⟩))
  · obtain ⟨o8, rfl, S⟩ := hI
    have h := g10
    clear g10
    try dsimp only at h
    rcases iteSome h with ⟨hc12, h⟩ | ⟨hc12, h⟩
    · refine sCondT (b := o8) S (by kernel_rfl) hc12 ?_
      refine sSeq (fun K13 hK13 => ?_)
      refine sRegion ?_
      refine sMove (.int .i64 4) S (wN rfl) (.inr rfl) (by kernel_rfl) rfl (by decide) (fun a S => ?_)
      refine leafL (leafT (hK13 _ _ ?_))
      obtain rfl := Option.some.inj h
      exact wp_ret (rThen (sRet (.int .i64 4) S (rsl1 rfl (rvT (t := 2) (v := .int .i64 4) S (by kernel_rfl))) ⟨(), rfl, S.mem.sel [] [] (by decide) (by kernel_rfl) (by kernel_rfl)⟩))
    · refine sCondF (b := o8) S (by kernel_rfl) hc12 ?_
      refine wp_skip (leafT (hK7 _ _ ?_))
      refine sSeq (fun K14 hK14 => ?_)
      obtain ⟨t16, h, g17⟩ := bindSome h
      refine sCut (fun a w => ∃ o15, o15 = t16 ∧ St E [] w0 30 a w [(29, .bool o15)] [] []) ?_ (fun a w hI => ?_)
      · refine sRegion ?_
        refine sField (b := b6) (off := 0) 0 0 S (wN rfl) rfl (by kernel_rfl) (by kernel_rfl) rfl rfl (by decide) (fun a S => ?_)
        refine sLoad1 (p := b6) (off := 0) (T := 24) (vs := [.int .i64 p0.W, .int .i64 p0.H, .slice ad3 p0.Bits.length cp4]) 0 (.int .i64 p0.W) S (wN rfl) rfl (by kernel_rfl) (by kernel_rfl) (by kernel_rfl) rfl rfl (by decide) (fun a S => ?_)
        refine sBin (.bool (decide (p0.W < 1))) S (wN rfl) rfl (by kernel_rfl) (by kernel_rfl) (bLt _ _ _ _ .i64 p0.W 1) rfl (by decide) (fun a S => ?_)
        refine sMove (.bool (decide (p0.W < 1))) S (wN rfl) (.inl rfl) (by kernel_rfl) rfl (by decide) (fun a S => ?_)
        rcases iteSome h with ⟨hc18, h⟩ | ⟨hc18, h⟩
        · refine sSkip (c := decide (p0.W < 1)) 3 false 14 15 S rfl rfl (by kernel_rfl) hc18 rfl (by decide) (fun a S => ?_)
          refine sSkip (c := decide (p0.W < 1)) 3 false 14 16 S rfl rfl (by kernel_rfl) hc18 rfl (by decide) (fun a S => ?_)
          refine sSkip (c := decide (p0.W < 1)) 3 false 14 17 S rfl rfl (by kernel_rfl) hc18 rfl (by decide) (fun a S => ?_)
          refine sPickT (b := decide (p0.W < 1)) (.bool true) S (wN rfl) rfl (by kernel_rfl) hc18 (by kernel_rfl) rfl (by decide) (fun a S => ?_)
          refine sMove (.bool true) S (wN rfl) (.inl rfl) (by kernel_rfl) rfl (by decide) (fun a S => ?_)
          refine sSkip (c := true) 8 false 19 20 S rfl rfl (by kernel_rfl) rfl rfl (by decide) (fun a S => ?_)
          refine sSkip (c := true) 8 false 19 21 S rfl rfl (by kernel_rfl) rfl rfl (by decide) (fun a S => ?_)
          refine sSkip (c := true) 8 false 19 22 S rfl rfl (by kernel_rfl) rfl rfl (by decide) (fun a S => ?_)
          refine sSkip (c := true) 8 false 19 23 S rfl rfl (by kernel_rfl) rfl rfl (by decide) (fun a S => ?_)
          refine sSkip (c := true) 8 false 19 24 S rfl rfl (by kernel_rfl) rfl rfl (by decide) (fun a S => ?_)
          refine sSkip (c := true) 8 false 19 25 S rfl rfl (by kernel_rfl) rfl rfl (by decide) (fun a S => ?_)
          refine sSkip (c := true) 8 false 19 26 S rfl rfl (by kernel_rfl) rfl rfl (by decide) (fun a S => ?_)
          refine sSkip (c := true) 8 false 19 27 S rfl rfl (by kernel_rfl) rfl rfl (by decide) (fun a S => ?_)
          refine sSkip (c := true) 8 false 19 28 S rfl rfl (by kernel_rfl) rfl rfl (by decide) (fun a S => ?_)
          refine sPickT (b := true) (.bool true) S (wN rfl) rfl (by kernel_rfl) rfl (by kernel_rfl) rfl (by decide) (fun a S => ?_)
          exact leafL (leafT (⟨true, Option.some.inj h, S.fix [] [] (by decide) (by kernel_rfl) (by kernel_rfl) (by kernel_rfl)⟩))
        · refine sField (b := b6) (off := 0) 1 1 S (wG (c := decide (p0.W < 1)) 3 false 14 rfl rfl (by kernel_rfl) hc18) rfl (by kernel_rfl) (by kernel_rfl) rfl rfl (by decide) (fun a S => ?_)
          refine sLoad1 (p := b6) (off := 1) (T := 24) (vs := [.int .i64 p0.W, .int .i64 p0.H, .slice ad3 p0.Bits.length cp4]) 0 (.int .i64 p0.H) S (wG (c := decide (p0.W < 1)) 3 false 14 rfl rfl (by kernel_rfl) hc18) rfl (by kernel_rfl) (by kernel_rfl) (by kernel_rfl) rfl rfl (by decide) (fun a S => ?_)
          refine sBin (.bool (decide (p0.H < 1))) S (wG (c := decide (p0.W < 1)) 3 false 14 rfl rfl (by kernel_rfl) hc18) rfl (by kernel_rfl) (by kernel_rfl) (bLt _ _ _ _ .i64 p0.H 1) rfl (by decide) (fun a S => ?_)
          refine sPickF (b := decide (p0.W < 1)) (.bool (decide (p0.H < 1))) S (wN rfl) rfl (by kernel_rfl) hc18 (by kernel_rfl) rfl (by decide) (fun a S => ?_)
          refine sMove (.bool (decide (p0.H < 1))) S (wN rfl) (.inl rfl) (by kernel_rfl) rfl (by decide) (fun a S => ?_)
          rcases iteSome h with ⟨hc19, h⟩ | ⟨hc19, h⟩
          · refine sSkip (c := decide (p0.H < 1)) 8 false 19 20 S rfl rfl (by kernel_rfl) hc19 rfl (by decide) (fun a S => ?_)
            refine sSkip (c := decide (p0.H < 1)) 8 false 19 21 S rfl rfl (by kernel_rfl) hc19 rfl (by decide) (fun a S => ?_)
            refine sSkip (c := decide (p0.H < 1)) 8 false 19 22 S rfl rfl (by kernel_rfl) hc19 rfl (by decide) (fun a S => ?_)
            refine sSkip (c := decide (p0.H < 1)) 8 false 19 23 S rfl rfl (by kernel_rfl) hc19 rfl (by decide) (fun a S => ?_)
            refine sSkip (c := decide (p0.H < 1)) 8 false 19 24 S rfl rfl (by kernel_rfl) hc19 rfl (by decide) (fun a S => ?_)
            refine sSkip (c := decide (p0.H < 1)) 8 false 19 25 S rfl rfl (by kernel_rfl) hc19 rfl (by decide) (fun a S => ?_)
            refine sSkip (c := decide (p0.H < 1)) 8 false 19 26 S rfl rfl (by kernel_rfl) hc19 rfl (by decide) (fun a S => ?_)
            refine sSkip (c := decide (p0.H < 1)) 8 false 19 27 S rfl rfl (by kernel_rfl) hc19 rfl (by decide) (fun a S => ?_)
            refine sSkip (c := decide (p0.H < 1)) 8 false 19 28 S rfl rfl (by kernel_rfl) hc19 rfl (by decide) (fun a S => ?_)
            refine sPickT (b := decide (p0.H < 1)) (.bool true) S (wN rfl) rfl (by kernel_rfl) hc19 (by kernel_rfl) rfl (by decide) (fun a S => ?_)
            exact leafL (leafT (⟨true, Option.some.inj h, S.fix [] [] (by decide) (by kernel_rfl) (by kernel_rfl) (by kernel_rfl)⟩))
          · refine sField (b := b6) (off := 0) 2 2 S (wG (c := decide (p0.H < 1)) 8 false 19 rfl rfl (by kernel_rfl) hc19) rfl (by kernel_rfl) (by kernel_rfl) rfl rfl (by decide) (fun a S => ?_)
            refine sLoad1 (p := b6) (off := 2) (T := 24) (vs := [.int .i64 p0.W, .int .i64 p0.H, .slice ad3 p0.Bits.length cp4]) 0 (.slice ad3 p0.Bits.length cp4) S (wG (c := decide (p0.H < 1)) 8 false 19 rfl rfl (by kernel_rfl) hc19) rfl (by kernel_rfl) (by kernel_rfl) (by kernel_rfl) rfl rfl (by decide) (fun a S => ?_)
            refine sLen (ad := ad3) (m := p0.Bits.length) (c := cp4) S (wG (c := decide (p0.H < 1)) 8 false 19 rfl rfl (by kernel_rfl) hc19) rfl Try.underlying22 (by kernel_rfl) rfl (by decide) (fun a S => ?_)
            refine sField (b := b6) (off := 0) 0 0 S (wG (c := decide (p0.H < 1)) 8 false 19 rfl rfl (by kernel_rfl) hc19) rfl (by kernel_rfl) (by kernel_rfl) rfl rfl (by decide) (fun a S => ?_)
            refine sLoad1 (p := b6) (off := 0) (T := 24) (vs := [.int .i64 p0.W, .int .i64 p0.H, .slice ad3 p0.Bits.length cp4]) 0 (.int .i64 p0.W) S (wG (c := decide (p0.H < 1)) 8 false 19 rfl rfl (by kernel_rfl) hc19) rfl (by kernel_rfl) (by kernel_rfl) (by kernel_rfl) rfl rfl (by decide) (fun a S => ?_)
            refine sField (b := b6) (off := 0) 1 1 S (wG (c := decide (p0.H < 1)) 8 false 19 rfl rfl (by kernel_rfl) hc19) rfl (by kernel_rfl) (by kernel_rfl) rfl rfl (by decide) (fun a S => ?_)
            refine sLoad1 (p := b6) (off := 1) (T := 24) (vs := [.int .i64 p0.W, .int .i64 p0.H, .slice ad3 p0.Bits.length cp4]) 0 (.int .i64 p0.H) S (wG (c := decide (p0.H < 1)) 8 false 19 rfl rfl (by kernel_rfl) hc19) rfl (by kernel_rfl) (by kernel_rfl) (by kernel_rfl) rfl rfl (by decide) (fun a S => ?_)
            refine sBin (.int .i64 (w64 (p0.W * p0.H))) S (wG (c := decide (p0.H < 1)) 8 false 19 rfl rfl (by kernel_rfl) hc19) rfl (by kernel_rfl) (by kernel_rfl) (bMul _ _ _ _ p0.W p0.H) rfl (by decide) (fun a S => ?_)
            refine sBin (.bool ((p0.Bits.length : Int) != (w64 (p0.W * p0.H)))) S (wG (c := decide (p0.H < 1)) 8 false 19 rfl rfl (by kernel_rfl) hc19) rfl (by kernel_rfl) (by kernel_rfl) (bNe _ _ _ _ .i64 (p0.Bits.length : Int) (w64 (p0.W * p0.H))) rfl (by decide) (fun a S => ?_)
            refine sPickF (b := decide (p0.H < 1)) (.bool ((p0.Bits.length : Int) != (w64 (p0.W * p0.H)))) S (wN rfl) rfl (by kernel_rfl) hc19 (by kernel_rfl) rfl (by decide) (fun a S => ?_)
            exact leafL (leafT (⟨(p0.Bits.length : Int) != (w64 (p0.W * p0.H)), Option.some.inj h, S.fix [] [] (by decide) (by kernel_rfl) (by kernel_rfl) (by kernel_rfl)⟩))
      · obtain ⟨o15, rfl, S⟩ := hI
        have h := g17
        clear g17
        try dsimp only at h
        rcases iteSome h with ⟨hc20, h⟩ | ⟨hc20, h⟩
        · refine sCondT (b := o15) S (by kernel_rfl) hc20 ?_
          refine sSeq (fun K21 hK21 => ?_)
          refine sRegion ?_
          refine sMove (.int .i64 8) S (wN rfl) (.inr rfl) (by kernel_rfl) rfl (by decide) (fun a S => ?_)
          refine leafL (leafT (hK21 _ _ ?_))
          obtain rfl := Option.some.inj h
          exact wp_ret (rThen (sRet (.int .i64 8) S (rsl1 rfl (rvT (t := 2) (v := .int .i64 8) S (by kernel_rfl))) ⟨(), rfl, S.mem.sel [] [] (by decide) (by kernel_rfl) (by kernel_rfl)⟩))
        · refine sCondF (b := o15) S (by kernel_rfl) hc20 ?_
          refine wp_skip (leafT (hK14 _ _ ?_))
          refine sSeq (fun K22 hK22 => ?_)
          refine sRegion ?_
          refine sMove (.int .i64 0) S (wN rfl) (.inr rfl) (by kernel_rfl) rfl (by decide) (fun a S => ?_)
          refine leafL (leafT (hK22 _ _ ?_))
          obtain rfl := Option.some.inj h
          exact wp_ret (sRet (.int .i64 0) S (rsl1 rfl (rvT (t := 2) (v := .int .i64 0) S (by kernel_rfl))) ⟨(), rfl, S.mem.sel [] [] (by decide) (by kernel_rfl) (by kernel_rfl)⟩)

end Go.Proofs.Ytjndecalogklhaa
namespace Go.Proofs.Ytjndecalogklhaa
open Go.RowKit
set_option linter.unusedVariables false

noncomputable def F_raddleref01_At (p0 : api_Grid) (p1 : Int) (p2 : Int) : Option Bool :=
  Option.bind (idxO p0.Bits (w64 ((w64 (p2 * p0.W)) + p1))) fun x8 =>
  some x8
set_option maxHeartbeats 4000000 in
set_option maxRecDepth 100000 in
theorem c_raddleref01_At (E : Nat → Prop) (w0 : World) (p0 : api_Grid) (v0 : Value) (p1 : Int) (p2 : Int) (r : Bool) (h : F_raddleref01_At p0 p1 p2 = some r) (S : St0 E [] w0 w0 [] [fRep r_api_Grid (v0) p0]) :
    Calls Try.prog 37 #[v0, .int .i64 p1, .int .i64 p2] w0 (Ret (X := Unit) E [] w0 (fun _ => .bool r) (fun _ => []) (fun _ => [])) := by
  unfold F_raddleref01_At at h
  obtain ⟨u1, rfl, hu2⟩ := S.know (i := 0) (e := fRep r_api_Grid (v0) p0) (by kernel_rfl)
  have S := S.learn (fRep (rL rB) u1 p0.Bits) hu2
  obtain ⟨ad3, cp4, _, rfl, _⟩ := hu2
  refine sEnter (args := [.agg #[.int .i64 p0.W, .int .i64 p0.H, .slice ad3 p0.Bits.length cp4], .int .i64 p1, .int .i64 p2]) 17 Try.func37 rfl rfl (by simp) S (fun a S => ?_)
  refine sSeq (fun K5 hK5 => ?_)
  refine sRegion ?_
  refine sBox (v := .agg #[.int .i64 p0.W, .int .i64 p0.H, .slice ad3 p0.Bits.length cp4]) S (wN rfl) rfl (by kernel_rfl) [.int .i64 p0.W, .int .i64 p0.H, .slice ad3 p0.Bits.length cp4] rfl rfl (by decide) (fun a b6 w S => ?_)
  refine sMove (.bool false) S (wN rfl) (.inr rfl) (by kernel_rfl) rfl (by decide) (fun a S => ?_)
  refine leafL (leafT (hK5 _ _ ?_))
  refine sSeq (fun K7 hK7 => ?_)
  refine sRegion ?_
  refine sField (b := b6) (off := 0) 2 2 S (wN rfl) rfl (by kernel_rfl) (by kernel_rfl) rfl rfl (by decide) (fun a S => ?_)
  refine sLoad1 (p := b6) (off := 2) (T := 24) (vs := [.int .i64 p0.W, .int .i64 p0.H, .slice ad3 p0.Bits.length cp4]) 0 (.slice ad3 p0.Bits.length cp4) S (wN rfl) rfl (by kernel_rfl) (by kernel_rfl) (by kernel_rfl) rfl rfl (by decide) (fun a S => ?_)
  refine sMove (.int .i64 p2) S (wN rfl) (.inl rfl) (by kernel_rfl) rfl (by decide) (fun a S => ?_)
  refine sField (b := b6) (off := 0) 0 0 S (wN rfl) rfl (by kernel_rfl) (by kernel_rfl) rfl rfl (by decide) (fun a S => ?_)
  refine sLoad1 (p := b6) (off := 0) (T := 24) (vs := [.int .i64 p0.W, .int .i64 p0.H, .slice ad3 p0.Bits.length cp4]) 0 (.int .i64 p0.W) S (wN rfl) rfl (by kernel_rfl) (by kernel_rfl) (by kernel_rfl) rfl rfl (by decide) (fun a S => ?_)
  refine sBin (.int .i64 (w64 (p2 * p0.W))) S (wN rfl) rfl (by kernel_rfl) (by kernel_rfl) (bMul _ _ _ _ p2 p0.W) rfl (by decide) (fun a S => ?_)
  refine sMove (.int .i64 p1) S (wN rfl) (.inl rfl) (by kernel_rfl) rfl (by decide) (fun a S => ?_)
  refine sBin (.int .i64 (w64 ((w64 (p2 * p0.W)) + p1))) S (wN rfl) rfl (by kernel_rfl) (by kernel_rfl) (bAdd _ _ _ _ (w64 (p2 * p0.W)) p1) rfl (by decide) (fun a S => ?_)
  obtain ⟨x8, hx9, h⟩ := bindSome h
  obtain ⟨q10, hq11, S⟩ := pIdx (P := Try.prog) (r := rB) (v := .slice ad3 p0.Bits.length cp4) (xs := p0.Bits) (j := w64 ((w64 (p2 * p0.W)) + p1)) 22 4 0 S Try.underlying22 (by kernel_rfl) (by kernel_rfl) hx9
  refine sIdxV (v := .slice ad3 p0.Bits.length cp4) (k := .i64) (j := w64 ((w64 (p2 * p0.W)) + p1)) S (wN rfl) rfl (by kernel_rfl) (by kernel_rfl) hq11 rfl (by decide) (fun a S => ?_)
  obtain ⟨u12, S⟩ := pLoad (r := rB) (q := q10) (x := x8) 0 S (by kernel_rfl)
  obtain rfl : u12 = .bool x8 := S.mem.know (i := 1) (e := fRep rB (u12) x8) (by kernel_rfl)
  refine sLoadV1 (vq := q10) 0 (.bool x8) S (wN rfl) rfl (by kernel_rfl) (by kernel_rfl) (by kernel_rfl) rfl (by decide) (fun a S => ?_)
  refine sMove (.bool x8) S (wN rfl) (.inr rfl) (by kernel_rfl) rfl (by decide) (fun a S => ?_)
  refine leafL (leafT (hK7 _ _ ?_))
  obtain rfl := Option.some.inj h
  exact wp_ret (sRet (.bool x8) S (rsl1 rfl (rvT (t := 6) (v := .bool x8) S (by kernel_rfl))) ⟨(), rfl, S.mem.sel [] [] (by decide) (by kernel_rfl) (by kernel_rfl)⟩)

end Go.Proofs.Ytjndecalogklhaa
namespace Go.Proofs.Ytjndecalogklhaa
open Go.RowKit
set_option linter.unusedVariables false

def anc_raddleref24_Turns_0 : List (List Nat) := [[], [0], [0, 1], [], [3], [3, 4], [0, 1, 2], [0, 1, 2, 3, 4, 5, 6]]
def anc_raddleref24_Turns_1 : List (List Nat) := [[], [], [], [0, 1, 2], [], [], [5], [], [7], [0, 1, 2, 3, 5, 6, 7, 8], [], [0, 1, 2, 3, 4, 5, 6, 7, 8, 9, 10], [0, 1, 2, 3, 4, 5, 6, 7, 8, 9, 10, 11]]
def anc_raddleref24_Turns_2 : List (List Nat) := [[], [], [], [0, 1, 2], [], [], [], [6], [], [8], [0, 1, 2, 3, 6, 7, 8, 9], [0, 1, 2, 3, 4, 5, 6, 7, 8, 9, 10], [0, 1, 2, 3, 4, 5, 6, 7, 8, 9, 10, 11]]
noncomputable def raddleref24_Turns_l1 (p0 : api_Grid) (s52 : Int) : (List Int × List Int × Int) → Option ((List Int × List Int × Int) ⊕ (List Int × List Int)) := fun s0 => match s0 with
  | (s74, s77, s80) =>
    if decide (s80 < p0.W) then
      Option.bind (α := (List Int × List Int)) (
        Option.bind (α := List Int) (
          Option.bind (F_raddleref01_At p0 s80 s52) fun r107 =>
          Option.bind (F_raddleref01_Mod (w64 (s80 - 1)) p0.W) fun r109 =>
          Option.bind (F_raddleref01_At p0 r109 s52) fun r111 =>
          if r107 != r111 then
            Option.bind (idxO s74 s52) fun x114 =>
            Option.bind (setO s74 s52 (w64 (x114 + 1))) fun l122 =>
            some l122
          else
            some s74) fun o101 =>
        Option.bind (F_raddleref01_At p0 s80 s52) fun r125 =>
        Option.bind (F_raddleref01_Mod (w64 (s52 - 1)) p0.H) fun r127 =>
        Option.bind (F_raddleref01_At p0 s80 r127) fun r129 =>
        if r125 != r129 then
          Option.bind (idxO s77 s80) fun x132 =>
          Option.bind (setO s77 s80 (w64 (x132 + 1))) fun l140 =>
          some (o101, l140)
        else
          some (o101, s77)) fun (o93, o96) =>
      some (.inl (o93, o96, w64 (s80 + 1)))
    else
      some (.inr (s74, s77))
noncomputable def raddleref24_Turns_l2 (p0 : api_Grid) : (List Int × List Int × Int) → Option ((List Int × List Int × Int) ⊕ (List Int × List Int)) := fun s0 => match s0 with
  | (s46, s49, s52) =>
    if decide (s52 < p0.H) then
      Option.bind (α := (List Int × List Int)) (
        Option.bind (whileO (raddleref24_Turns_l1 p0 s52) (s46, s49, 0)) fun (e84, e87) =>
          some (e84, e87)) fun (o65, o68) =>
      some (.inl (o65, o68, w64 (s52 + 1)))
    else
      some (.inr (s46, s49))
noncomputable def F_raddleref24_Turns (p0 : api_Grid) : Option ((List Int) × (List Int) × Int) :=
  Option.bind (F_raddleref01_Check p0) fun r9 =>
  if r9 != 0 then
    some (([] : (List Int)), ([] : (List Int)), r9)
  else
    Option.bind (α := (List Int × List Int)) (
      Option.bind (makeO p0.H (0 : Int)) fun m23 =>
      Option.bind (makeO p0.W (0 : Int)) fun m27 =>
      some (m23, m27)) fun (o13, o16) =>
    Option.bind (α := (List Int × List Int)) (
      Option.bind (whileO (raddleref24_Turns_l2 p0) (o13, o16, 0)) fun (e56, e59) =>
        some (e56, e59)) fun (o37, o40) =>
    some (o37, o40, 0)
def c_raddleref24_Turns_val (r : ((List Int) × (List Int) × Int)) (x : Value × Value) : Value := .tuple #[x.1, x.2, .int .i64 r.2.2]
def c_raddleref24_Turns_D (r : ((List Int) × (List Int) × Int)) (x : Value × Value) : List Fact := [fRep (rL (rI .i64)) x.1 r.1, fRep (rL (rI .i64)) x.2 r.2.1]
set_option maxHeartbeats 4000000 in
set_option maxRecDepth 100000 in
theorem c_raddleref24_Turns (E : Nat → Prop) (w0 : World) (p0 : api_Grid) (v0 : Value) (r : ((List Int) × (List Int) × Int)) (h : F_raddleref24_Turns p0 = some r) (S : St0 E [] w0 w0 [] [fRep r_api_Grid (v0) p0]) :
    Calls Try.prog 12 #[v0] w0 (Ret (X := Value × Value) E [] w0 (c_raddleref24_Turns_val r) (fun _ => []) (c_raddleref24_Turns_D r)) := by
  unfold F_raddleref24_Turns at h
  obtain ⟨u1, rfl, hu2⟩ := S.know (i := 0) (e := fRep r_api_Grid (v0) p0) (by kernel_rfl)
  have S := S.learn (fRep (rL rB) u1 p0.Bits) hu2
  obtain ⟨ad3, cp4, _, rfl, _⟩ := hu2
  refine sEnter (args := [.agg #[.int .i64 p0.W, .int .i64 p0.H, .slice ad3 p0.Bits.length cp4]]) 72 Try.func12 rfl rfl (by simp) S (fun a S => ?_)
  refine sSeq (fun K5 hK5 => ?_)
  refine sRegion ?_
  refine sBox (v := .agg #[.int .i64 p0.W, .int .i64 p0.H, .slice ad3 p0.Bits.length cp4]) S (wN rfl) rfl (by kernel_rfl) [.int .i64 p0.W, .int .i64 p0.H, .slice ad3 p0.Bits.length cp4] rfl rfl (by decide) (fun a b6 w S => ?_)
  refine sMove (.slice none 0 0) S (wN rfl) (.inr rfl) (by kernel_rfl) rfl (by decide) (fun a S => ?_)
  refine sMove (.slice none 0 0) S (wN rfl) (.inr rfl) (by kernel_rfl) rfl (by decide) (fun a S => ?_)
  refine sMove (.int .i64 0) S (wN rfl) (.inr rfl) (by kernel_rfl) rfl (by decide) (fun a S => ?_)
  refine leafL (leafT (hK5 _ _ ?_))
  refine sSeq (fun K7 hK7 => ?_)
  refine sSeq (fun K8 hK8 => ?_)
  refine sRegion ?_
  refine sLoadN (p := b6) (off := 0) (T := 24) (vs := [.int .i64 p0.W, .int .i64 p0.H, .slice ad3 p0.Bits.length cp4]) 0 [.int .i64 p0.W, .int .i64 p0.H, .slice ad3 p0.Bits.length cp4] S (wN rfl) rfl (by kernel_rfl) (by kernel_rfl) (by kernel_rfl) (by kernel_rfl) rfl rfl (by decide) (fun a S => ?_)
  obtain ⟨r9, hx10, h⟩ := bindSome h
  have S1 := S.mem
  refine sCallQ (X := Unit) (f := 36) (vs := [.agg #[.int .i64 p0.W, .int .i64 p0.H, .slice ad3 p0.Bits.length cp4]]) (val := fun _ => .int .i64 r9) S (wN rfl) rfl callee36 (by kernel_rfl) (S1.quiet [1] (by kernel_rfl)) (fun E1 w1 S1 => c_raddleref01_Check E1 w1 p0 (.agg #[.int .i64 p0.W, .int .i64 p0.H, .slice ad3 p0.Bits.length cp4]) r9 hx10 S1) rfl (by decide) (fun _ a w S => ?_)
  refine sBin (.bool (r9 != 0)) S (wN rfl) rfl (by kernel_rfl) (by kernel_rfl) (bNe _ _ _ _ .i64 r9 0) rfl (by decide) (fun a S => ?_)
  refine leafL (leafT (hK8 _ _ ?_))
  rcases iteSome h with ⟨hc11, h⟩ | ⟨hc11, h⟩
  · refine sCondT (b := r9 != 0) S (by kernel_rfl) hc11 ?_
    refine sSeq (fun K12 hK12 => ?_)
    refine sRegion ?_
    refine sLoadN (p := b6) (off := 0) (T := 24) (vs := [.int .i64 p0.W, .int .i64 p0.H, .slice ad3 p0.Bits.length cp4]) 0 [.int .i64 p0.W, .int .i64 p0.H, .slice ad3 p0.Bits.length cp4] S (wN rfl) rfl (by kernel_rfl) (by kernel_rfl) (by kernel_rfl) (by kernel_rfl) rfl rfl (by decide) (fun a S => ?_)
    have S1 := S.mem
    refine sCallQ (X := Unit) (f := 36) (vs := [.agg #[.int .i64 p0.W, .int .i64 p0.H, .slice ad3 p0.Bits.length cp4]]) (val := fun _ => .int .i64 r9) S (wN rfl) rfl callee36 (by kernel_rfl) (S1.quiet [1] (by kernel_rfl)) (fun E1 w1 S1 => c_raddleref01_Check E1 w1 p0 (.agg #[.int .i64 p0.W, .int .i64 p0.H, .slice ad3 p0.Bits.length cp4]) r9 hx10 S1) rfl (by decide) (fun _ a w S => ?_)
    refine sMove (.slice none 0 0) S (wN rfl) (.inr rfl) (by kernel_rfl) rfl (by decide) (fun a S => ?_)
    refine sMove (.slice none 0 0) S (wN rfl) (.inr rfl) (by kernel_rfl) rfl (by decide) (fun a S => ?_)
    refine sMove (.int .i64 r9) S (wN rfl) (.inr rfl) (by kernel_rfl) rfl (by decide) (fun a S => ?_)
    refine leafL (leafT (hK12 _ _ ?_))
    obtain rfl := Option.some.inj h
    have S := S.learn (fRep (rL (rI .i64)) (.slice none 0 0) ([] : (List Int))) (rL_nil _ _ _)
    exact wp_ret (rThen (sRet (.tuple #[.slice none 0 0, .slice none 0 0, .int .i64 r9]) S (rsl3 rfl (rvT (t := 2) (v := .slice none 0 0) S (by kernel_rfl)) (rvT (t := 3) (v := .slice none 0 0) S (by kernel_rfl)) (rvT (t := 4) (v := .int .i64 r9) S (by kernel_rfl))) ⟨((.slice none 0 0), (.slice none 0 0)), rfl, S.mem.sel [] [0, 0] (by decide) (by kernel_rfl) (by kernel_rfl)⟩))
  · refine sCondF (b := r9 != 0) S (by kernel_rfl) hc11 ?_
    refine wp_skip (leafT (hK7 _ _ ?_))
    obtain ⟨t19, h, g20⟩ := bindSome h
    refine sCut (fun a w => ∃ o13, ∃ o16, (o13, o16) = t19 ∧ ∃ ad14, ∃ cp15, ∃ ad17, ∃ cp18, St E [] w0 72 a w [(1, .pointer (some ⟨b6, 0, none⟩)), (5, .slice ad14 o13.length cp15), (6, .slice ad17 o16.length cp18)] [eBox b6 24 [.int .i64 p0.W, .int .i64 p0.H, .slice ad3 p0.Bits.length cp4], eRow (rI .i64) 3 (.slice ad14 o13.length cp15) o13, eRow (rI .i64) 3 (.slice ad17 o16.length cp18) o16] [fRep (rL rB) (.slice ad3 p0.Bits.length cp4) p0.Bits]) ?_ (fun a w hI => ?_)
    · obtain ⟨m23, hx24, h⟩ := bindSome h
      obtain ⟨m27, hx28, h⟩ := bindSome h
      refine sDraw (nf := [2, 5]) (W := [(0, 14, .pointer (some ⟨b6, 1, none⟩)), (1, 15, .int .i64 p0.H), (3, 17, .pointer (some ⟨b6, 0, none⟩)), (4, 18, .int .i64 p0.W)]) (by kernel_rfl) S ?_
      refine node_by (A := anc_raddleref24_Turns_0) (nf := [2, 5]) (Y := []) (W := [(0, 14, .pointer (some ⟨b6, 1, none⟩)), (1, 15, .int .i64 p0.H), (3, 17, .pointer (some ⟨b6, 0, none⟩)), (4, 18, .int .i64 p0.W)]) 8 (by kernel_rfl) (by kernel_rfl) (by kernel_rfl) (by kernel_rfl) (by kernel_rfl) [0, 1, 3, 4] (by kernel_rfl) (by decide) (by decide) (aF 0 7 (by decide) ?_ (aF 1 6 (by decide) ?_ (aN 2 5 (by decide) ?_ (aF 3 4 (by decide) ?_ (aF 4 3 (by decide) ?_ (aN 5 2 (by decide) ?_ (aE 6 1 2 (by decide) (aE 7 0 2 (by decide) (trivial))))))))) [] (fun q hq => by cases hq) (fun hY => absurd (hY 2 (by decide)) (by decide))
      · refine fI 14 (.pointer (some ⟨b6, 1, none⟩)) [(1, .pointer (some ⟨b6, 0, none⟩))] 0 [none] rfl rfl (by kernel_rfl) rfl (by kernel_rfl) (by kernel_rfl) fun G a w S => ?_
        refine sField (b := b6) (off := 0) 1 1 S (wN rfl) rfl (by kernel_rfl) (by kernel_rfl) rfl rfl (by decide) (fun a S => ?_)
        exact leafL ⟨rfl, S⟩
      · refine fI 15 (.int .i64 p0.H) [(14, .pointer (some ⟨b6, 1, none⟩))] 1 [some 0] rfl rfl (by kernel_rfl) rfl (by kernel_rfl) (by kernel_rfl) fun G a w S => ?_
        refine sLoad1 (p := b6) (off := 1) (T := 24) (vs := [.int .i64 p0.W, .int .i64 p0.H, .slice ad3 p0.Bits.length cp4]) 0 (.int .i64 p0.H) S (wN rfl) rfl (by kernel_rfl) (by kernel_rfl) (by kernel_rfl) rfl rfl (by decide) (fun a S => ?_)
        exact leafL ⟨rfl, S⟩
      · refine ⟨_, [(15, .int .i64 p0.H)], rfl, (srcs_of [some 1] rfl (by kernel_rfl) (by kernel_rfl)), fun G a w S => ?_⟩
        refine sMake (r := (rI .i64)) (m := p0.H) (xs := m23) (.int .i64 0) (0 : Int) 8 S (wN rfl) rfl Try.underlying27 (by kernel_rfl) rfl (by decide) (fun _ _ => rfl) (by kernel_rfl) (by kernel_rfl) hx24 rfl (by decide) (fun a w ad29 cp30 S => ?_)
        refine leafL ⟨rfl, _, _, .inl ⟨16, (.slice ad29 m23.length cp30), [(6, 5, .slice ad29 m23.length cp30)], rfl, S, hz_of (by kernel_rfl), ?_⟩⟩
        refine node_by (A := anc_raddleref24_Turns_0) (nf := [2, 5]) (Y := [2]) 8 (by kernel_rfl) (by kernel_rfl) (by kernel_rfl) (by kernel_rfl) (by kernel_rfl) [6, 2, 0, 1, 3, 4] (by kernel_rfl) (by decide) (by decide) (aD 0 7 2 (by decide) (aD 1 6 2 (by decide) (aY 2 5 (by decide) (aF 3 4 (by decide) ?_ (aF 4 3 (by decide) ?_ (aN 5 2 (by decide) ?_ (aF 6 1 (by decide) ?_ (aE 7 0 5 (by decide) (trivial))))))))) [] (fun q hq => by cases hq) (fun hY => absurd (hY 5 (by decide)) (by decide))
        · refine fI 17 (.pointer (some ⟨b6, 0, none⟩)) [(1, .pointer (some ⟨b6, 0, none⟩))] 4 [none] rfl rfl (by kernel_rfl) rfl (by kernel_rfl) (by kernel_rfl) fun G a w S => ?_
          refine sField (b := b6) (off := 0) 0 0 S (wN rfl) rfl (by kernel_rfl) (by kernel_rfl) rfl rfl (by decide) (fun a S => ?_)
          exact leafL ⟨rfl, S⟩
        · refine fI 18 (.int .i64 p0.W) [(17, .pointer (some ⟨b6, 0, none⟩))] 5 [some 4] rfl rfl (by kernel_rfl) rfl (by kernel_rfl) (by kernel_rfl) fun G a w S => ?_
          refine sLoad1 (p := b6) (off := 0) (T := 24) (vs := [.int .i64 p0.W, .int .i64 p0.H, .slice ad3 p0.Bits.length cp4]) 1 (.int .i64 p0.W) S (wN rfl) rfl (by kernel_rfl) (by kernel_rfl) (by kernel_rfl) rfl rfl (by decide) (fun a S => ?_)
          exact leafL ⟨rfl, S⟩
        · refine ⟨_, [(18, .int .i64 p0.W)], rfl, (srcs_of [some 5] rfl (by kernel_rfl) (by kernel_rfl)), fun G a w S => ?_⟩
          refine sMake (r := (rI .i64)) (m := p0.W) (xs := m27) (.int .i64 0) (0 : Int) 8 S (wN rfl) rfl Try.underlying27 (by kernel_rfl) rfl (by decide) (fun _ _ => rfl) (by kernel_rfl) (by kernel_rfl) hx28 rfl (by decide) (fun a w ad31 cp32 S => ?_)
          refine leafL ⟨rfl, _, _, .inl ⟨19, (.slice ad31 m27.length cp32), [(7, 6, .slice ad31 m27.length cp32)], rfl, S, hz_of (by kernel_rfl), ?_⟩⟩
          refine node_by (A := anc_raddleref24_Turns_0) (nf := [2, 5]) (Y := [5, 2]) 8 (by kernel_rfl) (by kernel_rfl) (by kernel_rfl) (by kernel_rfl) (by kernel_rfl) [7, 5, 6, 2, 0, 1, 3, 4] (by kernel_rfl) (by decide) (by decide) (aD 0 7 2 (by decide) (aD 1 6 2 (by decide) (aY 2 5 (by decide) (aD 3 4 5 (by decide) (aD 4 3 5 (by decide) (aY 5 2 (by decide) (aF 6 1 (by decide) ?_ (aF 7 0 (by decide) ?_ (trivial))))))))) [(1, .pointer (some ⟨b6, 0, none⟩)), (5, .slice ad29 m23.length cp30), (6, .slice ad31 m27.length cp32)] (fin_of [none, some 2, some 0] rfl (by kernel_rfl) (by kernel_rfl)) (fun _ a w S => ?_)
          · refine fI 5 (.slice ad29 m23.length cp30) [(16, .slice ad29 m23.length cp30)] 2 [some 3] rfl rfl (by kernel_rfl) rfl (by kernel_rfl) (by kernel_rfl) fun G a w S => ?_
            refine sMove (.slice ad29 m23.length cp30) S (wN rfl) (.inr rfl) (by kernel_rfl) rfl (by decide) (fun a S => ?_)
            exact leafL ⟨rfl, S⟩
          · refine fI 6 (.slice ad31 m27.length cp32) [(19, .slice ad31 m27.length cp32)] 0 [some 1] rfl rfl (by kernel_rfl) rfl (by kernel_rfl) (by kernel_rfl) fun G a w S => ?_
            refine sMove (.slice ad31 m27.length cp32) S (wN rfl) (.inr rfl) (by kernel_rfl) rfl (by decide) (fun a S => ?_)
            exact leafL ⟨rfl, S⟩
          · exact leafT (⟨m23, m27, Option.some.inj h, ad29, cp30, ad31, cp32, S.fix [2, 1, 0] [0] (by decide) (by kernel_rfl) (by kernel_rfl) (by kernel_rfl)⟩)
        · refine fI 5 (.slice ad29 m23.length cp30) [(16, .slice ad29 m23.length cp30)] 0 [some 1] rfl rfl (by kernel_rfl) rfl (by kernel_rfl) (by kernel_rfl) fun G a w S => ?_
          refine sMove (.slice ad29 m23.length cp30) S (wN rfl) (.inr rfl) (by kernel_rfl) rfl (by decide) (fun a S => ?_)
          exact leafL ⟨rfl, S⟩
      · refine fI 17 (.pointer (some ⟨b6, 0, none⟩)) [(1, .pointer (some ⟨b6, 0, none⟩))] 2 [none] rfl rfl (by kernel_rfl) rfl (by kernel_rfl) (by kernel_rfl) fun G a w S => ?_
        refine sField (b := b6) (off := 0) 0 0 S (wN rfl) rfl (by kernel_rfl) (by kernel_rfl) rfl rfl (by decide) (fun a S => ?_)
        exact leafL ⟨rfl, S⟩
      · refine fI 18 (.int .i64 p0.W) [(17, .pointer (some ⟨b6, 0, none⟩))] 3 [some 2] rfl rfl (by kernel_rfl) rfl (by kernel_rfl) (by kernel_rfl) fun G a w S => ?_
        refine sLoad1 (p := b6) (off := 0) (T := 24) (vs := [.int .i64 p0.W, .int .i64 p0.H, .slice ad3 p0.Bits.length cp4]) 0 (.int .i64 p0.W) S (wN rfl) rfl (by kernel_rfl) (by kernel_rfl) (by kernel_rfl) rfl rfl (by decide) (fun a S => ?_)
        exact leafL ⟨rfl, S⟩
      · refine ⟨_, [(18, .int .i64 p0.W)], rfl, (srcs_of [some 3] rfl (by kernel_rfl) (by kernel_rfl)), fun G a w S => ?_⟩
        refine sMake (r := (rI .i64)) (m := p0.W) (xs := m27) (.int .i64 0) (0 : Int) 8 S (wN rfl) rfl Try.underlying27 (by kernel_rfl) rfl (by decide) (fun _ _ => rfl) (by kernel_rfl) (by kernel_rfl) hx28 rfl (by decide) (fun a w ad33 cp34 S => ?_)
        refine leafL ⟨rfl, _, _, .inl ⟨19, (.slice ad33 m27.length cp34), [], rfl, S, hz_of (by kernel_rfl), ?_⟩⟩
        refine node_by (A := anc_raddleref24_Turns_0) (nf := [2, 5]) (Y := [5]) 8 (by kernel_rfl) (by kernel_rfl) (by kernel_rfl) (by kernel_rfl) (by kernel_rfl) [5, 0, 1, 3, 4] (by kernel_rfl) (by decide) (by decide) (aF 0 7 (by decide) ?_ (aF 1 6 (by decide) ?_ (aN 2 5 (by decide) ?_ (aD 3 4 5 (by decide) (aD 4 3 5 (by decide) (aY 5 2 (by decide) (aE 6 1 2 (by decide) (aE 7 0 2 (by decide) (trivial))))))))) [] (fun q hq => by cases hq) (fun hY => absurd (hY 2 (by decide)) (by decide))
        · refine fI 14 (.pointer (some ⟨b6, 1, none⟩)) [(1, .pointer (some ⟨b6, 0, none⟩))] 1 [none] rfl rfl (by kernel_rfl) rfl (by kernel_rfl) (by kernel_rfl) fun G a w S => ?_
          refine sField (b := b6) (off := 0) 1 1 S (wN rfl) rfl (by kernel_rfl) (by kernel_rfl) rfl rfl (by decide) (fun a S => ?_)
          exact leafL ⟨rfl, S⟩
        · refine fI 15 (.int .i64 p0.H) [(14, .pointer (some ⟨b6, 1, none⟩))] 2 [some 1] rfl rfl (by kernel_rfl) rfl (by kernel_rfl) (by kernel_rfl) fun G a w S => ?_
          refine sLoad1 (p := b6) (off := 1) (T := 24) (vs := [.int .i64 p0.W, .int .i64 p0.H, .slice ad3 p0.Bits.length cp4]) 1 (.int .i64 p0.H) S (wN rfl) rfl (by kernel_rfl) (by kernel_rfl) (by kernel_rfl) rfl rfl (by decide) (fun a S => ?_)
          exact leafL ⟨rfl, S⟩
        · refine ⟨_, [(15, .int .i64 p0.H)], rfl, (srcs_of [some 2] rfl (by kernel_rfl) (by kernel_rfl)), fun G a w S => ?_⟩
          refine sMake (r := (rI .i64)) (m := p0.H) (xs := m23) (.int .i64 0) (0 : Int) 8 S (wN rfl) rfl Try.underlying27 (by kernel_rfl) rfl (by decide) (fun _ _ => rfl) (by kernel_rfl) (by kernel_rfl) hx24 rfl (by decide) (fun a w ad35 cp36 S => ?_)
          refine leafL ⟨rfl, _, _, .inl ⟨16, (.slice ad35 m23.length cp36), [(6, 5, .slice ad35 m23.length cp36), (7, 6, .slice ad33 m27.length cp34)], rfl, S, hz_of (by kernel_rfl), ?_⟩⟩
          refine node_by (A := anc_raddleref24_Turns_0) (nf := [2, 5]) (Y := [2, 5]) 8 (by kernel_rfl) (by kernel_rfl) (by kernel_rfl) (by kernel_rfl) (by kernel_rfl) [6, 7, 2, 5, 0, 1, 3, 4] (by kernel_rfl) (by decide) (by decide) (aD 0 7 2 (by decide) (aD 1 6 2 (by decide) (aY 2 5 (by decide) (aD 3 4 5 (by decide) (aD 4 3 5 (by decide) (aY 5 2 (by decide) (aF 6 1 (by decide) ?_ (aF 7 0 (by decide) ?_ (trivial))))))))) [(1, .pointer (some ⟨b6, 0, none⟩)), (5, .slice ad35 m23.length cp36), (6, .slice ad33 m27.length cp34)] (fin_of [none, some 0, some 1] rfl (by kernel_rfl) (by kernel_rfl)) (fun _ a w S => ?_)
          · refine fI 5 (.slice ad35 m23.length cp36) [(16, .slice ad35 m23.length cp36)] 0 [some 2] rfl rfl (by kernel_rfl) rfl (by kernel_rfl) (by kernel_rfl) fun G a w S => ?_
            refine sMove (.slice ad35 m23.length cp36) S (wN rfl) (.inr rfl) (by kernel_rfl) rfl (by decide) (fun a S => ?_)
            exact leafL ⟨rfl, S⟩
          · refine fI 6 (.slice ad33 m27.length cp34) [(19, .slice ad33 m27.length cp34)] 1 [some 3] rfl rfl (by kernel_rfl) rfl (by kernel_rfl) (by kernel_rfl) fun G a w S => ?_
            refine sMove (.slice ad33 m27.length cp34) S (wN rfl) (.inr rfl) (by kernel_rfl) rfl (by decide) (fun a S => ?_)
            exact leafL ⟨rfl, S⟩
          · exact leafT (⟨m23, m27, Option.some.inj h, ad35, cp36, ad33, cp34, S.fix [2, 0, 1] [0] (by decide) (by kernel_rfl) (by kernel_rfl) (by kernel_rfl)⟩)
    · obtain ⟨o13, o16, rfl, ad14, cp15, ad17, cp18, S⟩ := hI
      have h := g20
      clear g20
      try dsimp only at h
      obtain ⟨t43, h, g44⟩ := bindSome h
      refine sCut (fun a w => ∃ o37, ∃ o40, (o37, o40) = t43 ∧ ∃ ad38, ∃ cp39, ∃ ad41, ∃ cp42, St E [] w0 72 a w [(5, .slice ad38 o37.length cp39), (6, .slice ad41 o40.length cp42)] [eRow (rI .i64) 3 (.slice ad38 o37.length cp39) o37, eRow (rI .i64) 3 (.slice ad41 o40.length cp42) o40] []) ?_ (fun a w hI => ?_)
      · refine sSeq (fun K45 hK45 => ?_)
        refine sRegion ?_
        refine sMove (.int .i64 0) S (wN rfl) (.inr rfl) (by kernel_rfl) rfl (by decide) (fun a S => ?_)
        refine leafL (leafT (hK45 _ _ ?_))
        refine wp_block ?_
        obtain ⟨t55, hl, g54⟩ := bindSome h
        refine sLoop hl (fun s0 a w => match s0 with | (s46, s49, s52) => ∃ ad47, ∃ cp48, ∃ ad50, ∃ cp51, St E [] w0 72 a w [(1, .pointer (some ⟨b6, 0, none⟩)), (5, .slice ad47 s46.length cp48), (6, .slice ad50 s49.length cp51), (7, .int .i64 s52)] [eBox b6 24 [.int .i64 p0.W, .int .i64 p0.H, .slice ad3 p0.Bits.length cp4], eRow (rI .i64) 3 (.slice ad47 s46.length cp48) s46, eRow (rI .i64) 3 (.slice ad50 s49.length cp51) s49] [fRep (rL rB) (.slice ad3 p0.Bits.length cp4) p0.Bits]) ⟨ad14, cp15, ad17, cp18, S.fix [0, 1, 2] [0] (by decide) (by kernel_rfl) (by kernel_rfl) (by kernel_rfl)⟩ ?_
        clear hl h
        intro s0 a w c0 hI h hu53
        obtain ⟨s46, s49, s52⟩ := s0
        unfold raddleref24_Turns_l2 at h
        dsimp only at h hI
        obtain ⟨ad47, cp48, ad50, cp51, S⟩ := hI
        refine sSeq (fun K62 hK62 => ?_)
        refine sSeq (fun K63 hK63 => ?_)
        refine sRegion ?_
        refine sMove (.int .i64 s52) S (wN rfl) (.inl rfl) (by kernel_rfl) rfl (by decide) (fun a S => ?_)
        refine sField (b := b6) (off := 0) 1 1 S (wN rfl) rfl (by kernel_rfl) (by kernel_rfl) rfl rfl (by decide) (fun a S => ?_)
        refine sLoad1 (p := b6) (off := 1) (T := 24) (vs := [.int .i64 p0.W, .int .i64 p0.H, .slice ad3 p0.Bits.length cp4]) 0 (.int .i64 p0.H) S (wN rfl) rfl (by kernel_rfl) (by kernel_rfl) (by kernel_rfl) rfl rfl (by decide) (fun a S => ?_)
        refine sBin (.bool (decide (s52 < p0.H))) S (wN rfl) rfl (by kernel_rfl) (by kernel_rfl) (bLt _ _ _ _ .i64 s52 p0.H) rfl (by decide) (fun a S => ?_)
        refine leafL (leafT (hK63 _ _ ?_))
        rcases iteSome h with ⟨hc64, h⟩ | ⟨hc64, h⟩
        · refine sCondT (b := decide (s52 < p0.H)) S (by kernel_rfl) hc64 ?_
          refine wp_skip (leafT (hK62 _ _ ?_))
          obtain ⟨t71, h, g72⟩ := bindSome h
          refine sCut (fun a w => ∃ o65, ∃ o68, (o65, o68) = t71 ∧ ∃ ad66, ∃ cp67, ∃ ad69, ∃ cp70, St E [] w0 72 a w [(1, .pointer (some ⟨b6, 0, none⟩)), (5, .slice ad66 o65.length cp67), (6, .slice ad69 o68.length cp70), (7, .int .i64 s52)] [eBox b6 24 [.int .i64 p0.W, .int .i64 p0.H, .slice ad3 p0.Bits.length cp4], eRow (rI .i64) 3 (.slice ad66 o65.length cp67) o65, eRow (rI .i64) 3 (.slice ad69 o68.length cp70) o68] [fRep (rL rB) (.slice ad3 p0.Bits.length cp4) p0.Bits]) ?_ (fun a w hI => ?_)
          · refine wp_block ?_
            refine sSeq (fun K73 hK73 => ?_)
            refine sRegion ?_
            refine sMove (.int .i64 0) S (wN rfl) (.inr rfl) (by kernel_rfl) rfl (by decide) (fun a S => ?_)
            refine leafL (leafT (hK73 _ _ ?_))
            refine wp_block ?_
            obtain ⟨t83, hl, g82⟩ := bindSome h
            refine sLoop hl (fun s0 a w => match s0 with | (s74, s77, s80) => ∃ ad75, ∃ cp76, ∃ ad78, ∃ cp79, St E [] w0 72 a w [(1, .pointer (some ⟨b6, 0, none⟩)), (5, .slice ad75 s74.length cp76), (6, .slice ad78 s77.length cp79), (7, .int .i64 s52), (8, .int .i64 s80)] [eBox b6 24 [.int .i64 p0.W, .int .i64 p0.H, .slice ad3 p0.Bits.length cp4], eRow (rI .i64) 3 (.slice ad75 s74.length cp76) s74, eRow (rI .i64) 3 (.slice ad78 s77.length cp79) s77] [fRep (rL rB) (.slice ad3 p0.Bits.length cp4) p0.Bits]) ⟨ad47, cp48, ad50, cp51, S.fix [0, 1, 2] [0] (by decide) (by kernel_rfl) (by kernel_rfl) (by kernel_rfl)⟩ ?_
            clear hl h
            intro s0 a w c0 hI h hu81
            obtain ⟨s74, s77, s80⟩ := s0
            unfold raddleref24_Turns_l1 at h
            dsimp only at h hI
            obtain ⟨ad75, cp76, ad78, cp79, S⟩ := hI
            refine sSeq (fun K90 hK90 => ?_)
            refine sSeq (fun K91 hK91 => ?_)
            refine sRegion ?_
            refine sMove (.int .i64 s80) S (wN rfl) (.inl rfl) (by kernel_rfl) rfl (by decide) (fun a S => ?_)
            refine sField (b := b6) (off := 0) 0 0 S (wN rfl) rfl (by kernel_rfl) (by kernel_rfl) rfl rfl (by decide) (fun a S => ?_)
            refine sLoad1 (p := b6) (off := 0) (T := 24) (vs := [.int .i64 p0.W, .int .i64 p0.H, .slice ad3 p0.Bits.length cp4]) 0 (.int .i64 p0.W) S (wN rfl) rfl (by kernel_rfl) (by kernel_rfl) (by kernel_rfl) rfl rfl (by decide) (fun a S => ?_)
            refine sBin (.bool (decide (s80 < p0.W))) S (wN rfl) rfl (by kernel_rfl) (by kernel_rfl) (bLt _ _ _ _ .i64 s80 p0.W) rfl (by decide) (fun a S => ?_)
            refine leafL (leafT (hK91 _ _ ?_))
            rcases iteSome h with ⟨hc92, h⟩ | ⟨hc92, h⟩
            · refine sCondT (b := decide (s80 < p0.W)) S (by kernel_rfl) hc92 ?_
              refine wp_skip (leafT (hK90 _ _ ?_))
              obtain ⟨t99, h, g100⟩ := bindSome h
              refine sCut (fun a w => ∃ o93, ∃ o96, (o93, o96) = t99 ∧ ∃ ad94, ∃ cp95, ∃ ad97, ∃ cp98, St E [] w0 72 a w [(1, .pointer (some ⟨b6, 0, none⟩)), (5, .slice ad94 o93.length cp95), (6, .slice ad97 o96.length cp98), (7, .int .i64 s52), (8, .int .i64 s80)] [eBox b6 24 [.int .i64 p0.W, .int .i64 p0.H, .slice ad3 p0.Bits.length cp4], eRow (rI .i64) 3 (.slice ad94 o93.length cp95) o93, eRow (rI .i64) 3 (.slice ad97 o96.length cp98) o96] [fRep (rL rB) (.slice ad3 p0.Bits.length cp4) p0.Bits]) ?_ (fun a w hI => ?_)
              · refine wp_block ?_
                obtain ⟨t104, h, g105⟩ := bindSome h
                refine sCut (fun a w => ∃ o101, o101 = t104 ∧ ∃ ad102, ∃ cp103, St E [] w0 72 a w [(1, .pointer (some ⟨b6, 0, none⟩)), (5, .slice ad102 o101.length cp103), (6, .slice ad78 s77.length cp79), (7, .int .i64 s52), (8, .int .i64 s80)] [eBox b6 24 [.int .i64 p0.W, .int .i64 p0.H, .slice ad3 p0.Bits.length cp4], eRow (rI .i64) 3 (.slice ad102 o101.length cp103) o101, eRow (rI .i64) 3 (.slice ad78 s77.length cp79) s77] [fRep (rL rB) (.slice ad3 p0.Bits.length cp4) p0.Bits]) ?_ (fun a w hI => ?_)
                · refine sSeq (fun K106 hK106 => ?_)
                  obtain ⟨r107, hx108, h⟩ := bindSome h
                  obtain ⟨r109, hx110, h⟩ := bindSome h
                  obtain ⟨r111, hx112, h⟩ := bindSome h
                  refine sDraw (nf := []) (W := [(0, 32, .agg #[.int .i64 p0.W, .int .i64 p0.H, .slice ad3 p0.Bits.length cp4]), (1, 33, .int .i64 s80), (2, 34, .int .i64 s52), (3, 35, .bool r107), (4, 36, .agg #[.int .i64 p0.W, .int .i64 p0.H, .slice ad3 p0.Bits.length cp4]), (5, 37, .int .i64 s80), (6, 38, .int .i64 (w64 (s80 - 1))), (7, 39, .pointer (some ⟨b6, 0, none⟩)), (8, 40, .int .i64 p0.W), (9, 41, .int .i64 r109), (10, 42, .int .i64 s52), (11, 43, .bool r111), (12, 44, .bool (r107 != r111))]) (by kernel_rfl) S ?_
                  refine node_by (A := anc_raddleref24_Turns_1) (nf := []) (Y := []) (W := [(0, 32, .agg #[.int .i64 p0.W, .int .i64 p0.H, .slice ad3 p0.Bits.length cp4]), (1, 33, .int .i64 s80), (2, 34, .int .i64 s52), (3, 35, .bool r107), (4, 36, .agg #[.int .i64 p0.W, .int .i64 p0.H, .slice ad3 p0.Bits.length cp4]), (5, 37, .int .i64 s80), (6, 38, .int .i64 (w64 (s80 - 1))), (7, 39, .pointer (some ⟨b6, 0, none⟩)), (8, 40, .int .i64 p0.W), (9, 41, .int .i64 r109), (10, 42, .int .i64 s52), (11, 43, .bool r111), (12, 44, .bool (r107 != r111))]) 13 (by kernel_rfl) (by kernel_rfl) (by kernel_rfl) (by kernel_rfl) (by kernel_rfl) [0, 1, 2, 3, 4, 5, 6, 7, 8, 9, 10, 11, 12] (by kernel_rfl) (by decide) (by decide) (aF 0 12 (by decide) ?_ (aF 1 11 (by decide) ?_ (aF 2 10 (by decide) ?_ (aF 3 9 (by decide) ?_ (aF 4 8 (by decide) ?_ (aF 5 7 (by decide) ?_ (aF 6 6 (by decide) ?_ (aF 7 5 (by decide) ?_ (aF 8 4 (by decide) ?_ (aF 9 3 (by decide) ?_ (aF 10 2 (by decide) ?_ (aF 11 1 (by decide) ?_ (aF 12 0 (by decide) ?_ (trivial)))))))))))))) [(1, .pointer (some ⟨b6, 0, none⟩)), (5, .slice ad75 s74.length cp76), (6, .slice ad78 s77.length cp79), (7, .int .i64 s52), (8, .int .i64 s80), (44, .bool (r107 != r111))] (fin_of [none, none, none, none, none, some 12] rfl (by kernel_rfl) (by kernel_rfl)) (fun _ a w S => ?_)
                  · refine fI 32 (.agg #[.int .i64 p0.W, .int .i64 p0.H, .slice ad3 p0.Bits.length cp4]) [(1, .pointer (some ⟨b6, 0, none⟩))] 0 [none] rfl rfl (by kernel_rfl) rfl (by kernel_rfl) (by kernel_rfl) fun G a w S => ?_
                    refine sLoadN (p := b6) (off := 0) (T := 24) (vs := [.int .i64 p0.W, .int .i64 p0.H, .slice ad3 p0.Bits.length cp4]) 0 [.int .i64 p0.W, .int .i64 p0.H, .slice ad3 p0.Bits.length cp4] S (wN rfl) rfl (by kernel_rfl) (by kernel_rfl) (by kernel_rfl) (by kernel_rfl) rfl rfl (by decide) (fun a S => ?_)
                    exact leafL ⟨rfl, S⟩
                  · refine fI 33 (.int .i64 s80) [(8, .int .i64 s80)] 1 [none] rfl rfl (by kernel_rfl) rfl (by kernel_rfl) (by kernel_rfl) fun G a w S => ?_
                    refine sMove (.int .i64 s80) S (wN rfl) (.inl rfl) (by kernel_rfl) rfl (by decide) (fun a S => ?_)
                    exact leafL ⟨rfl, S⟩
                  · refine fI 34 (.int .i64 s52) [(7, .int .i64 s52)] 2 [none] rfl rfl (by kernel_rfl) rfl (by kernel_rfl) (by kernel_rfl) fun G a w S => ?_
                    refine sMove (.int .i64 s52) S (wN rfl) (.inl rfl) (by kernel_rfl) rfl (by decide) (fun a S => ?_)
                    exact leafL ⟨rfl, S⟩
                  · refine fI 35 (.bool r107) [(32, .agg #[.int .i64 p0.W, .int .i64 p0.H, .slice ad3 p0.Bits.length cp4]), (33, .int .i64 s80), (34, .int .i64 s52)] 3 [some 0, some 1, some 2] rfl rfl (by kernel_rfl) rfl (by kernel_rfl) (by kernel_rfl) fun G a w S => ?_
                    have S1 := S.mem
                    have S1 := S1.learn (fRep r_api_Grid (.agg #[.int .i64 p0.W, .int .i64 p0.H, .slice ad3 p0.Bits.length cp4]) p0) ⟨_, rfl, S1.know (i := 0) (e := fRep (rL rB) (.slice ad3 p0.Bits.length cp4) p0.Bits) (by kernel_rfl)⟩
                    refine sCallQ (X := Unit) (f := 37) (vs := [.agg #[.int .i64 p0.W, .int .i64 p0.H, .slice ad3 p0.Bits.length cp4], .int .i64 s80, .int .i64 s52]) (val := fun _ => .bool r107) S (wN rfl) rfl callee37 (by kernel_rfl) (S1.quiet [0] (by kernel_rfl)) (fun E1 w1 S1 => c_raddleref01_At E1 w1 p0 (.agg #[.int .i64 p0.W, .int .i64 p0.H, .slice ad3 p0.Bits.length cp4]) s80 s52 r107 hx108 S1) rfl (by decide) (fun _ a w S => ?_)
                    exact leafL ⟨rfl, S⟩
                  · refine fI 36 (.agg #[.int .i64 p0.W, .int .i64 p0.H, .slice ad3 p0.Bits.length cp4]) [(1, .pointer (some ⟨b6, 0, none⟩))] 4 [none] rfl rfl (by kernel_rfl) rfl (by kernel_rfl) (by kernel_rfl) fun G a w S => ?_
                    refine sLoadN (p := b6) (off := 0) (T := 24) (vs := [.int .i64 p0.W, .int .i64 p0.H, .slice ad3 p0.Bits.length cp4]) 0 [.int .i64 p0.W, .int .i64 p0.H, .slice ad3 p0.Bits.length cp4] S (wN rfl) rfl (by kernel_rfl) (by kernel_rfl) (by kernel_rfl) (by kernel_rfl) rfl rfl (by decide) (fun a S => ?_)
                    exact leafL ⟨rfl, S⟩
                  · refine fI 37 (.int .i64 s80) [(8, .int .i64 s80)] 5 [none] rfl rfl (by kernel_rfl) rfl (by kernel_rfl) (by kernel_rfl) fun G a w S => ?_
                    refine sMove (.int .i64 s80) S (wN rfl) (.inl rfl) (by kernel_rfl) rfl (by decide) (fun a S => ?_)
                    exact leafL ⟨rfl, S⟩
                  · refine fI 38 (.int .i64 (w64 (s80 - 1))) [(37, .int .i64 s80)] 6 [some 5] rfl rfl (by kernel_rfl) rfl (by kernel_rfl) (by kernel_rfl) fun G a w S => ?_
                    refine sBin (.int .i64 (w64 (s80 - 1))) S (wN rfl) rfl (by kernel_rfl) (by kernel_rfl) (bSub _ _ _ _ s80 1) rfl (by decide) (fun a S => ?_)
                    exact leafL ⟨rfl, S⟩
                  · refine fI 39 (.pointer (some ⟨b6, 0, none⟩)) [(1, .pointer (some ⟨b6, 0, none⟩))] 7 [none] rfl rfl (by kernel_rfl) rfl (by kernel_rfl) (by kernel_rfl) fun G a w S => ?_
                    refine sField (b := b6) (off := 0) 0 0 S (wN rfl) rfl (by kernel_rfl) (by kernel_rfl) rfl rfl (by decide) (fun a S => ?_)
                    exact leafL ⟨rfl, S⟩
                  · refine fI 40 (.int .i64 p0.W) [(39, .pointer (some ⟨b6, 0, none⟩))] 8 [some 7] rfl rfl (by kernel_rfl) rfl (by kernel_rfl) (by kernel_rfl) fun G a w S => ?_
                    refine sLoad1 (p := b6) (off := 0) (T := 24) (vs := [.int .i64 p0.W, .int .i64 p0.H, .slice ad3 p0.Bits.length cp4]) 0 (.int .i64 p0.W) S (wN rfl) rfl (by kernel_rfl) (by kernel_rfl) (by kernel_rfl) rfl rfl (by decide) (fun a S => ?_)
                    exact leafL ⟨rfl, S⟩
                  · refine fI 41 (.int .i64 r109) [(38, .int .i64 (w64 (s80 - 1))), (40, .int .i64 p0.W)] 9 [some 6, some 8] rfl rfl (by kernel_rfl) rfl (by kernel_rfl) (by kernel_rfl) fun G a w S => ?_
                    have S1 := S.mem
                    refine sCallQ (X := Unit) (f := 38) (vs := [.int .i64 (w64 (s80 - 1)), .int .i64 p0.W]) (val := fun _ => .int .i64 r109) S (wN rfl) rfl callee38 (by kernel_rfl) (S1.quiet [] (by kernel_rfl)) (fun E1 w1 S1 => c_raddleref01_Mod E1 w1 (w64 (s80 - 1)) p0.W r109 hx110 S1) rfl (by decide) (fun _ a w S => ?_)
                    exact leafL ⟨rfl, S⟩
                  · refine fI 42 (.int .i64 s52) [(7, .int .i64 s52)] 10 [none] rfl rfl (by kernel_rfl) rfl (by kernel_rfl) (by kernel_rfl) fun G a w S => ?_
                    refine sMove (.int .i64 s52) S (wN rfl) (.inl rfl) (by kernel_rfl) rfl (by decide) (fun a S => ?_)
                    exact leafL ⟨rfl, S⟩
                  · refine fI 43 (.bool r111) [(36, .agg #[.int .i64 p0.W, .int .i64 p0.H, .slice ad3 p0.Bits.length cp4]), (41, .int .i64 r109), (42, .int .i64 s52)] 11 [some 4, some 9, some 10] rfl rfl (by kernel_rfl) rfl (by kernel_rfl) (by kernel_rfl) fun G a w S => ?_
                    have S1 := S.mem
                    have S1 := S1.learn (fRep r_api_Grid (.agg #[.int .i64 p0.W, .int .i64 p0.H, .slice ad3 p0.Bits.length cp4]) p0) ⟨_, rfl, S1.know (i := 0) (e := fRep (rL rB) (.slice ad3 p0.Bits.length cp4) p0.Bits) (by kernel_rfl)⟩
                    refine sCallQ (X := Unit) (f := 37) (vs := [.agg #[.int .i64 p0.W, .int .i64 p0.H, .slice ad3 p0.Bits.length cp4], .int .i64 r109, .int .i64 s52]) (val := fun _ => .bool r111) S (wN rfl) rfl callee37 (by kernel_rfl) (S1.quiet [0] (by kernel_rfl)) (fun E1 w1 S1 => c_raddleref01_At E1 w1 p0 (.agg #[.int .i64 p0.W, .int .i64 p0.H, .slice ad3 p0.Bits.length cp4]) r109 s52 r111 hx112 S1) rfl (by decide) (fun _ a w S => ?_)
                    exact leafL ⟨rfl, S⟩
                  · refine fI 44 (.bool (r107 != r111)) [(35, .bool r107), (43, .bool r111)] 12 [some 3, some 11] rfl rfl (by kernel_rfl) rfl (by kernel_rfl) (by kernel_rfl) fun G a w S => ?_
                    refine sBin (.bool (r107 != r111)) S (wN rfl) rfl (by kernel_rfl) (by kernel_rfl) (bNeB _ _ _ _ Try.underlying4 r107 r111) rfl (by decide) (fun a S => ?_)
                    exact leafL ⟨rfl, S⟩
                  · refine leafT (hK106 _ _ ?_)
                    rcases iteSome h with ⟨hc113, h⟩ | ⟨hc113, h⟩
                    · refine sCondT (b := r107 != r111) S (by kernel_rfl) hc113 ?_
                      refine sRegion ?_
                      refine sMove (.slice ad75 s74.length cp76) S (wN rfl) (.inl rfl) (by kernel_rfl) rfl (by decide) (fun a S => ?_)
                      refine sMove (.int .i64 s52) S (wN rfl) (.inl rfl) (by kernel_rfl) rfl (by decide) (fun a S => ?_)
                      obtain ⟨x114, hx115, h⟩ := bindSome h
                      obtain ⟨q116, hq117, hp118⟩ := pIdxR (P := Try.prog) (r := (rI .i64)) (T := 3) (v := .slice ad75 s74.length cp76) (xs := s74) (j := s52) 27 3 1 S Try.underlying27 (by kernel_rfl) (by kernel_rfl) hx115
                      refine sIdxV (v := .slice ad75 s74.length cp76) (k := .i64) (j := s52) S (wN rfl) rfl (by kernel_rfl) (by kernel_rfl) hq117 rfl (by decide) (fun a S => ?_)
                      refine sLoadR (r := (rI .i64)) (T := 3) (xs := s74) (x := x114) (v := .slice ad75 s74.length cp76) (vq := q116) (j := s52) 1 (.int .i64 x114) S hp118 (wN rfl) rfl (by kernel_rfl) (by kernel_rfl) hx115 (fun _ _ _ h => h) (scal_I _) (by kernel_rfl) rfl (by decide) (fun a S => ?_)
                      refine sBin (.int .i64 (w64 (x114 + 1))) S (wN rfl) rfl (by kernel_rfl) (by kernel_rfl) (bAdd _ _ _ _ x114 1) rfl (by decide) (fun a S => ?_)
                      obtain ⟨q119, hq120, hp121⟩ := pIdxR (P := Try.prog) (r := (rI .i64)) (T := 3) (v := .slice ad75 s74.length cp76) (xs := s74) (j := s52) 27 3 1 S Try.underlying27 (by kernel_rfl) (by kernel_rfl) hx115
                      refine sIdxV (v := .slice ad75 s74.length cp76) (k := .i64) (j := s52) S (wN rfl) rfl (by kernel_rfl) (by kernel_rfl) hq120 rfl (by decide) (fun a S => ?_)
                      obtain ⟨l122, hx123, h⟩ := bindSome h
                      refine sStoreR (r := (rI .i64)) (T := 3) (xs := s74) (ys := l122) (y := (w64 (x114 + 1))) (v := .slice ad75 s74.length cp76) (vq := q119) (u := .int .i64 (w64 (x114 + 1))) (j := s52) 1 S hp121 (wN rfl) rfl (by kernel_rfl) (by kernel_rfl) (by kernel_rfl) rfl hx123 (by kernel_rfl) rfl (fun a w S => ?_)
                      rw [setO_v hx123 ad75 cp76] at S
                      exact leafL (leafT (⟨l122, Option.some.inj h, ad75, cp76, S.fix [1, 0, 2] [0] (by decide) (by kernel_rfl) (by kernel_rfl) (by kernel_rfl)⟩))
                    · refine sCondF (b := r107 != r111) S (by kernel_rfl) hc113 ?_
                      exact wp_skip (leafT (⟨s74, Option.some.inj h, ad75, cp76, S.fix [0, 1, 2] [0] (by decide) (by kernel_rfl) (by kernel_rfl) (by kernel_rfl)⟩))
                · obtain ⟨o101, rfl, ad102, cp103, S⟩ := hI
                  have h := g105
                  clear g105
                  try dsimp only at h
                  refine sSeq (fun K124 hK124 => ?_)
                  obtain ⟨r125, hx126, h⟩ := bindSome h
                  obtain ⟨r127, hx128, h⟩ := bindSome h
                  obtain ⟨r129, hx130, h⟩ := bindSome h
                  refine sDraw (nf := []) (W := [(0, 51, .agg #[.int .i64 p0.W, .int .i64 p0.H, .slice ad3 p0.Bits.length cp4]), (1, 52, .int .i64 s80), (2, 53, .int .i64 s52), (3, 54, .bool r125), (4, 55, .agg #[.int .i64 p0.W, .int .i64 p0.H, .slice ad3 p0.Bits.length cp4]), (5, 56, .int .i64 s80), (6, 57, .int .i64 s52), (7, 58, .int .i64 (w64 (s52 - 1))), (8, 59, .pointer (some ⟨b6, 1, none⟩)), (9, 60, .int .i64 p0.H), (10, 61, .int .i64 r127), (11, 62, .bool r129), (12, 63, .bool (r125 != r129))]) (by kernel_rfl) S ?_
                  refine node_by (A := anc_raddleref24_Turns_2) (nf := []) (Y := []) (W := [(0, 51, .agg #[.int .i64 p0.W, .int .i64 p0.H, .slice ad3 p0.Bits.length cp4]), (1, 52, .int .i64 s80), (2, 53, .int .i64 s52), (3, 54, .bool r125), (4, 55, .agg #[.int .i64 p0.W, .int .i64 p0.H, .slice ad3 p0.Bits.length cp4]), (5, 56, .int .i64 s80), (6, 57, .int .i64 s52), (7, 58, .int .i64 (w64 (s52 - 1))), (8, 59, .pointer (some ⟨b6, 1, none⟩)), (9, 60, .int .i64 p0.H), (10, 61, .int .i64 r127), (11, 62, .bool r129), (12, 63, .bool (r125 != r129))]) 13 (by kernel_rfl) (by kernel_rfl) (by kernel_rfl) (by kernel_rfl) (by kernel_rfl) [0, 1, 2, 3, 4, 5, 6, 7, 8, 9, 10, 11, 12] (by kernel_rfl) (by decide) (by decide) (aF 0 12 (by decide) ?_ (aF 1 11 (by decide) ?_ (aF 2 10 (by decide) ?_ (aF 3 9 (by decide) ?_ (aF 4 8 (by decide) ?_ (aF 5 7 (by decide) ?_ (aF 6 6 (by decide) ?_ (aF 7 5 (by decide) ?_ (aF 8 4 (by decide) ?_ (aF 9 3 (by decide) ?_ (aF 10 2 (by decide) ?_ (aF 11 1 (by decide) ?_ (aF 12 0 (by decide) ?_ (trivial)))))))))))))) [(1, .pointer (some ⟨b6, 0, none⟩)), (5, .slice ad102 o101.length cp103), (6, .slice ad78 s77.length cp79), (7, .int .i64 s52), (8, .int .i64 s80), (63, .bool (r125 != r129))] (fin_of [none, none, none, none, none, some 12] rfl (by kernel_rfl) (by kernel_rfl)) (fun _ a w S => ?_)
                  · refine fI 51 (.agg #[.int .i64 p0.W, .int .i64 p0.H, .slice ad3 p0.Bits.length cp4]) [(1, .pointer (some ⟨b6, 0, none⟩))] 0 [none] rfl rfl (by kernel_rfl) rfl (by kernel_rfl) (by kernel_rfl) fun G a w S => ?_
                    refine sLoadN (p := b6) (off := 0) (T := 24) (vs := [.int .i64 p0.W, .int .i64 p0.H, .slice ad3 p0.Bits.length cp4]) 0 [.int .i64 p0.W, .int .i64 p0.H, .slice ad3 p0.Bits.length cp4] S (wN rfl) rfl (by kernel_rfl) (by kernel_rfl) (by kernel_rfl) (by kernel_rfl) rfl rfl (by decide) (fun a S => ?_)
                    exact leafL ⟨rfl, S⟩
                  · refine fI 52 (.int .i64 s80) [(8, .int .i64 s80)] 1 [none] rfl rfl (by kernel_rfl) rfl (by kernel_rfl) (by kernel_rfl) fun G a w S => ?_
                    refine sMove (.int .i64 s80) S (wN rfl) (.inl rfl) (by kernel_rfl) rfl (by decide) (fun a S => ?_)
                    exact leafL ⟨rfl, S⟩
                  · refine fI 53 (.int .i64 s52) [(7, .int .i64 s52)] 2 [none] rfl rfl (by kernel_rfl) rfl (by kernel_rfl) (by kernel_rfl) fun G a w S => ?_
                    refine sMove (.int .i64 s52) S (wN rfl) (.inl rfl) (by kernel_rfl) rfl (by decide) (fun a S => ?_)
                    exact leafL ⟨rfl, S⟩
                  · refine fI 54 (.bool r125) [(51, .agg #[.int .i64 p0.W, .int .i64 p0.H, .slice ad3 p0.Bits.length cp4]), (52, .int .i64 s80), (53, .int .i64 s52)] 3 [some 0, some 1, some 2] rfl rfl (by kernel_rfl) rfl (by kernel_rfl) (by kernel_rfl) fun G a w S => ?_
                    have S1 := S.mem
                    have S1 := S1.learn (fRep r_api_Grid (.agg #[.int .i64 p0.W, .int .i64 p0.H, .slice ad3 p0.Bits.length cp4]) p0) ⟨_, rfl, S1.know (i := 0) (e := fRep (rL rB) (.slice ad3 p0.Bits.length cp4) p0.Bits) (by kernel_rfl)⟩
                    refine sCallQ (X := Unit) (f := 37) (vs := [.agg #[.int .i64 p0.W, .int .i64 p0.H, .slice ad3 p0.Bits.length cp4], .int .i64 s80, .int .i64 s52]) (val := fun _ => .bool r125) S (wN rfl) rfl callee37 (by kernel_rfl) (S1.quiet [0] (by kernel_rfl)) (fun E1 w1 S1 => c_raddleref01_At E1 w1 p0 (.agg #[.int .i64 p0.W, .int .i64 p0.H, .slice ad3 p0.Bits.length cp4]) s80 s52 r125 hx126 S1) rfl (by decide) (fun _ a w S => ?_)
                    exact leafL ⟨rfl, S⟩
                  · refine fI 55 (.agg #[.int .i64 p0.W, .int .i64 p0.H, .slice ad3 p0.Bits.length cp4]) [(1, .pointer (some ⟨b6, 0, none⟩))] 4 [none] rfl rfl (by kernel_rfl) rfl (by kernel_rfl) (by kernel_rfl) fun G a w S => ?_
                    refine sLoadN (p := b6) (off := 0) (T := 24) (vs := [.int .i64 p0.W, .int .i64 p0.H, .slice ad3 p0.Bits.length cp4]) 0 [.int .i64 p0.W, .int .i64 p0.H, .slice ad3 p0.Bits.length cp4] S (wN rfl) rfl (by kernel_rfl) (by kernel_rfl) (by kernel_rfl) (by kernel_rfl) rfl rfl (by decide) (fun a S => ?_)
                    exact leafL ⟨rfl, S⟩
                  · refine fI 56 (.int .i64 s80) [(8, .int .i64 s80)] 5 [none] rfl rfl (by kernel_rfl) rfl (by kernel_rfl) (by kernel_rfl) fun G a w S => ?_
                    refine sMove (.int .i64 s80) S (wN rfl) (.inl rfl) (by kernel_rfl) rfl (by decide) (fun a S => ?_)
                    exact leafL ⟨rfl, S⟩
                  · refine fI 57 (.int .i64 s52) [(7, .int .i64 s52)] 6 [none] rfl rfl (by kernel_rfl) rfl (by kernel_rfl) (by kernel_rfl) fun G a w S => ?_
                    refine sMove (.int .i64 s52) S (wN rfl) (.inl rfl) (by kernel_rfl) rfl (by decide) (fun a S => ?_)
                    exact leafL ⟨rfl, S⟩
                  · refine fI 58 (.int .i64 (w64 (s52 - 1))) [(57, .int .i64 s52)] 7 [some 6] rfl rfl (by kernel_rfl) rfl (by kernel_rfl) (by kernel_rfl) fun G a w S => ?_
                    refine sBin (.int .i64 (w64 (s52 - 1))) S (wN rfl) rfl (by kernel_rfl) (by kernel_rfl) (bSub _ _ _ _ s52 1) rfl (by decide) (fun a S => ?_)
                    exact leafL ⟨rfl, S⟩
                  · refine fI 59 (.pointer (some ⟨b6, 1, none⟩)) [(1, .pointer (some ⟨b6, 0, none⟩))] 8 [none] rfl rfl (by kernel_rfl) rfl (by kernel_rfl) (by kernel_rfl) fun G a w S => ?_
                    refine sField (b := b6) (off := 0) 1 1 S (wN rfl) rfl (by kernel_rfl) (by kernel_rfl) rfl rfl (by decide) (fun a S => ?_)
                    exact leafL ⟨rfl, S⟩
                  · refine fI 60 (.int .i64 p0.H) [(59, .pointer (some ⟨b6, 1, none⟩))] 9 [some 8] rfl rfl (by kernel_rfl) rfl (by kernel_rfl) (by kernel_rfl) fun G a w S => ?_
                    refine sLoad1 (p := b6) (off := 1) (T := 24) (vs := [.int .i64 p0.W, .int .i64 p0.H, .slice ad3 p0.Bits.length cp4]) 0 (.int .i64 p0.H) S (wN rfl) rfl (by kernel_rfl) (by kernel_rfl) (by kernel_rfl) rfl rfl (by decide) (fun a S => ?_)
                    exact leafL ⟨rfl, S⟩
                  · refine fI 61 (.int .i64 r127) [(58, .int .i64 (w64 (s52 - 1))), (60, .int .i64 p0.H)] 10 [some 7, some 9] rfl rfl (by kernel_rfl) rfl (by kernel_rfl) (by kernel_rfl) fun G a w S => ?_
                    have S1 := S.mem
                    refine sCallQ (X := Unit) (f := 38) (vs := [.int .i64 (w64 (s52 - 1)), .int .i64 p0.H]) (val := fun _ => .int .i64 r127) S (wN rfl) rfl callee38 (by kernel_rfl) (S1.quiet [] (by kernel_rfl)) (fun E1 w1 S1 => c_raddleref01_Mod E1 w1 (w64 (s52 - 1)) p0.H r127 hx128 S1) rfl (by decide) (fun _ a w S => ?_)
                    exact leafL ⟨rfl, S⟩
                  · refine fI 62 (.bool r129) [(55, .agg #[.int .i64 p0.W, .int .i64 p0.H, .slice ad3 p0.Bits.length cp4]), (56, .int .i64 s80), (61, .int .i64 r127)] 11 [some 4, some 5, some 10] rfl rfl (by kernel_rfl) rfl (by kernel_rfl) (by kernel_rfl) fun G a w S => ?_
                    have S1 := S.mem
                    have S1 := S1.learn (fRep r_api_Grid (.agg #[.int .i64 p0.W, .int .i64 p0.H, .slice ad3 p0.Bits.length cp4]) p0) ⟨_, rfl, S1.know (i := 0) (e := fRep (rL rB) (.slice ad3 p0.Bits.length cp4) p0.Bits) (by kernel_rfl)⟩
                    refine sCallQ (X := Unit) (f := 37) (vs := [.agg #[.int .i64 p0.W, .int .i64 p0.H, .slice ad3 p0.Bits.length cp4], .int .i64 s80, .int .i64 r127]) (val := fun _ => .bool r129) S (wN rfl) rfl callee37 (by kernel_rfl) (S1.quiet [0] (by kernel_rfl)) (fun E1 w1 S1 => c_raddleref01_At E1 w1 p0 (.agg #[.int .i64 p0.W, .int .i64 p0.H, .slice ad3 p0.Bits.length cp4]) s80 r127 r129 hx130 S1) rfl (by decide) (fun _ a w S => ?_)
                    exact leafL ⟨rfl, S⟩
                  · refine fI 63 (.bool (r125 != r129)) [(54, .bool r125), (62, .bool r129)] 12 [some 3, some 11] rfl rfl (by kernel_rfl) rfl (by kernel_rfl) (by kernel_rfl) fun G a w S => ?_
                    refine sBin (.bool (r125 != r129)) S (wN rfl) rfl (by kernel_rfl) (by kernel_rfl) (bNeB _ _ _ _ Try.underlying4 r125 r129) rfl (by decide) (fun a S => ?_)
                    exact leafL ⟨rfl, S⟩
                  · refine leafT (hK124 _ _ ?_)
                    rcases iteSome h with ⟨hc131, h⟩ | ⟨hc131, h⟩
                    · refine sCondT (b := r125 != r129) S (by kernel_rfl) hc131 ?_
                      refine sRegion ?_
                      refine sMove (.slice ad78 s77.length cp79) S (wN rfl) (.inl rfl) (by kernel_rfl) rfl (by decide) (fun a S => ?_)
                      refine sMove (.int .i64 s80) S (wN rfl) (.inl rfl) (by kernel_rfl) rfl (by decide) (fun a S => ?_)
                      obtain ⟨x132, hx133, h⟩ := bindSome h
                      obtain ⟨q134, hq135, hp136⟩ := pIdxR (P := Try.prog) (r := (rI .i64)) (T := 3) (v := .slice ad78 s77.length cp79) (xs := s77) (j := s80) 27 3 2 S Try.underlying27 (by kernel_rfl) (by kernel_rfl) hx133
                      refine sIdxV (v := .slice ad78 s77.length cp79) (k := .i64) (j := s80) S (wN rfl) rfl (by kernel_rfl) (by kernel_rfl) hq135 rfl (by decide) (fun a S => ?_)
                      refine sLoadR (r := (rI .i64)) (T := 3) (xs := s77) (x := x132) (v := .slice ad78 s77.length cp79) (vq := q134) (j := s80) 2 (.int .i64 x132) S hp136 (wN rfl) rfl (by kernel_rfl) (by kernel_rfl) hx133 (fun _ _ _ h => h) (scal_I _) (by kernel_rfl) rfl (by decide) (fun a S => ?_)
                      refine sBin (.int .i64 (w64 (x132 + 1))) S (wN rfl) rfl (by kernel_rfl) (by kernel_rfl) (bAdd _ _ _ _ x132 1) rfl (by decide) (fun a S => ?_)
                      obtain ⟨q137, hq138, hp139⟩ := pIdxR (P := Try.prog) (r := (rI .i64)) (T := 3) (v := .slice ad78 s77.length cp79) (xs := s77) (j := s80) 27 3 2 S Try.underlying27 (by kernel_rfl) (by kernel_rfl) hx133
                      refine sIdxV (v := .slice ad78 s77.length cp79) (k := .i64) (j := s80) S (wN rfl) rfl (by kernel_rfl) (by kernel_rfl) hq138 rfl (by decide) (fun a S => ?_)
                      obtain ⟨l140, hx141, h⟩ := bindSome h
                      refine sStoreR (r := (rI .i64)) (T := 3) (xs := s77) (ys := l140) (y := (w64 (x132 + 1))) (v := .slice ad78 s77.length cp79) (vq := q137) (u := .int .i64 (w64 (x132 + 1))) (j := s80) 2 S hp139 (wN rfl) rfl (by kernel_rfl) (by kernel_rfl) (by kernel_rfl) rfl hx141 (by kernel_rfl) rfl (fun a w S => ?_)
                      rw [setO_v hx141 ad78 cp79] at S
                      exact leafL (leafB (leafT (⟨o101, l140, Option.some.inj h, ad102, cp103, ad78, cp79, S.fix [1, 2, 0] [0] (by decide) (by kernel_rfl) (by kernel_rfl) (by kernel_rfl)⟩)))
                    · refine sCondF (b := r125 != r129) S (by kernel_rfl) hc131 ?_
                      exact wp_skip (leafB (leafT (⟨o101, s77, Option.some.inj h, ad102, cp103, ad78, cp79, S.fix [0, 1, 2] [0] (by decide) (by kernel_rfl) (by kernel_rfl) (by kernel_rfl)⟩)))
              · obtain ⟨o93, o96, rfl, ad94, cp95, ad97, cp98, S⟩ := hI
                have h := g100
                clear g100
                try dsimp only at h
                refine sRegion ?_
                refine sMove (.int .i64 s80) S (wN rfl) (.inl rfl) (by kernel_rfl) rfl (by decide) (fun a S => ?_)
                refine sBin (.int .i64 (w64 (s80 + 1))) S (wN rfl) rfl (by kernel_rfl) (by kernel_rfl) (bAdd _ _ _ _ s80 1) rfl (by decide) (fun a S => ?_)
                refine sMove (.int .i64 (w64 (s80 + 1))) S (wN rfl) (.inr rfl) (by kernel_rfl) rfl (by decide) (fun a S => ?_)
                exact leafL (leafT (⟨(o93, o96, w64 (s80 + 1)), (Option.some.inj h).symm, ⟨ad94, cp95, ad97, cp98, S.fix [0, 1, 2] [0] (by decide) (by kernel_rfl) (by kernel_rfl) (by kernel_rfl)⟩⟩))
            · refine sCondF (b := decide (s80 < p0.W)) S (by kernel_rfl) hc92 ?_
              obtain rfl := Option.some.inj h
              obtain rfl := hu81 _ rfl
              have h := g82
              clear g82
              try dsimp only at h
              exact wp_exit (xThen (xThen (xHit (leafB (leafT (⟨s74, s77, Option.some.inj h, ad75, cp76, ad78, cp79, S.fix [0, 1, 2] [0] (by decide) (by kernel_rfl) (by kernel_rfl) (by kernel_rfl)⟩))))))
          · obtain ⟨o65, o68, rfl, ad66, cp67, ad69, cp70, S⟩ := hI
            have h := g72
            clear g72
            try dsimp only at h
            refine sRegion ?_
            refine sMove (.int .i64 s52) S (wN rfl) (.inl rfl) (by kernel_rfl) rfl (by decide) (fun a S => ?_)
            refine sBin (.int .i64 (w64 (s52 + 1))) S (wN rfl) rfl (by kernel_rfl) (by kernel_rfl) (bAdd _ _ _ _ s52 1) rfl (by decide) (fun a S => ?_)
            refine sMove (.int .i64 (w64 (s52 + 1))) S (wN rfl) (.inr rfl) (by kernel_rfl) rfl (by decide) (fun a S => ?_)
            exact leafL (leafT (⟨(o65, o68, w64 (s52 + 1)), (Option.some.inj h).symm, ⟨ad66, cp67, ad69, cp70, S.fix [0, 1, 2] [0] (by decide) (by kernel_rfl) (by kernel_rfl) (by kernel_rfl)⟩⟩))
        · refine sCondF (b := decide (s52 < p0.H)) S (by kernel_rfl) hc64 ?_
          obtain rfl := Option.some.inj h
          obtain rfl := hu53 _ rfl
          have h := g54
          clear g54
          try dsimp only at h
          exact wp_exit (xThen (xThen (xHit (leafT (⟨s46, s49, Option.some.inj h, ad47, cp48, ad50, cp51, S.fix [1, 2] [] (by decide) (by kernel_rfl) (by kernel_rfl) (by kernel_rfl)⟩)))))
      · obtain ⟨o37, o40, rfl, ad38, cp39, ad41, cp42, S⟩ := hI
        have h := g44
        clear g44
        try dsimp only at h
        refine sSeq (fun K142 hK142 => ?_)
        refine sRegion ?_
        refine sMove (.slice ad38 o37.length cp39) S (wN rfl) (.inl rfl) (by kernel_rfl) rfl (by decide) (fun a S => ?_)
        refine sMove (.slice ad41 o40.length cp42) S (wN rfl) (.inl rfl) (by kernel_rfl) rfl (by decide) (fun a S => ?_)
        refine sMove (.slice ad38 o37.length cp39) S (wN rfl) (.inr rfl) (by kernel_rfl) rfl (by decide) (fun a S => ?_)
        refine sMove (.slice ad41 o40.length cp42) S (wN rfl) (.inr rfl) (by kernel_rfl) rfl (by decide) (fun a S => ?_)
        refine sMove (.int .i64 0) S (wN rfl) (.inr rfl) (by kernel_rfl) rfl (by decide) (fun a S => ?_)
        refine leafL (leafT (hK142 _ _ ?_))
        obtain rfl := Option.some.inj h
        have S := S.shutR (r := (rI .i64)) (T := 3) (v := .slice ad38 o37.length cp39) (xs := o37) 0 (by kernel_rfl)
        have S := S.shutR (r := (rI .i64)) (T := 3) (v := .slice ad41 o40.length cp42) (xs := o40) 0 (by kernel_rfl)
        exact wp_ret (sRet (.tuple #[.slice ad38 o37.length cp39, .slice ad41 o40.length cp42, .int .i64 0]) S (rsl3 rfl (rvT (t := 2) (v := .slice ad38 o37.length cp39) S (by kernel_rfl)) (rvT (t := 3) (v := .slice ad41 o40.length cp42) S (by kernel_rfl)) (rvT (t := 4) (v := .int .i64 0) S (by kernel_rfl))) ⟨((.slice ad38 o37.length cp39), (.slice ad41 o40.length cp42)), rfl, S.mem.sel [] [1, 0] (by decide) (by kernel_rfl) (by kernel_rfl)⟩)

end Go.Proofs.Ytjndecalogklhaa
namespace Go.Proofs.Ytjndecalogklhaa
open Go.RowKit
set_option linter.unusedVariables false

noncomputable def raddleref24_total_l1 (p0 : (List Int)) : (Int × Int) → Option ((Int × Int) ⊕ Int) := fun s0 => match s0 with
  | (s9, s10) =>
    if decide (s10 < (p0.length : Int)) then
      Option.bind (idxO p0 s10) fun x19 =>
      some (.inl (w64 (s9 + x19), w64 (s10 + 1)))
    else
      some (.inr s9)
noncomputable def F_raddleref24_total (p0 : (List Int)) : Option Int :=
  Option.bind (α := Int) (
    Option.bind (whileO (raddleref24_total_l1 p0) (0, 0)) fun e14 =>
      some e14) fun o5 =>
  some o5
set_option maxHeartbeats 4000000 in
set_option maxRecDepth 100000 in
theorem c_raddleref24_total (E : Nat → Prop) (w0 : World) (p0 : (List Int)) (v0 : Value) (r : Int) (h : F_raddleref24_total p0 = some r) (S : St0 E [] w0 w0 [] [fRep (rL (rI .i64)) (v0) p0]) :
    Calls Try.prog 42 #[v0] w0 (Ret (X := Unit) E [] w0 (fun _ => .int .i64 r) (fun _ => []) (fun _ => [])) := by
  unfold F_raddleref24_total at h
  obtain ⟨ad1, cp2, _, rfl, _⟩ := S.know (i := 0) (e := fRep (rL (rI .i64)) (v0) p0) (by kernel_rfl)
  refine sEnter (args := [.slice ad1 p0.length cp2]) 18 Try.func42 rfl rfl (by simp) S (fun a S => ?_)
  refine sSeq (fun K3 hK3 => ?_)
  refine sRegion ?_
  refine sMove (.int .i64 0) S (wN rfl) (.inr rfl) (by kernel_rfl) rfl (by decide) (fun a S => ?_)
  refine leafL (leafT (hK3 _ _ ?_))
  refine sSeq (fun K4 hK4 => ?_)
  refine sRegion ?_
  refine sMove (.int .i64 0) S (wN rfl) (.inr rfl) (by kernel_rfl) rfl (by decide) (fun a S => ?_)
  refine leafL (leafT (hK4 _ _ ?_))
  obtain ⟨t6, h, g7⟩ := bindSome h
  refine sCut (fun a w => ∃ o5, o5 = t6 ∧ St E [] w0 18 a w [(3, .int .i64 o5)] [] []) ?_ (fun a w hI => ?_)
  · refine sSeq (fun K8 hK8 => ?_)
    refine sRegion ?_
    refine sMove (.int .i64 0) S (wN rfl) (.inr rfl) (by kernel_rfl) rfl (by decide) (fun a S => ?_)
    refine leafL (leafT (hK8 _ _ ?_))
    refine wp_block ?_
    obtain ⟨t13, hl, g12⟩ := bindSome h
    refine sLoop hl (fun s0 a w => match s0 with | (s9, s10) => St E [] w0 18 a w [(0, .slice ad1 p0.length cp2), (3, .int .i64 s9), (4, .int .i64 s10)] [] [fRep (rL (rI .i64)) (.slice ad1 p0.length cp2) p0]) (S.fix [] [0] (by decide) (by kernel_rfl) (by kernel_rfl) (by kernel_rfl)) ?_
    clear hl h
    intro s0 a w c0 hI h hu11
    obtain ⟨s9, s10⟩ := s0
    unfold raddleref24_total_l1 at h
    dsimp only at h hI
    have S := hI
    refine sSeq (fun K15 hK15 => ?_)
    refine sSeq (fun K16 hK16 => ?_)
    refine sRegion ?_
    refine sMove (.int .i64 s10) S (wN rfl) (.inl rfl) (by kernel_rfl) rfl (by decide) (fun a S => ?_)
    refine sMove (.slice ad1 p0.length cp2) S (wN rfl) (.inl rfl) (by kernel_rfl) rfl (by decide) (fun a S => ?_)
    refine sLen (ad := ad1) (m := p0.length) (c := cp2) S (wN rfl) rfl Try.underlying27 (by kernel_rfl) rfl (by decide) (fun a S => ?_)
    refine sBin (.bool (decide (s10 < (p0.length : Int)))) S (wN rfl) rfl (by kernel_rfl) (by kernel_rfl) (bLt _ _ _ _ .i64 s10 (p0.length : Int)) rfl (by decide) (fun a S => ?_)
    refine leafL (leafT (hK16 _ _ ?_))
    rcases iteSome h with ⟨hc17, h⟩ | ⟨hc17, h⟩
    · refine sCondT (b := decide (s10 < (p0.length : Int))) S (by kernel_rfl) hc17 ?_
      refine wp_skip (leafT (hK15 _ _ ?_))
      refine sSeq (fun K18 hK18 => ?_)
      refine wp_block ?_
      refine sRegion ?_
      refine sMove (.int .i64 s9) S (wN rfl) (.inl rfl) (by kernel_rfl) rfl (by decide) (fun a S => ?_)
      refine sMove (.slice ad1 p0.length cp2) S (wN rfl) (.inl rfl) (by kernel_rfl) rfl (by decide) (fun a S => ?_)
      refine sMove (.int .i64 s10) S (wN rfl) (.inl rfl) (by kernel_rfl) rfl (by decide) (fun a S => ?_)
      obtain ⟨x19, hx20, h⟩ := bindSome h
      obtain ⟨q21, hq22, S⟩ := pIdx (P := Try.prog) (r := (rI .i64)) (v := .slice ad1 p0.length cp2) (xs := p0) (j := s10) 27 3 0 S Try.underlying27 (by kernel_rfl) (by kernel_rfl) hx20
      refine sIdxV (v := .slice ad1 p0.length cp2) (k := .i64) (j := s10) S (wN rfl) rfl (by kernel_rfl) (by kernel_rfl) hq22 rfl (by decide) (fun a S => ?_)
      obtain ⟨u23, S⟩ := pLoad (r := (rI .i64)) (q := q21) (x := x19) 0 S (by kernel_rfl)
      obtain rfl : u23 = .int .i64 x19 := S.mem.know (i := 1) (e := fRep (rI .i64) (u23) x19) (by kernel_rfl)
      refine sLoadV1 (vq := q21) 0 (.int .i64 x19) S (wN rfl) rfl (by kernel_rfl) (by kernel_rfl) (by kernel_rfl) rfl (by decide) (fun a S => ?_)
      refine sBin (.int .i64 (w64 (s9 + x19))) S (wN rfl) rfl (by kernel_rfl) (by kernel_rfl) (bAdd _ _ _ _ s9 x19) rfl (by decide) (fun a S => ?_)
      refine sMove (.int .i64 (w64 (s9 + x19))) S (wN rfl) (.inr rfl) (by kernel_rfl) rfl (by decide) (fun a S => ?_)
      refine leafL (leafB (leafT (hK18 _ _ ?_)))
      refine sRegion ?_
      refine sMove (.int .i64 s10) S (wN rfl) (.inl rfl) (by kernel_rfl) rfl (by decide) (fun a S => ?_)
      refine sBin (.int .i64 (w64 (s10 + 1))) S (wN rfl) rfl (by kernel_rfl) (by kernel_rfl) (bAdd _ _ _ _ s10 1) rfl (by decide) (fun a S => ?_)
      refine sMove (.int .i64 (w64 (s10 + 1))) S (wN rfl) (.inr rfl) (by kernel_rfl) rfl (by decide) (fun a S => ?_)
      exact leafL (leafT (⟨(w64 (s9 + x19), w64 (s10 + 1)), (Option.some.inj h).symm, (S.fix [] [3] (by decide) (by kernel_rfl) (by kernel_rfl) (by kernel_rfl))⟩))
    · refine sCondF (b := decide (s10 < (p0.length : Int))) S (by kernel_rfl) hc17 ?_
      obtain rfl := Option.some.inj h
      obtain rfl := hu11 _ rfl
      have h := g12
      clear g12
      try dsimp only at h
      exact wp_exit (xThen (xThen (xHit (leafT (⟨s9, Option.some.inj h, S.fix [] [] (by decide) (by kernel_rfl) (by kernel_rfl) (by kernel_rfl)⟩)))))
  · obtain ⟨o5, rfl, S⟩ := hI
    have h := g7
    clear g7
    try dsimp only at h
    refine sSeq (fun K24 hK24 => ?_)
    refine sRegion ?_
    refine sMove (.int .i64 o5) S (wN rfl) (.inl rfl) (by kernel_rfl) rfl (by decide) (fun a S => ?_)
    refine sMove (.int .i64 o5) S (wN rfl) (.inr rfl) (by kernel_rfl) rfl (by decide) (fun a S => ?_)
    refine leafL (leafT (hK24 _ _ ?_))
    obtain rfl := Option.some.inj h
    exact wp_ret (sRet (.int .i64 o5) S (rsl1 rfl (rvT (t := 2) (v := .int .i64 o5) S (by kernel_rfl))) ⟨(), rfl, S.mem.sel [] [] (by decide) (by kernel_rfl) (by kernel_rfl)⟩)

end Go.Proofs.Ytjndecalogklhaa
namespace Go.Proofs.Ytjndecalogklhaa
open Go.RowKit
set_option linter.unusedVariables false

noncomputable def F_raddleref24_Setts (p0 : api_Grid) (p1 : Int) : Option (api_Ratio × api_Ratio × Int) :=
  Option.bind (F_raddleref24_Turns p0) fun r10 =>
  if r10.2.2 != 0 then
    some ((api_Ratio.mk 0 0), (api_Ratio.mk 0 0), r10.2.2)
  else
    Option.bind (α := Bool) (
      if decide (p1 < 1) then
        some true
      else
        some (decide (1000 < p1))) fun o23 =>
    if o23 then
      some ((api_Ratio.mk 0 0), (api_Ratio.mk 0 0), 2)
    else
      Option.bind (F_raddleref24_total r10.1) fun r31 =>
      Option.bind (F_raddleref23_Make (w64 (p1 * (w64 (p0.W * p0.H)))) (w64 ((w64 (p0.W * p0.H)) + r31))) fun r33 =>
      Option.bind (F_raddleref24_total r10.2.1) fun r38 =>
      Option.bind (F_raddleref23_Make (w64 (p1 * (w64 (p0.W * p0.H)))) (w64 ((w64 (p0.W * p0.H)) + r38))) fun r40 =>
      some (r33.1, r40.1, 0)
def c_raddleref24_Setts_val (r : (api_Ratio × api_Ratio × Int)) (x : Value × Value) : Value := .tuple #[x.1, x.2, .int .i64 r.2.2]
def c_raddleref24_Setts_D (r : (api_Ratio × api_Ratio × Int)) (x : Value × Value) : List Fact := [fRep r_api_Ratio x.1 r.1, fRep r_api_Ratio x.2 r.2.1]
set_option maxHeartbeats 4000000 in
set_option maxRecDepth 100000 in
theorem c_raddleref24_Setts (E : Nat → Prop) (w0 : World) (p0 : api_Grid) (v0 : Value) (p1 : Int) (r : (api_Ratio × api_Ratio × Int)) (h : F_raddleref24_Setts p0 p1 = some r) (S : St0 E [] w0 w0 [] [fRep r_api_Grid (v0) p0]) :
    Calls Try.prog 14 #[v0, .int .i64 p1] w0 (Ret (X := Value × Value) E [] w0 (c_raddleref24_Setts_val r) (fun _ => []) (c_raddleref24_Setts_D r)) := by
  unfold F_raddleref24_Setts at h
  obtain ⟨u1, rfl, hu2⟩ := S.know (i := 0) (e := fRep r_api_Grid (v0) p0) (by kernel_rfl)
  have S := S.learn (fRep (rL rB) u1 p0.Bits) hu2
  obtain ⟨ad3, cp4, _, rfl, _⟩ := hu2
  refine sEnter (args := [.agg #[.int .i64 p0.W, .int .i64 p0.H, .slice ad3 p0.Bits.length cp4], .int .i64 p1]) 63 Try.func14 rfl rfl (by simp) S (fun a S => ?_)
  refine sSeq (fun K5 hK5 => ?_)
  refine sRegion ?_
  refine sBox (v := .agg #[.int .i64 p0.W, .int .i64 p0.H, .slice ad3 p0.Bits.length cp4]) S (wN rfl) rfl (by kernel_rfl) [.int .i64 p0.W, .int .i64 p0.H, .slice ad3 p0.Bits.length cp4] rfl rfl (by decide) (fun a b6 w S => ?_)
  refine sAlloc (.agg #[.int .i64 0, .int .i64 0]) S (wN rfl) rfl (by kernel_rfl) [.int .i64 0, .int .i64 0] rfl rfl (by decide) (fun a b7 w S => ?_)
  refine sAlloc (.agg #[.int .i64 0, .int .i64 0]) S (wN rfl) rfl (by kernel_rfl) [.int .i64 0, .int .i64 0] rfl rfl (by decide) (fun a b8 w S => ?_)
  refine sMove (.int .i64 0) S (wN rfl) (.inr rfl) (by kernel_rfl) rfl (by decide) (fun a S => ?_)
  refine leafL (leafT (hK5 _ _ ?_))
  refine sSeq (fun K9 hK9 => ?_)
  refine sRegion ?_
  refine sLoadN (p := b6) (off := 0) (T := 24) (vs := [.int .i64 p0.W, .int .i64 p0.H, .slice ad3 p0.Bits.length cp4]) 2 [.int .i64 p0.W, .int .i64 p0.H, .slice ad3 p0.Bits.length cp4] S (wN rfl) rfl (by kernel_rfl) (by kernel_rfl) (by kernel_rfl) (by kernel_rfl) rfl rfl (by decide) (fun a S => ?_)
  obtain ⟨r10, hx11, h⟩ := bindSome h
  refine sCall (X := Value × Value) (f := 12) (vs := [.agg #[.int .i64 p0.W, .int .i64 p0.H, .slice ad3 p0.Bits.length cp4]]) (val := c_raddleref24_Turns_val r10) (B' := fun _ => []) (D' := c_raddleref24_Turns_D r10) [] [eBox b8 34 [.int .i64 0, .int .i64 0], eBox b7 34 [.int .i64 0, .int .i64 0], eBox b6 24 [.int .i64 p0.W, .int .i64 p0.H, .slice ad3 p0.Bits.length cp4]] [fRep r_api_Grid (.agg #[.int .i64 p0.W, .int .i64 p0.H, .slice ad3 p0.Bits.length cp4]) p0] [0, 1, 2] [1] S (wN rfl) rfl callee12 (by kernel_rfl) (by decide) (by kernel_rfl) (by kernel_rfl) (fun E1 w1 S1 => c_raddleref24_Turns E1 w1 p0 (.agg #[.int .i64 p0.W, .int .i64 p0.H, .slice ad3 p0.Bits.length cp4]) r10 hx11 S1) rfl (by decide) (fun xx a w S => ?_)
  obtain ⟨u12, u13⟩ := xx
  obtain ⟨ad14, cp15, _, rfl, _⟩ := S.mem.know (i := 0) (e := fRep (rL (rI .i64)) (u12) r10.1) (by kernel_rfl)
  obtain ⟨ad16, cp17, _, rfl, _⟩ := S.mem.know (i := 1) (e := fRep (rL (rI .i64)) (u13) r10.2.1) (by kernel_rfl)
  refine sMove (.tuple #[.slice ad14 r10.1.length cp15, .slice ad16 r10.2.1.length cp17, .int .i64 r10.2.2]) S (wN rfl) (.inl rfl) (by kernel_rfl) rfl (by decide) (fun a S => ?_)
  refine sExtract (vs := [.slice ad14 r10.1.length cp15, .slice ad16 r10.2.1.length cp17, .int .i64 r10.2.2]) (.slice ad14 r10.1.length cp15) S (wN rfl) rfl (by kernel_rfl) rfl rfl (by decide) (fun a S => ?_)
  refine sExtract (vs := [.slice ad14 r10.1.length cp15, .slice ad16 r10.2.1.length cp17, .int .i64 r10.2.2]) (.slice ad16 r10.2.1.length cp17) S (wN rfl) rfl (by kernel_rfl) rfl rfl (by decide) (fun a S => ?_)
  refine sExtract (vs := [.slice ad14 r10.1.length cp15, .slice ad16 r10.2.1.length cp17, .int .i64 r10.2.2]) (.int .i64 r10.2.2) S (wN rfl) rfl (by kernel_rfl) rfl rfl (by decide) (fun a S => ?_)
  refine sMove (.slice ad14 r10.1.length cp15) S (wN rfl) (.inr rfl) (by kernel_rfl) rfl (by decide) (fun a S => ?_)
  refine sMove (.slice ad16 r10.2.1.length cp17) S (wN rfl) (.inr rfl) (by kernel_rfl) rfl (by decide) (fun a S => ?_)
  refine sMove (.int .i64 r10.2.2) S (wN rfl) (.inr rfl) (by kernel_rfl) rfl (by decide) (fun a S => ?_)
  refine leafL (leafT (hK9 _ _ ?_))
  refine sSeq (fun K18 hK18 => ?_)
  refine sSeq (fun K19 hK19 => ?_)
  refine sRegion ?_
  refine sMove (.int .i64 r10.2.2) S (wN rfl) (.inl rfl) (by kernel_rfl) rfl (by decide) (fun a S => ?_)
  refine sBin (.bool (r10.2.2 != 0)) S (wN rfl) rfl (by kernel_rfl) (by kernel_rfl) (bNe _ _ _ _ .i64 r10.2.2 0) rfl (by decide) (fun a S => ?_)
  refine leafL (leafT (hK19 _ _ ?_))
  rcases iteSome h with ⟨hc20, h⟩ | ⟨hc20, h⟩
  · refine sCondT (b := r10.2.2 != 0) S (by kernel_rfl) hc20 ?_
    refine sSeq (fun K21 hK21 => ?_)
    refine sRegion ?_
    refine sBuild [] [.int .i64 0, .int .i64 0] S (wN rfl) rfl (by kernel_rfl) (by kernel_rfl) rfl (by decide) (fun a S => ?_)
    refine sBuild [] [.int .i64 0, .int .i64 0] S (wN rfl) rfl (by kernel_rfl) (by kernel_rfl) rfl (by decide) (fun a S => ?_)
    refine sMove (.int .i64 r10.2.2) S (wN rfl) (.inl rfl) (by kernel_rfl) rfl (by decide) (fun a S => ?_)
    refine sStore (p := b7) (off := 0) (T := 34) (vs := [.int .i64 0, .int .i64 0]) (v := .agg #[.int .i64 0, .int .i64 0]) 1 [.int .i64 0, .int .i64 0] S (wN rfl) rfl (by kernel_rfl) (by kernel_rfl) rfl (by kernel_rfl) (by kernel_rfl) rfl (by simp) rfl (fun a w S => ?_)
    refine sStore (p := b8) (off := 0) (T := 34) (vs := [.int .i64 0, .int .i64 0]) (v := .agg #[.int .i64 0, .int .i64 0]) 1 [.int .i64 0, .int .i64 0] S (wN rfl) rfl (by kernel_rfl) (by kernel_rfl) rfl (by kernel_rfl) (by kernel_rfl) rfl (by simp) rfl (fun a w S => ?_)
    refine sMove (.int .i64 r10.2.2) S (wN rfl) (.inr rfl) (by kernel_rfl) rfl (by decide) (fun a S => ?_)
    refine leafL (leafT (hK21 _ _ ?_))
    obtain rfl := Option.some.inj h
    have S := S.learn (fRep r_api_Ratio (.agg #[.int .i64 0, .int .i64 0]) (api_Ratio.mk 0 0)) rfl
    exact wp_ret (rThen (sRet (.tuple #[.agg #[.int .i64 0, .int .i64 0], .agg #[.int .i64 0, .int .i64 0], .int .i64 r10.2.2]) S (rsl3 rfl (rvN (c := 4) (t := 34) (T := 34) (p := b7) 1 [.int .i64 0, .int .i64 0] S (by kernel_rfl) (by kernel_rfl) (by kernel_rfl) (by kernel_rfl)) (rvN (c := 5) (t := 34) (T := 34) (p := b8) 0 [.int .i64 0, .int .i64 0] S (by kernel_rfl) (by kernel_rfl) (by kernel_rfl) (by kernel_rfl)) (rvT (t := 6) (v := .int .i64 r10.2.2) S (by kernel_rfl))) ⟨((.agg #[.int .i64 0, .int .i64 0]), (.agg #[.int .i64 0, .int .i64 0])), rfl, S.mem.sel [] [0, 0] (by decide) (by kernel_rfl) (by kernel_rfl)⟩))
  · refine sCondF (b := r10.2.2 != 0) S (by kernel_rfl) hc20 ?_
    refine wp_skip (leafT (hK18 _ _ ?_))
    refine sSeq (fun K22 hK22 => ?_)
    obtain ⟨t24, h, g25⟩ := bindSome h
    refine sCut (fun a w => ∃ o23, o23 = t24 ∧ St E [] w0 63 a w [(1, .int .i64 p1), (2, .pointer (some ⟨b6, 0, none⟩)), (4, .pointer (some ⟨b7, 0, none⟩)), (5, .pointer (some ⟨b8, 0, none⟩)), (7, .slice ad14 r10.1.length cp15), (8, .slice ad16 r10.2.1.length cp17), (31, .bool o23)] [eBox b6 24 [.int .i64 p0.W, .int .i64 p0.H, .slice ad3 p0.Bits.length cp4], eBox b7 34 [.int .i64 0, .int .i64 0], eBox b8 34 [.int .i64 0, .int .i64 0]] [fRep (rL (rI .i64)) (.slice ad14 r10.1.length cp15) r10.1, fRep (rL (rI .i64)) (.slice ad16 r10.2.1.length cp17) r10.2.1, fRep (rL rB) (.slice ad3 p0.Bits.length cp4) p0.Bits]) ?_ (fun a w hI => ?_)
    · refine sRegion ?_
      refine sMove (.int .i64 p1) S (wN rfl) (.inl rfl) (by kernel_rfl) rfl (by decide) (fun a S => ?_)
      refine sBin (.bool (decide (p1 < 1))) S (wN rfl) rfl (by kernel_rfl) (by kernel_rfl) (bLt _ _ _ _ .i64 p1 1) rfl (by decide) (fun a S => ?_)
      refine sMove (.bool (decide (p1 < 1))) S (wN rfl) (.inl rfl) (by kernel_rfl) rfl (by decide) (fun a S => ?_)
      rcases iteSome h with ⟨hc26, h⟩ | ⟨hc26, h⟩
      · refine sSkip (c := decide (p1 < 1)) 2 false 28 29 S rfl rfl (by kernel_rfl) hc26 rfl (by decide) (fun a S => ?_)
        refine sSkip (c := decide (p1 < 1)) 2 false 28 30 S rfl rfl (by kernel_rfl) hc26 rfl (by decide) (fun a S => ?_)
        refine sPickT (b := decide (p1 < 1)) (.bool true) S (wN rfl) rfl (by kernel_rfl) hc26 (by kernel_rfl) rfl (by decide) (fun a S => ?_)
        exact leafL (leafT (⟨true, Option.some.inj h, S.fix [2, 1, 0] [0, 1, 2] (by decide) (by kernel_rfl) (by kernel_rfl) (by kernel_rfl)⟩))
      · refine sMove (.int .i64 p1) S (wG (c := decide (p1 < 1)) 2 false 28 rfl rfl (by kernel_rfl) hc26) (.inl rfl) (by kernel_rfl) rfl (by decide) (fun a S => ?_)
        refine sBin (.bool (decide (1000 < p1))) S (wG (c := decide (p1 < 1)) 2 false 28 rfl rfl (by kernel_rfl) hc26) rfl (by kernel_rfl) (by kernel_rfl) (bGt _ _ _ _ .i64 p1 1000) rfl (by decide) (fun a S => ?_)
        refine sPickF (b := decide (p1 < 1)) (.bool (decide (1000 < p1))) S (wN rfl) rfl (by kernel_rfl) hc26 (by kernel_rfl) rfl (by decide) (fun a S => ?_)
        exact leafL (leafT (⟨decide (1000 < p1), Option.some.inj h, S.fix [2, 1, 0] [0, 1, 2] (by decide) (by kernel_rfl) (by kernel_rfl) (by kernel_rfl)⟩))
    · obtain ⟨o23, rfl, S⟩ := hI
      have h := g25
      clear g25
      try dsimp only at h
      rcases iteSome h with ⟨hc27, h⟩ | ⟨hc27, h⟩
      · refine sCondT (b := o23) S (by kernel_rfl) hc27 ?_
        refine sSeq (fun K28 hK28 => ?_)
        refine sRegion ?_
        refine sBuild [] [.int .i64 0, .int .i64 0] S (wN rfl) rfl (by kernel_rfl) (by kernel_rfl) rfl (by decide) (fun a S => ?_)
        refine sBuild [] [.int .i64 0, .int .i64 0] S (wN rfl) rfl (by kernel_rfl) (by kernel_rfl) rfl (by decide) (fun a S => ?_)
        refine sStore (p := b7) (off := 0) (T := 34) (vs := [.int .i64 0, .int .i64 0]) (v := .agg #[.int .i64 0, .int .i64 0]) 1 [.int .i64 0, .int .i64 0] S (wN rfl) rfl (by kernel_rfl) (by kernel_rfl) rfl (by kernel_rfl) (by kernel_rfl) rfl (by simp) rfl (fun a w S => ?_)
        refine sStore (p := b8) (off := 0) (T := 34) (vs := [.int .i64 0, .int .i64 0]) (v := .agg #[.int .i64 0, .int .i64 0]) 2 [.int .i64 0, .int .i64 0] S (wN rfl) rfl (by kernel_rfl) (by kernel_rfl) rfl (by kernel_rfl) (by kernel_rfl) rfl (by simp) rfl (fun a w S => ?_)
        refine sMove (.int .i64 2) S (wN rfl) (.inr rfl) (by kernel_rfl) rfl (by decide) (fun a S => ?_)
        refine leafL (leafT (hK28 _ _ ?_))
        obtain rfl := Option.some.inj h
        have S := S.learn (fRep r_api_Ratio (.agg #[.int .i64 0, .int .i64 0]) (api_Ratio.mk 0 0)) rfl
        exact wp_ret (rThen (sRet (.tuple #[.agg #[.int .i64 0, .int .i64 0], .agg #[.int .i64 0, .int .i64 0], .int .i64 2]) S (rsl3 rfl (rvN (c := 4) (t := 34) (T := 34) (p := b7) 1 [.int .i64 0, .int .i64 0] S (by kernel_rfl) (by kernel_rfl) (by kernel_rfl) (by kernel_rfl)) (rvN (c := 5) (t := 34) (T := 34) (p := b8) 0 [.int .i64 0, .int .i64 0] S (by kernel_rfl) (by kernel_rfl) (by kernel_rfl) (by kernel_rfl)) (rvT (t := 6) (v := .int .i64 2) S (by kernel_rfl))) ⟨((.agg #[.int .i64 0, .int .i64 0]), (.agg #[.int .i64 0, .int .i64 0])), rfl, S.mem.sel [] [0, 0] (by decide) (by kernel_rfl) (by kernel_rfl)⟩))
      · refine sCondF (b := o23) S (by kernel_rfl) hc27 ?_
        refine wp_skip (leafT (hK22 _ _ ?_))
        refine sSeq (fun K29 hK29 => ?_)
        refine sRegion ?_
        refine sField (b := b6) (off := 0) 0 0 S (wN rfl) rfl (by kernel_rfl) (by kernel_rfl) rfl rfl (by decide) (fun a S => ?_)
        refine sLoad1 (p := b6) (off := 0) (T := 24) (vs := [.int .i64 p0.W, .int .i64 p0.H, .slice ad3 p0.Bits.length cp4]) 0 (.int .i64 p0.W) S (wN rfl) rfl (by kernel_rfl) (by kernel_rfl) (by kernel_rfl) rfl rfl (by decide) (fun a S => ?_)
        refine sField (b := b6) (off := 0) 1 1 S (wN rfl) rfl (by kernel_rfl) (by kernel_rfl) rfl rfl (by decide) (fun a S => ?_)
        refine sLoad1 (p := b6) (off := 1) (T := 24) (vs := [.int .i64 p0.W, .int .i64 p0.H, .slice ad3 p0.Bits.length cp4]) 0 (.int .i64 p0.H) S (wN rfl) rfl (by kernel_rfl) (by kernel_rfl) (by kernel_rfl) rfl rfl (by decide) (fun a S => ?_)
        refine sBin (.int .i64 (w64 (p0.W * p0.H))) S (wN rfl) rfl (by kernel_rfl) (by kernel_rfl) (bMul _ _ _ _ p0.W p0.H) rfl (by decide) (fun a S => ?_)
        refine sMove (.int .i64 (w64 (p0.W * p0.H))) S (wN rfl) (.inr rfl) (by kernel_rfl) rfl (by decide) (fun a S => ?_)
        refine leafL (leafT (hK29 _ _ ?_))
        refine sSeq (fun K30 hK30 => ?_)
        refine sRegion ?_
        refine sMove (.int .i64 p1) S (wN rfl) (.inl rfl) (by kernel_rfl) rfl (by decide) (fun a S => ?_)
        refine sMove (.int .i64 (w64 (p0.W * p0.H))) S (wN rfl) (.inl rfl) (by kernel_rfl) rfl (by decide) (fun a S => ?_)
        refine sBin (.int .i64 (w64 (p1 * (w64 (p0.W * p0.H))))) S (wN rfl) rfl (by kernel_rfl) (by kernel_rfl) (bMul _ _ _ _ p1 (w64 (p0.W * p0.H))) rfl (by decide) (fun a S => ?_)
        refine sMove (.int .i64 (w64 (p0.W * p0.H))) S (wN rfl) (.inl rfl) (by kernel_rfl) rfl (by decide) (fun a S => ?_)
        refine sMove (.slice ad14 r10.1.length cp15) S (wN rfl) (.inl rfl) (by kernel_rfl) rfl (by decide) (fun a S => ?_)
        obtain ⟨r31, hx32, h⟩ := bindSome h
        have S1 := S.mem
        refine sCallQ (X := Unit) (f := 42) (vs := [.slice ad14 r10.1.length cp15]) (val := fun _ => .int .i64 r31) S (wN rfl) rfl callee42 (by kernel_rfl) (S1.quiet [0] (by kernel_rfl)) (fun E1 w1 S1 => c_raddleref24_total E1 w1 r10.1 (.slice ad14 r10.1.length cp15) r31 hx32 S1) rfl (by decide) (fun _ a w S => ?_)
        refine sBin (.int .i64 (w64 ((w64 (p0.W * p0.H)) + r31))) S (wN rfl) rfl (by kernel_rfl) (by kernel_rfl) (bAdd _ _ _ _ (w64 (p0.W * p0.H)) r31) rfl (by decide) (fun a S => ?_)
        obtain ⟨r33, hx34, h⟩ := bindSome h
        refine sCall (X := Value) (f := 41) (vs := [.int .i64 (w64 (p1 * (w64 (p0.W * p0.H)))), .int .i64 (w64 ((w64 (p0.W * p0.H)) + r31))]) (val := c_raddleref23_Make_val r33) (B' := fun _ => []) (D' := c_raddleref23_Make_D r33) [] [eBox b6 24 [.int .i64 p0.W, .int .i64 p0.H, .slice ad3 p0.Bits.length cp4], eBox b7 34 [.int .i64 0, .int .i64 0], eBox b8 34 [.int .i64 0, .int .i64 0]] [] [0, 1, 2] [] S (wN rfl) rfl callee41 (by kernel_rfl) (by decide) (by kernel_rfl) (by kernel_rfl) (fun E1 w1 S1 => c_raddleref23_Make E1 w1 (w64 (p1 * (w64 (p0.W * p0.H)))) (w64 ((w64 (p0.W * p0.H)) + r31)) r33 hx34 S1) rfl (by decide) (fun u35 a w S => ?_)
        obtain rfl : u35 = .agg #[.int .i64 r33.1.Num, .int .i64 r33.1.Den] := S.mem.know (i := 0) (e := fRep r_api_Ratio (u35) r33.1) (by kernel_rfl)
        refine sMove (.tuple #[.agg #[.int .i64 r33.1.Num, .int .i64 r33.1.Den], .int .i64 r33.2]) S (wN rfl) (.inl rfl) (by kernel_rfl) rfl (by decide) (fun a S => ?_)
        refine sExtract (vs := [.agg #[.int .i64 r33.1.Num, .int .i64 r33.1.Den], .int .i64 r33.2]) (.agg #[.int .i64 r33.1.Num, .int .i64 r33.1.Den]) S (wN rfl) rfl (by kernel_rfl) rfl rfl (by decide) (fun a S => ?_)
        refine sExtract (vs := [.agg #[.int .i64 r33.1.Num, .int .i64 r33.1.Den], .int .i64 r33.2]) (.int .i64 r33.2) S (wN rfl) rfl (by kernel_rfl) rfl rfl (by decide) (fun a S => ?_)
        refine sAlloc (.agg #[.int .i64 0, .int .i64 0]) S (wN rfl) rfl (by kernel_rfl) [.int .i64 0, .int .i64 0] rfl rfl (by decide) (fun a b36 w S => ?_)
        refine sStore (p := b36) (off := 0) (T := 34) (vs := [.int .i64 0, .int .i64 0]) (v := .agg #[.int .i64 r33.1.Num, .int .i64 r33.1.Den]) 0 [.int .i64 r33.1.Num, .int .i64 r33.1.Den] S (wN rfl) rfl (by kernel_rfl) (by kernel_rfl) rfl (by kernel_rfl) (by kernel_rfl) rfl (by simp) rfl (fun a w S => ?_)
        refine sMove (.int .i64 r33.2) S (wN rfl) (.inr rfl) (by kernel_rfl) rfl (by decide) (fun a S => ?_)
        refine leafL (leafT (hK30 _ _ ?_))
        refine sSeq (fun K37 hK37 => ?_)
        refine sRegion ?_
        refine sMove (.int .i64 p1) S (wN rfl) (.inl rfl) (by kernel_rfl) rfl (by decide) (fun a S => ?_)
        refine sMove (.int .i64 (w64 (p0.W * p0.H))) S (wN rfl) (.inl rfl) (by kernel_rfl) rfl (by decide) (fun a S => ?_)
        refine sBin (.int .i64 (w64 (p1 * (w64 (p0.W * p0.H))))) S (wN rfl) rfl (by kernel_rfl) (by kernel_rfl) (bMul _ _ _ _ p1 (w64 (p0.W * p0.H))) rfl (by decide) (fun a S => ?_)
        refine sMove (.int .i64 (w64 (p0.W * p0.H))) S (wN rfl) (.inl rfl) (by kernel_rfl) rfl (by decide) (fun a S => ?_)
        refine sMove (.slice ad16 r10.2.1.length cp17) S (wN rfl) (.inl rfl) (by kernel_rfl) rfl (by decide) (fun a S => ?_)
        obtain ⟨r38, hx39, h⟩ := bindSome h
        have S1 := S.mem
        refine sCallQ (X := Unit) (f := 42) (vs := [.slice ad16 r10.2.1.length cp17]) (val := fun _ => .int .i64 r38) S (wN rfl) rfl callee42 (by kernel_rfl) (S1.quiet [2] (by kernel_rfl)) (fun E1 w1 S1 => c_raddleref24_total E1 w1 r10.2.1 (.slice ad16 r10.2.1.length cp17) r38 hx39 S1) rfl (by decide) (fun _ a w S => ?_)
        refine sBin (.int .i64 (w64 ((w64 (p0.W * p0.H)) + r38))) S (wN rfl) rfl (by kernel_rfl) (by kernel_rfl) (bAdd _ _ _ _ (w64 (p0.W * p0.H)) r38) rfl (by decide) (fun a S => ?_)
        obtain ⟨r40, hx41, h⟩ := bindSome h
        refine sCall (X := Value) (f := 41) (vs := [.int .i64 (w64 (p1 * (w64 (p0.W * p0.H)))), .int .i64 (w64 ((w64 (p0.W * p0.H)) + r38))]) (val := c_raddleref23_Make_val r40) (B' := fun _ => []) (D' := c_raddleref23_Make_D r40) [] [eBox b36 34 [.int .i64 r33.1.Num, .int .i64 r33.1.Den], eBox b6 24 [.int .i64 p0.W, .int .i64 p0.H, .slice ad3 p0.Bits.length cp4], eBox b7 34 [.int .i64 0, .int .i64 0], eBox b8 34 [.int .i64 0, .int .i64 0]] [] [0, 1, 2, 3] [] S (wN rfl) rfl callee41 (by kernel_rfl) (by decide) (by kernel_rfl) (by kernel_rfl) (fun E1 w1 S1 => c_raddleref23_Make E1 w1 (w64 (p1 * (w64 (p0.W * p0.H)))) (w64 ((w64 (p0.W * p0.H)) + r38)) r40 hx41 S1) rfl (by decide) (fun u42 a w S => ?_)
        obtain rfl : u42 = .agg #[.int .i64 r40.1.Num, .int .i64 r40.1.Den] := S.mem.know (i := 0) (e := fRep r_api_Ratio (u42) r40.1) (by kernel_rfl)
        refine sMove (.tuple #[.agg #[.int .i64 r40.1.Num, .int .i64 r40.1.Den], .int .i64 r40.2]) S (wN rfl) (.inl rfl) (by kernel_rfl) rfl (by decide) (fun a S => ?_)
        refine sExtract (vs := [.agg #[.int .i64 r40.1.Num, .int .i64 r40.1.Den], .int .i64 r40.2]) (.agg #[.int .i64 r40.1.Num, .int .i64 r40.1.Den]) S (wN rfl) rfl (by kernel_rfl) rfl rfl (by decide) (fun a S => ?_)
        refine sExtract (vs := [.agg #[.int .i64 r40.1.Num, .int .i64 r40.1.Den], .int .i64 r40.2]) (.int .i64 r40.2) S (wN rfl) rfl (by kernel_rfl) rfl rfl (by decide) (fun a S => ?_)
        refine sAlloc (.agg #[.int .i64 0, .int .i64 0]) S (wN rfl) rfl (by kernel_rfl) [.int .i64 0, .int .i64 0] rfl rfl (by decide) (fun a b43 w S => ?_)
        refine sStore (p := b43) (off := 0) (T := 34) (vs := [.int .i64 0, .int .i64 0]) (v := .agg #[.int .i64 r40.1.Num, .int .i64 r40.1.Den]) 0 [.int .i64 r40.1.Num, .int .i64 r40.1.Den] S (wN rfl) rfl (by kernel_rfl) (by kernel_rfl) rfl (by kernel_rfl) (by kernel_rfl) rfl (by simp) rfl (fun a w S => ?_)
        refine sMove (.int .i64 r40.2) S (wN rfl) (.inr rfl) (by kernel_rfl) rfl (by decide) (fun a S => ?_)
        refine leafL (leafT (hK37 _ _ ?_))
        refine sSeq (fun K44 hK44 => ?_)
        refine sDraw (nf := [2, 3]) (W := [(0, 61, .agg #[.int .i64 r33.1.Num, .int .i64 r33.1.Den]), (1, 62, .agg #[.int .i64 r40.1.Num, .int .i64 r40.1.Den])]) (by kernel_rfl) S ?_
        refine node_by (A := [[], [], [0], [0, 1, 2], [0, 1, 2, 3]]) (nf := [2, 3]) (Y := []) (W := [(0, 61, .agg #[.int .i64 r33.1.Num, .int .i64 r33.1.Den]), (1, 62, .agg #[.int .i64 r40.1.Num, .int .i64 r40.1.Den])]) 5 (by kernel_rfl) (by kernel_rfl) (by kernel_rfl) (by kernel_rfl) (by kernel_rfl) [0, 1] (by kernel_rfl) (by decide) (by decide) (aF 0 4 (by decide) ?_ (aF 1 3 (by decide) ?_ (aN 2 2 (by decide) ?_ (aB 3 1 2 (by decide) (aE 4 0 2 (by decide) (trivial)))))) [] (fun q hq => by cases hq) (fun hY => absurd (hY 2 (by decide)) (by decide))
        · refine fI 61 (.agg #[.int .i64 r33.1.Num, .int .i64 r33.1.Den]) [(11, .pointer (some ⟨b36, 0, none⟩))] 0 [none] rfl rfl (by kernel_rfl) rfl (by kernel_rfl) (by kernel_rfl) fun G a w S => ?_
          refine sLoadN (p := b36) (off := 0) (T := 34) (vs := [.int .i64 r33.1.Num, .int .i64 r33.1.Den]) 1 [.int .i64 r33.1.Num, .int .i64 r33.1.Den] S (wN rfl) rfl (by kernel_rfl) (by kernel_rfl) (by kernel_rfl) (by kernel_rfl) rfl rfl (by decide) (fun a S => ?_)
          exact leafL ⟨rfl, S⟩
        · refine fI 62 (.agg #[.int .i64 r40.1.Num, .int .i64 r40.1.Den]) [(13, .pointer (some ⟨b43, 0, none⟩))] 1 [none] rfl rfl (by kernel_rfl) rfl (by kernel_rfl) (by kernel_rfl) fun G a w S => ?_
          refine sLoadN (p := b43) (off := 0) (T := 34) (vs := [.int .i64 r40.1.Num, .int .i64 r40.1.Den]) 0 [.int .i64 r40.1.Num, .int .i64 r40.1.Den] S (wN rfl) rfl (by kernel_rfl) (by kernel_rfl) (by kernel_rfl) (by kernel_rfl) rfl rfl (by decide) (fun a S => ?_)
          exact leafL ⟨rfl, S⟩
        · refine ⟨_, [(4, .pointer (some ⟨b7, 0, none⟩)), (61, .agg #[.int .i64 r33.1.Num, .int .i64 r33.1.Den])], rfl, (srcs_of [none, some 0] rfl (by kernel_rfl) (by kernel_rfl)), fun G a w S => ?_⟩
          refine sStore (p := b7) (off := 0) (T := 34) (vs := [.int .i64 0, .int .i64 0]) (v := .agg #[.int .i64 r33.1.Num, .int .i64 r33.1.Den]) 3 [.int .i64 r33.1.Num, .int .i64 r33.1.Den] S (wN rfl) rfl (by kernel_rfl) (by kernel_rfl) rfl (by kernel_rfl) (by kernel_rfl) rfl (by simp) rfl (fun a w S => ?_)
          refine leafL ⟨rfl, _, _, .inr ⟨[], rfl, S, hz_of (by kernel_rfl), ?_⟩⟩
          refine node_by (A := [[], [], [0], [0, 1, 2], [0, 1, 2, 3]]) (nf := [2, 3]) (Y := [2]) 5 (by kernel_rfl) (by kernel_rfl) (by kernel_rfl) (by kernel_rfl) (by kernel_rfl) [0, 1] (by kernel_rfl) (by decide) (by decide) (aD 0 4 2 (by decide) (aF 1 3 (by decide) ?_ (aY 2 2 (by decide) (aN 3 1 (by decide) ?_ (aE 4 0 3 (by decide) (trivial)))))) [] (fun q hq => by cases hq) (fun hY => absurd (hY 3 (by decide)) (by decide))
          · refine fI 62 (.agg #[.int .i64 r40.1.Num, .int .i64 r40.1.Den]) [(13, .pointer (some ⟨b43, 0, none⟩))] 1 [none] rfl rfl (by kernel_rfl) rfl (by kernel_rfl) (by kernel_rfl) fun G a w S => ?_
            refine sLoadN (p := b43) (off := 0) (T := 34) (vs := [.int .i64 r40.1.Num, .int .i64 r40.1.Den]) 1 [.int .i64 r40.1.Num, .int .i64 r40.1.Den] S (wN rfl) rfl (by kernel_rfl) (by kernel_rfl) (by kernel_rfl) (by kernel_rfl) rfl rfl (by decide) (fun a S => ?_)
            exact leafL ⟨rfl, S⟩
          · refine ⟨_, [(5, .pointer (some ⟨b8, 0, none⟩)), (62, .agg #[.int .i64 r40.1.Num, .int .i64 r40.1.Den])], rfl, (srcs_of [none, some 1] rfl (by kernel_rfl) (by kernel_rfl)), fun G a w S => ?_⟩
            refine sStore (p := b8) (off := 0) (T := 34) (vs := [.int .i64 0, .int .i64 0]) (v := .agg #[.int .i64 r40.1.Num, .int .i64 r40.1.Den]) 4 [.int .i64 r40.1.Num, .int .i64 r40.1.Den] S (wN rfl) rfl (by kernel_rfl) (by kernel_rfl) rfl (by kernel_rfl) (by kernel_rfl) rfl (by simp) rfl (fun a w S => ?_)
            refine leafL ⟨rfl, _, _, .inr ⟨[(4, 6, .int .i64 0)], rfl, S, hz_of (by kernel_rfl), ?_⟩⟩
            refine node_by (A := [[], [], [0], [0, 1, 2], [0, 1, 2, 3]]) (nf := [2, 3]) (Y := [3, 2]) 5 (by kernel_rfl) (by kernel_rfl) (by kernel_rfl) (by kernel_rfl) (by kernel_rfl) [4, 0, 1] (by kernel_rfl) (by decide) (by decide) (aD 0 4 3 (by decide) (aD 1 3 3 (by decide) (aY 2 2 (by decide) (aY 3 1 (by decide) (aF 4 0 (by decide) ?_ (trivial)))))) [(4, .pointer (some ⟨b7, 0, none⟩)), (5, .pointer (some ⟨b8, 0, none⟩)), (6, .int .i64 0)] (fin_of [none, none, some 0] rfl (by kernel_rfl) (by kernel_rfl)) (fun _ a w S => ?_)
            · refine fI 6 (.int .i64 0) [] 0 [] rfl rfl (by kernel_rfl) rfl (by kernel_rfl) (by kernel_rfl) fun G a w S => ?_
              refine sMove (.int .i64 0) S (wN rfl) (.inr rfl) (by kernel_rfl) rfl (by decide) (fun a S => ?_)
              exact leafL ⟨rfl, S⟩
            · refine leafT (hK44 _ _ ?_)
              obtain rfl := Option.some.inj h
              exact wp_ret (sRet (.tuple #[.agg #[.int .i64 r33.1.Num, .int .i64 r33.1.Den], .agg #[.int .i64 r40.1.Num, .int .i64 r40.1.Den], .int .i64 0]) S (rsl3 rfl (rvN (c := 4) (t := 34) (T := 34) (p := b7) 1 [.int .i64 r33.1.Num, .int .i64 r33.1.Den] S (by kernel_rfl) (by kernel_rfl) (by kernel_rfl) (by kernel_rfl)) (rvN (c := 5) (t := 34) (T := 34) (p := b8) 0 [.int .i64 r40.1.Num, .int .i64 r40.1.Den] S (by kernel_rfl) (by kernel_rfl) (by kernel_rfl) (by kernel_rfl)) (rvT (t := 6) (v := .int .i64 0) S (by kernel_rfl))) ⟨((.agg #[.int .i64 r33.1.Num, .int .i64 r33.1.Den]), (.agg #[.int .i64 r40.1.Num, .int .i64 r40.1.Den])), rfl, S.mem.sel [] [1, 0] (by decide) (by kernel_rfl) (by kernel_rfl)⟩)

end Go.Proofs.Ytjndecalogklhaa
namespace Go.Proofs.Ytjndecalogklhaa
open Go.RowKit
set_option linter.unusedVariables false

def anc_raddleref01_Same_0 : List (List Nat) := [[], [0], [], [0, 1, 2], [0, 1, 2, 3], [], [5], [], [5, 6, 7], [5, 6, 7, 8], [0, 1, 2, 3, 4, 5, 6, 7, 8, 9]]
noncomputable def raddleref01_Same_l1 (p0 : api_Grid) (p1 : api_Grid) : Int → Option (Int ⊕ (Bool ⊕ Unit)) := fun s0 => match s0 with
  | s23 =>
    if decide (s23 < (p0.Bits.length : Int)) then
      Option.bind (idxO p0.Bits s23) fun x32 =>
      Option.bind (idxO p1.Bits s23) fun x37 =>
      if x32 != x37 then
        some (.inr (.inl false))
      else
        some (.inl (w64 (s23 + 1)))
    else
      some (.inr (.inr ()))
noncomputable def F_raddleref01_Same (p0 : api_Grid) (p1 : api_Grid) : Option Bool :=
  Option.bind (α := Bool) (
    if p0.W != p1.W then
      some true
    else
      if p0.H != p1.H then
        some true
      else
        some ((p0.Bits.length : Int) != (p1.Bits.length : Int))) fun o13 =>
  if o13 then
    some false
  else
    Option.bind (α := Unit ⊕ Bool) (
      Option.bind (whileO (raddleref01_Same_l1 p0 p1) 0) fun z0 => match z0 with
        | .inl z =>
          some (.inr z)
        | .inr _ =>
          some (.inl ())) fun z0 => match z0 with
      | .inl _ =>
        some true
      | .inr z =>
        some z
set_option maxHeartbeats 4000000 in
set_option maxRecDepth 100000 in
theorem c_raddleref01_Same (E : Nat → Prop) (w0 : World) (p0 : api_Grid) (v0 : Value) (p1 : api_Grid) (v1 : Value) (r : Bool) (h : F_raddleref01_Same p0 p1 = some r) (S : St0 E [] w0 w0 [] [fRep r_api_Grid (v0) p0, fRep r_api_Grid (v1) p1]) :
    Calls Try.prog 16 #[v0, v1] w0 (Ret (X := Unit) E [] w0 (fun _ => .bool r) (fun _ => []) (fun _ => [])) := by
  unfold F_raddleref01_Same at h
  obtain ⟨u1, rfl, hu2⟩ := S.know (i := 0) (e := fRep r_api_Grid (v0) p0) (by kernel_rfl)
  have S := S.learn (fRep (rL rB) u1 p0.Bits) hu2
  obtain ⟨ad3, cp4, _, rfl, _⟩ := hu2
  obtain ⟨u5, rfl, hu6⟩ := S.know (i := 2) (e := fRep r_api_Grid (v1) p1) (by kernel_rfl)
  have S := S.learn (fRep (rL rB) u5 p1.Bits) hu6
  obtain ⟨ad7, cp8, _, rfl, _⟩ := hu6
  refine sEnter (args := [.agg #[.int .i64 p0.W, .int .i64 p0.H, .slice ad3 p0.Bits.length cp4], .agg #[.int .i64 p1.W, .int .i64 p1.H, .slice ad7 p1.Bits.length cp8]]) 45 Try.func16 rfl rfl (by simp) S (fun a S => ?_)
  refine sSeq (fun K9 hK9 => ?_)
  refine sRegion ?_
  refine sBox (v := .agg #[.int .i64 p0.W, .int .i64 p0.H, .slice ad3 p0.Bits.length cp4]) S (wN rfl) rfl (by kernel_rfl) [.int .i64 p0.W, .int .i64 p0.H, .slice ad3 p0.Bits.length cp4] rfl rfl (by decide) (fun a b10 w S => ?_)
  refine sBox (v := .agg #[.int .i64 p1.W, .int .i64 p1.H, .slice ad7 p1.Bits.length cp8]) S (wN rfl) rfl (by kernel_rfl) [.int .i64 p1.W, .int .i64 p1.H, .slice ad7 p1.Bits.length cp8] rfl rfl (by decide) (fun a b11 w S => ?_)
  refine sMove (.bool false) S (wN rfl) (.inr rfl) (by kernel_rfl) rfl (by decide) (fun a S => ?_)
  refine leafL (leafT (hK9 _ _ ?_))
  refine sSeq (fun K12 hK12 => ?_)
  obtain ⟨t14, h, g15⟩ := bindSome h
  refine sCut (fun a w => ∃ o13, o13 = t14 ∧ St E [] w0 45 a w [(2, .pointer (some ⟨b10, 0, none⟩)), (3, .pointer (some ⟨b11, 0, none⟩)), (26, .bool o13)] [eBox b10 24 [.int .i64 p0.W, .int .i64 p0.H, .slice ad3 p0.Bits.length cp4], eBox b11 24 [.int .i64 p1.W, .int .i64 p1.H, .slice ad7 p1.Bits.length cp8]] [fRep (rL rB) (.slice ad3 p0.Bits.length cp4) p0.Bits, fRep (rL rB) (.slice ad7 p1.Bits.length cp8) p1.Bits]) ?_ (fun a w hI => ?_)
  · refine sRegion ?_
    refine sField (b := b10) (off := 0) 0 0 S (wN rfl) rfl (by kernel_rfl) (by kernel_rfl) rfl rfl (by decide) (fun a S => ?_)
    refine sLoad1 (p := b10) (off := 0) (T := 24) (vs := [.int .i64 p0.W, .int .i64 p0.H, .slice ad3 p0.Bits.length cp4]) 1 (.int .i64 p0.W) S (wN rfl) rfl (by kernel_rfl) (by kernel_rfl) (by kernel_rfl) rfl rfl (by decide) (fun a S => ?_)
    refine sField (b := b11) (off := 0) 0 0 S (wN rfl) rfl (by kernel_rfl) (by kernel_rfl) rfl rfl (by decide) (fun a S => ?_)
    refine sLoad1 (p := b11) (off := 0) (T := 24) (vs := [.int .i64 p1.W, .int .i64 p1.H, .slice ad7 p1.Bits.length cp8]) 0 (.int .i64 p1.W) S (wN rfl) rfl (by kernel_rfl) (by kernel_rfl) (by kernel_rfl) rfl rfl (by decide) (fun a S => ?_)
    refine sBin (.bool (p0.W != p1.W)) S (wN rfl) rfl (by kernel_rfl) (by kernel_rfl) (bNe _ _ _ _ .i64 p0.W p1.W) rfl (by decide) (fun a S => ?_)
    refine sMove (.bool (p0.W != p1.W)) S (wN rfl) (.inl rfl) (by kernel_rfl) rfl (by decide) (fun a S => ?_)
    rcases iteSome h with ⟨hc16, h⟩ | ⟨hc16, h⟩
    · refine sSkip (c := p0.W != p1.W) 5 false 11 12 S rfl rfl (by kernel_rfl) hc16 rfl (by decide) (fun a S => ?_)
      refine sSkip (c := p0.W != p1.W) 5 false 11 13 S rfl rfl (by kernel_rfl) hc16 rfl (by decide) (fun a S => ?_)
      refine sSkip (c := p0.W != p1.W) 5 false 11 14 S rfl rfl (by kernel_rfl) hc16 rfl (by decide) (fun a S => ?_)
      refine sSkip (c := p0.W != p1.W) 5 false 11 15 S rfl rfl (by kernel_rfl) hc16 rfl (by decide) (fun a S => ?_)
      refine sSkip (c := p0.W != p1.W) 5 false 11 16 S rfl rfl (by kernel_rfl) hc16 rfl (by decide) (fun a S => ?_)
      refine sPickT (b := p0.W != p1.W) (.bool true) S (wN rfl) rfl (by kernel_rfl) hc16 (by kernel_rfl) rfl (by decide) (fun a S => ?_)
      refine sMove (.bool true) S (wN rfl) (.inl rfl) (by kernel_rfl) rfl (by decide) (fun a S => ?_)
      refine sSkip (c := true) 12 false 18 19 S rfl rfl (by kernel_rfl) rfl rfl (by decide) (fun a S => ?_)
      refine sSkip (c := true) 12 false 18 20 S rfl rfl (by kernel_rfl) rfl rfl (by decide) (fun a S => ?_)
      refine sSkip (c := true) 12 false 18 21 S rfl rfl (by kernel_rfl) rfl rfl (by decide) (fun a S => ?_)
      refine sSkip (c := true) 12 false 18 22 S rfl rfl (by kernel_rfl) rfl rfl (by decide) (fun a S => ?_)
      refine sSkip (c := true) 12 false 18 23 S rfl rfl (by kernel_rfl) rfl rfl (by decide) (fun a S => ?_)
      refine sSkip (c := true) 12 false 18 24 S rfl rfl (by kernel_rfl) rfl rfl (by decide) (fun a S => ?_)
      refine sSkip (c := true) 12 false 18 25 S rfl rfl (by kernel_rfl) rfl rfl (by decide) (fun a S => ?_)
      refine sPickT (b := true) (.bool true) S (wN rfl) rfl (by kernel_rfl) rfl (by kernel_rfl) rfl (by decide) (fun a S => ?_)
      exact leafL (leafT (⟨true, Option.some.inj h, S.fix [1, 0] [1, 0] (by decide) (by kernel_rfl) (by kernel_rfl) (by kernel_rfl)⟩))
    · refine sField (b := b10) (off := 0) 1 1 S (wG (c := p0.W != p1.W) 5 false 11 rfl rfl (by kernel_rfl) hc16) rfl (by kernel_rfl) (by kernel_rfl) rfl rfl (by decide) (fun a S => ?_)
      refine sLoad1 (p := b10) (off := 1) (T := 24) (vs := [.int .i64 p0.W, .int .i64 p0.H, .slice ad3 p0.Bits.length cp4]) 1 (.int .i64 p0.H) S (wG (c := p0.W != p1.W) 5 false 11 rfl rfl (by kernel_rfl) hc16) rfl (by kernel_rfl) (by kernel_rfl) (by kernel_rfl) rfl rfl (by decide) (fun a S => ?_)
      refine sField (b := b11) (off := 0) 1 1 S (wG (c := p0.W != p1.W) 5 false 11 rfl rfl (by kernel_rfl) hc16) rfl (by kernel_rfl) (by kernel_rfl) rfl rfl (by decide) (fun a S => ?_)
      refine sLoad1 (p := b11) (off := 1) (T := 24) (vs := [.int .i64 p1.W, .int .i64 p1.H, .slice ad7 p1.Bits.length cp8]) 0 (.int .i64 p1.H) S (wG (c := p0.W != p1.W) 5 false 11 rfl rfl (by kernel_rfl) hc16) rfl (by kernel_rfl) (by kernel_rfl) (by kernel_rfl) rfl rfl (by decide) (fun a S => ?_)
      refine sBin (.bool (p0.H != p1.H)) S (wG (c := p0.W != p1.W) 5 false 11 rfl rfl (by kernel_rfl) hc16) rfl (by kernel_rfl) (by kernel_rfl) (bNe _ _ _ _ .i64 p0.H p1.H) rfl (by decide) (fun a S => ?_)
      refine sPickF (b := p0.W != p1.W) (.bool (p0.H != p1.H)) S (wN rfl) rfl (by kernel_rfl) hc16 (by kernel_rfl) rfl (by decide) (fun a S => ?_)
      refine sMove (.bool (p0.H != p1.H)) S (wN rfl) (.inl rfl) (by kernel_rfl) rfl (by decide) (fun a S => ?_)
      rcases iteSome h with ⟨hc17, h⟩ | ⟨hc17, h⟩
      · refine sSkip (c := p0.H != p1.H) 12 false 18 19 S rfl rfl (by kernel_rfl) hc17 rfl (by decide) (fun a S => ?_)
        refine sSkip (c := p0.H != p1.H) 12 false 18 20 S rfl rfl (by kernel_rfl) hc17 rfl (by decide) (fun a S => ?_)
        refine sSkip (c := p0.H != p1.H) 12 false 18 21 S rfl rfl (by kernel_rfl) hc17 rfl (by decide) (fun a S => ?_)
        refine sSkip (c := p0.H != p1.H) 12 false 18 22 S rfl rfl (by kernel_rfl) hc17 rfl (by decide) (fun a S => ?_)
        refine sSkip (c := p0.H != p1.H) 12 false 18 23 S rfl rfl (by kernel_rfl) hc17 rfl (by decide) (fun a S => ?_)
        refine sSkip (c := p0.H != p1.H) 12 false 18 24 S rfl rfl (by kernel_rfl) hc17 rfl (by decide) (fun a S => ?_)
        refine sSkip (c := p0.H != p1.H) 12 false 18 25 S rfl rfl (by kernel_rfl) hc17 rfl (by decide) (fun a S => ?_)
        refine sPickT (b := p0.H != p1.H) (.bool true) S (wN rfl) rfl (by kernel_rfl) hc17 (by kernel_rfl) rfl (by decide) (fun a S => ?_)
        exact leafL (leafT (⟨true, Option.some.inj h, S.fix [1, 0] [1, 0] (by decide) (by kernel_rfl) (by kernel_rfl) (by kernel_rfl)⟩))
      · refine sField (b := b10) (off := 0) 2 2 S (wG (c := p0.H != p1.H) 12 false 18 rfl rfl (by kernel_rfl) hc17) rfl (by kernel_rfl) (by kernel_rfl) rfl rfl (by decide) (fun a S => ?_)
        refine sLoad1 (p := b10) (off := 2) (T := 24) (vs := [.int .i64 p0.W, .int .i64 p0.H, .slice ad3 p0.Bits.length cp4]) 1 (.slice ad3 p0.Bits.length cp4) S (wG (c := p0.H != p1.H) 12 false 18 rfl rfl (by kernel_rfl) hc17) rfl (by kernel_rfl) (by kernel_rfl) (by kernel_rfl) rfl rfl (by decide) (fun a S => ?_)
        refine sLen (ad := ad3) (m := p0.Bits.length) (c := cp4) S (wG (c := p0.H != p1.H) 12 false 18 rfl rfl (by kernel_rfl) hc17) rfl Try.underlying22 (by kernel_rfl) rfl (by decide) (fun a S => ?_)
        refine sField (b := b11) (off := 0) 2 2 S (wG (c := p0.H != p1.H) 12 false 18 rfl rfl (by kernel_rfl) hc17) rfl (by kernel_rfl) (by kernel_rfl) rfl rfl (by decide) (fun a S => ?_)
        refine sLoad1 (p := b11) (off := 2) (T := 24) (vs := [.int .i64 p1.W, .int .i64 p1.H, .slice ad7 p1.Bits.length cp8]) 0 (.slice ad7 p1.Bits.length cp8) S (wG (c := p0.H != p1.H) 12 false 18 rfl rfl (by kernel_rfl) hc17) rfl (by kernel_rfl) (by kernel_rfl) (by kernel_rfl) rfl rfl (by decide) (fun a S => ?_)
        refine sLen (ad := ad7) (m := p1.Bits.length) (c := cp8) S (wG (c := p0.H != p1.H) 12 false 18 rfl rfl (by kernel_rfl) hc17) rfl Try.underlying22 (by kernel_rfl) rfl (by decide) (fun a S => ?_)
        refine sBin (.bool ((p0.Bits.length : Int) != (p1.Bits.length : Int))) S (wG (c := p0.H != p1.H) 12 false 18 rfl rfl (by kernel_rfl) hc17) rfl (by kernel_rfl) (by kernel_rfl) (bNe _ _ _ _ .i64 (p0.Bits.length : Int) (p1.Bits.length : Int)) rfl (by decide) (fun a S => ?_)
        refine sPickF (b := p0.H != p1.H) (.bool ((p0.Bits.length : Int) != (p1.Bits.length : Int))) S (wN rfl) rfl (by kernel_rfl) hc17 (by kernel_rfl) rfl (by decide) (fun a S => ?_)
        exact leafL (leafT (⟨(p0.Bits.length : Int) != (p1.Bits.length : Int), Option.some.inj h, S.fix [1, 0] [1, 0] (by decide) (by kernel_rfl) (by kernel_rfl) (by kernel_rfl)⟩))
  · obtain ⟨o13, rfl, S⟩ := hI
    have h := g15
    clear g15
    try dsimp only at h
    rcases iteSome h with ⟨hc18, h⟩ | ⟨hc18, h⟩
    · refine sCondT (b := o13) S (by kernel_rfl) hc18 ?_
      refine sSeq (fun K19 hK19 => ?_)
      refine sRegion ?_
      refine sMove (.bool false) S (wN rfl) (.inr rfl) (by kernel_rfl) rfl (by decide) (fun a S => ?_)
      refine leafL (leafT (hK19 _ _ ?_))
      obtain rfl := Option.some.inj h
      exact wp_ret (rThen (sRet (.bool false) S (rsl1 rfl (rvT (t := 4) (v := .bool false) S (by kernel_rfl))) ⟨(), rfl, S.mem.sel [] [] (by decide) (by kernel_rfl) (by kernel_rfl)⟩))
    · refine sCondF (b := o13) S (by kernel_rfl) hc18 ?_
      refine wp_skip (leafT (hK12 _ _ ?_))
      obtain ⟨t20, h, g21⟩ := bindSome h
      refine sCut (fun a w => .inl () = t20 ∧ St E [] w0 45 a w [] [] []) ?_ (fun a w hI => ?_)
      · refine sSeq (fun K22 hK22 => ?_)
        refine sRegion ?_
        refine sMove (.int .i64 0) S (wN rfl) (.inr rfl) (by kernel_rfl) rfl (by decide) (fun a S => ?_)
        refine leafL (leafT (hK22 _ _ ?_))
        refine wp_block ?_
        obtain ⟨t26, hl, g25⟩ := bindSome h
        refine sLoop hl (fun s0 a w => match s0 with | s23 => St E [] w0 45 a w [(2, .pointer (some ⟨b10, 0, none⟩)), (3, .pointer (some ⟨b11, 0, none⟩)), (5, .int .i64 s23)] [eBox b10 24 [.int .i64 p0.W, .int .i64 p0.H, .slice ad3 p0.Bits.length cp4], eBox b11 24 [.int .i64 p1.W, .int .i64 p1.H, .slice ad7 p1.Bits.length cp8]] [fRep (rL rB) (.slice ad3 p0.Bits.length cp4) p0.Bits, fRep (rL rB) (.slice ad7 p1.Bits.length cp8) p1.Bits]) (S.fix [0, 1] [0, 1] (by decide) (by kernel_rfl) (by kernel_rfl) (by kernel_rfl)) ?_
        clear hl h
        intro s23 a w c0 hI h hu24
        unfold raddleref01_Same_l1 at h
        dsimp only at h hI
        have S := hI
        refine sSeq (fun K27 hK27 => ?_)
        refine sSeq (fun K28 hK28 => ?_)
        refine sRegion ?_
        refine sMove (.int .i64 s23) S (wN rfl) (.inl rfl) (by kernel_rfl) rfl (by decide) (fun a S => ?_)
        refine sField (b := b10) (off := 0) 2 2 S (wN rfl) rfl (by kernel_rfl) (by kernel_rfl) rfl rfl (by decide) (fun a S => ?_)
        refine sLoad1 (p := b10) (off := 2) (T := 24) (vs := [.int .i64 p0.W, .int .i64 p0.H, .slice ad3 p0.Bits.length cp4]) 0 (.slice ad3 p0.Bits.length cp4) S (wN rfl) rfl (by kernel_rfl) (by kernel_rfl) (by kernel_rfl) rfl rfl (by decide) (fun a S => ?_)
        refine sLen (ad := ad3) (m := p0.Bits.length) (c := cp4) S (wN rfl) rfl Try.underlying22 (by kernel_rfl) rfl (by decide) (fun a S => ?_)
        refine sBin (.bool (decide (s23 < (p0.Bits.length : Int)))) S (wN rfl) rfl (by kernel_rfl) (by kernel_rfl) (bLt _ _ _ _ .i64 s23 (p0.Bits.length : Int)) rfl (by decide) (fun a S => ?_)
        refine leafL (leafT (hK28 _ _ ?_))
        rcases iteSome h with ⟨hc29, h⟩ | ⟨hc29, h⟩
        · refine sCondT (b := decide (s23 < (p0.Bits.length : Int))) S (by kernel_rfl) hc29 ?_
          refine wp_skip (leafT (hK27 _ _ ?_))
          refine sSeq (fun K30 hK30 => ?_)
          refine wp_block ?_
          refine sSeq (fun K31 hK31 => ?_)
          obtain ⟨x32, hx33, h⟩ := bindSome h
          obtain ⟨x37, hx38, h⟩ := bindSome h
          obtain ⟨q42, hq43, S⟩ := pIdx (P := Try.prog) (r := rB) (v := .slice ad3 p0.Bits.length cp4) (xs := p0.Bits) (j := s23) 22 4 0 S Try.underlying22 (by kernel_rfl) (by kernel_rfl) hx33
          obtain ⟨u44, S⟩ := pLoad (r := rB) (q := q42) (x := x32) 0 S (by kernel_rfl)
          obtain rfl : u44 = .bool x32 := S.mem.know (i := 1) (e := fRep rB (u44) x32) (by kernel_rfl)
          obtain ⟨q45, hq46, S⟩ := pIdx (P := Try.prog) (r := rB) (v := .slice ad7 p1.Bits.length cp8) (xs := p1.Bits) (j := s23) 22 4 4 S Try.underlying22 (by kernel_rfl) (by kernel_rfl) hx38
          obtain ⟨u47, S⟩ := pLoad (r := rB) (q := q45) (x := x37) 0 S (by kernel_rfl)
          obtain rfl : u47 = .bool x37 := S.mem.know (i := 1) (e := fRep rB (u47) x37) (by kernel_rfl)
          refine sDraw (nf := []) (W := [(0, 34, .pointer (some ⟨b10, 2, none⟩)), (1, 35, .slice ad3 p0.Bits.length cp4), (2, 36, .int .i64 s23), (3, 37, q42), (4, 38, .bool x32), (5, 39, .pointer (some ⟨b11, 2, none⟩)), (6, 40, .slice ad7 p1.Bits.length cp8), (7, 41, .int .i64 s23), (8, 42, q45), (9, 43, .bool x37), (10, 44, .bool (x32 != x37))]) (by kernel_rfl) S ?_
          refine node_by (A := anc_raddleref01_Same_0) (nf := []) (Y := []) (W := [(0, 34, .pointer (some ⟨b10, 2, none⟩)), (1, 35, .slice ad3 p0.Bits.length cp4), (2, 36, .int .i64 s23), (3, 37, q42), (4, 38, .bool x32), (5, 39, .pointer (some ⟨b11, 2, none⟩)), (6, 40, .slice ad7 p1.Bits.length cp8), (7, 41, .int .i64 s23), (8, 42, q45), (9, 43, .bool x37), (10, 44, .bool (x32 != x37))]) 11 (by kernel_rfl) (by kernel_rfl) (by kernel_rfl) (by kernel_rfl) (by kernel_rfl) [0, 1, 2, 3, 4, 5, 6, 7, 8, 9, 10] (by kernel_rfl) (by decide) (by decide) (aF 0 10 (by decide) ?_ (aF 1 9 (by decide) ?_ (aF 2 8 (by decide) ?_ (aF 3 7 (by decide) ?_ (aF 4 6 (by decide) ?_ (aF 5 5 (by decide) ?_ (aF 6 4 (by decide) ?_ (aF 7 3 (by decide) ?_ (aF 8 2 (by decide) ?_ (aF 9 1 (by decide) ?_ (aF 10 0 (by decide) ?_ (trivial)))))))))))) [(2, .pointer (some ⟨b10, 0, none⟩)), (3, .pointer (some ⟨b11, 0, none⟩)), (5, .int .i64 s23), (44, .bool (x32 != x37))] (fin_of [none, none, none, some 10] rfl (by kernel_rfl) (by kernel_rfl)) (fun _ a w S => ?_)
          · refine fI 34 (.pointer (some ⟨b10, 2, none⟩)) [(2, .pointer (some ⟨b10, 0, none⟩))] 0 [none] rfl rfl (by kernel_rfl) rfl (by kernel_rfl) (by kernel_rfl) fun G a w S => ?_
            refine sField (b := b10) (off := 0) 2 2 S (wN rfl) rfl (by kernel_rfl) (by kernel_rfl) rfl rfl (by decide) (fun a S => ?_)
            exact leafL ⟨rfl, S⟩
          · refine fI 35 (.slice ad3 p0.Bits.length cp4) [(34, .pointer (some ⟨b10, 2, none⟩))] 1 [some 0] rfl rfl (by kernel_rfl) rfl (by kernel_rfl) (by kernel_rfl) fun G a w S => ?_
            refine sLoad1 (p := b10) (off := 2) (T := 24) (vs := [.int .i64 p0.W, .int .i64 p0.H, .slice ad3 p0.Bits.length cp4]) 0 (.slice ad3 p0.Bits.length cp4) S (wN rfl) rfl (by kernel_rfl) (by kernel_rfl) (by kernel_rfl) rfl rfl (by decide) (fun a S => ?_)
            exact leafL ⟨rfl, S⟩
          · refine fI 36 (.int .i64 s23) [(5, .int .i64 s23)] 2 [none] rfl rfl (by kernel_rfl) rfl (by kernel_rfl) (by kernel_rfl) fun G a w S => ?_
            refine sMove (.int .i64 s23) S (wN rfl) (.inl rfl) (by kernel_rfl) rfl (by decide) (fun a S => ?_)
            exact leafL ⟨rfl, S⟩
          · refine fI 37 q42 [(35, .slice ad3 p0.Bits.length cp4), (36, .int .i64 s23)] 3 [some 1, some 2] rfl rfl (by kernel_rfl) rfl (by kernel_rfl) (by kernel_rfl) fun G a w S => ?_
            refine sIdxV (v := .slice ad3 p0.Bits.length cp4) (k := .i64) (j := s23) S (wN rfl) rfl (by kernel_rfl) (by kernel_rfl) hq43 rfl (by decide) (fun a S => ?_)
            exact leafL ⟨rfl, S⟩
          · refine fI 38 (.bool x32) [(37, q42)] 4 [some 3] rfl rfl (by kernel_rfl) rfl (by kernel_rfl) (by kernel_rfl) fun G a w S => ?_
            refine sLoadV1 (vq := q42) 3 (.bool x32) S (wN rfl) rfl (by kernel_rfl) (by kernel_rfl) (by kernel_rfl) rfl (by decide) (fun a S => ?_)
            exact leafL ⟨rfl, S⟩
          · refine fI 39 (.pointer (some ⟨b11, 2, none⟩)) [(3, .pointer (some ⟨b11, 0, none⟩))] 5 [none] rfl rfl (by kernel_rfl) rfl (by kernel_rfl) (by kernel_rfl) fun G a w S => ?_
            refine sField (b := b11) (off := 0) 2 2 S (wN rfl) rfl (by kernel_rfl) (by kernel_rfl) rfl rfl (by decide) (fun a S => ?_)
            exact leafL ⟨rfl, S⟩
          · refine fI 40 (.slice ad7 p1.Bits.length cp8) [(39, .pointer (some ⟨b11, 2, none⟩))] 6 [some 5] rfl rfl (by kernel_rfl) rfl (by kernel_rfl) (by kernel_rfl) fun G a w S => ?_
            refine sLoad1 (p := b11) (off := 2) (T := 24) (vs := [.int .i64 p1.W, .int .i64 p1.H, .slice ad7 p1.Bits.length cp8]) 1 (.slice ad7 p1.Bits.length cp8) S (wN rfl) rfl (by kernel_rfl) (by kernel_rfl) (by kernel_rfl) rfl rfl (by decide) (fun a S => ?_)
            exact leafL ⟨rfl, S⟩
          · refine fI 41 (.int .i64 s23) [(5, .int .i64 s23)] 7 [none] rfl rfl (by kernel_rfl) rfl (by kernel_rfl) (by kernel_rfl) fun G a w S => ?_
            refine sMove (.int .i64 s23) S (wN rfl) (.inl rfl) (by kernel_rfl) rfl (by decide) (fun a S => ?_)
            exact leafL ⟨rfl, S⟩
          · refine fI 42 q45 [(40, .slice ad7 p1.Bits.length cp8), (41, .int .i64 s23)] 8 [some 6, some 7] rfl rfl (by kernel_rfl) rfl (by kernel_rfl) (by kernel_rfl) fun G a w S => ?_
            refine sIdxV (v := .slice ad7 p1.Bits.length cp8) (k := .i64) (j := s23) S (wN rfl) rfl (by kernel_rfl) (by kernel_rfl) hq46 rfl (by decide) (fun a S => ?_)
            exact leafL ⟨rfl, S⟩
          · refine fI 43 (.bool x37) [(42, q45)] 9 [some 8] rfl rfl (by kernel_rfl) rfl (by kernel_rfl) (by kernel_rfl) fun G a w S => ?_
            refine sLoadV1 (vq := q45) 0 (.bool x37) S (wN rfl) rfl (by kernel_rfl) (by kernel_rfl) (by kernel_rfl) rfl (by decide) (fun a S => ?_)
            exact leafL ⟨rfl, S⟩
          · refine fI 44 (.bool (x32 != x37)) [(38, .bool x32), (43, .bool x37)] 10 [some 4, some 9] rfl rfl (by kernel_rfl) rfl (by kernel_rfl) (by kernel_rfl) fun G a w S => ?_
            refine sBin (.bool (x32 != x37)) S (wN rfl) rfl (by kernel_rfl) (by kernel_rfl) (bNeB _ _ _ _ Try.underlying4 x32 x37) rfl (by decide) (fun a S => ?_)
            exact leafL ⟨rfl, S⟩
          · refine leafT (hK31 _ _ ?_)
            rcases iteSome h with ⟨hc48, h⟩ | ⟨hc48, h⟩
            · refine sCondT (b := x32 != x37) S (by kernel_rfl) hc48 ?_
              refine sSeq (fun K49 hK49 => ?_)
              refine sRegion ?_
              refine sMove (.bool false) S (wN rfl) (.inr rfl) (by kernel_rfl) rfl (by decide) (fun a S => ?_)
              refine leafL (leafT (hK49 _ _ ?_))
              obtain rfl := Option.some.inj h
              obtain rfl := hu24 _ rfl
              have h := g25
              clear g25
              try dsimp only at h
              obtain rfl := Option.some.inj h
              have h := g21
              clear g21
              try dsimp only at h
              obtain rfl := Option.some.inj h
              exact wp_ret (rBlock (rThen (rThen (rBlock (rThen (sRet (.bool false) S (rsl1 rfl (rvT (t := 4) (v := .bool false) S (by kernel_rfl))) ⟨(), rfl, S.mem.sel [] [] (by decide) (by kernel_rfl) (by kernel_rfl)⟩))))))
            · refine sCondF (b := x32 != x37) S (by kernel_rfl) hc48 ?_
              refine wp_skip (leafB (leafT (hK30 _ _ ?_)))
              refine sRegion ?_
              refine sMove (.int .i64 s23) S (wN rfl) (.inl rfl) (by kernel_rfl) rfl (by decide) (fun a S => ?_)
              refine sBin (.int .i64 (w64 (s23 + 1))) S (wN rfl) rfl (by kernel_rfl) (by kernel_rfl) (bAdd _ _ _ _ s23 1) rfl (by decide) (fun a S => ?_)
              refine sMove (.int .i64 (w64 (s23 + 1))) S (wN rfl) (.inr rfl) (by kernel_rfl) rfl (by decide) (fun a S => ?_)
              exact leafL (leafT (⟨w64 (s23 + 1), (Option.some.inj h).symm, (S.fix [0, 1] [6, 7] (by decide) (by kernel_rfl) (by kernel_rfl) (by kernel_rfl))⟩))
        · refine sCondF (b := decide (s23 < (p0.Bits.length : Int))) S (by kernel_rfl) hc29 ?_
          obtain rfl := Option.some.inj h
          obtain rfl := hu24 _ rfl
          have h := g25
          clear g25
          try dsimp only at h
          exact wp_exit (xThen (xThen (xHit (leafT (⟨Option.some.inj h, S.fix [] [] (by decide) (by kernel_rfl) (by kernel_rfl) (by kernel_rfl)⟩)))))
      · obtain ⟨rfl, S⟩ := hI
        have h := g21
        clear g21
        try dsimp only at h
        refine sSeq (fun K50 hK50 => ?_)
        refine sRegion ?_
        refine sMove (.bool true) S (wN rfl) (.inr rfl) (by kernel_rfl) rfl (by decide) (fun a S => ?_)
        refine leafL (leafT (hK50 _ _ ?_))
        obtain rfl := Option.some.inj h
        exact wp_ret (sRet (.bool true) S (rsl1 rfl (rvT (t := 4) (v := .bool true) S (by kernel_rfl))) ⟨(), rfl, S.mem.sel [] [] (by decide) (by kernel_rfl) (by kernel_rfl)⟩)

end Go.Proofs.Ytjndecalogklhaa
namespace Go.Proofs.Ytjndecalogklhaa
open Go.RowKit
set_option linter.unusedVariables false

noncomputable def F_raddleref01_Great (p0 : api_Grid) : Option Bool :=
  some (decide (4200 < (p0.Bits.length : Int)))
set_option maxHeartbeats 4000000 in
set_option maxRecDepth 100000 in
theorem c_raddleref01_Great (E : Nat → Prop) (w0 : World) (p0 : api_Grid) (v0 : Value) (r : Bool) (h : F_raddleref01_Great p0 = some r) (S : St0 E [] w0 w0 [] [fRep r_api_Grid (v0) p0]) :
    Calls Try.prog 9 #[v0] w0 (Ret (X := Unit) E [] w0 (fun _ => .bool r) (fun _ => []) (fun _ => [])) := by
  unfold F_raddleref01_Great at h
  obtain ⟨u1, rfl, hu2⟩ := S.know (i := 0) (e := fRep r_api_Grid (v0) p0) (by kernel_rfl)
  have S := S.learn (fRep (rL rB) u1 p0.Bits) hu2
  obtain ⟨ad3, cp4, _, rfl, _⟩ := hu2
  refine sEnter (args := [.agg #[.int .i64 p0.W, .int .i64 p0.H, .slice ad3 p0.Bits.length cp4]]) 7 Try.func9 rfl rfl (by simp) S (fun a S => ?_)
  refine sSeq (fun K5 hK5 => ?_)
  refine sRegion ?_
  refine sBox (v := .agg #[.int .i64 p0.W, .int .i64 p0.H, .slice ad3 p0.Bits.length cp4]) S (wN rfl) rfl (by kernel_rfl) [.int .i64 p0.W, .int .i64 p0.H, .slice ad3 p0.Bits.length cp4] rfl rfl (by decide) (fun a b6 w S => ?_)
  refine sMove (.bool false) S (wN rfl) (.inr rfl) (by kernel_rfl) rfl (by decide) (fun a S => ?_)
  refine leafL (leafT (hK5 _ _ ?_))
  refine sSeq (fun K7 hK7 => ?_)
  refine sRegion ?_
  refine sField (b := b6) (off := 0) 2 2 S (wN rfl) rfl (by kernel_rfl) (by kernel_rfl) rfl rfl (by decide) (fun a S => ?_)
  refine sLoad1 (p := b6) (off := 2) (T := 24) (vs := [.int .i64 p0.W, .int .i64 p0.H, .slice ad3 p0.Bits.length cp4]) 0 (.slice ad3 p0.Bits.length cp4) S (wN rfl) rfl (by kernel_rfl) (by kernel_rfl) (by kernel_rfl) rfl rfl (by decide) (fun a S => ?_)
  refine sLen (ad := ad3) (m := p0.Bits.length) (c := cp4) S (wN rfl) rfl Try.underlying22 (by kernel_rfl) rfl (by decide) (fun a S => ?_)
  refine sBin (.bool (decide (4200 < (p0.Bits.length : Int)))) S (wN rfl) rfl (by kernel_rfl) (by kernel_rfl) (bGt _ _ _ _ .i64 (p0.Bits.length : Int) 4200) rfl (by decide) (fun a S => ?_)
  refine sMove (.bool (decide (4200 < (p0.Bits.length : Int)))) S (wN rfl) (.inr rfl) (by kernel_rfl) rfl (by decide) (fun a S => ?_)
  refine leafL (leafT (hK7 _ _ ?_))
  obtain rfl := Option.some.inj h
  exact wp_ret (sRet (.bool (decide (4200 < (p0.Bits.length : Int)))) S (rsl1 rfl (rvT (t := 2) (v := .bool (decide (4200 < (p0.Bits.length : Int)))) S (by kernel_rfl))) ⟨(), rfl, S.mem.sel [] [] (by decide) (by kernel_rfl) (by kernel_rfl)⟩)

end Go.Proofs.Ytjndecalogklhaa
