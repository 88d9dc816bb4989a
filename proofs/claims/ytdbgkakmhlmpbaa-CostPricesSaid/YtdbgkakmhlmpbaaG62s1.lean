import Derived.Test.YtdbgkakmhlmpbaaGTy
import Derived.Test.YtdbgkakmhlmpbaaG25
import Derived.Test.YtdbgkakmhlmpbaaG45
namespace Go.Proofs.Ytdbgkakmhlmpbaa
open Go.RowKit
set_option linter.unusedVariables false

def anc_raddleref23_Make_s1_0 : List (List Nat) := [[], [], [0, 1], [], [], [3, 4], [0, 1, 2, 3, 4, 5], [], [0, 1, 2, 3, 4, 5, 6, 7]]
noncomputable def F_raddleref23_Make_s1 (p0 : Int) (p1 : Int) : Option (api_Ratio × Int) :=
  if p1 == 0 then
    some ((api_Ratio.mk 0 0), 18)
  else
    Option.bind (α := Bool) (
      if p0 == (-9223372036854775808) then
        some (p1 == (-9223372036854775808))
      else
        some false) fun o8 =>
    if o8 then
      some ((api_Ratio.mk 1 1), 0)
    else
      Option.bind (α := Bool) (
        if p0 == (-9223372036854775808) then
          some true
        else
          some (p1 == (-9223372036854775808))) fun o15 =>
      if o15 then
        Option.bind (α := Bool) (
          Option.bind (remI p0 2) fun z24 =>
          if z24 == 0 then
            Option.bind (remI p1 2) fun z27 =>
            some (z27 == 0)
          else
            some false) fun o21 =>
        if o21 then
          Option.bind (quoI p0 2) fun z31 =>
          Option.bind (quoI p1 2) fun z33 =>
          none
        else
          some ((api_Ratio.mk 0 0), 16)
      else
        Option.bind (α := (Int × Int)) (
          if decide (p1 < 0) then
            some (w64 (0 - p0), w64 (0 - p1))
          else
            some (p0, p1)) fun (o36, o37) =>
        Option.bind (F_raddleref23_common o36 o37) fun r43 =>
        Option.bind (quoI o36 r43) fun z46 =>
        Option.bind (quoI o37 r43) fun z48 =>
        Option.bind (F_raddleref23_Check (api_Ratio.mk z46 z48)) fun r54 =>
        if r54 != 0 then
          some ((api_Ratio.mk 0 0), 16)
        else
          some ((api_Ratio.mk z46 z48), 0)
def c_raddleref23_Make_s1_val (r : (api_Ratio × Int)) (x : Value) : Value := .tuple #[x, .int .i64 r.2]
def c_raddleref23_Make_s1_D (r : (api_Ratio × Int)) (x : Value) : List Fact := [fRep r_api_Ratio x r.1]
set_option maxHeartbeats 4000000 in
set_option maxRecDepth 100000 in
theorem c_raddleref23_Make_s1 (E : Nat → Prop) (w0 : World) (p0 : Int) (p1 : Int) (r : (api_Ratio × Int)) (h : F_raddleref23_Make_s1 p0 p1 = some r) (S : St0 E [] w0 w0 [] []) :
    Calls Try.prog 62 #[.int .i64 p0, .int .i64 p1] w0 (Ret (X := Value) E [] w0 (c_raddleref23_Make_s1_val r) (fun _ => []) (c_raddleref23_Make_s1_D r)) := by
  unfold F_raddleref23_Make_s1 at h
  refine sEnter (args := [.int .i64 p0, .int .i64 p1]) 61 Try.func62 rfl rfl (by simp) S (fun a S => ?_)
  refine sSeq (fun K1 hK1 => ?_)
  refine sRegion ?_
  refine sAlloc (.agg #[.int .i64 0, .int .i64 0]) S (wN rfl) rfl (by kernel_rfl) [.int .i64 0, .int .i64 0] rfl rfl (by decide) (fun a b2 w S => ?_)
  refine sMove (.int .i64 0) S (wN rfl) (.inr rfl) (by kernel_rfl) rfl (by decide) (fun a S => ?_)
  refine leafL (leafT (hK1 _ _ ?_))
  refine sSeq (fun K3 hK3 => ?_)
  refine sSeq (fun K4 hK4 => ?_)
  refine sRegion ?_
  refine sMove (.int .i64 p1) S (wN rfl) (.inl rfl) (by kernel_rfl) rfl (by decide) (fun a S => ?_)
  refine sBin (.bool (p1 == 0)) S (wN rfl) rfl (by kernel_rfl) (by kernel_rfl) (bEq _ _ _ _ .i64 p1 0) rfl (by decide) (fun a S => ?_)
  refine leafL (leafT (hK4 _ _ ?_))
  rcases iteSome h with ⟨hc5, h⟩ | ⟨hc5, h⟩
  · refine sCondT (b := p1 == 0) S (by kernel_rfl) hc5 ?_
    refine sSeq (fun K6 hK6 => ?_)
    refine sRegion ?_
    refine sBuild [] [.int .i64 0, .int .i64 0] S (wN rfl) rfl (by kernel_rfl) (by kernel_rfl) rfl (by decide) (fun a S => ?_)
    refine sStore (p := b2) (off := 0) (T := 25) (vs := [.int .i64 0, .int .i64 0]) (v := .agg #[.int .i64 0, .int .i64 0]) 0 [.int .i64 0, .int .i64 0] S (wN rfl) rfl (by kernel_rfl) (by kernel_rfl) rfl (by kernel_rfl) (by kernel_rfl) rfl (by simp) rfl (fun a w S => ?_)
    refine sMove (.int .i64 18) S (wN rfl) (.inr rfl) (by kernel_rfl) rfl (by decide) (fun a S => ?_)
    refine leafL (leafT (hK6 _ _ ?_))
    obtain rfl := Option.some.inj h
    have S := S.learn (fRep r_api_Ratio (.agg #[.int .i64 0, .int .i64 0]) (api_Ratio.mk 0 0)) rfl
    exact wp_ret (rThen (sRet (.tuple #[.agg #[.int .i64 0, .int .i64 0], .int .i64 18]) S (rsl2 rfl (rvN (c := 4) (t := 25) (T := 25) (p := b2) 0 [.int .i64 0, .int .i64 0] S (by kernel_rfl) (by kernel_rfl) (by kernel_rfl) (by kernel_rfl)) (rvT (t := 5) (v := .int .i64 18) S (by kernel_rfl))) ⟨(.agg #[.int .i64 0, .int .i64 0]), rfl, S.mem.sel [] [0] (by decide) (by kernel_rfl) (by kernel_rfl)⟩))
  · refine sCondF (b := p1 == 0) S (by kernel_rfl) hc5 ?_
    refine wp_skip (leafT (hK3 _ _ ?_))
    refine sSeq (fun K7 hK7 => ?_)
    obtain ⟨t9, h, g10⟩ := bindSome h
    refine sCut (fun a w => ∃ o8, o8 = t9 ∧ St [] E [] w0 61 a w [(0, .int .i64 p0), (1, .int .i64 p1), (4, .pointer (some ⟨b2, 0, none⟩)), (16, .bool o8)] [eBox b2 25 [.int .i64 0, .int .i64 0]] []) ?_ (fun a w hI => ?_)
    · refine sRegion ?_
      refine sMove (.int .i64 p0) S (wN rfl) (.inl rfl) (by kernel_rfl) rfl (by decide) (fun a S => ?_)
      refine sBin (.bool (p0 == (-9223372036854775808))) S (wN rfl) rfl (by kernel_rfl) (by kernel_rfl) (bEq _ _ _ _ .i64 p0 (-9223372036854775808)) rfl (by decide) (fun a S => ?_)
      refine sMove (.bool (p0 == (-9223372036854775808))) S (wN rfl) (.inl rfl) (by kernel_rfl) rfl (by decide) (fun a S => ?_)
      rcases iteSome h with ⟨hc11, h⟩ | ⟨hc11, h⟩
      · refine sMove (.int .i64 p1) S (wG (c := p0 == (-9223372036854775808)) 2 true 13 rfl rfl (by kernel_rfl) hc11) (.inl rfl) (by kernel_rfl) rfl (by decide) (fun a S => ?_)
        refine sBin (.bool (p1 == (-9223372036854775808))) S (wG (c := p0 == (-9223372036854775808)) 2 true 13 rfl rfl (by kernel_rfl) hc11) rfl (by kernel_rfl) (by kernel_rfl) (bEq _ _ _ _ .i64 p1 (-9223372036854775808)) rfl (by decide) (fun a S => ?_)
        refine sPickT (b := p0 == (-9223372036854775808)) (.bool (p1 == (-9223372036854775808))) S (wN rfl) rfl (by kernel_rfl) hc11 (by kernel_rfl) rfl (by decide) (fun a S => ?_)
        exact leafL (leafT (⟨p1 == (-9223372036854775808), Option.some.inj h, S.fix [0] [] (by decide) (by kernel_rfl) (by kernel_rfl) (by kernel_rfl)⟩))
      · refine sSkip (c := p0 == (-9223372036854775808)) 2 true 13 14 S rfl rfl (by kernel_rfl) hc11 rfl (by decide) (fun a S => ?_)
        refine sSkip (c := p0 == (-9223372036854775808)) 2 true 13 15 S rfl rfl (by kernel_rfl) hc11 rfl (by decide) (fun a S => ?_)
        refine sPickF (b := p0 == (-9223372036854775808)) (.bool false) S (wN rfl) rfl (by kernel_rfl) hc11 (by kernel_rfl) rfl (by decide) (fun a S => ?_)
        exact leafL (leafT (⟨false, Option.some.inj h, S.fix [0] [] (by decide) (by kernel_rfl) (by kernel_rfl) (by kernel_rfl)⟩))
    · obtain ⟨o8, rfl, S⟩ := hI
      have h := g10
      clear g10
      try dsimp only at h
      rcases iteSome h with ⟨hc12, h⟩ | ⟨hc12, h⟩
      · refine sCondT (b := o8) S (by kernel_rfl) hc12 ?_
        refine sSeq (fun K13 hK13 => ?_)
        refine sRegion ?_
        refine sBuild [(0, .int .i64 1), (1, .int .i64 1)] [.int .i64 1, .int .i64 1] S (wN rfl) rfl (by kernel_rfl) (by kernel_rfl) rfl (by decide) (fun a S => ?_)
        refine sStore (p := b2) (off := 0) (T := 25) (vs := [.int .i64 0, .int .i64 0]) (v := .agg #[.int .i64 1, .int .i64 1]) 0 [.int .i64 1, .int .i64 1] S (wN rfl) rfl (by kernel_rfl) (by kernel_rfl) rfl (by kernel_rfl) (by kernel_rfl) rfl (by simp) rfl (fun a w S => ?_)
        refine sMove (.int .i64 0) S (wN rfl) (.inr rfl) (by kernel_rfl) rfl (by decide) (fun a S => ?_)
        refine leafL (leafT (hK13 _ _ ?_))
        obtain rfl := Option.some.inj h
        have S := S.learn (fRep r_api_Ratio (.agg #[.int .i64 1, .int .i64 1]) (api_Ratio.mk 1 1)) rfl
        exact wp_ret (rThen (sRet (.tuple #[.agg #[.int .i64 1, .int .i64 1], .int .i64 0]) S (rsl2 rfl (rvN (c := 4) (t := 25) (T := 25) (p := b2) 0 [.int .i64 1, .int .i64 1] S (by kernel_rfl) (by kernel_rfl) (by kernel_rfl) (by kernel_rfl)) (rvT (t := 5) (v := .int .i64 0) S (by kernel_rfl))) ⟨(.agg #[.int .i64 1, .int .i64 1]), rfl, S.mem.sel [] [0] (by decide) (by kernel_rfl) (by kernel_rfl)⟩))
      · refine sCondF (b := o8) S (by kernel_rfl) hc12 ?_
        refine wp_skip (leafT (hK7 _ _ ?_))
        refine sSeq (fun K14 hK14 => ?_)
        obtain ⟨t16, h, g17⟩ := bindSome h
        refine sCut (fun a w => ∃ o15, o15 = t16 ∧ St [] E [] w0 61 a w [(0, .int .i64 p0), (1, .int .i64 p1), (4, .pointer (some ⟨b2, 0, none⟩)), (23, .bool o15)] [eBox b2 25 [.int .i64 0, .int .i64 0]] []) ?_ (fun a w hI => ?_)
        · refine sRegion ?_
          refine sMove (.int .i64 p0) S (wN rfl) (.inl rfl) (by kernel_rfl) rfl (by decide) (fun a S => ?_)
          refine sBin (.bool (p0 == (-9223372036854775808))) S (wN rfl) rfl (by kernel_rfl) (by kernel_rfl) (bEq _ _ _ _ .i64 p0 (-9223372036854775808)) rfl (by decide) (fun a S => ?_)
          refine sMove (.bool (p0 == (-9223372036854775808))) S (wN rfl) (.inl rfl) (by kernel_rfl) rfl (by decide) (fun a S => ?_)
          rcases iteSome h with ⟨hc18, h⟩ | ⟨hc18, h⟩
          · refine sSkip (c := p0 == (-9223372036854775808)) 2 false 20 21 S rfl rfl (by kernel_rfl) hc18 rfl (by decide) (fun a S => ?_)
            refine sSkip (c := p0 == (-9223372036854775808)) 2 false 20 22 S rfl rfl (by kernel_rfl) hc18 rfl (by decide) (fun a S => ?_)
            refine sPickT (b := p0 == (-9223372036854775808)) (.bool true) S (wN rfl) rfl (by kernel_rfl) hc18 (by kernel_rfl) rfl (by decide) (fun a S => ?_)
            exact leafL (leafT (⟨true, Option.some.inj h, S.fix [0] [] (by decide) (by kernel_rfl) (by kernel_rfl) (by kernel_rfl)⟩))
          · refine sMove (.int .i64 p1) S (wG (c := p0 == (-9223372036854775808)) 2 false 20 rfl rfl (by kernel_rfl) hc18) (.inl rfl) (by kernel_rfl) rfl (by decide) (fun a S => ?_)
            refine sBin (.bool (p1 == (-9223372036854775808))) S (wG (c := p0 == (-9223372036854775808)) 2 false 20 rfl rfl (by kernel_rfl) hc18) rfl (by kernel_rfl) (by kernel_rfl) (bEq _ _ _ _ .i64 p1 (-9223372036854775808)) rfl (by decide) (fun a S => ?_)
            refine sPickF (b := p0 == (-9223372036854775808)) (.bool (p1 == (-9223372036854775808))) S (wN rfl) rfl (by kernel_rfl) hc18 (by kernel_rfl) rfl (by decide) (fun a S => ?_)
            exact leafL (leafT (⟨p1 == (-9223372036854775808), Option.some.inj h, S.fix [0] [] (by decide) (by kernel_rfl) (by kernel_rfl) (by kernel_rfl)⟩))
        · obtain ⟨o15, rfl, S⟩ := hI
          have h := g17
          clear g17
          try dsimp only at h
          rcases iteSome h with ⟨hc19, h⟩ | ⟨hc19, h⟩
          · refine sCondT (b := o15) S (by kernel_rfl) hc19 ?_
            refine sSeq (fun K20 hK20 => ?_)
            obtain ⟨t22, h, g23⟩ := bindSome h
            refine sCut (fun a w => ∃ o21, o21 = t22 ∧ St [] E [] w0 61 a w [(0, .int .i64 p0), (1, .int .i64 p1), (4, .pointer (some ⟨b2, 0, none⟩)), (31, .bool o21)] [eBox b2 25 [.int .i64 0, .int .i64 0]] []) ?_ (fun a w hI => ?_)
            · refine sRegion ?_
              refine sMove (.int .i64 p0) S (wN rfl) (.inl rfl) (by kernel_rfl) rfl (by decide) (fun a S => ?_)
              obtain ⟨z24, hx25, h⟩ := bindSome h
              refine sBin (.int .i64 z24) S (wN rfl) rfl (by kernel_rfl) (by kernel_rfl) (bRem _ _ _ _ (x := p0) (y := 2) hx25) rfl (by decide) (fun a S => ?_)
              refine sBin (.bool (z24 == 0)) S (wN rfl) rfl (by kernel_rfl) (by kernel_rfl) (bEq _ _ _ _ .i64 z24 0) rfl (by decide) (fun a S => ?_)
              refine sMove (.bool (z24 == 0)) S (wN rfl) (.inl rfl) (by kernel_rfl) rfl (by decide) (fun a S => ?_)
              rcases iteSome h with ⟨hc26, h⟩ | ⟨hc26, h⟩
              · refine sMove (.int .i64 p1) S (wG (c := z24 == 0) 3 true 27 rfl rfl (by kernel_rfl) hc26) (.inl rfl) (by kernel_rfl) rfl (by decide) (fun a S => ?_)
                obtain ⟨z27, hx28, h⟩ := bindSome h
                refine sBin (.int .i64 z27) S (wG (c := z24 == 0) 3 true 27 rfl rfl (by kernel_rfl) hc26) rfl (by kernel_rfl) (by kernel_rfl) (bRem _ _ _ _ (x := p1) (y := 2) hx28) rfl (by decide) (fun a S => ?_)
                refine sBin (.bool (z27 == 0)) S (wG (c := z24 == 0) 3 true 27 rfl rfl (by kernel_rfl) hc26) rfl (by kernel_rfl) (by kernel_rfl) (bEq _ _ _ _ .i64 z27 0) rfl (by decide) (fun a S => ?_)
                refine sPickT (b := z24 == 0) (.bool (z27 == 0)) S (wN rfl) rfl (by kernel_rfl) hc26 (by kernel_rfl) rfl (by decide) (fun a S => ?_)
                exact leafL (leafT (⟨z27 == 0, Option.some.inj h, S.fix [0] [] (by decide) (by kernel_rfl) (by kernel_rfl) (by kernel_rfl)⟩))
              · refine sSkip (c := z24 == 0) 3 true 27 28 S rfl rfl (by kernel_rfl) hc26 rfl (by decide) (fun a S => ?_)
                refine sSkip (c := z24 == 0) 3 true 27 29 S rfl rfl (by kernel_rfl) hc26 rfl (by decide) (fun a S => ?_)
                refine sSkip (c := z24 == 0) 3 true 27 30 S rfl rfl (by kernel_rfl) hc26 rfl (by decide) (fun a S => ?_)
                refine sPickF (b := z24 == 0) (.bool false) S (wN rfl) rfl (by kernel_rfl) hc26 (by kernel_rfl) rfl (by decide) (fun a S => ?_)
                exact leafL (leafT (⟨false, Option.some.inj h, S.fix [0] [] (by decide) (by kernel_rfl) (by kernel_rfl) (by kernel_rfl)⟩))
            · obtain ⟨o21, rfl, S⟩ := hI
              have h := g23
              clear g23
              try dsimp only at h
              rcases iteSome h with ⟨hc29, h⟩ | ⟨hc29, h⟩
              · refine sCondT (b := o21) S (by kernel_rfl) hc29 ?_
                refine sSeq (fun K30 hK30 => ?_)
                refine sRegion ?_
                refine sMove (.int .i64 p0) S (wN rfl) (.inl rfl) (by kernel_rfl) rfl (by decide) (fun a S => ?_)
                obtain ⟨z31, hx32, h⟩ := bindSome h
                refine sBin (.int .i64 z31) S (wN rfl) rfl (by kernel_rfl) (by kernel_rfl) (bQuo _ _ _ _ (x := p0) (y := 2) hx32) rfl (by decide) (fun a S => ?_)
                refine sMove (.int .i64 p1) S (wN rfl) (.inl rfl) (by kernel_rfl) rfl (by decide) (fun a S => ?_)
                obtain ⟨z33, hx34, h⟩ := bindSome h
                refine sBin (.int .i64 z33) S (wN rfl) rfl (by kernel_rfl) (by kernel_rfl) (bQuo _ _ _ _ (x := p1) (y := 2) hx34) rfl (by decide) (fun a S => ?_)
                cases h
              · refine sCondF (b := o21) S (by kernel_rfl) hc29 ?_
                refine wp_skip (leafT (hK20 _ _ ?_))
                refine sSeq (fun K35 hK35 => ?_)
                refine sRegion ?_
                refine sBuild [] [.int .i64 0, .int .i64 0] S (wN rfl) rfl (by kernel_rfl) (by kernel_rfl) rfl (by decide) (fun a S => ?_)
                refine sStore (p := b2) (off := 0) (T := 25) (vs := [.int .i64 0, .int .i64 0]) (v := .agg #[.int .i64 0, .int .i64 0]) 0 [.int .i64 0, .int .i64 0] S (wN rfl) rfl (by kernel_rfl) (by kernel_rfl) rfl (by kernel_rfl) (by kernel_rfl) rfl (by simp) rfl (fun a w S => ?_)
                refine sMove (.int .i64 16) S (wN rfl) (.inr rfl) (by kernel_rfl) rfl (by decide) (fun a S => ?_)
                refine leafL (leafT (hK35 _ _ ?_))
                obtain rfl := Option.some.inj h
                have S := S.learn (fRep r_api_Ratio (.agg #[.int .i64 0, .int .i64 0]) (api_Ratio.mk 0 0)) rfl
                exact wp_ret (rThen (sRet (.tuple #[.agg #[.int .i64 0, .int .i64 0], .int .i64 16]) S (rsl2 rfl (rvN (c := 4) (t := 25) (T := 25) (p := b2) 0 [.int .i64 0, .int .i64 0] S (by kernel_rfl) (by kernel_rfl) (by kernel_rfl) (by kernel_rfl)) (rvT (t := 5) (v := .int .i64 16) S (by kernel_rfl))) ⟨(.agg #[.int .i64 0, .int .i64 0]), rfl, S.mem.sel [] [0] (by decide) (by kernel_rfl) (by kernel_rfl)⟩))
          · refine sCondF (b := o15) S (by kernel_rfl) hc19 ?_
            refine wp_skip (leafT (hK14 _ _ ?_))
            obtain ⟨t38, h, g39⟩ := bindSome h
            refine sCut (fun a w => ∃ o36, ∃ o37, (o36, o37) = t38 ∧ St [] E [] w0 61 a w [(0, .int .i64 o36), (1, .int .i64 o37), (4, .pointer (some ⟨b2, 0, none⟩))] [eBox b2 25 [.int .i64 0, .int .i64 0]] []) ?_ (fun a w hI => ?_)
            · refine sSeq (fun K40 hK40 => ?_)
              refine sRegion ?_
              refine sMove (.int .i64 p1) S (wN rfl) (.inl rfl) (by kernel_rfl) rfl (by decide) (fun a S => ?_)
              refine sBin (.bool (decide (p1 < 0))) S (wN rfl) rfl (by kernel_rfl) (by kernel_rfl) (bLt _ _ _ _ .i64 p1 0) rfl (by decide) (fun a S => ?_)
              refine leafL (leafT (hK40 _ _ ?_))
              rcases iteSome h with ⟨hc41, h⟩ | ⟨hc41, h⟩
              · refine sCondT (b := decide (p1 < 0)) S (by kernel_rfl) hc41 ?_
                refine sRegion ?_
                refine sMove (.int .i64 p0) S (wN rfl) (.inl rfl) (by kernel_rfl) rfl (by decide) (fun a S => ?_)
                refine sNeg (b := p0) S (wN rfl) rfl (by kernel_rfl) rfl (by decide) (fun a S => ?_)
                refine sMove (.int .i64 p1) S (wN rfl) (.inl rfl) (by kernel_rfl) rfl (by decide) (fun a S => ?_)
                refine sNeg (b := p1) S (wN rfl) rfl (by kernel_rfl) rfl (by decide) (fun a S => ?_)
                refine sMove (.int .i64 (w64 (0 - p0))) S (wN rfl) (.inr rfl) (by kernel_rfl) rfl (by decide) (fun a S => ?_)
                refine sMove (.int .i64 (w64 (0 - p1))) S (wN rfl) (.inr rfl) (by kernel_rfl) rfl (by decide) (fun a S => ?_)
                exact leafL (leafT (⟨w64 (0 - p0), w64 (0 - p1), Option.some.inj h, S.fix [0] [] (by decide) (by kernel_rfl) (by kernel_rfl) (by kernel_rfl)⟩))
              · refine sCondF (b := decide (p1 < 0)) S (by kernel_rfl) hc41 ?_
                exact wp_skip (leafT (⟨p0, p1, Option.some.inj h, S.fix [0] [] (by decide) (by kernel_rfl) (by kernel_rfl) (by kernel_rfl)⟩))
            · obtain ⟨o36, o37, rfl, S⟩ := hI
              have h := g39
              clear g39
              try dsimp only at h
              refine sSeq (fun K42 hK42 => ?_)
              refine sRegion ?_
              refine sMove (.int .i64 o36) S (wN rfl) (.inl rfl) (by kernel_rfl) rfl (by decide) (fun a S => ?_)
              refine sMove (.int .i64 o37) S (wN rfl) (.inl rfl) (by kernel_rfl) rfl (by decide) (fun a S => ?_)
              obtain ⟨r43, hx44, h⟩ := bindSome h
              have S1 := S.mem
              refine sCallQ (X := Unit) (f := 45) (vs := [.int .i64 o36, .int .i64 o37]) (val := fun _ => .int .i64 r43) S (wN rfl) rfl callee45 (by kernel_rfl) (S1.quiet [] (by kernel_rfl)) (fun E1 w1 S1 => c_raddleref23_common E1 w1 o36 o37 r43 hx44 S1) rfl (by decide) (fun _ a w S => ?_)
              refine sMove (.int .i64 r43) S (wN rfl) (.inr rfl) (by kernel_rfl) rfl (by decide) (fun a S => ?_)
              refine leafL (leafT (hK42 _ _ ?_))
              refine sSeq (fun K45 hK45 => ?_)
              obtain ⟨z46, hx47, h⟩ := bindSome h
              obtain ⟨z48, hx49, h⟩ := bindSome h
              refine sDraw (nf := [7, 8]) (W := [(0, 49, .int .i64 o36), (1, 50, .int .i64 r43), (2, 51, .int .i64 z46), (3, 52, .int .i64 o37), (4, 53, .int .i64 r43), (5, 54, .int .i64 z48), (6, 55, .agg #[.int .i64 z46, .int .i64 z48])]) (by kernel_rfl) S ?_
              refine node_by (A := anc_raddleref23_Make_s1_0) (nf := [7, 8]) (Y := []) (W := [(0, 49, .int .i64 o36), (1, 50, .int .i64 r43), (2, 51, .int .i64 z46), (3, 52, .int .i64 o37), (4, 53, .int .i64 r43), (5, 54, .int .i64 z48), (6, 55, .agg #[.int .i64 z46, .int .i64 z48])]) 9 (by kernel_rfl) (by kernel_rfl) (by kernel_rfl) (by kernel_rfl) (by kernel_rfl) [0, 1, 2, 3, 4, 5, 6] (by kernel_rfl) (by decide) (by decide) (aF 0 8 (by decide) ?_ (aF 1 7 (by decide) ?_ (aF 2 6 (by decide) ?_ (aF 3 5 (by decide) ?_ (aF 4 4 (by decide) ?_ (aF 5 3 (by decide) ?_ (aF 6 2 (by decide) ?_ (aN 7 1 (by decide) ?_ (aB 8 0 7 (by decide) (trivial)))))))))) [] (fun q hq => by cases hq) (fun hY => absurd (hY 7 (by decide)) (by decide))
              · refine fI 49 (.int .i64 o36) [(0, .int .i64 o36)] 0 [none] rfl rfl (by kernel_rfl) rfl (by kernel_rfl) (by kernel_rfl) fun G a w S => ?_
                refine sMove (.int .i64 o36) S (wN rfl) (.inl rfl) (by kernel_rfl) rfl (by decide) (fun a S => ?_)
                exact leafL ⟨rfl, S⟩
              · refine fI 50 (.int .i64 r43) [(6, .int .i64 r43)] 1 [none] rfl rfl (by kernel_rfl) rfl (by kernel_rfl) (by kernel_rfl) fun G a w S => ?_
                refine sMove (.int .i64 r43) S (wN rfl) (.inl rfl) (by kernel_rfl) rfl (by decide) (fun a S => ?_)
                exact leafL ⟨rfl, S⟩
              · refine fI 51 (.int .i64 z46) [(49, .int .i64 o36), (50, .int .i64 r43)] 2 [some 0, some 1] rfl rfl (by kernel_rfl) rfl (by kernel_rfl) (by kernel_rfl) fun G a w S => ?_
                refine sBin (.int .i64 z46) S (wN rfl) rfl (by kernel_rfl) (by kernel_rfl) (bQuo _ _ _ _ (x := o36) (y := r43) hx47) rfl (by decide) (fun a S => ?_)
                exact leafL ⟨rfl, S⟩
              · refine fI 52 (.int .i64 o37) [(1, .int .i64 o37)] 3 [none] rfl rfl (by kernel_rfl) rfl (by kernel_rfl) (by kernel_rfl) fun G a w S => ?_
                refine sMove (.int .i64 o37) S (wN rfl) (.inl rfl) (by kernel_rfl) rfl (by decide) (fun a S => ?_)
                exact leafL ⟨rfl, S⟩
              · refine fI 53 (.int .i64 r43) [(6, .int .i64 r43)] 4 [none] rfl rfl (by kernel_rfl) rfl (by kernel_rfl) (by kernel_rfl) fun G a w S => ?_
                refine sMove (.int .i64 r43) S (wN rfl) (.inl rfl) (by kernel_rfl) rfl (by decide) (fun a S => ?_)
                exact leafL ⟨rfl, S⟩
              · refine fI 54 (.int .i64 z48) [(52, .int .i64 o37), (53, .int .i64 r43)] 5 [some 3, some 4] rfl rfl (by kernel_rfl) rfl (by kernel_rfl) (by kernel_rfl) fun G a w S => ?_
                refine sBin (.int .i64 z48) S (wN rfl) rfl (by kernel_rfl) (by kernel_rfl) (bQuo _ _ _ _ (x := o37) (y := r43) hx49) rfl (by decide) (fun a S => ?_)
                exact leafL ⟨rfl, S⟩
              · refine fI 55 (.agg #[.int .i64 z46, .int .i64 z48]) [(51, .int .i64 z46), (54, .int .i64 z48)] 6 [some 2, some 5] rfl rfl (by kernel_rfl) rfl (by kernel_rfl) (by kernel_rfl) fun G a w S => ?_
                refine sBuild [(0, .int .i64 z46), (1, .int .i64 z48)] [.int .i64 z46, .int .i64 z48] S (wN rfl) rfl (by kernel_rfl) (by kernel_rfl) rfl (by decide) (fun a S => ?_)
                exact leafL ⟨rfl, S⟩
              · refine ⟨_, [], rfl, (srcs_of [] rfl (by kernel_rfl) (by kernel_rfl)), fun G a w S => ?_⟩
                refine sAlloc (.agg #[.int .i64 0, .int .i64 0]) S (wN rfl) rfl (by kernel_rfl) [.int .i64 0, .int .i64 0] rfl rfl (by decide) (fun a b51 w S => ?_)
                refine leafL ⟨rfl, _, _, .inl ⟨7, (.pointer (some ⟨b51, 0, none⟩)), [], rfl, S, hz_of (by kernel_rfl), ?_⟩⟩
                refine node_by (A := anc_raddleref23_Make_s1_0) (nf := [7, 8]) (Y := [7]) 9 (by kernel_rfl) (by kernel_rfl) (by kernel_rfl) (by kernel_rfl) (by kernel_rfl) [7, 0, 1, 2, 3, 4, 5, 6] (by kernel_rfl) (by decide) (by decide) (aF 0 8 (by decide) ?_ (aF 1 7 (by decide) ?_ (aF 2 6 (by decide) ?_ (aF 3 5 (by decide) ?_ (aF 4 4 (by decide) ?_ (aF 5 3 (by decide) ?_ (aF 6 2 (by decide) ?_ (aY 7 1 (by decide) (aN 8 0 (by decide) ?_ (trivial)))))))))) [] (fun q hq => by cases hq) (fun hY => absurd (hY 8 (by decide)) (by decide))
                · refine fI 49 (.int .i64 o36) [(0, .int .i64 o36)] 1 [none] rfl rfl (by kernel_rfl) rfl (by kernel_rfl) (by kernel_rfl) fun G a w S => ?_
                  refine sMove (.int .i64 o36) S (wN rfl) (.inl rfl) (by kernel_rfl) rfl (by decide) (fun a S => ?_)
                  exact leafL ⟨rfl, S⟩
                · refine fI 50 (.int .i64 r43) [(6, .int .i64 r43)] 2 [none] rfl rfl (by kernel_rfl) rfl (by kernel_rfl) (by kernel_rfl) fun G a w S => ?_
                  refine sMove (.int .i64 r43) S (wN rfl) (.inl rfl) (by kernel_rfl) rfl (by decide) (fun a S => ?_)
                  exact leafL ⟨rfl, S⟩
                · refine fI 51 (.int .i64 z46) [(49, .int .i64 o36), (50, .int .i64 r43)] 3 [some 1, some 2] rfl rfl (by kernel_rfl) rfl (by kernel_rfl) (by kernel_rfl) fun G a w S => ?_
                  refine sBin (.int .i64 z46) S (wN rfl) rfl (by kernel_rfl) (by kernel_rfl) (bQuo _ _ _ _ (x := o36) (y := r43) hx47) rfl (by decide) (fun a S => ?_)
                  exact leafL ⟨rfl, S⟩
                · refine fI 52 (.int .i64 o37) [(1, .int .i64 o37)] 4 [none] rfl rfl (by kernel_rfl) rfl (by kernel_rfl) (by kernel_rfl) fun G a w S => ?_
                  refine sMove (.int .i64 o37) S (wN rfl) (.inl rfl) (by kernel_rfl) rfl (by decide) (fun a S => ?_)
                  exact leafL ⟨rfl, S⟩
                · refine fI 53 (.int .i64 r43) [(6, .int .i64 r43)] 5 [none] rfl rfl (by kernel_rfl) rfl (by kernel_rfl) (by kernel_rfl) fun G a w S => ?_
                  refine sMove (.int .i64 r43) S (wN rfl) (.inl rfl) (by kernel_rfl) rfl (by decide) (fun a S => ?_)
                  exact leafL ⟨rfl, S⟩
                · refine fI 54 (.int .i64 z48) [(52, .int .i64 o37), (53, .int .i64 r43)] 6 [some 4, some 5] rfl rfl (by kernel_rfl) rfl (by kernel_rfl) (by kernel_rfl) fun G a w S => ?_
                  refine sBin (.int .i64 z48) S (wN rfl) rfl (by kernel_rfl) (by kernel_rfl) (bQuo _ _ _ _ (x := o37) (y := r43) hx49) rfl (by decide) (fun a S => ?_)
                  exact leafL ⟨rfl, S⟩
                · refine fI 55 (.agg #[.int .i64 z46, .int .i64 z48]) [(51, .int .i64 z46), (54, .int .i64 z48)] 7 [some 3, some 6] rfl rfl (by kernel_rfl) rfl (by kernel_rfl) (by kernel_rfl) fun G a w S => ?_
                  refine sBuild [(0, .int .i64 z46), (1, .int .i64 z48)] [.int .i64 z46, .int .i64 z48] S (wN rfl) rfl (by kernel_rfl) (by kernel_rfl) rfl (by decide) (fun a S => ?_)
                  exact leafL ⟨rfl, S⟩
                · refine ⟨_, [(7, .pointer (some ⟨b51, 0, none⟩)), (55, .agg #[.int .i64 z46, .int .i64 z48])], rfl, (srcs_of [some 0, some 7] rfl (by kernel_rfl) (by kernel_rfl)), fun G a w S => ?_⟩
                  refine sStore (p := b51) (off := 0) (T := 25) (vs := [.int .i64 0, .int .i64 0]) (v := .agg #[.int .i64 z46, .int .i64 z48]) 0 [.int .i64 z46, .int .i64 z48] S (wN rfl) rfl (by kernel_rfl) (by kernel_rfl) rfl (by kernel_rfl) (by kernel_rfl) rfl (by simp) rfl (fun a w S => ?_)
                  refine leafL ⟨rfl, _, _, .inr ⟨[], rfl, S, hz_of (by kernel_rfl), ?_⟩⟩
                  refine node_by (A := anc_raddleref23_Make_s1_0) (nf := [7, 8]) (Y := [8, 7]) 9 (by kernel_rfl) (by kernel_rfl) (by kernel_rfl) (by kernel_rfl) (by kernel_rfl) [7, 0, 1, 2, 3, 4, 5, 6] (by kernel_rfl) (by decide) (by decide) (aD 0 8 8 (by decide) (aD 1 7 8 (by decide) (aD 2 6 8 (by decide) (aD 3 5 8 (by decide) (aD 4 4 8 (by decide) (aD 5 3 8 (by decide) (aD 6 2 8 (by decide) (aY 7 1 (by decide) (aY 8 0 (by decide) (trivial)))))))))) [(4, .pointer (some ⟨b2, 0, none⟩)), (7, .pointer (some ⟨b51, 0, none⟩))] (fin_of [none, some 0] rfl (by kernel_rfl) (by kernel_rfl)) (fun _ a w S => ?_)
                  · refine leafT (hK45 _ _ ?_)
                    refine sSeq (fun K52 hK52 => ?_)
                    refine sSeq (fun K53 hK53 => ?_)
                    refine sRegion ?_
                    refine sLoadN (p := b51) (off := 0) (T := 25) (vs := [.int .i64 z46, .int .i64 z48]) 0 [.int .i64 z46, .int .i64 z48] S (wN rfl) rfl (by kernel_rfl) (by kernel_rfl) (by kernel_rfl) (by kernel_rfl) rfl rfl (by decide) (fun a S => ?_)
                    obtain ⟨r54, hx55, h⟩ := bindSome h
                    have S1 := S.mem
                    have S1 := S1.learn (fRep r_api_Ratio (.agg #[.int .i64 z46, .int .i64 z48]) (api_Ratio.mk z46 z48)) rfl
                    refine sCallQ (X := Unit) (f := 25) (vs := [.agg #[.int .i64 z46, .int .i64 z48]]) (val := fun _ => .int .i64 r54) S (wN rfl) rfl callee25 (by kernel_rfl) (S1.quiet [0] (by kernel_rfl)) (fun E1 w1 S1 => c_raddleref23_Check E1 w1 (api_Ratio.mk z46 z48) (.agg #[.int .i64 z46, .int .i64 z48]) r54 hx55 S1) rfl (by decide) (fun _ a w S => ?_)
                    refine sBin (.bool (r54 != 0)) S (wN rfl) rfl (by kernel_rfl) (by kernel_rfl) (bNe _ _ _ _ .i64 r54 0) rfl (by decide) (fun a S => ?_)
                    refine leafL (leafT (hK53 _ _ ?_))
                    rcases iteSome h with ⟨hc56, h⟩ | ⟨hc56, h⟩
                    · refine sCondT (b := r54 != 0) S (by kernel_rfl) hc56 ?_
                      refine sSeq (fun K57 hK57 => ?_)
                      refine sRegion ?_
                      refine sBuild [] [.int .i64 0, .int .i64 0] S (wN rfl) rfl (by kernel_rfl) (by kernel_rfl) rfl (by decide) (fun a S => ?_)
                      refine sStore (p := b2) (off := 0) (T := 25) (vs := [.int .i64 0, .int .i64 0]) (v := .agg #[.int .i64 0, .int .i64 0]) 1 [.int .i64 0, .int .i64 0] S (wN rfl) rfl (by kernel_rfl) (by kernel_rfl) rfl (by kernel_rfl) (by kernel_rfl) rfl (by simp) rfl (fun a w S => ?_)
                      refine sMove (.int .i64 16) S (wN rfl) (.inr rfl) (by kernel_rfl) rfl (by decide) (fun a S => ?_)
                      refine leafL (leafT (hK57 _ _ ?_))
                      obtain rfl := Option.some.inj h
                      have S := S.learn (fRep r_api_Ratio (.agg #[.int .i64 0, .int .i64 0]) (api_Ratio.mk 0 0)) rfl
                      exact wp_ret (rThen (sRet (.tuple #[.agg #[.int .i64 0, .int .i64 0], .int .i64 16]) S (rsl2 rfl (rvN (c := 4) (t := 25) (T := 25) (p := b2) 0 [.int .i64 0, .int .i64 0] S (by kernel_rfl) (by kernel_rfl) (by kernel_rfl) (by kernel_rfl)) (rvT (t := 5) (v := .int .i64 16) S (by kernel_rfl))) ⟨(.agg #[.int .i64 0, .int .i64 0]), rfl, S.mem.sel [] [0] (by decide) (by kernel_rfl) (by kernel_rfl)⟩))
                    · refine sCondF (b := r54 != 0) S (by kernel_rfl) hc56 ?_
                      refine wp_skip (leafT (hK52 _ _ ?_))
                      refine sSeq (fun K58 hK58 => ?_)
                      refine sRegion ?_
                      refine sLoadN (p := b51) (off := 0) (T := 25) (vs := [.int .i64 z46, .int .i64 z48]) 0 [.int .i64 z46, .int .i64 z48] S (wN rfl) rfl (by kernel_rfl) (by kernel_rfl) (by kernel_rfl) (by kernel_rfl) rfl rfl (by decide) (fun a S => ?_)
                      refine sStore (p := b2) (off := 0) (T := 25) (vs := [.int .i64 0, .int .i64 0]) (v := .agg #[.int .i64 z46, .int .i64 z48]) 1 [.int .i64 z46, .int .i64 z48] S (wN rfl) rfl (by kernel_rfl) (by kernel_rfl) rfl (by kernel_rfl) (by kernel_rfl) rfl (by simp) rfl (fun a w S => ?_)
                      refine sMove (.int .i64 0) S (wN rfl) (.inr rfl) (by kernel_rfl) rfl (by decide) (fun a S => ?_)
                      refine leafL (leafT (hK58 _ _ ?_))
                      obtain rfl := Option.some.inj h
                      have S := S.learn (fRep r_api_Ratio (.agg #[.int .i64 z46, .int .i64 z48]) (api_Ratio.mk z46 z48)) rfl
                      exact wp_ret (sRet (.tuple #[.agg #[.int .i64 z46, .int .i64 z48], .int .i64 0]) S (rsl2 rfl (rvN (c := 4) (t := 25) (T := 25) (p := b2) 0 [.int .i64 z46, .int .i64 z48] S (by kernel_rfl) (by kernel_rfl) (by kernel_rfl) (by kernel_rfl)) (rvT (t := 5) (v := .int .i64 0) S (by kernel_rfl))) ⟨(.agg #[.int .i64 z46, .int .i64 z48]), rfl, S.mem.sel [] [0] (by decide) (by kernel_rfl) (by kernel_rfl)⟩)

end Go.Proofs.Ytdbgkakmhlmpbaa
