/- Several texts in one: G7 LSY LSZ FrSettYarns -/
import Derived.WalkKit
import Derived.Maps.AppendAt
import Derived.Deep.AppendLies
import Derived.KernelRfl
import Derived.Laws.OwnMore
import Derived.Great.BuildSlice
import Derived.Orders
import Derived.Laws.StructEq
import Derived.ChangeKeysEq
import Derived.Test.YtjndecalogklhaaProg
import Derived.ProofKit
import Derived.OpenShut
import Derived.ChangeOld
import Derived.Deep.Slices
import Derived.Lib.SmallJoins
import Derived.JoinedOf
import Derived.JoinedAt
import Derived.Below
import Derived.Test.YtjndecalogklhaaRows
import Derived.Test.YtjndecalogklhaaMSettYarns7
namespace Go.Proofs.Ytjndecalogklhaa
open Go.RowKit
set_option linter.unusedVariables false

noncomputable def F_raddlelaw24_SettYarns (p0 : Int) (p1 : api_Ratio) : Option Bool :=
  Option.bind (F_raddlelaw24_alive) fun r4 =>
  Option.bind (α := Bool) (
    Option.bind (F_raddleref24_Up p1 p0) fun r10 =>
    if r10 != 0 then
      some true
    else
      some (!r4)) fun o7 =>
  if o7 then
    some r4
  else
    Option.bind (F_sett_Cloth p0 p1) fun r16 =>
    Option.bind (α := Bool) (
      if r16.2 != 0 then
        some true
      else
        if decide (r16.1 < 0) then
          some true
        else
          some (decide (p0 < r16.1))) fun o19 =>
    if o19 then
      some false
    else
      Option.bind (F_sett_Need r16.1 p1) fun r27 =>
      Option.bind (α := Bool) (
        if r27.2 != 0 then
          some true
        else
          if decide (p0 < r27.1) then
            some true
          else
            some (decide (r27.1 < r16.1))) fun o30 =>
      if o30 then
        some false
      else
        Option.bind (α := Unit ⊕ Bool) (
          if decide (r16.1 < 1000000000) then
            Option.bind (F_sett_Need (w64 (r16.1 + 1)) p1) fun r42 =>
            Option.bind (α := Bool) (
              if r42.2 != 0 then
                some true
              else
                some (decide (r42.1 ≤ p0))) fun o44 =>
            if o44 then
              some (.inr false)
            else
              some (.inl ())
          else
            some (.inl ())) fun z0 => match z0 with
          | .inl _ =>
            Option.bind (F_sett_Need p0 p1) fun r51 =>
            Option.bind (α := Bool) (
              if r51.2 != 0 then
                some true
              else
                if decide (r51.1 < p0) then
                  some true
                else
                  some (decide (1000000000 < r51.1))) fun o54 =>
            if o54 then
              Option.bind (α := Bool) (
                if r4 then
                  if r51.2 == 0 then
                    some (decide (p0 ≤ r51.1))
                  else
                    some false
                else
                  some false) fun o60 =>
              some o60
            else
              Option.bind (F_sett_Cloth r51.1 p1) fun r66 =>
              Option.bind (α := Bool) (
                if r4 then
                  if r66.2 == 0 then
                    some (decide (p0 ≤ r66.1))
                  else
                    some false
                else
                  some false) fun o68 =>
              some o68
          | .inr z =>
            some z
set_option maxHeartbeats 4000000 in
set_option maxRecDepth 100000 in
theorem c_raddlelaw24_SettYarns (E : Nat → Prop) (w0 : World) (p0 : Int) (p1 : api_Ratio) (v1 : Value) (r : Bool) (h : F_raddlelaw24_SettYarns p0 p1 = some r) (S : St0 E [] w0 w0 [] [fRep r_api_Ratio (v1) p1]) :
    Calls Try.prog 7 #[.int .i64 p0, v1] w0 (Ret (X := Unit) E [] w0 (fun _ => .bool r) (fun _ => []) (fun _ => [])) := by
  unfold F_raddlelaw24_SettYarns at h
  obtain rfl : v1 = .agg #[.int .i64 p1.Num, .int .i64 p1.Den] := S.know (i := 0) (e := fRep r_api_Ratio (v1) p1) (by kernel_rfl)
  refine sEnter (args := [.int .i64 p0, .agg #[.int .i64 p1.Num, .int .i64 p1.Den]]) 120 Try.func7 rfl rfl (by simp) S (fun a S => ?_)
  refine sSeq (fun K1 hK1 => ?_)
  refine sRegion ?_
  refine sBox (v := .agg #[.int .i64 p1.Num, .int .i64 p1.Den]) S (wN rfl) rfl (by kernel_rfl) [.int .i64 p1.Num, .int .i64 p1.Den] rfl rfl (by decide) (fun a b2 w S => ?_)
  refine sMove (.bool false) S (wN rfl) (.inr rfl) (by kernel_rfl) rfl (by decide) (fun a S => ?_)
  refine leafL (leafT (hK1 _ _ ?_))
  refine sSeq (fun K3 hK3 => ?_)
  refine sRegion ?_
  obtain ⟨r4, hx5, h⟩ := bindSome h
  have S1 := S.mem
  refine sCallQ (X := Unit) (f := 17) (vs := []) (val := fun _ => .bool r4) S (wN rfl) rfl callee17 (by kernel_rfl) (S1.quiet [] (by kernel_rfl)) (fun E1 w1 S1 => c_raddlelaw24_alive E1 w1  r4 hx5 S1) rfl (by decide) (fun _ a w S => ?_)
  refine sMove (.bool r4) S (wN rfl) (.inr rfl) (by kernel_rfl) rfl (by decide) (fun a S => ?_)
  refine leafL (leafT (hK3 _ _ ?_))
  refine sSeq (fun K6 hK6 => ?_)
  obtain ⟨t8, h, g9⟩ := bindSome h
  refine sCut (fun a w => ∃ o7, o7 = t8 ∧ St E [] w0 120 a w [(0, .int .i64 p0), (3, .pointer (some ⟨b2, 0, none⟩)), (5, .bool r4), (24, .bool o7)] [eBox b2 34 [.int .i64 p1.Num, .int .i64 p1.Den]] []) ?_ (fun a w hI => ?_)
  · refine sRegion ?_
    refine sLoadN (p := b2) (off := 0) (T := 34) (vs := [.int .i64 p1.Num, .int .i64 p1.Den]) 0 [.int .i64 p1.Num, .int .i64 p1.Den] S (wN rfl) rfl (by kernel_rfl) (by kernel_rfl) (by kernel_rfl) (by kernel_rfl) rfl rfl (by decide) (fun a S => ?_)
    refine sMove (.int .i64 p0) S (wN rfl) (.inl rfl) (by kernel_rfl) rfl (by decide) (fun a S => ?_)
    obtain ⟨r10, hx11, h⟩ := bindSome h
    have S1 := S.mem
    refine sCallQ (X := Unit) (f := 27) (vs := [.agg #[.int .i64 p1.Num, .int .i64 p1.Den], .int .i64 p0]) (val := fun _ => .int .i64 r10) S (wN rfl) rfl callee27 (by kernel_rfl) (S1.quiet [0] (by kernel_rfl)) (fun E1 w1 S1 => c_raddleref24_Up E1 w1 p1 (.agg #[.int .i64 p1.Num, .int .i64 p1.Den]) p0 r10 hx11 S1) rfl (by decide) (fun _ a w S => ?_)
    refine sBin (.bool (r10 != 0)) S (wN rfl) rfl (by kernel_rfl) (by kernel_rfl) (bNe _ _ _ _ .i64 r10 0) rfl (by decide) (fun a S => ?_)
    refine sMove (.bool (r10 != 0)) S (wN rfl) (.inl rfl) (by kernel_rfl) rfl (by decide) (fun a S => ?_)
    rcases iteSome h with ⟨hc12, h⟩ | ⟨hc12, h⟩
    · refine sSkip (c := r10 != 0) 4 false 21 22 S rfl rfl (by kernel_rfl) hc12 rfl (by decide) (fun a S => ?_)
      refine sSkip (c := r10 != 0) 4 false 21 23 S rfl rfl (by kernel_rfl) hc12 rfl (by decide) (fun a S => ?_)
      refine sPickT (b := r10 != 0) (.bool true) S (wN rfl) rfl (by kernel_rfl) hc12 (by kernel_rfl) rfl (by decide) (fun a S => ?_)
      exact leafL (leafT (⟨true, Option.some.inj h, S.fix [0] [] (by decide) (by kernel_rfl) (by kernel_rfl) (by kernel_rfl)⟩))
    · refine sMove (.bool r4) S (wG (c := r10 != 0) 4 false 21 rfl rfl (by kernel_rfl) hc12) (.inl rfl) (by kernel_rfl) rfl (by decide) (fun a S => ?_)
      refine sNot (b := r4) S (wG (c := r10 != 0) 4 false 21 rfl rfl (by kernel_rfl) hc12) rfl (by kernel_rfl) rfl (by decide) (fun a S => ?_)
      refine sPickF (b := r10 != 0) (.bool (!r4)) S (wN rfl) rfl (by kernel_rfl) hc12 (by kernel_rfl) rfl (by decide) (fun a S => ?_)
      exact leafL (leafT (⟨!r4, Option.some.inj h, S.fix [0] [] (by decide) (by kernel_rfl) (by kernel_rfl) (by kernel_rfl)⟩))
  · obtain ⟨o7, rfl, S⟩ := hI
    have h := g9
    clear g9
    try dsimp only at h
    rcases iteSome h with ⟨hc13, h⟩ | ⟨hc13, h⟩
    · refine sCondT (b := o7) S (by kernel_rfl) hc13 ?_
      refine sSeq (fun K14 hK14 => ?_)
      refine sRegion ?_
      refine sMove (.bool r4) S (wN rfl) (.inl rfl) (by kernel_rfl) rfl (by decide) (fun a S => ?_)
      refine sMove (.bool r4) S (wN rfl) (.inr rfl) (by kernel_rfl) rfl (by decide) (fun a S => ?_)
      refine leafL (leafT (hK14 _ _ ?_))
      obtain rfl := Option.some.inj h
      exact wp_ret (rThen (sRet (.bool r4) S (rsl1 rfl (rvT (t := 4) (v := .bool r4) S (by kernel_rfl))) ⟨(), rfl, S.mem.sel [] [] (by decide) (by kernel_rfl) (by kernel_rfl)⟩))
    · refine sCondF (b := o7) S (by kernel_rfl) hc13 ?_
      refine wp_skip (leafT (hK6 _ _ ?_))
      refine sSeq (fun K15 hK15 => ?_)
      refine sRegion ?_
      refine sMove (.int .i64 p0) S (wN rfl) (.inl rfl) (by kernel_rfl) rfl (by decide) (fun a S => ?_)
      refine sLoadN (p := b2) (off := 0) (T := 34) (vs := [.int .i64 p1.Num, .int .i64 p1.Den]) 0 [.int .i64 p1.Num, .int .i64 p1.Den] S (wN rfl) rfl (by kernel_rfl) (by kernel_rfl) (by kernel_rfl) (by kernel_rfl) rfl rfl (by decide) (fun a S => ?_)
      obtain ⟨r16, hx17, h⟩ := bindSome h
      have S1 := S.mem
      have S1 := S1.learn (fRep r_api_Ratio (.agg #[.int .i64 p1.Num, .int .i64 p1.Den]) p1) rfl
      refine sCallQ (X := Unit) (f := 26) (vs := [.int .i64 p0, .agg #[.int .i64 p1.Num, .int .i64 p1.Den]]) (val := fun _ => .tuple #[.int .i64 r16.1, .int .i64 r16.2]) S (wN rfl) rfl callee26 (by kernel_rfl) (S1.quiet [0] (by kernel_rfl)) (fun E1 w1 S1 => c_sett_Cloth E1 w1 p0 p1 (.agg #[.int .i64 p1.Num, .int .i64 p1.Den]) r16 hx17 S1) rfl (by decide) (fun _ a w S => ?_)
      refine sMove (.tuple #[.int .i64 r16.1, .int .i64 r16.2]) S (wN rfl) (.inl rfl) (by kernel_rfl) rfl (by decide) (fun a S => ?_)
      refine sExtract (vs := [.int .i64 r16.1, .int .i64 r16.2]) (.int .i64 r16.1) S (wN rfl) rfl (by kernel_rfl) rfl rfl (by decide) (fun a S => ?_)
      refine sExtract (vs := [.int .i64 r16.1, .int .i64 r16.2]) (.int .i64 r16.2) S (wN rfl) rfl (by kernel_rfl) rfl rfl (by decide) (fun a S => ?_)
      refine sMove (.int .i64 r16.1) S (wN rfl) (.inr rfl) (by kernel_rfl) rfl (by decide) (fun a S => ?_)
      refine sMove (.int .i64 r16.2) S (wN rfl) (.inr rfl) (by kernel_rfl) rfl (by decide) (fun a S => ?_)
      refine leafL (leafT (hK15 _ _ ?_))
      refine sSeq (fun K18 hK18 => ?_)
      obtain ⟨t20, h, g21⟩ := bindSome h
      refine sCut (fun a w => ∃ o19, o19 = t20 ∧ St E [] w0 120 a w [(0, .int .i64 p0), (3, .pointer (some ⟨b2, 0, none⟩)), (5, .bool r4), (6, .int .i64 r16.1), (42, .bool o19)] [eBox b2 34 [.int .i64 p1.Num, .int .i64 p1.Den]] []) ?_ (fun a w hI => ?_)
      · refine sRegion ?_
        refine sMove (.int .i64 r16.2) S (wN rfl) (.inl rfl) (by kernel_rfl) rfl (by decide) (fun a S => ?_)
        refine sBin (.bool (r16.2 != 0)) S (wN rfl) rfl (by kernel_rfl) (by kernel_rfl) (bNe _ _ _ _ .i64 r16.2 0) rfl (by decide) (fun a S => ?_)
        refine sMove (.bool (r16.2 != 0)) S (wN rfl) (.inl rfl) (by kernel_rfl) rfl (by decide) (fun a S => ?_)
        rcases iteSome h with ⟨hc22, h⟩ | ⟨hc22, h⟩
        · refine sSkip (c := r16.2 != 0) 2 false 34 35 S rfl rfl (by kernel_rfl) hc22 rfl (by decide) (fun a S => ?_)
          refine sSkip (c := r16.2 != 0) 2 false 34 36 S rfl rfl (by kernel_rfl) hc22 rfl (by decide) (fun a S => ?_)
          refine sPickT (b := r16.2 != 0) (.bool true) S (wN rfl) rfl (by kernel_rfl) hc22 (by kernel_rfl) rfl (by decide) (fun a S => ?_)
          refine sMove (.bool true) S (wN rfl) (.inl rfl) (by kernel_rfl) rfl (by decide) (fun a S => ?_)
          refine sSkip (c := true) 6 false 38 39 S rfl rfl (by kernel_rfl) rfl rfl (by decide) (fun a S => ?_)
          refine sSkip (c := true) 6 false 38 40 S rfl rfl (by kernel_rfl) rfl rfl (by decide) (fun a S => ?_)
          refine sSkip (c := true) 6 false 38 41 S rfl rfl (by kernel_rfl) rfl rfl (by decide) (fun a S => ?_)
          refine sPickT (b := true) (.bool true) S (wN rfl) rfl (by kernel_rfl) rfl (by kernel_rfl) rfl (by decide) (fun a S => ?_)
          exact leafL (leafT (⟨true, Option.some.inj h, S.fix [0] [] (by decide) (by kernel_rfl) (by kernel_rfl) (by kernel_rfl)⟩))
        · refine sMove (.int .i64 r16.1) S (wG (c := r16.2 != 0) 2 false 34 rfl rfl (by kernel_rfl) hc22) (.inl rfl) (by kernel_rfl) rfl (by decide) (fun a S => ?_)
          refine sBin (.bool (decide (r16.1 < 0))) S (wG (c := r16.2 != 0) 2 false 34 rfl rfl (by kernel_rfl) hc22) rfl (by kernel_rfl) (by kernel_rfl) (bLt _ _ _ _ .i64 r16.1 0) rfl (by decide) (fun a S => ?_)
          refine sPickF (b := r16.2 != 0) (.bool (decide (r16.1 < 0))) S (wN rfl) rfl (by kernel_rfl) hc22 (by kernel_rfl) rfl (by decide) (fun a S => ?_)
          refine sMove (.bool (decide (r16.1 < 0))) S (wN rfl) (.inl rfl) (by kernel_rfl) rfl (by decide) (fun a S => ?_)
          rcases iteSome h with ⟨hc23, h⟩ | ⟨hc23, h⟩
          · refine sSkip (c := decide (r16.1 < 0)) 6 false 38 39 S rfl rfl (by kernel_rfl) hc23 rfl (by decide) (fun a S => ?_)
            refine sSkip (c := decide (r16.1 < 0)) 6 false 38 40 S rfl rfl (by kernel_rfl) hc23 rfl (by decide) (fun a S => ?_)
            refine sSkip (c := decide (r16.1 < 0)) 6 false 38 41 S rfl rfl (by kernel_rfl) hc23 rfl (by decide) (fun a S => ?_)
            refine sPickT (b := decide (r16.1 < 0)) (.bool true) S (wN rfl) rfl (by kernel_rfl) hc23 (by kernel_rfl) rfl (by decide) (fun a S => ?_)
            exact leafL (leafT (⟨true, Option.some.inj h, S.fix [0] [] (by decide) (by kernel_rfl) (by kernel_rfl) (by kernel_rfl)⟩))
          · refine sMove (.int .i64 r16.1) S (wG (c := decide (r16.1 < 0)) 6 false 38 rfl rfl (by kernel_rfl) hc23) (.inl rfl) (by kernel_rfl) rfl (by decide) (fun a S => ?_)
            refine sMove (.int .i64 p0) S (wG (c := decide (r16.1 < 0)) 6 false 38 rfl rfl (by kernel_rfl) hc23) (.inl rfl) (by kernel_rfl) rfl (by decide) (fun a S => ?_)
            refine sBin (.bool (decide (p0 < r16.1))) S (wG (c := decide (r16.1 < 0)) 6 false 38 rfl rfl (by kernel_rfl) hc23) rfl (by kernel_rfl) (by kernel_rfl) (bGt _ _ _ _ .i64 r16.1 p0) rfl (by decide) (fun a S => ?_)
            refine sPickF (b := decide (r16.1 < 0)) (.bool (decide (p0 < r16.1))) S (wN rfl) rfl (by kernel_rfl) hc23 (by kernel_rfl) rfl (by decide) (fun a S => ?_)
            exact leafL (leafT (⟨decide (p0 < r16.1), Option.some.inj h, S.fix [0] [] (by decide) (by kernel_rfl) (by kernel_rfl) (by kernel_rfl)⟩))
      · obtain ⟨o19, rfl, S⟩ := hI
        have h := g21
        clear g21
        try dsimp only at h
        rcases iteSome h with ⟨hc24, h⟩ | ⟨hc24, h⟩
        · refine sCondT (b := o19) S (by kernel_rfl) hc24 ?_
          refine sSeq (fun K25 hK25 => ?_)
          refine sRegion ?_
          refine sMove (.bool false) S (wN rfl) (.inr rfl) (by kernel_rfl) rfl (by decide) (fun a S => ?_)
          refine leafL (leafT (hK25 _ _ ?_))
          obtain rfl := Option.some.inj h
          exact wp_ret (rThen (sRet (.bool false) S (rsl1 rfl (rvT (t := 4) (v := .bool false) S (by kernel_rfl))) ⟨(), rfl, S.mem.sel [] [] (by decide) (by kernel_rfl) (by kernel_rfl)⟩))
        · refine sCondF (b := o19) S (by kernel_rfl) hc24 ?_
          refine wp_skip (leafT (hK18 _ _ ?_))
          refine sSeq (fun K26 hK26 => ?_)
          refine sRegion ?_
          refine sMove (.int .i64 r16.1) S (wN rfl) (.inl rfl) (by kernel_rfl) rfl (by decide) (fun a S => ?_)
          refine sLoadN (p := b2) (off := 0) (T := 34) (vs := [.int .i64 p1.Num, .int .i64 p1.Den]) 0 [.int .i64 p1.Num, .int .i64 p1.Den] S (wN rfl) rfl (by kernel_rfl) (by kernel_rfl) (by kernel_rfl) (by kernel_rfl) rfl rfl (by decide) (fun a S => ?_)
          obtain ⟨r27, hx28, h⟩ := bindSome h
          have S1 := S.mem
          have S1 := S1.learn (fRep r_api_Ratio (.agg #[.int .i64 p1.Num, .int .i64 p1.Den]) p1) rfl
          refine sCallQ (X := Unit) (f := 25) (vs := [.int .i64 r16.1, .agg #[.int .i64 p1.Num, .int .i64 p1.Den]]) (val := fun _ => .tuple #[.int .i64 r27.1, .int .i64 r27.2]) S (wN rfl) rfl callee25 (by kernel_rfl) (S1.quiet [0] (by kernel_rfl)) (fun E1 w1 S1 => c_sett_Need E1 w1 r16.1 p1 (.agg #[.int .i64 p1.Num, .int .i64 p1.Den]) r27 hx28 S1) rfl (by decide) (fun _ a w S => ?_)
          refine sMove (.tuple #[.int .i64 r27.1, .int .i64 r27.2]) S (wN rfl) (.inl rfl) (by kernel_rfl) rfl (by decide) (fun a S => ?_)
          refine sExtract (vs := [.int .i64 r27.1, .int .i64 r27.2]) (.int .i64 r27.1) S (wN rfl) rfl (by kernel_rfl) rfl rfl (by decide) (fun a S => ?_)
          refine sExtract (vs := [.int .i64 r27.1, .int .i64 r27.2]) (.int .i64 r27.2) S (wN rfl) rfl (by kernel_rfl) rfl rfl (by decide) (fun a S => ?_)
          refine sMove (.int .i64 r27.1) S (wN rfl) (.inr rfl) (by kernel_rfl) rfl (by decide) (fun a S => ?_)
          refine sMove (.int .i64 r27.2) S (wN rfl) (.inr rfl) (by kernel_rfl) rfl (by decide) (fun a S => ?_)
          refine leafL (leafT (hK26 _ _ ?_))
          refine sSeq (fun K29 hK29 => ?_)
          obtain ⟨t31, h, g32⟩ := bindSome h
          refine sCut (fun a w => ∃ o30, o30 = t31 ∧ St E [] w0 120 a w [(0, .int .i64 p0), (3, .pointer (some ⟨b2, 0, none⟩)), (5, .bool r4), (6, .int .i64 r16.1), (60, .bool o30)] [eBox b2 34 [.int .i64 p1.Num, .int .i64 p1.Den]] []) ?_ (fun a w hI => ?_)
          · refine sRegion ?_
            refine sMove (.int .i64 r27.2) S (wN rfl) (.inl rfl) (by kernel_rfl) rfl (by decide) (fun a S => ?_)
            refine sBin (.bool (r27.2 != 0)) S (wN rfl) rfl (by kernel_rfl) (by kernel_rfl) (bNe _ _ _ _ .i64 r27.2 0) rfl (by decide) (fun a S => ?_)
            refine sMove (.bool (r27.2 != 0)) S (wN rfl) (.inl rfl) (by kernel_rfl) rfl (by decide) (fun a S => ?_)
            rcases iteSome h with ⟨hc33, h⟩ | ⟨hc33, h⟩
            · refine sSkip (c := r27.2 != 0) 2 false 51 52 S rfl rfl (by kernel_rfl) hc33 rfl (by decide) (fun a S => ?_)
              refine sSkip (c := r27.2 != 0) 2 false 51 53 S rfl rfl (by kernel_rfl) hc33 rfl (by decide) (fun a S => ?_)
              refine sSkip (c := r27.2 != 0) 2 false 51 54 S rfl rfl (by kernel_rfl) hc33 rfl (by decide) (fun a S => ?_)
              refine sPickT (b := r27.2 != 0) (.bool true) S (wN rfl) rfl (by kernel_rfl) hc33 (by kernel_rfl) rfl (by decide) (fun a S => ?_)
              refine sMove (.bool true) S (wN rfl) (.inl rfl) (by kernel_rfl) rfl (by decide) (fun a S => ?_)
              refine sSkip (c := true) 7 false 56 57 S rfl rfl (by kernel_rfl) rfl rfl (by decide) (fun a S => ?_)
              refine sSkip (c := true) 7 false 56 58 S rfl rfl (by kernel_rfl) rfl rfl (by decide) (fun a S => ?_)
              refine sSkip (c := true) 7 false 56 59 S rfl rfl (by kernel_rfl) rfl rfl (by decide) (fun a S => ?_)
              refine sPickT (b := true) (.bool true) S (wN rfl) rfl (by kernel_rfl) rfl (by kernel_rfl) rfl (by decide) (fun a S => ?_)
              exact leafL (leafT (⟨true, Option.some.inj h, S.fix [0] [] (by decide) (by kernel_rfl) (by kernel_rfl) (by kernel_rfl)⟩))
            · refine sMove (.int .i64 r27.1) S (wG (c := r27.2 != 0) 2 false 51 rfl rfl (by kernel_rfl) hc33) (.inl rfl) (by kernel_rfl) rfl (by decide) (fun a S => ?_)
              refine sMove (.int .i64 p0) S (wG (c := r27.2 != 0) 2 false 51 rfl rfl (by kernel_rfl) hc33) (.inl rfl) (by kernel_rfl) rfl (by decide) (fun a S => ?_)
              refine sBin (.bool (decide (p0 < r27.1))) S (wG (c := r27.2 != 0) 2 false 51 rfl rfl (by kernel_rfl) hc33) rfl (by kernel_rfl) (by kernel_rfl) (bGt _ _ _ _ .i64 r27.1 p0) rfl (by decide) (fun a S => ?_)
              refine sPickF (b := r27.2 != 0) (.bool (decide (p0 < r27.1))) S (wN rfl) rfl (by kernel_rfl) hc33 (by kernel_rfl) rfl (by decide) (fun a S => ?_)
              refine sMove (.bool (decide (p0 < r27.1))) S (wN rfl) (.inl rfl) (by kernel_rfl) rfl (by decide) (fun a S => ?_)
              rcases iteSome h with ⟨hc34, h⟩ | ⟨hc34, h⟩
              · refine sSkip (c := decide (p0 < r27.1)) 7 false 56 57 S rfl rfl (by kernel_rfl) hc34 rfl (by decide) (fun a S => ?_)
                refine sSkip (c := decide (p0 < r27.1)) 7 false 56 58 S rfl rfl (by kernel_rfl) hc34 rfl (by decide) (fun a S => ?_)
                refine sSkip (c := decide (p0 < r27.1)) 7 false 56 59 S rfl rfl (by kernel_rfl) hc34 rfl (by decide) (fun a S => ?_)
                refine sPickT (b := decide (p0 < r27.1)) (.bool true) S (wN rfl) rfl (by kernel_rfl) hc34 (by kernel_rfl) rfl (by decide) (fun a S => ?_)
                exact leafL (leafT (⟨true, Option.some.inj h, S.fix [0] [] (by decide) (by kernel_rfl) (by kernel_rfl) (by kernel_rfl)⟩))
              · refine sMove (.int .i64 r27.1) S (wG (c := decide (p0 < r27.1)) 7 false 56 rfl rfl (by kernel_rfl) hc34) (.inl rfl) (by kernel_rfl) rfl (by decide) (fun a S => ?_)
                refine sMove (.int .i64 r16.1) S (wG (c := decide (p0 < r27.1)) 7 false 56 rfl rfl (by kernel_rfl) hc34) (.inl rfl) (by kernel_rfl) rfl (by decide) (fun a S => ?_)
                refine sBin (.bool (decide (r27.1 < r16.1))) S (wG (c := decide (p0 < r27.1)) 7 false 56 rfl rfl (by kernel_rfl) hc34) rfl (by kernel_rfl) (by kernel_rfl) (bLt _ _ _ _ .i64 r27.1 r16.1) rfl (by decide) (fun a S => ?_)
                refine sPickF (b := decide (p0 < r27.1)) (.bool (decide (r27.1 < r16.1))) S (wN rfl) rfl (by kernel_rfl) hc34 (by kernel_rfl) rfl (by decide) (fun a S => ?_)
                exact leafL (leafT (⟨decide (r27.1 < r16.1), Option.some.inj h, S.fix [0] [] (by decide) (by kernel_rfl) (by kernel_rfl) (by kernel_rfl)⟩))
          · obtain ⟨o30, rfl, S⟩ := hI
            have h := g32
            clear g32
            try dsimp only at h
            rcases iteSome h with ⟨hc35, h⟩ | ⟨hc35, h⟩
            · refine sCondT (b := o30) S (by kernel_rfl) hc35 ?_
              refine sSeq (fun K36 hK36 => ?_)
              refine sRegion ?_
              refine sMove (.bool false) S (wN rfl) (.inr rfl) (by kernel_rfl) rfl (by decide) (fun a S => ?_)
              refine leafL (leafT (hK36 _ _ ?_))
              obtain rfl := Option.some.inj h
              exact wp_ret (rThen (sRet (.bool false) S (rsl1 rfl (rvT (t := 4) (v := .bool false) S (by kernel_rfl))) ⟨(), rfl, S.mem.sel [] [] (by decide) (by kernel_rfl) (by kernel_rfl)⟩))
            · refine sCondF (b := o30) S (by kernel_rfl) hc35 ?_
              refine wp_skip (leafT (hK29 _ _ ?_))
              obtain ⟨t37, h, g38⟩ := bindSome h
              refine sCut (fun a w => .inl () = t37 ∧ St E [] w0 120 a w [(0, .int .i64 p0), (3, .pointer (some ⟨b2, 0, none⟩)), (5, .bool r4)] [eBox b2 34 [.int .i64 p1.Num, .int .i64 p1.Den]] []) ?_ (fun a w hI => ?_)
              · refine sSeq (fun K39 hK39 => ?_)
                refine sRegion ?_
                refine sMove (.int .i64 r16.1) S (wN rfl) (.inl rfl) (by kernel_rfl) rfl (by decide) (fun a S => ?_)
                refine sBin (.bool (decide (r16.1 < 1000000000))) S (wN rfl) rfl (by kernel_rfl) (by kernel_rfl) (bLt _ _ _ _ .i64 r16.1 1000000000) rfl (by decide) (fun a S => ?_)
                refine leafL (leafT (hK39 _ _ ?_))
                rcases iteSome h with ⟨hc40, h⟩ | ⟨hc40, h⟩
                · refine sCondT (b := decide (r16.1 < 1000000000)) S (by kernel_rfl) hc40 ?_
                  refine sSeq (fun K41 hK41 => ?_)
                  refine sRegion ?_
                  refine sMove (.int .i64 r16.1) S (wN rfl) (.inl rfl) (by kernel_rfl) rfl (by decide) (fun a S => ?_)
                  refine sBin (.int .i64 (w64 (r16.1 + 1))) S (wN rfl) rfl (by kernel_rfl) (by kernel_rfl) (bAdd _ _ _ _ r16.1 1) rfl (by decide) (fun a S => ?_)
                  refine sLoadN (p := b2) (off := 0) (T := 34) (vs := [.int .i64 p1.Num, .int .i64 p1.Den]) 0 [.int .i64 p1.Num, .int .i64 p1.Den] S (wN rfl) rfl (by kernel_rfl) (by kernel_rfl) (by kernel_rfl) (by kernel_rfl) rfl rfl (by decide) (fun a S => ?_)
                  obtain ⟨r42, hx43, h⟩ := bindSome h
                  have S1 := S.mem
                  have S1 := S1.learn (fRep r_api_Ratio (.agg #[.int .i64 p1.Num, .int .i64 p1.Den]) p1) rfl
                  refine sCallQ (X := Unit) (f := 25) (vs := [.int .i64 (w64 (r16.1 + 1)), .agg #[.int .i64 p1.Num, .int .i64 p1.Den]]) (val := fun _ => .tuple #[.int .i64 r42.1, .int .i64 r42.2]) S (wN rfl) rfl callee25 (by kernel_rfl) (S1.quiet [0] (by kernel_rfl)) (fun E1 w1 S1 => c_sett_Need E1 w1 (w64 (r16.1 + 1)) p1 (.agg #[.int .i64 p1.Num, .int .i64 p1.Den]) r42 hx43 S1) rfl (by decide) (fun _ a w S => ?_)
                  refine sMove (.tuple #[.int .i64 r42.1, .int .i64 r42.2]) S (wN rfl) (.inl rfl) (by kernel_rfl) rfl (by decide) (fun a S => ?_)
                  refine sExtract (vs := [.int .i64 r42.1, .int .i64 r42.2]) (.int .i64 r42.1) S (wN rfl) rfl (by kernel_rfl) rfl rfl (by decide) (fun a S => ?_)
                  refine sExtract (vs := [.int .i64 r42.1, .int .i64 r42.2]) (.int .i64 r42.2) S (wN rfl) rfl (by kernel_rfl) rfl rfl (by decide) (fun a S => ?_)
                  refine sMove (.int .i64 r42.1) S (wN rfl) (.inr rfl) (by kernel_rfl) rfl (by decide) (fun a S => ?_)
                  refine sMove (.int .i64 r42.2) S (wN rfl) (.inr rfl) (by kernel_rfl) rfl (by decide) (fun a S => ?_)
                  refine leafL (leafT (hK41 _ _ ?_))
                  obtain ⟨t45, h, g46⟩ := bindSome h
                  refine sCut (fun a w => ∃ o44, o44 = t45 ∧ St E [] w0 120 a w [(0, .int .i64 p0), (3, .pointer (some ⟨b2, 0, none⟩)), (5, .bool r4), (76, .bool o44)] [eBox b2 34 [.int .i64 p1.Num, .int .i64 p1.Den]] []) ?_ (fun a w hI => ?_)
                  · refine sRegion ?_
                    refine sMove (.int .i64 r42.2) S (wN rfl) (.inl rfl) (by kernel_rfl) rfl (by decide) (fun a S => ?_)
                    refine sBin (.bool (r42.2 != 0)) S (wN rfl) rfl (by kernel_rfl) (by kernel_rfl) (bNe _ _ _ _ .i64 r42.2 0) rfl (by decide) (fun a S => ?_)
                    refine sMove (.bool (r42.2 != 0)) S (wN rfl) (.inl rfl) (by kernel_rfl) rfl (by decide) (fun a S => ?_)
                    rcases iteSome h with ⟨hc47, h⟩ | ⟨hc47, h⟩
                    · refine sSkip (c := r42.2 != 0) 2 false 72 73 S rfl rfl (by kernel_rfl) hc47 rfl (by decide) (fun a S => ?_)
                      refine sSkip (c := r42.2 != 0) 2 false 72 74 S rfl rfl (by kernel_rfl) hc47 rfl (by decide) (fun a S => ?_)
                      refine sSkip (c := r42.2 != 0) 2 false 72 75 S rfl rfl (by kernel_rfl) hc47 rfl (by decide) (fun a S => ?_)
                      refine sPickT (b := r42.2 != 0) (.bool true) S (wN rfl) rfl (by kernel_rfl) hc47 (by kernel_rfl) rfl (by decide) (fun a S => ?_)
                      exact leafL (leafT (⟨true, Option.some.inj h, S.fix [0] [] (by decide) (by kernel_rfl) (by kernel_rfl) (by kernel_rfl)⟩))
                    · refine sMove (.int .i64 r42.1) S (wG (c := r42.2 != 0) 2 false 72 rfl rfl (by kernel_rfl) hc47) (.inl rfl) (by kernel_rfl) rfl (by decide) (fun a S => ?_)
                      refine sMove (.int .i64 p0) S (wG (c := r42.2 != 0) 2 false 72 rfl rfl (by kernel_rfl) hc47) (.inl rfl) (by kernel_rfl) rfl (by decide) (fun a S => ?_)
                      refine sBin (.bool (decide (r42.1 ≤ p0))) S (wG (c := r42.2 != 0) 2 false 72 rfl rfl (by kernel_rfl) hc47) rfl (by kernel_rfl) (by kernel_rfl) (bLe _ _ _ _ .i64 r42.1 p0) rfl (by decide) (fun a S => ?_)
                      refine sPickF (b := r42.2 != 0) (.bool (decide (r42.1 ≤ p0))) S (wN rfl) rfl (by kernel_rfl) hc47 (by kernel_rfl) rfl (by decide) (fun a S => ?_)
                      exact leafL (leafT (⟨decide (r42.1 ≤ p0), Option.some.inj h, S.fix [0] [] (by decide) (by kernel_rfl) (by kernel_rfl) (by kernel_rfl)⟩))
                  · obtain ⟨o44, rfl, S⟩ := hI
                    have h := g46
                    clear g46
                    try dsimp only at h
                    rcases iteSome h with ⟨hc48, h⟩ | ⟨hc48, h⟩
                    · refine sCondT (b := o44) S (by kernel_rfl) hc48 ?_
                      refine sSeq (fun K49 hK49 => ?_)
                      refine sRegion ?_
                      refine sMove (.bool false) S (wN rfl) (.inr rfl) (by kernel_rfl) rfl (by decide) (fun a S => ?_)
                      refine leafL (leafT (hK49 _ _ ?_))
                      obtain rfl := Option.some.inj h
                      have h := g38
                      clear g38
                      try dsimp only at h
                      obtain rfl := Option.some.inj h
                      exact wp_ret (rThen (sRet (.bool false) S (rsl1 rfl (rvT (t := 4) (v := .bool false) S (by kernel_rfl))) ⟨(), rfl, S.mem.sel [] [] (by decide) (by kernel_rfl) (by kernel_rfl)⟩))
                    · refine sCondF (b := o44) S (by kernel_rfl) hc48 ?_
                      exact wp_skip (leafT (⟨Option.some.inj h, S.fix [0] [] (by decide) (by kernel_rfl) (by kernel_rfl) (by kernel_rfl)⟩))
                · refine sCondF (b := decide (r16.1 < 1000000000)) S (by kernel_rfl) hc40 ?_
                  exact wp_skip (leafT (⟨Option.some.inj h, S.fix [0] [] (by decide) (by kernel_rfl) (by kernel_rfl) (by kernel_rfl)⟩))
              · obtain ⟨rfl, S⟩ := hI
                have h := g38
                clear g38
                try dsimp only at h
                refine sSeq (fun K50 hK50 => ?_)
                refine sRegion ?_
                refine sMove (.int .i64 p0) S (wN rfl) (.inl rfl) (by kernel_rfl) rfl (by decide) (fun a S => ?_)
                refine sLoadN (p := b2) (off := 0) (T := 34) (vs := [.int .i64 p1.Num, .int .i64 p1.Den]) 0 [.int .i64 p1.Num, .int .i64 p1.Den] S (wN rfl) rfl (by kernel_rfl) (by kernel_rfl) (by kernel_rfl) (by kernel_rfl) rfl rfl (by decide) (fun a S => ?_)
                obtain ⟨r51, hx52, h⟩ := bindSome h
                have S1 := S.mem
                have S1 := S1.learn (fRep r_api_Ratio (.agg #[.int .i64 p1.Num, .int .i64 p1.Den]) p1) rfl
                refine sCallQ (X := Unit) (f := 25) (vs := [.int .i64 p0, .agg #[.int .i64 p1.Num, .int .i64 p1.Den]]) (val := fun _ => .tuple #[.int .i64 r51.1, .int .i64 r51.2]) S (wN rfl) rfl callee25 (by kernel_rfl) (S1.quiet [0] (by kernel_rfl)) (fun E1 w1 S1 => c_sett_Need E1 w1 p0 p1 (.agg #[.int .i64 p1.Num, .int .i64 p1.Den]) r51 hx52 S1) rfl (by decide) (fun _ a w S => ?_)
                refine sMove (.tuple #[.int .i64 r51.1, .int .i64 r51.2]) S (wN rfl) (.inl rfl) (by kernel_rfl) rfl (by decide) (fun a S => ?_)
                refine sExtract (vs := [.int .i64 r51.1, .int .i64 r51.2]) (.int .i64 r51.1) S (wN rfl) rfl (by kernel_rfl) rfl rfl (by decide) (fun a S => ?_)
                refine sExtract (vs := [.int .i64 r51.1, .int .i64 r51.2]) (.int .i64 r51.2) S (wN rfl) rfl (by kernel_rfl) rfl rfl (by decide) (fun a S => ?_)
                refine sMove (.int .i64 r51.1) S (wN rfl) (.inr rfl) (by kernel_rfl) rfl (by decide) (fun a S => ?_)
                refine sMove (.int .i64 r51.2) S (wN rfl) (.inr rfl) (by kernel_rfl) rfl (by decide) (fun a S => ?_)
                refine leafL (leafT (hK50 _ _ ?_))
                refine sSeq (fun K53 hK53 => ?_)
                obtain ⟨t55, h, g56⟩ := bindSome h
                refine sCut (fun a w => ∃ o54, o54 = t55 ∧ St E [] w0 120 a w [(0, .int .i64 p0), (3, .pointer (some ⟨b2, 0, none⟩)), (5, .bool r4), (12, .int .i64 r51.1), (13, .int .i64 r51.2), (93, .bool o54)] [eBox b2 34 [.int .i64 p1.Num, .int .i64 p1.Den]] []) ?_ (fun a w hI => ?_)
                · refine sRegion ?_
                  refine sMove (.int .i64 r51.2) S (wN rfl) (.inl rfl) (by kernel_rfl) rfl (by decide) (fun a S => ?_)
                  refine sBin (.bool (r51.2 != 0)) S (wN rfl) rfl (by kernel_rfl) (by kernel_rfl) (bNe _ _ _ _ .i64 r51.2 0) rfl (by decide) (fun a S => ?_)
                  refine sMove (.bool (r51.2 != 0)) S (wN rfl) (.inl rfl) (by kernel_rfl) rfl (by decide) (fun a S => ?_)
                  rcases iteSome h with ⟨hc57, h⟩ | ⟨hc57, h⟩
                  · refine sSkip (c := r51.2 != 0) 2 false 85 86 S rfl rfl (by kernel_rfl) hc57 rfl (by decide) (fun a S => ?_)
                    refine sSkip (c := r51.2 != 0) 2 false 85 87 S rfl rfl (by kernel_rfl) hc57 rfl (by decide) (fun a S => ?_)
                    refine sSkip (c := r51.2 != 0) 2 false 85 88 S rfl rfl (by kernel_rfl) hc57 rfl (by decide) (fun a S => ?_)
                    refine sPickT (b := r51.2 != 0) (.bool true) S (wN rfl) rfl (by kernel_rfl) hc57 (by kernel_rfl) rfl (by decide) (fun a S => ?_)
                    refine sMove (.bool true) S (wN rfl) (.inl rfl) (by kernel_rfl) rfl (by decide) (fun a S => ?_)
                    refine sSkip (c := true) 7 false 90 91 S rfl rfl (by kernel_rfl) rfl rfl (by decide) (fun a S => ?_)
                    refine sSkip (c := true) 7 false 90 92 S rfl rfl (by kernel_rfl) rfl rfl (by decide) (fun a S => ?_)
                    refine sPickT (b := true) (.bool true) S (wN rfl) rfl (by kernel_rfl) rfl (by kernel_rfl) rfl (by decide) (fun a S => ?_)
                    exact leafL (leafT (⟨true, Option.some.inj h, S.fix [0] [] (by decide) (by kernel_rfl) (by kernel_rfl) (by kernel_rfl)⟩))
                  · refine sMove (.int .i64 r51.1) S (wG (c := r51.2 != 0) 2 false 85 rfl rfl (by kernel_rfl) hc57) (.inl rfl) (by kernel_rfl) rfl (by decide) (fun a S => ?_)
                    refine sMove (.int .i64 p0) S (wG (c := r51.2 != 0) 2 false 85 rfl rfl (by kernel_rfl) hc57) (.inl rfl) (by kernel_rfl) rfl (by decide) (fun a S => ?_)
                    refine sBin (.bool (decide (r51.1 < p0))) S (wG (c := r51.2 != 0) 2 false 85 rfl rfl (by kernel_rfl) hc57) rfl (by kernel_rfl) (by kernel_rfl) (bLt _ _ _ _ .i64 r51.1 p0) rfl (by decide) (fun a S => ?_)
                    refine sPickF (b := r51.2 != 0) (.bool (decide (r51.1 < p0))) S (wN rfl) rfl (by kernel_rfl) hc57 (by kernel_rfl) rfl (by decide) (fun a S => ?_)
                    refine sMove (.bool (decide (r51.1 < p0))) S (wN rfl) (.inl rfl) (by kernel_rfl) rfl (by decide) (fun a S => ?_)
                    rcases iteSome h with ⟨hc58, h⟩ | ⟨hc58, h⟩
                    · refine sSkip (c := decide (r51.1 < p0)) 7 false 90 91 S rfl rfl (by kernel_rfl) hc58 rfl (by decide) (fun a S => ?_)
                      refine sSkip (c := decide (r51.1 < p0)) 7 false 90 92 S rfl rfl (by kernel_rfl) hc58 rfl (by decide) (fun a S => ?_)
                      refine sPickT (b := decide (r51.1 < p0)) (.bool true) S (wN rfl) rfl (by kernel_rfl) hc58 (by kernel_rfl) rfl (by decide) (fun a S => ?_)
                      exact leafL (leafT (⟨true, Option.some.inj h, S.fix [0] [] (by decide) (by kernel_rfl) (by kernel_rfl) (by kernel_rfl)⟩))
                    · refine sMove (.int .i64 r51.1) S (wG (c := decide (r51.1 < p0)) 7 false 90 rfl rfl (by kernel_rfl) hc58) (.inl rfl) (by kernel_rfl) rfl (by decide) (fun a S => ?_)
                      refine sBin (.bool (decide (1000000000 < r51.1))) S (wG (c := decide (r51.1 < p0)) 7 false 90 rfl rfl (by kernel_rfl) hc58) rfl (by kernel_rfl) (by kernel_rfl) (bGt _ _ _ _ .i64 r51.1 1000000000) rfl (by decide) (fun a S => ?_)
                      refine sPickF (b := decide (r51.1 < p0)) (.bool (decide (1000000000 < r51.1))) S (wN rfl) rfl (by kernel_rfl) hc58 (by kernel_rfl) rfl (by decide) (fun a S => ?_)
                      exact leafL (leafT (⟨decide (1000000000 < r51.1), Option.some.inj h, S.fix [0] [] (by decide) (by kernel_rfl) (by kernel_rfl) (by kernel_rfl)⟩))
                · obtain ⟨o54, rfl, S⟩ := hI
                  have h := g56
                  clear g56
                  try dsimp only at h
                  rcases iteSome h with ⟨hc59, h⟩ | ⟨hc59, h⟩
                  · refine sCondT (b := o54) S (by kernel_rfl) hc59 ?_
                    obtain ⟨t61, h, g62⟩ := bindSome h
                    refine sCut (fun a w => ∃ o60, o60 = t61 ∧ St E [] w0 120 a w [(4, .bool o60)] [] []) ?_ (fun a w hI => ?_)
                    · refine sRegion ?_
                      refine sMove (.bool r4) S (wN rfl) (.inl rfl) (by kernel_rfl) rfl (by decide) (fun a S => ?_)
                      refine sMove (.bool r4) S (wN rfl) (.inl rfl) (by kernel_rfl) rfl (by decide) (fun a S => ?_)
                      rcases iteSome h with ⟨hc63, h⟩ | ⟨hc63, h⟩
                      · refine sMove (.int .i64 r51.2) S (wG (c := r4) 1 true 95 rfl rfl (by kernel_rfl) hc63) (.inl rfl) (by kernel_rfl) rfl (by decide) (fun a S => ?_)
                        refine sBin (.bool (r51.2 == 0)) S (wG (c := r4) 1 true 95 rfl rfl (by kernel_rfl) hc63) rfl (by kernel_rfl) (by kernel_rfl) (bEq _ _ _ _ .i64 r51.2 0) rfl (by decide) (fun a S => ?_)
                        refine sPickT (b := r4) (.bool (r51.2 == 0)) S (wN rfl) rfl (by kernel_rfl) hc63 (by kernel_rfl) rfl (by decide) (fun a S => ?_)
                        refine sMove (.bool (r51.2 == 0)) S (wN rfl) (.inl rfl) (by kernel_rfl) rfl (by decide) (fun a S => ?_)
                        rcases iteSome h with ⟨hc64, h⟩ | ⟨hc64, h⟩
                        · refine sMove (.int .i64 r51.1) S (wG (c := r51.2 == 0) 5 true 99 rfl rfl (by kernel_rfl) hc64) (.inl rfl) (by kernel_rfl) rfl (by decide) (fun a S => ?_)
                          refine sMove (.int .i64 p0) S (wG (c := r51.2 == 0) 5 true 99 rfl rfl (by kernel_rfl) hc64) (.inl rfl) (by kernel_rfl) rfl (by decide) (fun a S => ?_)
                          refine sBin (.bool (decide (p0 ≤ r51.1))) S (wG (c := r51.2 == 0) 5 true 99 rfl rfl (by kernel_rfl) hc64) rfl (by kernel_rfl) (by kernel_rfl) (bGe _ _ _ _ .i64 r51.1 p0) rfl (by decide) (fun a S => ?_)
                          refine sPickT (b := r51.2 == 0) (.bool (decide (p0 ≤ r51.1))) S (wN rfl) rfl (by kernel_rfl) hc64 (by kernel_rfl) rfl (by decide) (fun a S => ?_)
                          refine sMove (.bool (decide (p0 ≤ r51.1))) S (wN rfl) (.inr rfl) (by kernel_rfl) rfl (by decide) (fun a S => ?_)
                          exact leafL (leafT (⟨decide (p0 ≤ r51.1), Option.some.inj h, S.fix [] [] (by decide) (by kernel_rfl) (by kernel_rfl) (by kernel_rfl)⟩))
                        · refine sSkip (c := r51.2 == 0) 5 true 99 100 S rfl rfl (by kernel_rfl) hc64 rfl (by decide) (fun a S => ?_)
                          refine sSkip (c := r51.2 == 0) 5 true 99 101 S rfl rfl (by kernel_rfl) hc64 rfl (by decide) (fun a S => ?_)
                          refine sSkip (c := r51.2 == 0) 5 true 99 102 S rfl rfl (by kernel_rfl) hc64 rfl (by decide) (fun a S => ?_)
                          refine sPickF (b := r51.2 == 0) (.bool false) S (wN rfl) rfl (by kernel_rfl) hc64 (by kernel_rfl) rfl (by decide) (fun a S => ?_)
                          refine sMove (.bool false) S (wN rfl) (.inr rfl) (by kernel_rfl) rfl (by decide) (fun a S => ?_)
                          exact leafL (leafT (⟨false, Option.some.inj h, S.fix [] [] (by decide) (by kernel_rfl) (by kernel_rfl) (by kernel_rfl)⟩))
                      · refine sSkip (c := r4) 1 true 95 96 S rfl rfl (by kernel_rfl) hc63 rfl (by decide) (fun a S => ?_)
                        refine sSkip (c := r4) 1 true 95 97 S rfl rfl (by kernel_rfl) hc63 rfl (by decide) (fun a S => ?_)
                        refine sPickF (b := r4) (.bool false) S (wN rfl) rfl (by kernel_rfl) hc63 (by kernel_rfl) rfl (by decide) (fun a S => ?_)
                        refine sMove (.bool false) S (wN rfl) (.inl rfl) (by kernel_rfl) rfl (by decide) (fun a S => ?_)
                        refine sSkip (c := false) 5 true 99 100 S rfl rfl (by kernel_rfl) rfl rfl (by decide) (fun a S => ?_)
                        refine sSkip (c := false) 5 true 99 101 S rfl rfl (by kernel_rfl) rfl rfl (by decide) (fun a S => ?_)
                        refine sSkip (c := false) 5 true 99 102 S rfl rfl (by kernel_rfl) rfl rfl (by decide) (fun a S => ?_)
                        refine sPickF (b := false) (.bool false) S (wN rfl) rfl (by kernel_rfl) rfl (by kernel_rfl) rfl (by decide) (fun a S => ?_)
                        refine sMove (.bool false) S (wN rfl) (.inr rfl) (by kernel_rfl) rfl (by decide) (fun a S => ?_)
                        exact leafL (leafT (⟨false, Option.some.inj h, S.fix [] [] (by decide) (by kernel_rfl) (by kernel_rfl) (by kernel_rfl)⟩))
                    · obtain ⟨o60, rfl, S⟩ := hI
                      have h := g62
                      clear g62
                      try dsimp only at h
                      obtain rfl := Option.some.inj h
                      exact wp_ret (rThen (sRet (.bool o60) S (rsl1 rfl (rvT (t := 4) (v := .bool o60) S (by kernel_rfl))) ⟨(), rfl, S.mem.sel [] [] (by decide) (by kernel_rfl) (by kernel_rfl)⟩))
                  · refine sCondF (b := o54) S (by kernel_rfl) hc59 ?_
                    refine wp_skip (leafT (hK53 _ _ ?_))
                    refine sSeq (fun K65 hK65 => ?_)
                    refine sRegion ?_
                    refine sMove (.int .i64 r51.1) S (wN rfl) (.inl rfl) (by kernel_rfl) rfl (by decide) (fun a S => ?_)
                    refine sLoadN (p := b2) (off := 0) (T := 34) (vs := [.int .i64 p1.Num, .int .i64 p1.Den]) 0 [.int .i64 p1.Num, .int .i64 p1.Den] S (wN rfl) rfl (by kernel_rfl) (by kernel_rfl) (by kernel_rfl) (by kernel_rfl) rfl rfl (by decide) (fun a S => ?_)
                    obtain ⟨r66, hx67, h⟩ := bindSome h
                    have S1 := S.mem
                    have S1 := S1.learn (fRep r_api_Ratio (.agg #[.int .i64 p1.Num, .int .i64 p1.Den]) p1) rfl
                    refine sCallQ (X := Unit) (f := 26) (vs := [.int .i64 r51.1, .agg #[.int .i64 p1.Num, .int .i64 p1.Den]]) (val := fun _ => .tuple #[.int .i64 r66.1, .int .i64 r66.2]) S (wN rfl) rfl callee26 (by kernel_rfl) (S1.quiet [0] (by kernel_rfl)) (fun E1 w1 S1 => c_sett_Cloth E1 w1 r51.1 p1 (.agg #[.int .i64 p1.Num, .int .i64 p1.Den]) r66 hx67 S1) rfl (by decide) (fun _ a w S => ?_)
                    refine sMove (.tuple #[.int .i64 r66.1, .int .i64 r66.2]) S (wN rfl) (.inl rfl) (by kernel_rfl) rfl (by decide) (fun a S => ?_)
                    refine sExtract (vs := [.int .i64 r66.1, .int .i64 r66.2]) (.int .i64 r66.1) S (wN rfl) rfl (by kernel_rfl) rfl rfl (by decide) (fun a S => ?_)
                    refine sExtract (vs := [.int .i64 r66.1, .int .i64 r66.2]) (.int .i64 r66.2) S (wN rfl) rfl (by kernel_rfl) rfl rfl (by decide) (fun a S => ?_)
                    refine sMove (.int .i64 r66.1) S (wN rfl) (.inr rfl) (by kernel_rfl) rfl (by decide) (fun a S => ?_)
                    refine sMove (.int .i64 r66.2) S (wN rfl) (.inr rfl) (by kernel_rfl) rfl (by decide) (fun a S => ?_)
                    refine leafL (leafT (hK65 _ _ ?_))
                    obtain ⟨t69, h, g70⟩ := bindSome h
                    refine sCut (fun a w => ∃ o68, o68 = t69 ∧ St E [] w0 120 a w [(4, .bool o68)] [] []) ?_ (fun a w hI => ?_)
                    · refine sRegion ?_
                      refine sMove (.bool r4) S (wN rfl) (.inl rfl) (by kernel_rfl) rfl (by decide) (fun a S => ?_)
                      refine sMove (.bool r4) S (wN rfl) (.inl rfl) (by kernel_rfl) rfl (by decide) (fun a S => ?_)
                      rcases iteSome h with ⟨hc71, h⟩ | ⟨hc71, h⟩
                      · refine sMove (.int .i64 r66.2) S (wG (c := r4) 1 true 111 rfl rfl (by kernel_rfl) hc71) (.inl rfl) (by kernel_rfl) rfl (by decide) (fun a S => ?_)
                        refine sBin (.bool (r66.2 == 0)) S (wG (c := r4) 1 true 111 rfl rfl (by kernel_rfl) hc71) rfl (by kernel_rfl) (by kernel_rfl) (bEq _ _ _ _ .i64 r66.2 0) rfl (by decide) (fun a S => ?_)
                        refine sPickT (b := r4) (.bool (r66.2 == 0)) S (wN rfl) rfl (by kernel_rfl) hc71 (by kernel_rfl) rfl (by decide) (fun a S => ?_)
                        refine sMove (.bool (r66.2 == 0)) S (wN rfl) (.inl rfl) (by kernel_rfl) rfl (by decide) (fun a S => ?_)
                        rcases iteSome h with ⟨hc72, h⟩ | ⟨hc72, h⟩
                        · refine sMove (.int .i64 r66.1) S (wG (c := r66.2 == 0) 5 true 115 rfl rfl (by kernel_rfl) hc72) (.inl rfl) (by kernel_rfl) rfl (by decide) (fun a S => ?_)
                          refine sMove (.int .i64 p0) S (wG (c := r66.2 == 0) 5 true 115 rfl rfl (by kernel_rfl) hc72) (.inl rfl) (by kernel_rfl) rfl (by decide) (fun a S => ?_)
                          refine sBin (.bool (decide (p0 ≤ r66.1))) S (wG (c := r66.2 == 0) 5 true 115 rfl rfl (by kernel_rfl) hc72) rfl (by kernel_rfl) (by kernel_rfl) (bGe _ _ _ _ .i64 r66.1 p0) rfl (by decide) (fun a S => ?_)
                          refine sPickT (b := r66.2 == 0) (.bool (decide (p0 ≤ r66.1))) S (wN rfl) rfl (by kernel_rfl) hc72 (by kernel_rfl) rfl (by decide) (fun a S => ?_)
                          refine sMove (.bool (decide (p0 ≤ r66.1))) S (wN rfl) (.inr rfl) (by kernel_rfl) rfl (by decide) (fun a S => ?_)
                          exact leafL (leafT (⟨decide (p0 ≤ r66.1), Option.some.inj h, S.fix [] [] (by decide) (by kernel_rfl) (by kernel_rfl) (by kernel_rfl)⟩))
                        · refine sSkip (c := r66.2 == 0) 5 true 115 116 S rfl rfl (by kernel_rfl) hc72 rfl (by decide) (fun a S => ?_)
                          refine sSkip (c := r66.2 == 0) 5 true 115 117 S rfl rfl (by kernel_rfl) hc72 rfl (by decide) (fun a S => ?_)
                          refine sSkip (c := r66.2 == 0) 5 true 115 118 S rfl rfl (by kernel_rfl) hc72 rfl (by decide) (fun a S => ?_)
                          refine sPickF (b := r66.2 == 0) (.bool false) S (wN rfl) rfl (by kernel_rfl) hc72 (by kernel_rfl) rfl (by decide) (fun a S => ?_)
                          refine sMove (.bool false) S (wN rfl) (.inr rfl) (by kernel_rfl) rfl (by decide) (fun a S => ?_)
                          exact leafL (leafT (⟨false, Option.some.inj h, S.fix [] [] (by decide) (by kernel_rfl) (by kernel_rfl) (by kernel_rfl)⟩))
                      · refine sSkip (c := r4) 1 true 111 112 S rfl rfl (by kernel_rfl) hc71 rfl (by decide) (fun a S => ?_)
                        refine sSkip (c := r4) 1 true 111 113 S rfl rfl (by kernel_rfl) hc71 rfl (by decide) (fun a S => ?_)
                        refine sPickF (b := r4) (.bool false) S (wN rfl) rfl (by kernel_rfl) hc71 (by kernel_rfl) rfl (by decide) (fun a S => ?_)
                        refine sMove (.bool false) S (wN rfl) (.inl rfl) (by kernel_rfl) rfl (by decide) (fun a S => ?_)
                        refine sSkip (c := false) 5 true 115 116 S rfl rfl (by kernel_rfl) rfl rfl (by decide) (fun a S => ?_)
                        refine sSkip (c := false) 5 true 115 117 S rfl rfl (by kernel_rfl) rfl rfl (by decide) (fun a S => ?_)
                        refine sSkip (c := false) 5 true 115 118 S rfl rfl (by kernel_rfl) rfl rfl (by decide) (fun a S => ?_)
                        refine sPickF (b := false) (.bool false) S (wN rfl) rfl (by kernel_rfl) rfl (by kernel_rfl) rfl (by decide) (fun a S => ?_)
                        refine sMove (.bool false) S (wN rfl) (.inr rfl) (by kernel_rfl) rfl (by decide) (fun a S => ?_)
                        exact leafL (leafT (⟨false, Option.some.inj h, S.fix [] [] (by decide) (by kernel_rfl) (by kernel_rfl) (by kernel_rfl)⟩))
                    · obtain ⟨o68, rfl, S⟩ := hI
                      have h := g70
                      clear g70
                      try dsimp only at h
                      obtain rfl := Option.some.inj h
                      exact wp_ret (sRet (.bool o68) S (rsl1 rfl (rvT (t := 4) (v := .bool o68) S (by kernel_rfl))) ⟨(), rfl, S.mem.sel [] [] (by decide) (by kernel_rfl) (by kernel_rfl)⟩)

end Go.Proofs.Ytjndecalogklhaa
namespace Go.Proofs.Ytjndecalogklhaa
open Go.RowKit
set_option linter.unusedVariables false

/-- a valid take-up -/
structure Ta (r : api_Ratio) (a b : Nat) : Prop where
  n : r = ⟨(a : Int), (b : Int)⟩
  b0 : 1 ≤ b
  b1 : b ≤ 1000000000
  a1 : a ≤ 1000000000
  g : Nat.gcd a b = 1
  le : a ≤ 10 * b
theorem up_eq (r : api_Ratio) (wr : wf_api_Ratio r) (n : Int) : ∃ e, F_raddleref24_Up r n = some e ∧ (e = 0 → (∃ a b, Ta r a b) ∧ 0 ≤ n ∧ n ≤ 1000000000) := by
  have wn := inK_64 wr.1
  have wd := inK_64 wr.2
  obtain ⟨e1, h1⟩ := rcheck_some r
  unfold F_raddleref24_Up
  by_cases hn : r.Num < 0
  · refine ⟨8, ?_, fun h => by cases h⟩
    rw [h1]
    simp only [Option.bind_some, dT hn, if_true]
    cases (e1 != 0) <;> rfl
  by_cases hd : r.Den < 1
  · have k : F_raddleref23_Check r = some 8 := by unfold F_raddleref23_Check; simp [hd]
    refine ⟨8, ?_, fun h => by cases h⟩
    rw [k]
    rfl
  obtain ⟨a, ha⟩ : ∃ a : Nat, r.Num = a := ⟨r.Num.toNat, by omega⟩
  obtain ⟨b, hb⟩ : ∃ b : Nat, r.Den = b := ⟨r.Den.toNat, by omega⟩
  have hN : r = ⟨(a : Int), (b : Int)⟩ := by rw [← ha, ← hb]
  have k2 := rcheck_eq a b
  rw [← hN] at k2
  rw [k2]
  by_cases hv : 1 ≤ b ∧ b ≤ 1000000000 ∧ a ≤ 1000000000 ∧ Nat.gcd a b = 1
  case neg =>
    rw [if_neg hv]
    exact ⟨8, rfl, fun h => by cases h⟩
  rw [if_pos hv]
  have k3 : w64 (10 * r.Den) = 10 * (b : Int) := by rw [hb, w64_of (by omega) (by omega)]
  simp only [Option.bind_some, bne_self_eq_false, Bool.false_eq_true, if_false, dF hn, k3]
  by_cases hl : 10 * (b : Int) < r.Num
  · simp only [dT hl, if_true]
    exact ⟨8, rfl, fun h => by cases h⟩
  simp only [dF hl, Bool.false_eq_true, if_false]
  by_cases n0 : n < 0
  · simp only [dT n0, if_true, Option.bind_some]
    exact ⟨2, rfl, fun h => by cases h⟩
  by_cases n1 : 1000000000 < n
  · simp only [dF n0, dT n1, Bool.false_eq_true, if_true, if_false, Option.bind_some]
    exact ⟨2, rfl, fun h => by cases h⟩
  · simp only [dF n0, dF n1, Bool.false_eq_true, if_false, Option.bind_some]
    exact ⟨0, rfl, fun _ => ⟨⟨a, b, hN, hv.1, hv.2.1, hv.2.2.1, hv.2.2.2, by omega⟩, by omega, by omega⟩⟩
theorem checked_eq {a b : Nat} (b0 : 1 ≤ b) (b1 : b ≤ 1000000000) (a1 : a ≤ 1000000000) (g : Nat.gcd a b = 1) {n : Int} (n0 : 0 ≤ n) (n1 : n ≤ 1000000000) : F_sett_checked ⟨(a : Int), (b : Int)⟩ false n = some 0 := by
  unfold F_sett_checked
  simp only [ycheck_eq a b b0 b1 a1 g, Option.bind_some, bne_self_eq_false, Bool.false_eq_true, if_false, dF (show ¬ (a : Int) < 0 by omega), dF (show ¬ n < 0 by omega), dF (show ¬ 1000000000 < n by omega)]
theorem upTo_eq {r : api_Ratio} {a b : Nat} (T : Ta r a b) {n : Int} (n0 : 0 ≤ n) (n1 : n ≤ 1000000000) : F_sett_upTo r n = some 0 := by
  have b1 := T.b1
  have le := T.le
  have k3 : w64 (10 * (b : Int)) = 10 * (b : Int) := w64_of (by omega) (by omega)
  unfold F_sett_upTo
  rw [T.n]
  simp only [checked_eq T.b0 T.b1 T.a1 T.g (show (0 : Int) ≤ 0 by omega) (by omega), checked_eq T.b0 T.b1 T.a1 T.g n0 n1, Option.bind_some, bne_self_eq_false, Bool.false_eq_true, if_false, k3, dF (show ¬ 10 * (b : Int) < (a : Int) by omega)]
def needN (a b n : Nat) : Nat := (n * (b + a) + (b - 1)) / b
def clothN (a b n : Nat) : Nat := n * b / (b + a)
theorem need_eq {r : api_Ratio} {a b : Nat} (T : Ta r a b) {n : Nat} (n1 : n ≤ 1000000000) : F_sett_Need (n : Int) r = some (((needN a b n : Nat) : Int), 0) := by
  have b0 := T.b0
  have b1 := T.b1
  have a1 := T.a1
  have hp : n * (b + a) ≤ 1000000000 * 2000000000 := Nat.mul_le_mul n1 (by omega)
  unfold F_sett_Need F_sett_over_int64_ needN
  rw [upTo_eq T (show (0 : Int) ≤ n by omega) (by omega), T.n]
  have k1 : w64 ((b : Int) + (a : Int)) = ((b + a : Nat) : Int) := wadd (by omega)
  have k2 : w64 ((n : Int) * ((b + a : Nat) : Int)) = ((n * (b + a) : Nat) : Int) := wmul (by omega)
  have k3 : w64 ((b : Int) - 1) = ((b - 1 : Nat) : Int) := by rw [w64_of (by omega) (by omega)]; omega
  have k4 : w64 (((n * (b + a) : Nat) : Int) + ((b - 1 : Nat) : Int)) = ((n * (b + a) + (b - 1) : Nat) : Int) := wadd (by omega)
  simp only [Option.bind_some, bne_self_eq_false, Bool.false_eq_true, if_false, if_true, k1, k2, k3, k4, quo_nat (a := n * (b + a) + (b - 1)) b0 (by omega)]
theorem cloth_eq {r : api_Ratio} {a b : Nat} (T : Ta r a b) {n : Nat} (n1 : n ≤ 1000000000) : F_sett_Cloth (n : Int) r = some (((clothN a b n : Nat) : Int), 0) := by
  have b0 := T.b0
  have b1 := T.b1
  have a1 := T.a1
  have hp : n * b ≤ 1000000000 * 1000000000 := Nat.mul_le_mul n1 b1
  unfold F_sett_Cloth F_sett_over_int64_ clothN
  rw [upTo_eq T (show (0 : Int) ≤ n by omega) (by omega), T.n]
  have k1 : w64 ((b : Int) + (a : Int)) = ((b + a : Nat) : Int) := wadd (by omega)
  have k2 : w64 ((n : Int) * (b : Int)) = ((n * b : Nat) : Int) := wmul (by omega)
  simp only [Option.bind_some, bne_self_eq_false, Bool.false_eq_true, if_false, k1, k2, quo_nat (a := n * b) (g := b + a) (by omega) (by omega)]
theorem ceil_le {X b x : Nat} (b0 : 1 ≤ b) : (X + (b - 1)) / b ≤ x ↔ X ≤ x * b := by
  constructor
  · intro h
    have h1 := Nat.lt_mul_div_succ (X + (b - 1)) b0
    have h2 := Nat.mul_le_mul_left b h
    rw [Nat.mul_add, Nat.mul_one] at h1
    rw [Nat.mul_comm b x] at h2
    omega
  · intro h
    rw [← Nat.lt_succ_iff, Nat.div_lt_iff_lt_mul b0, Nat.succ_mul]
    omega
theorem law_SettYarns' (ha : F_raddlelaw24_alive = some true) (n : Int) (r : api_Ratio) (wn : InK .i64 n) (wr : wf_api_Ratio r) : F_raddlelaw24_SettYarns n r = some true := by
  obtain ⟨e, e1, e2⟩ := up_eq r wr n
  unfold F_raddlelaw24_SettYarns
  rw [ha, e1]
  obtain ⟨K, hK⟩ : ∃ K : Int, K = 1000000000 := ⟨_, rfl⟩
  rw [← hK]
  by_cases he : e = 0
  case neg => simp only [Option.bind_some, nT he, if_true]
  obtain ⟨⟨a, b, T⟩, n0, n1⟩ := e2 he
  obtain ⟨N, rfl⟩ : ∃ N : Nat, n = N := ⟨n.toNat, by omega⟩
  have b0 := T.b0
  have b1 := T.b1
  have a1 := T.a1
  have hN : N ≤ 1000000000 := by omega
  -- the cloth
  have hs : 0 < b + a := by omega
  have c1 : clothN a b N * (b + a) ≤ N * b := Nat.div_mul_le_self _ _
  have c2 : N * b < (clothN a b N + 1) * (b + a) := by
    have := Nat.lt_mul_div_succ (N * b) hs
    rw [Nat.mul_comm (b + a)] at this
    exact this
  have c3 : clothN a b N ≤ N := by
    apply Nat.le_of_mul_le_mul_right _ b0
    have : clothN a b N * b ≤ clothN a b N * (b + a) := Nat.mul_le_mul_left _ (by omega)
    omega
  have hc := cloth_eq T hN
  generalize clothN a b N = c at *
  have up : ∀ m x, needN a b m ≤ x ↔ m * (b + a) ≤ x * b := fun m x => ceil_le b0
  have hge : ∀ m, m ≤ needN a b m := by
    intro m
    have h1 := (up m (needN a b m)).1 (Nat.le_refl _)
    apply Nat.le_of_mul_le_mul_right _ b0
    have : m * b ≤ m * (b + a) := Nat.mul_le_mul_left _ (by omega)
    omega
  obtain ⟨m1, hn1, u1, u2⟩ : ∃ m1 : Nat, F_sett_Need (c : Int) r = some ((m1 : Int), 0) ∧ m1 ≤ N ∧ c ≤ m1 := ⟨needN a b c, need_eq T (by omega), (up c N).2 c1, hge c⟩
  obtain ⟨m3, hn3, u3, u6⟩ : ∃ m3 : Nat, F_sett_Need (N : Int) r = some ((m3 : Int), 0) ∧ N ≤ m3 ∧ N * (b + a) ≤ m3 * b := ⟨needN a b N, need_eq T hN, hge N, (up N _).1 (Nat.le_refl _)⟩
  have tail : (Option.bind (F_sett_Need (N : Int) r) fun r51 => Option.bind (α := Bool) (if (r51.2 != 0) = true then some true else if decide (r51.1 < (N : Int)) = true then some true else some (decide (K < r51.1))) fun o54 =>
      if o54 = true then Option.bind (α := Bool) (if true = true then if (r51.2 == 0) = true then some (decide ((N : Int) ≤ r51.1)) else some false else some false) fun o60 => some o60
      else Option.bind (F_sett_Cloth r51.1 r) fun r66 => Option.bind (α := Bool) (if true = true then if (r66.2 == 0) = true then some (decide ((N : Int) ≤ r66.1)) else some false else some false) fun o68 => some o68) = some true := by
    rw [hn3]
    by_cases hm : m3 ≤ 1000000000
    · obtain ⟨c4, hc2, u4⟩ : ∃ c4 : Nat, F_sett_Cloth (m3 : Int) r = some ((c4 : Int), 0) ∧ N ≤ c4 := ⟨clothN a b m3, cloth_eq T hm, (Nat.le_div_iff_mul_le hs).2 u6⟩
      simp only [Option.bind_some, bne_self_eq_false, Bool.false_eq_true, if_false, if_true, dF (show ¬ (m3 : Int) < (N : Int) by omega), dF (show ¬ K < (m3 : Int) by omega), hc2, beq_self_eq_true, dT (show (N : Int) ≤ (c4 : Int) by omega)]
    · simp only [Option.bind_some, bne_self_eq_false, Bool.false_eq_true, if_false, if_true, dF (show ¬ (m3 : Int) < (N : Int) by omega), dT (show K < (m3 : Int) by omega), beq_self_eq_true, dT (show (N : Int) ≤ (m3 : Int) by omega)]
  simp only [he, Option.bind_some, bne_self_eq_false, Bool.false_eq_true, if_false, Bool.not_true, hc, dF (show ¬ (c : Int) < 0 by omega), dF (show ¬ (N : Int) < (c : Int) by omega)]
  rw [hn1]
  simp only [Option.bind_some, bne_self_eq_false, Bool.false_eq_true, if_false]
  simp only [dF (show ¬ (N : Int) < (m1 : Int) by omega), dF (show ¬ (m1 : Int) < (c : Int) by omega), Option.bind_some, Bool.false_eq_true, if_false]
  by_cases hb : c < 1000000000
  · have hw : w64 ((c : Int) + 1) = ((c + 1 : Nat) : Int) := w64_succ (by omega)
    obtain ⟨m2, hn2, u5⟩ : ∃ m2 : Nat, F_sett_Need ((c + 1 : Nat) : Int) r = some ((m2 : Int), 0) ∧ N < m2 := ⟨needN a b (c + 1), need_eq T (by omega), Nat.lt_of_not_le fun h => by have := (up (c + 1) N).1 h; omega⟩
    simp only [dT (show (c : Int) < K by omega), if_true, hw, hn2, Option.bind_some, bne_self_eq_false, Bool.false_eq_true, if_false, dF (show ¬ (m2 : Int) ≤ (N : Int) by omega)]
    simpa only [Option.bind_some, if_true] using tail
  · simp only [dF (show ¬ (c : Int) < K by omega), Bool.false_eq_true, if_false, Option.bind_some]
    simpa only [Option.bind_some, if_true] using tail

end Go.Proofs.Ytjndecalogklhaa
namespace Go.Proofs.Ytjndecalogklhaa
open Go.RowKit
set_option linter.unusedVariables false

theorem law_SettYarns (n : Int) (r : api_Ratio) (wn : InK .i64 n) (wr : wf_api_Ratio r) : F_raddlelaw24_SettYarns n r = some true := law_SettYarns' k_raddlelaw24_alive n r wn wr

end Go.Proofs.Ytjndecalogklhaa
namespace Go.Proofs.Ytjndecalogklhaa
open Go.RowKit
set_option linter.unusedVariables false

namespace frameSettYarns
open Go.ChangeShapes Go.WideShapes Go.ChangeAt Go.Joins
theorem own : ownKnob Try.prog.godebug = none := by kernel_rfl
theorem laidOut : laidOutB Try.prog = true := by kernel_rfl
set_option maxRecDepth 100000 in
theorem lifted (os : Os) (started : os.Started) (H : Type) (enc : TypeId × Value → H) :
    ReturnsInHanded {} Try.checked os 7 .any (Rows.settYarnsSpec.pre6 enc Try.prog Try.f7 Rows.settYarnsRow.domain false) (Rows.settYarnsSpec.post enc Try.prog Try.f7 false true false false) := by
  refine returnsInHanded_of_change (C := Try.checked) own started (by kernel_rfl) Try.func7
    (ChangeSpec.witness6 (enc := enc) (C := Try.checked) false ⟨#[], #[.int .i64 0, .agg #[.int .i64 0, .int .i64 0]], []⟩ 8 (by kernel_rfl) (by kernel_rfl) (by kernel_rfl) (by kernel_rfl)) ?_
  intro W base args ds gs before hval0 hW hcnd _
  have hval : ∀ (j : Nat) t v, Try.f7.params[j]? = some t → args[j]? = some v → Value.okWide Try.prog W .any base t v := hval0
  have hW' := hW
  obtain ⟨p, q, hA0, hV, rfl, hfz, hnd⟩ := hW
  have hA : DataW.TrodAll enc Try.prog W 0 (fun _ => true) true Try.f7.params.toList args.toList ds p := hA0
  rw [Try.params7] at hA hval
  obtain ⟨v0, vs0, d0, ds0, p0, q0, hargs, rfl, rfl, h0, r0⟩ := trodAll_cons hA
  obtain ⟨v1, vs1, d1, ds1, p1, q1, rfl, rfl, rfl, h1, r1⟩ := trodAll_cons r0
  obtain ⟨rfl, rfl, rfl⟩ := trodAll_nil r1
  obtain rfl : args = #[v0, v1] := by cases args; simp_all
  obtain ⟨rfl, rfl⟩ := trodVars_none hV
  have k0 := h0
  have lt0 : ∀ x ∈ p0, x.block < W.heap.size := by obtain ⟨m, hm⟩ := k0; exact DataW.trod_lt m _ _ _ hm
  have k1 := h1
  have lt1 : ∀ x ∈ p1, x.block < W.heap.size := by obtain ⟨m, hm⟩ := k1; exact DataW.trod_lt m _ _ _ hm
  obtain ⟨x0, rfl, rfl, rfl, wf0⟩ := open_int Try.underlying2 (hval 0 _ v0 rfl rfl) h0
  obtain ⟨x1, rep1, wf1⟩ := top_agg Try.underlying34 aggr_api_Ratio op_api_Ratio (hval 1 _ v1 rfl rfl) h1
  clear hA0 hval0
  refine (c_raddlelaw24_SettYarns (fun _ => False) W x0 x1 v1 true (law_SettYarns x0 x1 wf0 wf1) (St0.start (by intro d hd; simp only [List.mem_cons, List.not_mem_nil, or_false] at hd; subst hd; exact rep1))).mono fun e W' hr => ?_
  obtain ⟨_, he, hS⟩ := hr
  have bel := hS.chg.below
  subst he
  exact ⟨_, rfl, _, _, _, [], _, [], hW', trodAll_mk1 (shut_bool Try.underlying4 _), (trodAll_cons_mk (Below.trod laidOut (by kernel_rfl) (of_decide_eq_true (by kernel_rfl)) k0 bel lt0) (trodAll_cons_mk (Below.trod laidOut (by kernel_rfl) (of_decide_eq_true (by kernel_rfl)) k1 bel lt1) trodAll_mk0)), rfl, bel.frame _, fun h => by cases h⟩
theorem over : Rows.settYarnsRow.holds Try.pinned (OpenSpec.ofChange Rows.settYarnsSpec) :=
  OpenClaim.holds_of_wide 7 Try.f7 rfl rfl rfl rfl rfl rfl rfl ⟨rfl, rfl, rfl, rfl, rfl⟩ rfl rfl rfl rfl rfl (by kernel_rfl) Try.func7 (by kernel_rfl)
    (of_decide_eq_true (by kernel_rfl)) (by unfold Func.isWrapper; first | (rw [if_pos (by decide +kernel)]; kernel_rfl) | (rw [if_neg (by decide +kernel)]; exact ⟨rfl, rfl⟩))
    (fun os started H enc _ => lifted os started H enc)
end frameSettYarns
theorem settYarns_holds : Rows.SettYarnsSaid := frameSettYarns.over

end Go.Proofs.Ytjndecalogklhaa
