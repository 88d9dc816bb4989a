import Derived.Test.YtdbgkakmhlmpbaaGTy
import Derived.Test.YtdbgkakmhlmpbaaG81
import Derived.Test.YtdbgkakmhlmpbaaG82
namespace Go.Proofs.Ytdbgkakmhlmpbaa
open Go.RowKit
set_option linter.unusedVariables false

def anc_yarn_Make_0 : List (List Nat) := [[], [], [0, 1], [], [], [3, 4], [0, 1, 2], [0, 1, 2, 3, 4, 5, 6]]
noncomputable def F_yarn_Make (p0 : Int) (p1 : Int) : Option (api_Ratio × Int) :=
  if p1 == 0 then
    some ((api_Ratio.mk 0 0), 18)
  else
    Option.bind (F_yarn_size p0) fun r8 =>
    Option.bind (F_yarn_size p1) fun r10 =>
    Option.bind (F_yarn_gcd r8 r10) fun r13 =>
    Option.bind (quoK .u64 r8 r13) fun z16 =>
    Option.bind (quoK .u64 r10 r13) fun z18 =>
    Option.bind (α := Bool) (
      if decide (1000000000 < z16) then
        some true
      else
        some (decide (1000000000 < z18))) fun o21 =>
    if o21 then
      some ((api_Ratio.mk 0 0), 16)
    else
      Option.bind (α := Int) (
        if (decide (p0 < 0)) != (decide (p1 < 0)) then
          some (w64 (0 - (IntKind.i64.wrap z16)))
        else
          some (IntKind.i64.wrap z16)) fun o29 =>
      some ((api_Ratio.mk o29 (IntKind.i64.wrap z18)), 0)
def c_yarn_Make_val (r : (api_Ratio × Int)) (x : Value) : Value := .tuple #[x, .int .i64 r.2]
def c_yarn_Make_D (r : (api_Ratio × Int)) (x : Value) : List Fact := [fRep r_api_Ratio x r.1]
set_option maxHeartbeats 4000000 in
set_option maxRecDepth 100000 in
theorem c_yarn_Make (E : Nat → Prop) (w0 : World) (p0 : Int) (p1 : Int) (r : (api_Ratio × Int)) (h : F_yarn_Make p0 p1 = some r) (S : St0 E [] w0 w0 [] []) :
    Calls Try.prog 60 #[.int .i64 p0, .int .i64 p1] w0 (Ret (X := Value) E [] w0 (c_yarn_Make_val r) (fun _ => []) (c_yarn_Make_D r)) := by
  unfold F_yarn_Make at h
  refine sEnter (args := [.int .i64 p0, .int .i64 p1]) 48 Try.func60 rfl rfl (by simp) S (fun a S => ?_)
  refine sSeq (fun K1 hK1 => ?_)
  refine sRegion ?_
  refine sAlloc (.agg #[.int .i64 0, .int .i64 0]) S (wN rfl) rfl (by kernel_rfl) [.int .i64 0, .int .i64 0] rfl rfl (by decide) (fun a b2 w S => ?_)
  refine sMove (.int .i64 0) S (wN rfl) (.inr rfl) (by kernel_rfl) rfl (by decide) (fun a S => ?_)
  refine leafL (leafT (hK1 _ _ ?_))
  refine sSeq (fun K3 hK3 => ?_)
  refine sSeq (fun K4 hK4 => ?_)
  refine sRegion ?_
  refine sMove (.int .i64 p1) S (wN rfl) (.inl rfl) (by kernel_rfl) rfl (by decide) (fun a S => ?_)
  refine sBin (.bool (p1 == 0)) S (wN rfl) rfl (by kernel_rfl) (by kernel_rfl) (bEq _ _ _ _ .i64 p1 0) rfl (by decide) (fun a S => ?_)
  refine leafL (leafT (hK4 _ _ ?_))
  rcases iteSome h with ⟨hc5, h⟩ | ⟨hc5, h⟩
  · refine sCondT (b := p1 == 0) S (by kernel_rfl) hc5 ?_
    refine sSeq (fun K6 hK6 => ?_)
    refine sRegion ?_
    refine sBuild [] [.int .i64 0, .int .i64 0] S (wN rfl) rfl (by kernel_rfl) (by kernel_rfl) rfl (by decide) (fun a S => ?_)
    refine sStore (p := b2) (off := 0) (T := 25) (vs := [.int .i64 0, .int .i64 0]) (v := .agg #[.int .i64 0, .int .i64 0]) 0 [.int .i64 0, .int .i64 0] S (wN rfl) rfl (by kernel_rfl) (by kernel_rfl) rfl (by kernel_rfl) (by kernel_rfl) rfl (by simp) rfl (fun a w S => ?_)
    refine sMove (.int .i64 18) S (wN rfl) (.inr rfl) (by kernel_rfl) rfl (by decide) (fun a S => ?_)
    refine leafL (leafT (hK6 _ _ ?_))
    obtain rfl := Option.some.inj h
    have S := S.learn (fRep r_api_Ratio (.agg #[.int .i64 0, .int .i64 0]) (api_Ratio.mk 0 0)) rfl
    exact wp_ret (rThen (sRet (.tuple #[.agg #[.int .i64 0, .int .i64 0], .int .i64 18]) S (rsl2 rfl (rvN (c := 4) (t := 25) (T := 25) (p := b2) 0 [.int .i64 0, .int .i64 0] S (by kernel_rfl) (by kernel_rfl) (by kernel_rfl) (by kernel_rfl)) (rvT (t := 5) (v := .int .i64 18) S (by kernel_rfl))) ⟨(.agg #[.int .i64 0, .int .i64 0]), rfl, S.mem.sel [] [0] (by decide) (by kernel_rfl) (by kernel_rfl)⟩))
  · refine sCondF (b := p1 == 0) S (by kernel_rfl) hc5 ?_
    refine wp_skip (leafT (hK3 _ _ ?_))
    refine sSeq (fun K7 hK7 => ?_)
    refine sRegion ?_
    refine sMove (.int .i64 p0) S (wN rfl) (.inl rfl) (by kernel_rfl) rfl (by decide) (fun a S => ?_)
    obtain ⟨r8, hx9, h⟩ := bindSome h
    have S1 := S.mem
    refine sCallQ (X := Unit) (f := 82) (vs := [.int .i64 p0]) (val := fun _ => .int .u64 r8) S (wN rfl) rfl callee82 (by kernel_rfl) (S1.quiet [] (by kernel_rfl)) (fun E1 w1 S1 => c_yarn_size E1 w1 p0 r8 hx9 S1) rfl (by decide) (fun _ a w S => ?_)
    refine sMove (.int .i64 p1) S (wN rfl) (.inl rfl) (by kernel_rfl) rfl (by decide) (fun a S => ?_)
    obtain ⟨r10, hx11, h⟩ := bindSome h
    have S1 := S.mem
    refine sCallQ (X := Unit) (f := 82) (vs := [.int .i64 p1]) (val := fun _ => .int .u64 r10) S (wN rfl) rfl callee82 (by kernel_rfl) (S1.quiet [] (by kernel_rfl)) (fun E1 w1 S1 => c_yarn_size E1 w1 p1 r10 hx11 S1) rfl (by decide) (fun _ a w S => ?_)
    refine sMove (.int .u64 r8) S (wN rfl) (.inr rfl) (by kernel_rfl) rfl (by decide) (fun a S => ?_)
    refine sMove (.int .u64 r10) S (wN rfl) (.inr rfl) (by kernel_rfl) rfl (by decide) (fun a S => ?_)
    refine leafL (leafT (hK7 _ _ ?_))
    refine sSeq (fun K12 hK12 => ?_)
    refine sRegion ?_
    refine sMove (.int .u64 r8) S (wN rfl) (.inl rfl) (by kernel_rfl) rfl (by decide) (fun a S => ?_)
    refine sMove (.int .u64 r10) S (wN rfl) (.inl rfl) (by kernel_rfl) rfl (by decide) (fun a S => ?_)
    obtain ⟨r13, hx14, h⟩ := bindSome h
    have S1 := S.mem
    refine sCallQ (X := Unit) (f := 81) (vs := [.int .u64 r8, .int .u64 r10]) (val := fun _ => .int .u64 r13) S (wN rfl) rfl callee81 (by kernel_rfl) (S1.quiet [] (by kernel_rfl)) (fun E1 w1 S1 => c_yarn_gcd E1 w1 r8 r10 r13 hx14 S1) rfl (by decide) (fun _ a w S => ?_)
    refine sMove (.int .u64 r13) S (wN rfl) (.inr rfl) (by kernel_rfl) rfl (by decide) (fun a S => ?_)
    refine leafL (leafT (hK12 _ _ ?_))
    refine sSeq (fun K15 hK15 => ?_)
    obtain ⟨z16, hx17, h⟩ := bindSome h
    obtain ⟨z18, hx19, h⟩ := bindSome h
    refine sDraw (nf := []) (W := [(0, 20, .int .u64 r8), (1, 21, .int .u64 r13), (2, 22, .int .u64 z16), (3, 23, .int .u64 r10), (4, 24, .int .u64 r13), (5, 25, .int .u64 z18), (6, 6, .int .u64 z16), (7, 7, .int .u64 z18)]) (by kernel_rfl) S ?_
    refine node_by (A := anc_yarn_Make_0) (nf := []) (Y := []) (W := [(0, 20, .int .u64 r8), (1, 21, .int .u64 r13), (2, 22, .int .u64 z16), (3, 23, .int .u64 r10), (4, 24, .int .u64 r13), (5, 25, .int .u64 z18), (6, 6, .int .u64 z16), (7, 7, .int .u64 z18)]) 8 (by kernel_rfl) (by kernel_rfl) (by kernel_rfl) (by kernel_rfl) (by kernel_rfl) [0, 1, 2, 3, 4, 5, 6, 7] (by kernel_rfl) (by decide) (by decide) (aF 0 7 (by decide) ?_ (aF 1 6 (by decide) ?_ (aF 2 5 (by decide) ?_ (aF 3 4 (by decide) ?_ (aF 4 3 (by decide) ?_ (aF 5 2 (by decide) ?_ (aF 6 1 (by decide) ?_ (aF 7 0 (by decide) ?_ (trivial))))))))) [(0, .int .i64 p0), (1, .int .i64 p1), (4, .pointer (some ⟨b2, 0, none⟩)), (6, .int .u64 z16), (7, .int .u64 z18)] (fin_of [none, none, none, some 6, some 7] rfl (by kernel_rfl) (by kernel_rfl)) (fun _ a w S => ?_)
    · refine fI 20 (.int .u64 r8) [(6, .int .u64 r8)] 0 [none] rfl rfl (by kernel_rfl) rfl (by kernel_rfl) (by kernel_rfl) fun G a w S => ?_
      refine sMove (.int .u64 r8) S (wN rfl) (.inl rfl) (by kernel_rfl) rfl (by decide) (fun a S => ?_)
      exact leafL ⟨rfl, S⟩
    · refine fI 21 (.int .u64 r13) [(8, .int .u64 r13)] 1 [none] rfl rfl (by kernel_rfl) rfl (by kernel_rfl) (by kernel_rfl) fun G a w S => ?_
      refine sMove (.int .u64 r13) S (wN rfl) (.inl rfl) (by kernel_rfl) rfl (by decide) (fun a S => ?_)
      exact leafL ⟨rfl, S⟩
    · refine fI 22 (.int .u64 z16) [(20, .int .u64 r8), (21, .int .u64 r13)] 2 [some 0, some 1] rfl rfl (by kernel_rfl) rfl (by kernel_rfl) (by kernel_rfl) fun G a w S => ?_
      refine sBin (.int .u64 z16) S (wN rfl) rfl (by kernel_rfl) (by kernel_rfl) (bQuoK _ _ _ _ (k := .u64) (x := r8) (y := r13) hx17) rfl (by decide) (fun a S => ?_)
      exact leafL ⟨rfl, S⟩
    · refine fI 23 (.int .u64 r10) [(7, .int .u64 r10)] 3 [none] rfl rfl (by kernel_rfl) rfl (by kernel_rfl) (by kernel_rfl) fun G a w S => ?_
      refine sMove (.int .u64 r10) S (wN rfl) (.inl rfl) (by kernel_rfl) rfl (by decide) (fun a S => ?_)
      exact leafL ⟨rfl, S⟩
    · refine fI 24 (.int .u64 r13) [(8, .int .u64 r13)] 4 [none] rfl rfl (by kernel_rfl) rfl (by kernel_rfl) (by kernel_rfl) fun G a w S => ?_
      refine sMove (.int .u64 r13) S (wN rfl) (.inl rfl) (by kernel_rfl) rfl (by decide) (fun a S => ?_)
      exact leafL ⟨rfl, S⟩
    · refine fI 25 (.int .u64 z18) [(23, .int .u64 r10), (24, .int .u64 r13)] 5 [some 3, some 4] rfl rfl (by kernel_rfl) rfl (by kernel_rfl) (by kernel_rfl) fun G a w S => ?_
      refine sBin (.int .u64 z18) S (wN rfl) rfl (by kernel_rfl) (by kernel_rfl) (bQuoK _ _ _ _ (k := .u64) (x := r10) (y := r13) hx19) rfl (by decide) (fun a S => ?_)
      exact leafL ⟨rfl, S⟩
    · refine fI 6 (.int .u64 z16) [(22, .int .u64 z16)] 6 [some 2] rfl rfl (by kernel_rfl) rfl (by kernel_rfl) (by kernel_rfl) fun G a w S => ?_
      refine sMove (.int .u64 z16) S (wN rfl) (.inr rfl) (by kernel_rfl) rfl (by decide) (fun a S => ?_)
      exact leafL ⟨rfl, S⟩
    · refine fI 7 (.int .u64 z18) [(25, .int .u64 z18)] 7 [some 5] rfl rfl (by kernel_rfl) rfl (by kernel_rfl) (by kernel_rfl) fun G a w S => ?_
      refine sMove (.int .u64 z18) S (wN rfl) (.inr rfl) (by kernel_rfl) rfl (by decide) (fun a S => ?_)
      exact leafL ⟨rfl, S⟩
    · refine leafT (hK15 _ _ ?_)
      refine sSeq (fun K20 hK20 => ?_)
      obtain ⟨t22, h, g23⟩ := bindSome h
      refine sCut (fun a w => ∃ o21, o21 = t22 ∧ St [] E [] w0 48 a w [(0, .int .i64 p0), (1, .int .i64 p1), (4, .pointer (some ⟨b2, 0, none⟩)), (6, .int .u64 z16), (7, .int .u64 z18), (31, .bool o21)] [eBox b2 25 [.int .i64 0, .int .i64 0]] []) ?_ (fun a w hI => ?_)
      · refine sRegion ?_
        refine sMove (.int .u64 z16) S (wN rfl) (.inl rfl) (by kernel_rfl) rfl (by decide) (fun a S => ?_)
        refine sBin (.bool (decide (1000000000 < z16))) S (wN rfl) rfl (by kernel_rfl) (by kernel_rfl) (bGt _ _ _ _ .u64 z16 1000000000) rfl (by decide) (fun a S => ?_)
        refine sMove (.bool (decide (1000000000 < z16))) S (wN rfl) (.inl rfl) (by kernel_rfl) rfl (by decide) (fun a S => ?_)
        rcases iteSome h with ⟨hc24, h⟩ | ⟨hc24, h⟩
        · refine sSkip (c := decide (1000000000 < z16)) 2 false 28 29 S rfl rfl (by kernel_rfl) hc24 rfl (by decide) (fun a S => ?_)
          refine sSkip (c := decide (1000000000 < z16)) 2 false 28 30 S rfl rfl (by kernel_rfl) hc24 rfl (by decide) (fun a S => ?_)
          refine sPickT (b := decide (1000000000 < z16)) (.bool true) S (wN rfl) rfl (by kernel_rfl) hc24 (by kernel_rfl) rfl (by decide) (fun a S => ?_)
          exact leafL (leafT (⟨true, Option.some.inj h, S.fix [0] [] (by decide) (by kernel_rfl) (by kernel_rfl) (by kernel_rfl)⟩))
        · refine sMove (.int .u64 z18) S (wG (c := decide (1000000000 < z16)) 2 false 28 rfl rfl (by kernel_rfl) hc24) (.inl rfl) (by kernel_rfl) rfl (by decide) (fun a S => ?_)
          refine sBin (.bool (decide (1000000000 < z18))) S (wG (c := decide (1000000000 < z16)) 2 false 28 rfl rfl (by kernel_rfl) hc24) rfl (by kernel_rfl) (by kernel_rfl) (bGt _ _ _ _ .u64 z18 1000000000) rfl (by decide) (fun a S => ?_)
          refine sPickF (b := decide (1000000000 < z16)) (.bool (decide (1000000000 < z18))) S (wN rfl) rfl (by kernel_rfl) hc24 (by kernel_rfl) rfl (by decide) (fun a S => ?_)
          exact leafL (leafT (⟨decide (1000000000 < z18), Option.some.inj h, S.fix [0] [] (by decide) (by kernel_rfl) (by kernel_rfl) (by kernel_rfl)⟩))
      · obtain ⟨o21, rfl, S⟩ := hI
        have h := g23
        clear g23
        try dsimp only at h
        rcases iteSome h with ⟨hc25, h⟩ | ⟨hc25, h⟩
        · refine sCondT (b := o21) S (by kernel_rfl) hc25 ?_
          refine sSeq (fun K26 hK26 => ?_)
          refine sRegion ?_
          refine sBuild [] [.int .i64 0, .int .i64 0] S (wN rfl) rfl (by kernel_rfl) (by kernel_rfl) rfl (by decide) (fun a S => ?_)
          refine sStore (p := b2) (off := 0) (T := 25) (vs := [.int .i64 0, .int .i64 0]) (v := .agg #[.int .i64 0, .int .i64 0]) 0 [.int .i64 0, .int .i64 0] S (wN rfl) rfl (by kernel_rfl) (by kernel_rfl) rfl (by kernel_rfl) (by kernel_rfl) rfl (by simp) rfl (fun a w S => ?_)
          refine sMove (.int .i64 16) S (wN rfl) (.inr rfl) (by kernel_rfl) rfl (by decide) (fun a S => ?_)
          refine leafL (leafT (hK26 _ _ ?_))
          obtain rfl := Option.some.inj h
          have S := S.learn (fRep r_api_Ratio (.agg #[.int .i64 0, .int .i64 0]) (api_Ratio.mk 0 0)) rfl
          exact wp_ret (rThen (sRet (.tuple #[.agg #[.int .i64 0, .int .i64 0], .int .i64 16]) S (rsl2 rfl (rvN (c := 4) (t := 25) (T := 25) (p := b2) 0 [.int .i64 0, .int .i64 0] S (by kernel_rfl) (by kernel_rfl) (by kernel_rfl) (by kernel_rfl)) (rvT (t := 5) (v := .int .i64 16) S (by kernel_rfl))) ⟨(.agg #[.int .i64 0, .int .i64 0]), rfl, S.mem.sel [] [0] (by decide) (by kernel_rfl) (by kernel_rfl)⟩))
        · refine sCondF (b := o21) S (by kernel_rfl) hc25 ?_
          refine wp_skip (leafT (hK20 _ _ ?_))
          refine sSeq (fun K27 hK27 => ?_)
          refine sRegion ?_
          refine sMove (.int .u64 z16) S (wN rfl) (.inl rfl) (by kernel_rfl) rfl (by decide) (fun a S => ?_)
          refine sConv (k := .u64) (k2 := .i64) (b := z16) S (wN rfl) rfl Try.underlying144 Try.underlying2 (by kernel_rfl) rfl (by decide) (fun a S => ?_)
          refine sMove (.int .u64 z18) S (wN rfl) (.inl rfl) (by kernel_rfl) rfl (by decide) (fun a S => ?_)
          refine sConv (k := .u64) (k2 := .i64) (b := z18) S (wN rfl) rfl Try.underlying144 Try.underlying2 (by kernel_rfl) rfl (by decide) (fun a S => ?_)
          refine sBuild [(0, .int .i64 (IntKind.i64.wrap z16)), (1, .int .i64 (IntKind.i64.wrap z18))] [.int .i64 (IntKind.i64.wrap z16), .int .i64 (IntKind.i64.wrap z18)] S (wN rfl) rfl (by kernel_rfl) (by kernel_rfl) rfl (by decide) (fun a S => ?_)
          refine sAlloc (.agg #[.int .i64 0, .int .i64 0]) S (wN rfl) rfl (by kernel_rfl) [.int .i64 0, .int .i64 0] rfl rfl (by decide) (fun a b28 w S => ?_)
          refine sStore (p := b28) (off := 0) (T := 25) (vs := [.int .i64 0, .int .i64 0]) (v := .agg #[.int .i64 (IntKind.i64.wrap z16), .int .i64 (IntKind.i64.wrap z18)]) 0 [.int .i64 (IntKind.i64.wrap z16), .int .i64 (IntKind.i64.wrap z18)] S (wN rfl) rfl (by kernel_rfl) (by kernel_rfl) rfl (by kernel_rfl) (by kernel_rfl) rfl (by simp) rfl (fun a w S => ?_)
          refine leafL (leafT (hK27 _ _ ?_))
          obtain ⟨t30, h, g31⟩ := bindSome h
          refine sCut (fun a w => ∃ o29, o29 = t30 ∧ St [] E [] w0 48 a w [(4, .pointer (some ⟨b2, 0, none⟩)), (9, .pointer (some ⟨b28, 0, none⟩))] [eBox b2 25 [.int .i64 0, .int .i64 0], eBox b28 25 [.int .i64 o29, .int .i64 (IntKind.i64.wrap z18)]] []) ?_ (fun a w hI => ?_)
          · refine sSeq (fun K32 hK32 => ?_)
            refine sRegion ?_
            refine sMove (.int .i64 p0) S (wN rfl) (.inl rfl) (by kernel_rfl) rfl (by decide) (fun a S => ?_)
            refine sBin (.bool (decide (p0 < 0))) S (wN rfl) rfl (by kernel_rfl) (by kernel_rfl) (bLt _ _ _ _ .i64 p0 0) rfl (by decide) (fun a S => ?_)
            refine sMove (.int .i64 p1) S (wN rfl) (.inl rfl) (by kernel_rfl) rfl (by decide) (fun a S => ?_)
            refine sBin (.bool (decide (p1 < 0))) S (wN rfl) rfl (by kernel_rfl) (by kernel_rfl) (bLt _ _ _ _ .i64 p1 0) rfl (by decide) (fun a S => ?_)
            refine sBin (.bool ((decide (p0 < 0)) != (decide (p1 < 0)))) S (wN rfl) rfl (by kernel_rfl) (by kernel_rfl) (bNeB _ _ _ _ Try.underlying4 (decide (p0 < 0)) (decide (p1 < 0))) rfl (by decide) (fun a S => ?_)
            refine leafL (leafT (hK32 _ _ ?_))
            rcases iteSome h with ⟨hc33, h⟩ | ⟨hc33, h⟩
            · refine sCondT (b := (decide (p0 < 0)) != (decide (p1 < 0))) S (by kernel_rfl) hc33 ?_
              refine sRegion ?_
              refine sField (b := b28) (off := 0) 0 0 S (wN rfl) rfl (by kernel_rfl) (by kernel_rfl) rfl rfl (by decide) (fun a S => ?_)
              refine sLoad1 (p := b28) (off := 0) (T := 25) (vs := [.int .i64 (IntKind.i64.wrap z16), .int .i64 (IntKind.i64.wrap z18)]) 0 (.int .i64 (IntKind.i64.wrap z16)) S (wN rfl) rfl (by kernel_rfl) (by kernel_rfl) (by kernel_rfl) rfl rfl (by decide) (fun a S => ?_)
              refine sNeg (b := IntKind.i64.wrap z16) S (wN rfl) rfl (by kernel_rfl) rfl (by decide) (fun a S => ?_)
              refine sField (b := b28) (off := 0) 0 0 S (wN rfl) rfl (by kernel_rfl) (by kernel_rfl) rfl rfl (by decide) (fun a S => ?_)
              refine sStore (p := b28) (off := 0) (T := 25) (vs := [.int .i64 (IntKind.i64.wrap z16), .int .i64 (IntKind.i64.wrap z18)]) (v := .int .i64 (w64 (0 - (IntKind.i64.wrap z16)))) 0 [.int .i64 (w64 (0 - (IntKind.i64.wrap z16)))] S (wN rfl) rfl (by kernel_rfl) (by kernel_rfl) rfl (by kernel_rfl) (by kernel_rfl) rfl (by simp) rfl (fun a w S => ?_)
              exact leafL (leafT (⟨w64 (0 - (IntKind.i64.wrap z16)), Option.some.inj h, S.fix [1, 0] [] (by decide) (by kernel_rfl) (by kernel_rfl) (by kernel_rfl)⟩))
            · refine sCondF (b := (decide (p0 < 0)) != (decide (p1 < 0))) S (by kernel_rfl) hc33 ?_
              exact wp_skip (leafT (⟨IntKind.i64.wrap z16, Option.some.inj h, S.fix [1, 0] [] (by decide) (by kernel_rfl) (by kernel_rfl) (by kernel_rfl)⟩))
          · obtain ⟨o29, rfl, S⟩ := hI
            have h := g31
            clear g31
            try dsimp only at h
            refine sSeq (fun K34 hK34 => ?_)
            refine sRegion ?_
            refine sLoadN (p := b28) (off := 0) (T := 25) (vs := [.int .i64 o29, .int .i64 (IntKind.i64.wrap z18)]) 1 [.int .i64 o29, .int .i64 (IntKind.i64.wrap z18)] S (wN rfl) rfl (by kernel_rfl) (by kernel_rfl) (by kernel_rfl) (by kernel_rfl) rfl rfl (by decide) (fun a S => ?_)
            refine sStore (p := b2) (off := 0) (T := 25) (vs := [.int .i64 0, .int .i64 0]) (v := .agg #[.int .i64 o29, .int .i64 (IntKind.i64.wrap z18)]) 0 [.int .i64 o29, .int .i64 (IntKind.i64.wrap z18)] S (wN rfl) rfl (by kernel_rfl) (by kernel_rfl) rfl (by kernel_rfl) (by kernel_rfl) rfl (by simp) rfl (fun a w S => ?_)
            refine sMove (.int .i64 0) S (wN rfl) (.inr rfl) (by kernel_rfl) rfl (by decide) (fun a S => ?_)
            refine leafL (leafT (hK34 _ _ ?_))
            obtain rfl := Option.some.inj h
            have S := S.learn (fRep r_api_Ratio (.agg #[.int .i64 o29, .int .i64 (IntKind.i64.wrap z18)]) (api_Ratio.mk o29 (IntKind.i64.wrap z18))) rfl
            exact wp_ret (sRet (.tuple #[.agg #[.int .i64 o29, .int .i64 (IntKind.i64.wrap z18)], .int .i64 0]) S (rsl2 rfl (rvN (c := 4) (t := 25) (T := 25) (p := b2) 0 [.int .i64 o29, .int .i64 (IntKind.i64.wrap z18)] S (by kernel_rfl) (by kernel_rfl) (by kernel_rfl) (by kernel_rfl)) (rvT (t := 5) (v := .int .i64 0) S (by kernel_rfl))) ⟨(.agg #[.int .i64 o29, .int .i64 (IntKind.i64.wrap z18)]), rfl, S.mem.sel [] [0] (by decide) (by kernel_rfl) (by kernel_rfl)⟩)

end Go.Proofs.Ytdbgkakmhlmpbaa
