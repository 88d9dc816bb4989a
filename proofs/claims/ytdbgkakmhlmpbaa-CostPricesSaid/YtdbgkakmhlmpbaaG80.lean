import Derived.Test.YtdbgkakmhlmpbaaGTy
import Derived.Test.YtdbgkakmhlmpbaaG81
import Derived.Test.YtdbgkakmhlmpbaaG82
namespace Go.Proofs.Ytdbgkakmhlmpbaa
open Go.RowKit
set_option linter.unusedVariables false

def anc_yarn_Check_0 : List (List Nat) := [[], [0], [0, 1], [0, 1, 2], [0, 1, 2, 3], [0, 1, 2, 3, 4], [0, 1, 2, 3, 4, 5], [0, 1, 2, 3, 4, 5, 6], [0, 1, 2, 3, 4, 5, 6, 7], [0, 1, 2, 3, 4, 5, 6, 7, 8], [0, 1, 2, 3, 4, 5, 6, 7, 8, 9], [0, 1, 2, 3, 4, 5, 6, 7, 8, 9, 10], [0, 1, 2, 3, 4, 5, 6, 7, 8, 9, 10, 11], [0, 1, 2, 3, 4, 5, 6, 7, 8, 9, 10, 11, 12], [0, 1, 2, 3, 4, 5, 6, 7, 8, 9, 10, 11, 12, 13], [0, 1, 2, 3, 4, 5, 6, 7, 8, 9, 10, 11, 12, 13, 14], [0, 1, 2, 3, 4, 5, 6, 7, 8, 9, 10, 11, 12, 13, 14, 15], [0, 1, 2, 3, 4, 5, 6, 7, 8, 9, 10, 11, 12, 13, 14, 15, 16], [0, 1, 2, 3, 4, 5, 6, 7, 8, 9, 10, 11, 12, 13, 14], [0, 1, 2, 3, 4, 5, 6, 7, 8, 9, 10, 11, 12, 13, 14, 18], [0, 1, 2, 3, 4, 5, 6, 7, 8, 9, 10, 11, 12, 13, 14, 18, 19], [0, 1, 2, 3, 4, 5, 6, 7, 8, 9, 10, 11, 12, 13, 14, 15, 16, 17, 18, 19, 20], [0, 1, 2, 3, 4, 5, 6, 7, 8, 9, 10, 11, 12, 13, 14, 15, 16, 17, 18, 19, 20, 21], [0, 1, 2, 3, 4, 5, 6, 7, 8, 9, 10, 11, 12, 13, 14, 15, 16, 17, 18, 19, 20, 21, 22]]
noncomputable def F_yarn_Check (p0 : api_Ratio) : Option Int :=
  Option.bind (α := Bool) (
    if decide (p0.Den < 1) then
      some true
    else
      if decide (1000000000 < p0.Den) then
        some true
      else
        Option.bind (F_yarn_size p0.Num) fun r9 =>
        if decide (1000000000 < r9) then
          some true
        else
          Option.bind (F_yarn_gcd r9 (IntKind.u64.wrap p0.Den)) fun r12 =>
          some (r12 != 1)) fun o4 =>
  if o4 then
    some 8
  else
    some 0
set_option maxHeartbeats 4000000 in
set_option maxRecDepth 100000 in
theorem c_yarn_Check (E : Nat → Prop) (w0 : World) (p0 : api_Ratio) (v0 : Value) (r : Int) (h : F_yarn_Check p0 = some r) (S : St0 E [] w0 w0 [] [fRep r_api_Ratio (v0) p0]) :
    Calls Try.prog 80 #[v0] w0 (Ret (X := Unit) E [] w0 (fun _ => .int .i64 r) (fun _ => []) (fun _ => [])) := by
  unfold F_yarn_Check at h
  obtain rfl : v0 = .agg #[.int .i64 p0.Num, .int .i64 p0.Den] := S.know (i := 0) (e := fRep r_api_Ratio (v0) p0) (by kernel_rfl)
  refine sEnter (args := [.agg #[.int .i64 p0.Num, .int .i64 p0.Den]]) 27 Try.func80 rfl rfl (by simp) S (fun a S => ?_)
  refine sSeq (fun K1 hK1 => ?_)
  refine sRegion ?_
  refine sBox (v := .agg #[.int .i64 p0.Num, .int .i64 p0.Den]) S (wN rfl) rfl (by kernel_rfl) [.int .i64 p0.Num, .int .i64 p0.Den] rfl rfl (by decide) (fun a b2 w S => ?_)
  refine sMove (.int .i64 0) S (wN rfl) (.inr rfl) (by kernel_rfl) rfl (by decide) (fun a S => ?_)
  refine leafL (leafT (hK1 _ _ ?_))
  refine sSeq (fun K3 hK3 => ?_)
  obtain ⟨t5, h, g6⟩ := bindSome h
  refine sCut (fun a w => ∃ o4, o4 = t5 ∧ St [] E [] w0 27 a w [(26, .bool o4)] [] []) ?_ (fun a w hI => ?_)
  · rcases iteSome h with ⟨hc7, h⟩ | ⟨hc7, h⟩
    · refine sDraw (nf := []) (W := [(0, 3, .pointer (some ⟨b2, 1, none⟩)), (1, 4, .int .i64 p0.Den), (2, 5, .bool (decide (p0.Den < 1))), (3, 6, .bool (decide (p0.Den < 1))), (4, 7, undef), (5, 8, undef), (6, 9, undef), (7, 10, .bool true), (8, 11, .bool true), (9, 12, undef), (10, 13, undef), (11, 14, undef), (12, 15, undef), (13, 16, .bool true), (14, 17, .bool true), (15, 18, undef), (16, 19, undef), (17, 20, undef), (18, 21, undef), (19, 22, undef), (20, 23, undef), (21, 24, undef), (22, 25, undef), (23, 26, .bool true)]) (by kernel_rfl) S ?_
      refine node_by (A := anc_yarn_Check_0) (nf := []) (Y := []) (W := [(0, 3, .pointer (some ⟨b2, 1, none⟩)), (1, 4, .int .i64 p0.Den), (2, 5, .bool (decide (p0.Den < 1))), (3, 6, .bool (decide (p0.Den < 1))), (4, 7, undef), (5, 8, undef), (6, 9, undef), (7, 10, .bool true), (8, 11, .bool true), (9, 12, undef), (10, 13, undef), (11, 14, undef), (12, 15, undef), (13, 16, .bool true), (14, 17, .bool true), (15, 18, undef), (16, 19, undef), (17, 20, undef), (18, 21, undef), (19, 22, undef), (20, 23, undef), (21, 24, undef), (22, 25, undef), (23, 26, .bool true)]) 24 (by kernel_rfl) (by kernel_rfl) (by kernel_rfl) (by kernel_rfl) (by kernel_rfl) [0, 1, 2, 3, 4, 5, 6, 7, 8, 9, 10, 11, 12, 13, 14, 15, 16, 17, 18, 19, 20, 21, 22, 23] (by kernel_rfl) (by decide) (by decide) (aF 0 23 (by decide) ?_ (aF 1 22 (by decide) ?_ (aF 2 21 (by decide) ?_ (aF 3 20 (by decide) ?_ (aF 4 19 (by decide) ?_ (aF 5 18 (by decide) ?_ (aF 6 17 (by decide) ?_ (aF 7 16 (by decide) ?_ (aF 8 15 (by decide) ?_ (aF 9 14 (by decide) ?_ (aF 10 13 (by decide) ?_ (aF 11 12 (by decide) ?_ (aF 12 11 (by decide) ?_ (aF 13 10 (by decide) ?_ (aF 14 9 (by decide) ?_ (aF 15 8 (by decide) ?_ (aF 16 7 (by decide) ?_ (aF 17 6 (by decide) ?_ (aF 18 5 (by decide) ?_ (aF 19 4 (by decide) ?_ (aF 20 3 (by decide) ?_ (aF 21 2 (by decide) ?_ (aF 22 1 (by decide) ?_ (aF 23 0 (by decide) ?_ (trivial))))))))))))))))))))))))) [(26, .bool true)] (fin_of [some 23] rfl (by kernel_rfl) (by kernel_rfl)) (fun _ a w S => ?_)
      · refine fI 3 (.pointer (some ⟨b2, 1, none⟩)) [(1, .pointer (some ⟨b2, 0, none⟩))] 0 [none] rfl rfl (by kernel_rfl) rfl (by kernel_rfl) (by kernel_rfl) fun G a w S => ?_
        refine sField (b := b2) (off := 0) 1 1 S (wN rfl) rfl (by kernel_rfl) (by kernel_rfl) rfl rfl (by decide) (fun a S => ?_)
        exact leafL ⟨rfl, S⟩
      · refine fI 4 (.int .i64 p0.Den) [(3, .pointer (some ⟨b2, 1, none⟩))] 1 [some 0] rfl rfl (by kernel_rfl) rfl (by kernel_rfl) (by kernel_rfl) fun G a w S => ?_
        refine sLoad1 (p := b2) (off := 1) (T := 25) (vs := [.int .i64 p0.Num, .int .i64 p0.Den]) 0 (.int .i64 p0.Den) S (wN rfl) rfl (by kernel_rfl) (by kernel_rfl) (by kernel_rfl) rfl rfl (by decide) (fun a S => ?_)
        exact leafL ⟨rfl, S⟩
      · refine fI 5 (.bool (decide (p0.Den < 1))) [(4, .int .i64 p0.Den)] 2 [some 1] rfl rfl (by kernel_rfl) rfl (by kernel_rfl) (by kernel_rfl) fun G a w S => ?_
        refine sBin (.bool (decide (p0.Den < 1))) S (wN rfl) rfl (by kernel_rfl) (by kernel_rfl) (bLt _ _ _ _ .i64 p0.Den 1) rfl (by decide) (fun a S => ?_)
        exact leafL ⟨rfl, S⟩
      · refine fI 6 (.bool (decide (p0.Den < 1))) [(5, .bool (decide (p0.Den < 1)))] 3 [some 2] rfl rfl (by kernel_rfl) rfl (by kernel_rfl) (by kernel_rfl) fun G a w S => ?_
        refine sMove (.bool (decide (p0.Den < 1))) S (wN rfl) (.inl rfl) (by kernel_rfl) rfl (by decide) (fun a S => ?_)
        exact leafL ⟨rfl, S⟩
      · refine fI 7 undef [(1, .pointer (some ⟨b2, 0, none⟩)), (6, .bool (decide (p0.Den < 1)))] 4 [none, some 3] rfl rfl (by kernel_rfl) rfl (by kernel_rfl) (by kernel_rfl) fun G a w S => ?_
        refine sSkip (c := decide (p0.Den < 1)) 3 false 6 7 S rfl rfl (by kernel_rfl) hc7 rfl (by decide) (fun a S => ?_)
        exact leafL ⟨rfl, S⟩
      · refine fI 8 undef [(7, undef), (6, .bool (decide (p0.Den < 1)))] 5 [some 4, some 3] rfl rfl (by kernel_rfl) rfl (by kernel_rfl) (by kernel_rfl) fun G a w S => ?_
        refine sSkip (c := decide (p0.Den < 1)) 3 false 6 8 S rfl rfl (by kernel_rfl) hc7 rfl (by decide) (fun a S => ?_)
        exact leafL ⟨rfl, S⟩
      · refine fI 9 undef [(8, undef), (6, .bool (decide (p0.Den < 1)))] 6 [some 5, some 3] rfl rfl (by kernel_rfl) rfl (by kernel_rfl) (by kernel_rfl) fun G a w S => ?_
        refine sSkip (c := decide (p0.Den < 1)) 3 false 6 9 S rfl rfl (by kernel_rfl) hc7 rfl (by decide) (fun a S => ?_)
        exact leafL ⟨rfl, S⟩
      · refine fI 10 (.bool true) [(6, .bool (decide (p0.Den < 1))), (9, undef)] 7 [some 3, some 6] rfl rfl (by kernel_rfl) rfl (by kernel_rfl) (by kernel_rfl) fun G a w S => ?_
        refine sPickT (b := decide (p0.Den < 1)) (.bool true) S (wN rfl) rfl (by kernel_rfl) hc7 (by kernel_rfl) rfl (by decide) (fun a S => ?_)
        exact leafL ⟨rfl, S⟩
      · refine fI 11 (.bool true) [(10, .bool true)] 8 [some 7] rfl rfl (by kernel_rfl) rfl (by kernel_rfl) (by kernel_rfl) fun G a w S => ?_
        refine sMove (.bool true) S (wN rfl) (.inl rfl) (by kernel_rfl) rfl (by decide) (fun a S => ?_)
        exact leafL ⟨rfl, S⟩
      · refine fI 12 undef [(1, .pointer (some ⟨b2, 0, none⟩)), (11, .bool true)] 9 [none, some 8] rfl rfl (by kernel_rfl) rfl (by kernel_rfl) (by kernel_rfl) fun G a w S => ?_
        refine sSkip (c := true) 8 false 11 12 S rfl rfl (by kernel_rfl) rfl rfl (by decide) (fun a S => ?_)
        exact leafL ⟨rfl, S⟩
      · refine fI 13 undef [(12, undef), (11, .bool true)] 10 [some 9, some 8] rfl rfl (by kernel_rfl) rfl (by kernel_rfl) (by kernel_rfl) fun G a w S => ?_
        refine sSkip (c := true) 8 false 11 13 S rfl rfl (by kernel_rfl) rfl rfl (by decide) (fun a S => ?_)
        exact leafL ⟨rfl, S⟩
      · refine fI 14 undef [(13, undef), (11, .bool true)] 11 [some 10, some 8] rfl rfl (by kernel_rfl) rfl (by kernel_rfl) (by kernel_rfl) fun G a w S => ?_
        refine sSkip (c := true) 8 false 11 14 S rfl rfl (by kernel_rfl) rfl rfl (by decide) (fun a S => ?_)
        exact leafL ⟨rfl, S⟩
      · refine fI 15 undef [(14, undef), (11, .bool true)] 12 [some 11, some 8] rfl rfl (by kernel_rfl) rfl (by kernel_rfl) (by kernel_rfl) fun G a w S => ?_
        refine sSkip (c := true) 8 false 11 15 S rfl rfl (by kernel_rfl) rfl rfl (by decide) (fun a S => ?_)
        exact leafL ⟨rfl, S⟩
      · refine fI 16 (.bool true) [(11, .bool true), (15, undef)] 13 [some 8, some 12] rfl rfl (by kernel_rfl) rfl (by kernel_rfl) (by kernel_rfl) fun G a w S => ?_
        refine sPickT (b := true) (.bool true) S (wN rfl) rfl (by kernel_rfl) rfl (by kernel_rfl) rfl (by decide) (fun a S => ?_)
        exact leafL ⟨rfl, S⟩
      · refine fI 17 (.bool true) [(16, .bool true)] 14 [some 13] rfl rfl (by kernel_rfl) rfl (by kernel_rfl) (by kernel_rfl) fun G a w S => ?_
        refine sMove (.bool true) S (wN rfl) (.inl rfl) (by kernel_rfl) rfl (by decide) (fun a S => ?_)
        exact leafL ⟨rfl, S⟩
      · refine fI 18 undef [(1, .pointer (some ⟨b2, 0, none⟩)), (17, .bool true)] 15 [none, some 14] rfl rfl (by kernel_rfl) rfl (by kernel_rfl) (by kernel_rfl) fun G a w S => ?_
        refine sSkip (c := true) 14 false 17 18 S rfl rfl (by kernel_rfl) rfl rfl (by decide) (fun a S => ?_)
        exact leafL ⟨rfl, S⟩
      · refine fI 19 undef [(18, undef), (17, .bool true)] 16 [some 15, some 14] rfl rfl (by kernel_rfl) rfl (by kernel_rfl) (by kernel_rfl) fun G a w S => ?_
        refine sSkip (c := true) 14 false 17 19 S rfl rfl (by kernel_rfl) rfl rfl (by decide) (fun a S => ?_)
        exact leafL ⟨rfl, S⟩
      · refine fI 20 undef [(19, undef), (17, .bool true)] 17 [some 16, some 14] rfl rfl (by kernel_rfl) rfl (by kernel_rfl) (by kernel_rfl) fun G a w S => ?_
        refine sSkip (c := true) 14 false 17 20 S rfl rfl (by kernel_rfl) rfl rfl (by decide) (fun a S => ?_)
        exact leafL ⟨rfl, S⟩
      · refine fI 21 undef [(1, .pointer (some ⟨b2, 0, none⟩)), (17, .bool true)] 18 [none, some 14] rfl rfl (by kernel_rfl) rfl (by kernel_rfl) (by kernel_rfl) fun G a w S => ?_
        refine sSkip (c := true) 14 false 17 21 S rfl rfl (by kernel_rfl) rfl rfl (by decide) (fun a S => ?_)
        exact leafL ⟨rfl, S⟩
      · refine fI 22 undef [(21, undef), (17, .bool true)] 19 [some 18, some 14] rfl rfl (by kernel_rfl) rfl (by kernel_rfl) (by kernel_rfl) fun G a w S => ?_
        refine sSkip (c := true) 14 false 17 22 S rfl rfl (by kernel_rfl) rfl rfl (by decide) (fun a S => ?_)
        exact leafL ⟨rfl, S⟩
      · refine fI 23 undef [(22, undef), (17, .bool true)] 20 [some 19, some 14] rfl rfl (by kernel_rfl) rfl (by kernel_rfl) (by kernel_rfl) fun G a w S => ?_
        refine sSkip (c := true) 14 false 17 23 S rfl rfl (by kernel_rfl) rfl rfl (by decide) (fun a S => ?_)
        exact leafL ⟨rfl, S⟩
      · refine fI 24 undef [(20, undef), (23, undef), (17, .bool true)] 21 [some 17, some 20, some 14] rfl rfl (by kernel_rfl) rfl (by kernel_rfl) (by kernel_rfl) fun G a w S => ?_
        refine sSkip (c := true) 14 false 17 24 S rfl rfl (by kernel_rfl) rfl rfl (by decide) (fun a S => ?_)
        exact leafL ⟨rfl, S⟩
      · refine fI 25 undef [(24, undef), (17, .bool true)] 22 [some 21, some 14] rfl rfl (by kernel_rfl) rfl (by kernel_rfl) (by kernel_rfl) fun G a w S => ?_
        refine sSkip (c := true) 14 false 17 25 S rfl rfl (by kernel_rfl) rfl rfl (by decide) (fun a S => ?_)
        exact leafL ⟨rfl, S⟩
      · refine fI 26 (.bool true) [(17, .bool true), (25, undef)] 23 [some 14, some 22] rfl rfl (by kernel_rfl) rfl (by kernel_rfl) (by kernel_rfl) fun G a w S => ?_
        refine sPickT (b := true) (.bool true) S (wN rfl) rfl (by kernel_rfl) rfl (by kernel_rfl) rfl (by decide) (fun a S => ?_)
        exact leafL ⟨rfl, S⟩
      · exact leafT (⟨true, Option.some.inj h, S.fix [] [] (by decide) (by kernel_rfl) (by kernel_rfl) (by kernel_rfl)⟩)
    · rcases iteSome h with ⟨hc8, h⟩ | ⟨hc8, h⟩
      · refine sDraw (nf := []) (W := [(0, 3, .pointer (some ⟨b2, 1, none⟩)), (1, 4, .int .i64 p0.Den), (2, 5, .bool (decide (p0.Den < 1))), (3, 6, .bool (decide (p0.Den < 1))), (4, 7, .pointer (some ⟨b2, 1, none⟩)), (5, 8, .int .i64 p0.Den), (6, 9, .bool (decide (1000000000 < p0.Den))), (7, 10, .bool (decide (1000000000 < p0.Den))), (8, 11, .bool (decide (1000000000 < p0.Den))), (9, 12, undef), (10, 13, undef), (11, 14, undef), (12, 15, undef), (13, 16, .bool true), (14, 17, .bool true), (15, 18, undef), (16, 19, undef), (17, 20, undef), (18, 21, undef), (19, 22, undef), (20, 23, undef), (21, 24, undef), (22, 25, undef), (23, 26, .bool true)]) (by kernel_rfl) S ?_
        refine node_by (A := anc_yarn_Check_0) (nf := []) (Y := []) (W := [(0, 3, .pointer (some ⟨b2, 1, none⟩)), (1, 4, .int .i64 p0.Den), (2, 5, .bool (decide (p0.Den < 1))), (3, 6, .bool (decide (p0.Den < 1))), (4, 7, .pointer (some ⟨b2, 1, none⟩)), (5, 8, .int .i64 p0.Den), (6, 9, .bool (decide (1000000000 < p0.Den))), (7, 10, .bool (decide (1000000000 < p0.Den))), (8, 11, .bool (decide (1000000000 < p0.Den))), (9, 12, undef), (10, 13, undef), (11, 14, undef), (12, 15, undef), (13, 16, .bool true), (14, 17, .bool true), (15, 18, undef), (16, 19, undef), (17, 20, undef), (18, 21, undef), (19, 22, undef), (20, 23, undef), (21, 24, undef), (22, 25, undef), (23, 26, .bool true)]) 24 (by kernel_rfl) (by kernel_rfl) (by kernel_rfl) (by kernel_rfl) (by kernel_rfl) [0, 1, 2, 3, 4, 5, 6, 7, 8, 9, 10, 11, 12, 13, 14, 15, 16, 17, 18, 19, 20, 21, 22, 23] (by kernel_rfl) (by decide) (by decide) (aF 0 23 (by decide) ?_ (aF 1 22 (by decide) ?_ (aF 2 21 (by decide) ?_ (aF 3 20 (by decide) ?_ (aF 4 19 (by decide) ?_ (aF 5 18 (by decide) ?_ (aF 6 17 (by decide) ?_ (aF 7 16 (by decide) ?_ (aF 8 15 (by decide) ?_ (aF 9 14 (by decide) ?_ (aF 10 13 (by decide) ?_ (aF 11 12 (by decide) ?_ (aF 12 11 (by decide) ?_ (aF 13 10 (by decide) ?_ (aF 14 9 (by decide) ?_ (aF 15 8 (by decide) ?_ (aF 16 7 (by decide) ?_ (aF 17 6 (by decide) ?_ (aF 18 5 (by decide) ?_ (aF 19 4 (by decide) ?_ (aF 20 3 (by decide) ?_ (aF 21 2 (by decide) ?_ (aF 22 1 (by decide) ?_ (aF 23 0 (by decide) ?_ (trivial))))))))))))))))))))))))) [(26, .bool true)] (fin_of [some 23] rfl (by kernel_rfl) (by kernel_rfl)) (fun _ a w S => ?_)
        · refine fI 3 (.pointer (some ⟨b2, 1, none⟩)) [(1, .pointer (some ⟨b2, 0, none⟩))] 0 [none] rfl rfl (by kernel_rfl) rfl (by kernel_rfl) (by kernel_rfl) fun G a w S => ?_
          refine sField (b := b2) (off := 0) 1 1 S (wN rfl) rfl (by kernel_rfl) (by kernel_rfl) rfl rfl (by decide) (fun a S => ?_)
          exact leafL ⟨rfl, S⟩
        · refine fI 4 (.int .i64 p0.Den) [(3, .pointer (some ⟨b2, 1, none⟩))] 1 [some 0] rfl rfl (by kernel_rfl) rfl (by kernel_rfl) (by kernel_rfl) fun G a w S => ?_
          refine sLoad1 (p := b2) (off := 1) (T := 25) (vs := [.int .i64 p0.Num, .int .i64 p0.Den]) 0 (.int .i64 p0.Den) S (wN rfl) rfl (by kernel_rfl) (by kernel_rfl) (by kernel_rfl) rfl rfl (by decide) (fun a S => ?_)
          exact leafL ⟨rfl, S⟩
        · refine fI 5 (.bool (decide (p0.Den < 1))) [(4, .int .i64 p0.Den)] 2 [some 1] rfl rfl (by kernel_rfl) rfl (by kernel_rfl) (by kernel_rfl) fun G a w S => ?_
          refine sBin (.bool (decide (p0.Den < 1))) S (wN rfl) rfl (by kernel_rfl) (by kernel_rfl) (bLt _ _ _ _ .i64 p0.Den 1) rfl (by decide) (fun a S => ?_)
          exact leafL ⟨rfl, S⟩
        · refine fI 6 (.bool (decide (p0.Den < 1))) [(5, .bool (decide (p0.Den < 1)))] 3 [some 2] rfl rfl (by kernel_rfl) rfl (by kernel_rfl) (by kernel_rfl) fun G a w S => ?_
          refine sMove (.bool (decide (p0.Den < 1))) S (wN rfl) (.inl rfl) (by kernel_rfl) rfl (by decide) (fun a S => ?_)
          exact leafL ⟨rfl, S⟩
        · refine fI 7 (.pointer (some ⟨b2, 1, none⟩)) [(1, .pointer (some ⟨b2, 0, none⟩)), (6, .bool (decide (p0.Den < 1)))] 4 [none, some 3] rfl rfl (by kernel_rfl) rfl (by kernel_rfl) (by kernel_rfl) fun G a w S => ?_
          refine sField (b := b2) (off := 0) 1 1 S (wG (c := decide (p0.Den < 1)) 3 false 6 rfl rfl (by kernel_rfl) hc7) rfl (by kernel_rfl) (by kernel_rfl) rfl rfl (by decide) (fun a S => ?_)
          exact leafL ⟨rfl, S⟩
        · refine fI 8 (.int .i64 p0.Den) [(7, .pointer (some ⟨b2, 1, none⟩)), (6, .bool (decide (p0.Den < 1)))] 5 [some 4, some 3] rfl rfl (by kernel_rfl) rfl (by kernel_rfl) (by kernel_rfl) fun G a w S => ?_
          refine sLoad1 (p := b2) (off := 1) (T := 25) (vs := [.int .i64 p0.Num, .int .i64 p0.Den]) 0 (.int .i64 p0.Den) S (wG (c := decide (p0.Den < 1)) 3 false 6 rfl rfl (by kernel_rfl) hc7) rfl (by kernel_rfl) (by kernel_rfl) (by kernel_rfl) rfl rfl (by decide) (fun a S => ?_)
          exact leafL ⟨rfl, S⟩
        · refine fI 9 (.bool (decide (1000000000 < p0.Den))) [(8, .int .i64 p0.Den), (6, .bool (decide (p0.Den < 1)))] 6 [some 5, some 3] rfl rfl (by kernel_rfl) rfl (by kernel_rfl) (by kernel_rfl) fun G a w S => ?_
          refine sBin (.bool (decide (1000000000 < p0.Den))) S (wG (c := decide (p0.Den < 1)) 3 false 6 rfl rfl (by kernel_rfl) hc7) rfl (by kernel_rfl) (by kernel_rfl) (bGt _ _ _ _ .i64 p0.Den 1000000000) rfl (by decide) (fun a S => ?_)
          exact leafL ⟨rfl, S⟩
        · refine fI 10 (.bool (decide (1000000000 < p0.Den))) [(6, .bool (decide (p0.Den < 1))), (9, .bool (decide (1000000000 < p0.Den)))] 7 [some 3, some 6] rfl rfl (by kernel_rfl) rfl (by kernel_rfl) (by kernel_rfl) fun G a w S => ?_
          refine sPickF (b := decide (p0.Den < 1)) (.bool (decide (1000000000 < p0.Den))) S (wN rfl) rfl (by kernel_rfl) hc7 (by kernel_rfl) rfl (by decide) (fun a S => ?_)
          exact leafL ⟨rfl, S⟩
        · refine fI 11 (.bool (decide (1000000000 < p0.Den))) [(10, .bool (decide (1000000000 < p0.Den)))] 8 [some 7] rfl rfl (by kernel_rfl) rfl (by kernel_rfl) (by kernel_rfl) fun G a w S => ?_
          refine sMove (.bool (decide (1000000000 < p0.Den))) S (wN rfl) (.inl rfl) (by kernel_rfl) rfl (by decide) (fun a S => ?_)
          exact leafL ⟨rfl, S⟩
        · refine fI 12 undef [(1, .pointer (some ⟨b2, 0, none⟩)), (11, .bool (decide (1000000000 < p0.Den)))] 9 [none, some 8] rfl rfl (by kernel_rfl) rfl (by kernel_rfl) (by kernel_rfl) fun G a w S => ?_
          refine sSkip (c := decide (1000000000 < p0.Den)) 8 false 11 12 S rfl rfl (by kernel_rfl) hc8 rfl (by decide) (fun a S => ?_)
          exact leafL ⟨rfl, S⟩
        · refine fI 13 undef [(12, undef), (11, .bool (decide (1000000000 < p0.Den)))] 10 [some 9, some 8] rfl rfl (by kernel_rfl) rfl (by kernel_rfl) (by kernel_rfl) fun G a w S => ?_
          refine sSkip (c := decide (1000000000 < p0.Den)) 8 false 11 13 S rfl rfl (by kernel_rfl) hc8 rfl (by decide) (fun a S => ?_)
          exact leafL ⟨rfl, S⟩
        · refine fI 14 undef [(13, undef), (11, .bool (decide (1000000000 < p0.Den)))] 11 [some 10, some 8] rfl rfl (by kernel_rfl) rfl (by kernel_rfl) (by kernel_rfl) fun G a w S => ?_
          refine sSkip (c := decide (1000000000 < p0.Den)) 8 false 11 14 S rfl rfl (by kernel_rfl) hc8 rfl (by decide) (fun a S => ?_)
          exact leafL ⟨rfl, S⟩
        · refine fI 15 undef [(14, undef), (11, .bool (decide (1000000000 < p0.Den)))] 12 [some 11, some 8] rfl rfl (by kernel_rfl) rfl (by kernel_rfl) (by kernel_rfl) fun G a w S => ?_
          refine sSkip (c := decide (1000000000 < p0.Den)) 8 false 11 15 S rfl rfl (by kernel_rfl) hc8 rfl (by decide) (fun a S => ?_)
          exact leafL ⟨rfl, S⟩
        · refine fI 16 (.bool true) [(11, .bool (decide (1000000000 < p0.Den))), (15, undef)] 13 [some 8, some 12] rfl rfl (by kernel_rfl) rfl (by kernel_rfl) (by kernel_rfl) fun G a w S => ?_
          refine sPickT (b := decide (1000000000 < p0.Den)) (.bool true) S (wN rfl) rfl (by kernel_rfl) hc8 (by kernel_rfl) rfl (by decide) (fun a S => ?_)
          exact leafL ⟨rfl, S⟩
        · refine fI 17 (.bool true) [(16, .bool true)] 14 [some 13] rfl rfl (by kernel_rfl) rfl (by kernel_rfl) (by kernel_rfl) fun G a w S => ?_
          refine sMove (.bool true) S (wN rfl) (.inl rfl) (by kernel_rfl) rfl (by decide) (fun a S => ?_)
          exact leafL ⟨rfl, S⟩
        · refine fI 18 undef [(1, .pointer (some ⟨b2, 0, none⟩)), (17, .bool true)] 15 [none, some 14] rfl rfl (by kernel_rfl) rfl (by kernel_rfl) (by kernel_rfl) fun G a w S => ?_
          refine sSkip (c := true) 14 false 17 18 S rfl rfl (by kernel_rfl) rfl rfl (by decide) (fun a S => ?_)
          exact leafL ⟨rfl, S⟩
        · refine fI 19 undef [(18, undef), (17, .bool true)] 16 [some 15, some 14] rfl rfl (by kernel_rfl) rfl (by kernel_rfl) (by kernel_rfl) fun G a w S => ?_
          refine sSkip (c := true) 14 false 17 19 S rfl rfl (by kernel_rfl) rfl rfl (by decide) (fun a S => ?_)
          exact leafL ⟨rfl, S⟩
        · refine fI 20 undef [(19, undef), (17, .bool true)] 17 [some 16, some 14] rfl rfl (by kernel_rfl) rfl (by kernel_rfl) (by kernel_rfl) fun G a w S => ?_
          refine sSkip (c := true) 14 false 17 20 S rfl rfl (by kernel_rfl) rfl rfl (by decide) (fun a S => ?_)
          exact leafL ⟨rfl, S⟩
        · refine fI 21 undef [(1, .pointer (some ⟨b2, 0, none⟩)), (17, .bool true)] 18 [none, some 14] rfl rfl (by kernel_rfl) rfl (by kernel_rfl) (by kernel_rfl) fun G a w S => ?_
          refine sSkip (c := true) 14 false 17 21 S rfl rfl (by kernel_rfl) rfl rfl (by decide) (fun a S => ?_)
          exact leafL ⟨rfl, S⟩
        · refine fI 22 undef [(21, undef), (17, .bool true)] 19 [some 18, some 14] rfl rfl (by kernel_rfl) rfl (by kernel_rfl) (by kernel_rfl) fun G a w S => ?_
          refine sSkip (c := true) 14 false 17 22 S rfl rfl (by kernel_rfl) rfl rfl (by decide) (fun a S => ?_)
          exact leafL ⟨rfl, S⟩
        · refine fI 23 undef [(22, undef), (17, .bool true)] 20 [some 19, some 14] rfl rfl (by kernel_rfl) rfl (by kernel_rfl) (by kernel_rfl) fun G a w S => ?_
          refine sSkip (c := true) 14 false 17 23 S rfl rfl (by kernel_rfl) rfl rfl (by decide) (fun a S => ?_)
          exact leafL ⟨rfl, S⟩
        · refine fI 24 undef [(20, undef), (23, undef), (17, .bool true)] 21 [some 17, some 20, some 14] rfl rfl (by kernel_rfl) rfl (by kernel_rfl) (by kernel_rfl) fun G a w S => ?_
          refine sSkip (c := true) 14 false 17 24 S rfl rfl (by kernel_rfl) rfl rfl (by decide) (fun a S => ?_)
          exact leafL ⟨rfl, S⟩
        · refine fI 25 undef [(24, undef), (17, .bool true)] 22 [some 21, some 14] rfl rfl (by kernel_rfl) rfl (by kernel_rfl) (by kernel_rfl) fun G a w S => ?_
          refine sSkip (c := true) 14 false 17 25 S rfl rfl (by kernel_rfl) rfl rfl (by decide) (fun a S => ?_)
          exact leafL ⟨rfl, S⟩
        · refine fI 26 (.bool true) [(17, .bool true), (25, undef)] 23 [some 14, some 22] rfl rfl (by kernel_rfl) rfl (by kernel_rfl) (by kernel_rfl) fun G a w S => ?_
          refine sPickT (b := true) (.bool true) S (wN rfl) rfl (by kernel_rfl) rfl (by kernel_rfl) rfl (by decide) (fun a S => ?_)
          exact leafL ⟨rfl, S⟩
        · exact leafT (⟨true, Option.some.inj h, S.fix [] [] (by decide) (by kernel_rfl) (by kernel_rfl) (by kernel_rfl)⟩)
      · obtain ⟨r9, hx10, h⟩ := bindSome h
        rcases iteSome h with ⟨hc11, h⟩ | ⟨hc11, h⟩
        · refine sDraw (nf := []) (W := [(0, 3, .pointer (some ⟨b2, 1, none⟩)), (1, 4, .int .i64 p0.Den), (2, 5, .bool (decide (p0.Den < 1))), (3, 6, .bool (decide (p0.Den < 1))), (4, 7, .pointer (some ⟨b2, 1, none⟩)), (5, 8, .int .i64 p0.Den), (6, 9, .bool (decide (1000000000 < p0.Den))), (7, 10, .bool (decide (1000000000 < p0.Den))), (8, 11, .bool (decide (1000000000 < p0.Den))), (9, 12, .pointer (some ⟨b2, 0, none⟩)), (10, 13, .int .i64 p0.Num), (11, 14, .int .u64 r9), (12, 15, .bool (decide (1000000000 < r9))), (13, 16, .bool (decide (1000000000 < r9))), (14, 17, .bool (decide (1000000000 < r9))), (15, 18, undef), (16, 19, undef), (17, 20, undef), (18, 21, undef), (19, 22, undef), (20, 23, undef), (21, 24, undef), (22, 25, undef), (23, 26, .bool true)]) (by kernel_rfl) S ?_
          refine node_by (A := anc_yarn_Check_0) (nf := []) (Y := []) (W := [(0, 3, .pointer (some ⟨b2, 1, none⟩)), (1, 4, .int .i64 p0.Den), (2, 5, .bool (decide (p0.Den < 1))), (3, 6, .bool (decide (p0.Den < 1))), (4, 7, .pointer (some ⟨b2, 1, none⟩)), (5, 8, .int .i64 p0.Den), (6, 9, .bool (decide (1000000000 < p0.Den))), (7, 10, .bool (decide (1000000000 < p0.Den))), (8, 11, .bool (decide (1000000000 < p0.Den))), (9, 12, .pointer (some ⟨b2, 0, none⟩)), (10, 13, .int .i64 p0.Num), (11, 14, .int .u64 r9), (12, 15, .bool (decide (1000000000 < r9))), (13, 16, .bool (decide (1000000000 < r9))), (14, 17, .bool (decide (1000000000 < r9))), (15, 18, undef), (16, 19, undef), (17, 20, undef), (18, 21, undef), (19, 22, undef), (20, 23, undef), (21, 24, undef), (22, 25, undef), (23, 26, .bool true)]) 24 (by kernel_rfl) (by kernel_rfl) (by kernel_rfl) (by kernel_rfl) (by kernel_rfl) [0, 1, 2, 3, 4, 5, 6, 7, 8, 9, 10, 11, 12, 13, 14, 15, 16, 17, 18, 19, 20, 21, 22, 23] (by kernel_rfl) (by decide) (by decide) (aF 0 23 (by decide) ?_ (aF 1 22 (by decide) ?_ (aF 2 21 (by decide) ?_ (aF 3 20 (by decide) ?_ (aF 4 19 (by decide) ?_ (aF 5 18 (by decide) ?_ (aF 6 17 (by decide) ?_ (aF 7 16 (by decide) ?_ (aF 8 15 (by decide) ?_ (aF 9 14 (by decide) ?_ (aF 10 13 (by decide) ?_ (aF 11 12 (by decide) ?_ (aF 12 11 (by decide) ?_ (aF 13 10 (by decide) ?_ (aF 14 9 (by decide) ?_ (aF 15 8 (by decide) ?_ (aF 16 7 (by decide) ?_ (aF 17 6 (by decide) ?_ (aF 18 5 (by decide) ?_ (aF 19 4 (by decide) ?_ (aF 20 3 (by decide) ?_ (aF 21 2 (by decide) ?_ (aF 22 1 (by decide) ?_ (aF 23 0 (by decide) ?_ (trivial))))))))))))))))))))))))) [(26, .bool true)] (fin_of [some 23] rfl (by kernel_rfl) (by kernel_rfl)) (fun _ a w S => ?_)
          · refine fI 3 (.pointer (some ⟨b2, 1, none⟩)) [(1, .pointer (some ⟨b2, 0, none⟩))] 0 [none] rfl rfl (by kernel_rfl) rfl (by kernel_rfl) (by kernel_rfl) fun G a w S => ?_
            refine sField (b := b2) (off := 0) 1 1 S (wN rfl) rfl (by kernel_rfl) (by kernel_rfl) rfl rfl (by decide) (fun a S => ?_)
            exact leafL ⟨rfl, S⟩
          · refine fI 4 (.int .i64 p0.Den) [(3, .pointer (some ⟨b2, 1, none⟩))] 1 [some 0] rfl rfl (by kernel_rfl) rfl (by kernel_rfl) (by kernel_rfl) fun G a w S => ?_
            refine sLoad1 (p := b2) (off := 1) (T := 25) (vs := [.int .i64 p0.Num, .int .i64 p0.Den]) 0 (.int .i64 p0.Den) S (wN rfl) rfl (by kernel_rfl) (by kernel_rfl) (by kernel_rfl) rfl rfl (by decide) (fun a S => ?_)
            exact leafL ⟨rfl, S⟩
          · refine fI 5 (.bool (decide (p0.Den < 1))) [(4, .int .i64 p0.Den)] 2 [some 1] rfl rfl (by kernel_rfl) rfl (by kernel_rfl) (by kernel_rfl) fun G a w S => ?_
            refine sBin (.bool (decide (p0.Den < 1))) S (wN rfl) rfl (by kernel_rfl) (by kernel_rfl) (bLt _ _ _ _ .i64 p0.Den 1) rfl (by decide) (fun a S => ?_)
            exact leafL ⟨rfl, S⟩
          · refine fI 6 (.bool (decide (p0.Den < 1))) [(5, .bool (decide (p0.Den < 1)))] 3 [some 2] rfl rfl (by kernel_rfl) rfl (by kernel_rfl) (by kernel_rfl) fun G a w S => ?_
            refine sMove (.bool (decide (p0.Den < 1))) S (wN rfl) (.inl rfl) (by kernel_rfl) rfl (by decide) (fun a S => ?_)
            exact leafL ⟨rfl, S⟩
          · refine fI 7 (.pointer (some ⟨b2, 1, none⟩)) [(1, .pointer (some ⟨b2, 0, none⟩)), (6, .bool (decide (p0.Den < 1)))] 4 [none, some 3] rfl rfl (by kernel_rfl) rfl (by kernel_rfl) (by kernel_rfl) fun G a w S => ?_
            refine sField (b := b2) (off := 0) 1 1 S (wG (c := decide (p0.Den < 1)) 3 false 6 rfl rfl (by kernel_rfl) hc7) rfl (by kernel_rfl) (by kernel_rfl) rfl rfl (by decide) (fun a S => ?_)
            exact leafL ⟨rfl, S⟩
          · refine fI 8 (.int .i64 p0.Den) [(7, .pointer (some ⟨b2, 1, none⟩)), (6, .bool (decide (p0.Den < 1)))] 5 [some 4, some 3] rfl rfl (by kernel_rfl) rfl (by kernel_rfl) (by kernel_rfl) fun G a w S => ?_
            refine sLoad1 (p := b2) (off := 1) (T := 25) (vs := [.int .i64 p0.Num, .int .i64 p0.Den]) 0 (.int .i64 p0.Den) S (wG (c := decide (p0.Den < 1)) 3 false 6 rfl rfl (by kernel_rfl) hc7) rfl (by kernel_rfl) (by kernel_rfl) (by kernel_rfl) rfl rfl (by decide) (fun a S => ?_)
            exact leafL ⟨rfl, S⟩
          · refine fI 9 (.bool (decide (1000000000 < p0.Den))) [(8, .int .i64 p0.Den), (6, .bool (decide (p0.Den < 1)))] 6 [some 5, some 3] rfl rfl (by kernel_rfl) rfl (by kernel_rfl) (by kernel_rfl) fun G a w S => ?_
            refine sBin (.bool (decide (1000000000 < p0.Den))) S (wG (c := decide (p0.Den < 1)) 3 false 6 rfl rfl (by kernel_rfl) hc7) rfl (by kernel_rfl) (by kernel_rfl) (bGt _ _ _ _ .i64 p0.Den 1000000000) rfl (by decide) (fun a S => ?_)
            exact leafL ⟨rfl, S⟩
          · refine fI 10 (.bool (decide (1000000000 < p0.Den))) [(6, .bool (decide (p0.Den < 1))), (9, .bool (decide (1000000000 < p0.Den)))] 7 [some 3, some 6] rfl rfl (by kernel_rfl) rfl (by kernel_rfl) (by kernel_rfl) fun G a w S => ?_
            refine sPickF (b := decide (p0.Den < 1)) (.bool (decide (1000000000 < p0.Den))) S (wN rfl) rfl (by kernel_rfl) hc7 (by kernel_rfl) rfl (by decide) (fun a S => ?_)
            exact leafL ⟨rfl, S⟩
          · refine fI 11 (.bool (decide (1000000000 < p0.Den))) [(10, .bool (decide (1000000000 < p0.Den)))] 8 [some 7] rfl rfl (by kernel_rfl) rfl (by kernel_rfl) (by kernel_rfl) fun G a w S => ?_
            refine sMove (.bool (decide (1000000000 < p0.Den))) S (wN rfl) (.inl rfl) (by kernel_rfl) rfl (by decide) (fun a S => ?_)
            exact leafL ⟨rfl, S⟩
          · refine fI 12 (.pointer (some ⟨b2, 0, none⟩)) [(1, .pointer (some ⟨b2, 0, none⟩)), (11, .bool (decide (1000000000 < p0.Den)))] 9 [none, some 8] rfl rfl (by kernel_rfl) rfl (by kernel_rfl) (by kernel_rfl) fun G a w S => ?_
            refine sField (b := b2) (off := 0) 0 0 S (wG (c := decide (1000000000 < p0.Den)) 8 false 11 rfl rfl (by kernel_rfl) hc8) rfl (by kernel_rfl) (by kernel_rfl) rfl rfl (by decide) (fun a S => ?_)
            exact leafL ⟨rfl, S⟩
          · refine fI 13 (.int .i64 p0.Num) [(12, .pointer (some ⟨b2, 0, none⟩)), (11, .bool (decide (1000000000 < p0.Den)))] 10 [some 9, some 8] rfl rfl (by kernel_rfl) rfl (by kernel_rfl) (by kernel_rfl) fun G a w S => ?_
            refine sLoad1 (p := b2) (off := 0) (T := 25) (vs := [.int .i64 p0.Num, .int .i64 p0.Den]) 0 (.int .i64 p0.Num) S (wG (c := decide (1000000000 < p0.Den)) 8 false 11 rfl rfl (by kernel_rfl) hc8) rfl (by kernel_rfl) (by kernel_rfl) (by kernel_rfl) rfl rfl (by decide) (fun a S => ?_)
            exact leafL ⟨rfl, S⟩
          · refine fI 14 (.int .u64 r9) [(13, .int .i64 p0.Num), (11, .bool (decide (1000000000 < p0.Den)))] 11 [some 10, some 8] rfl rfl (by kernel_rfl) rfl (by kernel_rfl) (by kernel_rfl) fun G a w S => ?_
            have S1 := S.mem
            refine sCallQ (X := Unit) (f := 82) (vs := [.int .i64 p0.Num]) (val := fun _ => .int .u64 r9) S (wG (c := decide (1000000000 < p0.Den)) 8 false 11 rfl rfl (by kernel_rfl) hc8) rfl callee82 (by kernel_rfl) (S1.quiet [] (by kernel_rfl)) (fun E1 w1 S1 => c_yarn_size E1 w1 p0.Num r9 hx10 S1) rfl (by decide) (fun _ a w S => ?_)
            exact leafL ⟨rfl, S⟩
          · refine fI 15 (.bool (decide (1000000000 < r9))) [(14, .int .u64 r9), (11, .bool (decide (1000000000 < p0.Den)))] 12 [some 11, some 8] rfl rfl (by kernel_rfl) rfl (by kernel_rfl) (by kernel_rfl) fun G a w S => ?_
            refine sBin (.bool (decide (1000000000 < r9))) S (wG (c := decide (1000000000 < p0.Den)) 8 false 11 rfl rfl (by kernel_rfl) hc8) rfl (by kernel_rfl) (by kernel_rfl) (bGt _ _ _ _ .u64 r9 1000000000) rfl (by decide) (fun a S => ?_)
            exact leafL ⟨rfl, S⟩
          · refine fI 16 (.bool (decide (1000000000 < r9))) [(11, .bool (decide (1000000000 < p0.Den))), (15, .bool (decide (1000000000 < r9)))] 13 [some 8, some 12] rfl rfl (by kernel_rfl) rfl (by kernel_rfl) (by kernel_rfl) fun G a w S => ?_
            refine sPickF (b := decide (1000000000 < p0.Den)) (.bool (decide (1000000000 < r9))) S (wN rfl) rfl (by kernel_rfl) hc8 (by kernel_rfl) rfl (by decide) (fun a S => ?_)
            exact leafL ⟨rfl, S⟩
          · refine fI 17 (.bool (decide (1000000000 < r9))) [(16, .bool (decide (1000000000 < r9)))] 14 [some 13] rfl rfl (by kernel_rfl) rfl (by kernel_rfl) (by kernel_rfl) fun G a w S => ?_
            refine sMove (.bool (decide (1000000000 < r9))) S (wN rfl) (.inl rfl) (by kernel_rfl) rfl (by decide) (fun a S => ?_)
            exact leafL ⟨rfl, S⟩
          · refine fI 18 undef [(1, .pointer (some ⟨b2, 0, none⟩)), (17, .bool (decide (1000000000 < r9)))] 15 [none, some 14] rfl rfl (by kernel_rfl) rfl (by kernel_rfl) (by kernel_rfl) fun G a w S => ?_
            refine sSkip (c := decide (1000000000 < r9)) 14 false 17 18 S rfl rfl (by kernel_rfl) hc11 rfl (by decide) (fun a S => ?_)
            exact leafL ⟨rfl, S⟩
          · refine fI 19 undef [(18, undef), (17, .bool (decide (1000000000 < r9)))] 16 [some 15, some 14] rfl rfl (by kernel_rfl) rfl (by kernel_rfl) (by kernel_rfl) fun G a w S => ?_
            refine sSkip (c := decide (1000000000 < r9)) 14 false 17 19 S rfl rfl (by kernel_rfl) hc11 rfl (by decide) (fun a S => ?_)
            exact leafL ⟨rfl, S⟩
          · refine fI 20 undef [(19, undef), (17, .bool (decide (1000000000 < r9)))] 17 [some 16, some 14] rfl rfl (by kernel_rfl) rfl (by kernel_rfl) (by kernel_rfl) fun G a w S => ?_
            refine sSkip (c := decide (1000000000 < r9)) 14 false 17 20 S rfl rfl (by kernel_rfl) hc11 rfl (by decide) (fun a S => ?_)
            exact leafL ⟨rfl, S⟩
          · refine fI 21 undef [(1, .pointer (some ⟨b2, 0, none⟩)), (17, .bool (decide (1000000000 < r9)))] 18 [none, some 14] rfl rfl (by kernel_rfl) rfl (by kernel_rfl) (by kernel_rfl) fun G a w S => ?_
            refine sSkip (c := decide (1000000000 < r9)) 14 false 17 21 S rfl rfl (by kernel_rfl) hc11 rfl (by decide) (fun a S => ?_)
            exact leafL ⟨rfl, S⟩
          · refine fI 22 undef [(21, undef), (17, .bool (decide (1000000000 < r9)))] 19 [some 18, some 14] rfl rfl (by kernel_rfl) rfl (by kernel_rfl) (by kernel_rfl) fun G a w S => ?_
            refine sSkip (c := decide (1000000000 < r9)) 14 false 17 22 S rfl rfl (by kernel_rfl) hc11 rfl (by decide) (fun a S => ?_)
            exact leafL ⟨rfl, S⟩
          · refine fI 23 undef [(22, undef), (17, .bool (decide (1000000000 < r9)))] 20 [some 19, some 14] rfl rfl (by kernel_rfl) rfl (by kernel_rfl) (by kernel_rfl) fun G a w S => ?_
            refine sSkip (c := decide (1000000000 < r9)) 14 false 17 23 S rfl rfl (by kernel_rfl) hc11 rfl (by decide) (fun a S => ?_)
            exact leafL ⟨rfl, S⟩
          · refine fI 24 undef [(20, undef), (23, undef), (17, .bool (decide (1000000000 < r9)))] 21 [some 17, some 20, some 14] rfl rfl (by kernel_rfl) rfl (by kernel_rfl) (by kernel_rfl) fun G a w S => ?_
            refine sSkip (c := decide (1000000000 < r9)) 14 false 17 24 S rfl rfl (by kernel_rfl) hc11 rfl (by decide) (fun a S => ?_)
            exact leafL ⟨rfl, S⟩
          · refine fI 25 undef [(24, undef), (17, .bool (decide (1000000000 < r9)))] 22 [some 21, some 14] rfl rfl (by kernel_rfl) rfl (by kernel_rfl) (by kernel_rfl) fun G a w S => ?_
            refine sSkip (c := decide (1000000000 < r9)) 14 false 17 25 S rfl rfl (by kernel_rfl) hc11 rfl (by decide) (fun a S => ?_)
            exact leafL ⟨rfl, S⟩
          · refine fI 26 (.bool true) [(17, .bool (decide (1000000000 < r9))), (25, undef)] 23 [some 14, some 22] rfl rfl (by kernel_rfl) rfl (by kernel_rfl) (by kernel_rfl) fun G a w S => ?_
            refine sPickT (b := decide (1000000000 < r9)) (.bool true) S (wN rfl) rfl (by kernel_rfl) hc11 (by kernel_rfl) rfl (by decide) (fun a S => ?_)
            exact leafL ⟨rfl, S⟩
          · exact leafT (⟨true, Option.some.inj h, S.fix [] [] (by decide) (by kernel_rfl) (by kernel_rfl) (by kernel_rfl)⟩)
        · obtain ⟨r12, hx13, h⟩ := bindSome h
          refine sDraw (nf := []) (W := [(0, 3, .pointer (some ⟨b2, 1, none⟩)), (1, 4, .int .i64 p0.Den), (2, 5, .bool (decide (p0.Den < 1))), (3, 6, .bool (decide (p0.Den < 1))), (4, 7, .pointer (some ⟨b2, 1, none⟩)), (5, 8, .int .i64 p0.Den), (6, 9, .bool (decide (1000000000 < p0.Den))), (7, 10, .bool (decide (1000000000 < p0.Den))), (8, 11, .bool (decide (1000000000 < p0.Den))), (9, 12, .pointer (some ⟨b2, 0, none⟩)), (10, 13, .int .i64 p0.Num), (11, 14, .int .u64 r9), (12, 15, .bool (decide (1000000000 < r9))), (13, 16, .bool (decide (1000000000 < r9))), (14, 17, .bool (decide (1000000000 < r9))), (15, 18, .pointer (some ⟨b2, 0, none⟩)), (16, 19, .int .i64 p0.Num), (17, 20, .int .u64 r9), (18, 21, .pointer (some ⟨b2, 1, none⟩)), (19, 22, .int .i64 p0.Den), (20, 23, .int .u64 (IntKind.u64.wrap p0.Den)), (21, 24, .int .u64 r12), (22, 25, .bool (r12 != 1)), (23, 26, .bool (r12 != 1))]) (by kernel_rfl) S ?_
          refine node_by (A := anc_yarn_Check_0) (nf := []) (Y := []) (W := [(0, 3, .pointer (some ⟨b2, 1, none⟩)), (1, 4, .int .i64 p0.Den), (2, 5, .bool (decide (p0.Den < 1))), (3, 6, .bool (decide (p0.Den < 1))), (4, 7, .pointer (some ⟨b2, 1, none⟩)), (5, 8, .int .i64 p0.Den), (6, 9, .bool (decide (1000000000 < p0.Den))), (7, 10, .bool (decide (1000000000 < p0.Den))), (8, 11, .bool (decide (1000000000 < p0.Den))), (9, 12, .pointer (some ⟨b2, 0, none⟩)), (10, 13, .int .i64 p0.Num), (11, 14, .int .u64 r9), (12, 15, .bool (decide (1000000000 < r9))), (13, 16, .bool (decide (1000000000 < r9))), (14, 17, .bool (decide (1000000000 < r9))), (15, 18, .pointer (some ⟨b2, 0, none⟩)), (16, 19, .int .i64 p0.Num), (17, 20, .int .u64 r9), (18, 21, .pointer (some ⟨b2, 1, none⟩)), (19, 22, .int .i64 p0.Den), (20, 23, .int .u64 (IntKind.u64.wrap p0.Den)), (21, 24, .int .u64 r12), (22, 25, .bool (r12 != 1)), (23, 26, .bool (r12 != 1))]) 24 (by kernel_rfl) (by kernel_rfl) (by kernel_rfl) (by kernel_rfl) (by kernel_rfl) [0, 1, 2, 3, 4, 5, 6, 7, 8, 9, 10, 11, 12, 13, 14, 15, 16, 17, 18, 19, 20, 21, 22, 23] (by kernel_rfl) (by decide) (by decide) (aF 0 23 (by decide) ?_ (aF 1 22 (by decide) ?_ (aF 2 21 (by decide) ?_ (aF 3 20 (by decide) ?_ (aF 4 19 (by decide) ?_ (aF 5 18 (by decide) ?_ (aF 6 17 (by decide) ?_ (aF 7 16 (by decide) ?_ (aF 8 15 (by decide) ?_ (aF 9 14 (by decide) ?_ (aF 10 13 (by decide) ?_ (aF 11 12 (by decide) ?_ (aF 12 11 (by decide) ?_ (aF 13 10 (by decide) ?_ (aF 14 9 (by decide) ?_ (aF 15 8 (by decide) ?_ (aF 16 7 (by decide) ?_ (aF 17 6 (by decide) ?_ (aF 18 5 (by decide) ?_ (aF 19 4 (by decide) ?_ (aF 20 3 (by decide) ?_ (aF 21 2 (by decide) ?_ (aF 22 1 (by decide) ?_ (aF 23 0 (by decide) ?_ (trivial))))))))))))))))))))))))) [(26, .bool (r12 != 1))] (fin_of [some 23] rfl (by kernel_rfl) (by kernel_rfl)) (fun _ a w S => ?_)
          · refine fI 3 (.pointer (some ⟨b2, 1, none⟩)) [(1, .pointer (some ⟨b2, 0, none⟩))] 0 [none] rfl rfl (by kernel_rfl) rfl (by kernel_rfl) (by kernel_rfl) fun G a w S => ?_
            refine sField (b := b2) (off := 0) 1 1 S (wN rfl) rfl (by kernel_rfl) (by kernel_rfl) rfl rfl (by decide) (fun a S => ?_)
            exact leafL ⟨rfl, S⟩
          · refine fI 4 (.int .i64 p0.Den) [(3, .pointer (some ⟨b2, 1, none⟩))] 1 [some 0] rfl rfl (by kernel_rfl) rfl (by kernel_rfl) (by kernel_rfl) fun G a w S => ?_
            refine sLoad1 (p := b2) (off := 1) (T := 25) (vs := [.int .i64 p0.Num, .int .i64 p0.Den]) 0 (.int .i64 p0.Den) S (wN rfl) rfl (by kernel_rfl) (by kernel_rfl) (by kernel_rfl) rfl rfl (by decide) (fun a S => ?_)
            exact leafL ⟨rfl, S⟩
          · refine fI 5 (.bool (decide (p0.Den < 1))) [(4, .int .i64 p0.Den)] 2 [some 1] rfl rfl (by kernel_rfl) rfl (by kernel_rfl) (by kernel_rfl) fun G a w S => ?_
            refine sBin (.bool (decide (p0.Den < 1))) S (wN rfl) rfl (by kernel_rfl) (by kernel_rfl) (bLt _ _ _ _ .i64 p0.Den 1) rfl (by decide) (fun a S => ?_)
            exact leafL ⟨rfl, S⟩
          · refine fI 6 (.bool (decide (p0.Den < 1))) [(5, .bool (decide (p0.Den < 1)))] 3 [some 2] rfl rfl (by kernel_rfl) rfl (by kernel_rfl) (by kernel_rfl) fun G a w S => ?_
            refine sMove (.bool (decide (p0.Den < 1))) S (wN rfl) (.inl rfl) (by kernel_rfl) rfl (by decide) (fun a S => ?_)
            exact leafL ⟨rfl, S⟩
          · refine fI 7 (.pointer (some ⟨b2, 1, none⟩)) [(1, .pointer (some ⟨b2, 0, none⟩)), (6, .bool (decide (p0.Den < 1)))] 4 [none, some 3] rfl rfl (by kernel_rfl) rfl (by kernel_rfl) (by kernel_rfl) fun G a w S => ?_
            refine sField (b := b2) (off := 0) 1 1 S (wG (c := decide (p0.Den < 1)) 3 false 6 rfl rfl (by kernel_rfl) hc7) rfl (by kernel_rfl) (by kernel_rfl) rfl rfl (by decide) (fun a S => ?_)
            exact leafL ⟨rfl, S⟩
          · refine fI 8 (.int .i64 p0.Den) [(7, .pointer (some ⟨b2, 1, none⟩)), (6, .bool (decide (p0.Den < 1)))] 5 [some 4, some 3] rfl rfl (by kernel_rfl) rfl (by kernel_rfl) (by kernel_rfl) fun G a w S => ?_
            refine sLoad1 (p := b2) (off := 1) (T := 25) (vs := [.int .i64 p0.Num, .int .i64 p0.Den]) 0 (.int .i64 p0.Den) S (wG (c := decide (p0.Den < 1)) 3 false 6 rfl rfl (by kernel_rfl) hc7) rfl (by kernel_rfl) (by kernel_rfl) (by kernel_rfl) rfl rfl (by decide) (fun a S => ?_)
            exact leafL ⟨rfl, S⟩
          · refine fI 9 (.bool (decide (1000000000 < p0.Den))) [(8, .int .i64 p0.Den), (6, .bool (decide (p0.Den < 1)))] 6 [some 5, some 3] rfl rfl (by kernel_rfl) rfl (by kernel_rfl) (by kernel_rfl) fun G a w S => ?_
            refine sBin (.bool (decide (1000000000 < p0.Den))) S (wG (c := decide (p0.Den < 1)) 3 false 6 rfl rfl (by kernel_rfl) hc7) rfl (by kernel_rfl) (by kernel_rfl) (bGt _ _ _ _ .i64 p0.Den 1000000000) rfl (by decide) (fun a S => ?_)
            exact leafL ⟨rfl, S⟩
          · refine fI 10 (.bool (decide (1000000000 < p0.Den))) [(6, .bool (decide (p0.Den < 1))), (9, .bool (decide (1000000000 < p0.Den)))] 7 [some 3, some 6] rfl rfl (by kernel_rfl) rfl (by kernel_rfl) (by kernel_rfl) fun G a w S => ?_
            refine sPickF (b := decide (p0.Den < 1)) (.bool (decide (1000000000 < p0.Den))) S (wN rfl) rfl (by kernel_rfl) hc7 (by kernel_rfl) rfl (by decide) (fun a S => ?_)
            exact leafL ⟨rfl, S⟩
          · refine fI 11 (.bool (decide (1000000000 < p0.Den))) [(10, .bool (decide (1000000000 < p0.Den)))] 8 [some 7] rfl rfl (by kernel_rfl) rfl (by kernel_rfl) (by kernel_rfl) fun G a w S => ?_
            refine sMove (.bool (decide (1000000000 < p0.Den))) S (wN rfl) (.inl rfl) (by kernel_rfl) rfl (by decide) (fun a S => ?_)
            exact leafL ⟨rfl, S⟩
          · refine fI 12 (.pointer (some ⟨b2, 0, none⟩)) [(1, .pointer (some ⟨b2, 0, none⟩)), (11, .bool (decide (1000000000 < p0.Den)))] 9 [none, some 8] rfl rfl (by kernel_rfl) rfl (by kernel_rfl) (by kernel_rfl) fun G a w S => ?_
            refine sField (b := b2) (off := 0) 0 0 S (wG (c := decide (1000000000 < p0.Den)) 8 false 11 rfl rfl (by kernel_rfl) hc8) rfl (by kernel_rfl) (by kernel_rfl) rfl rfl (by decide) (fun a S => ?_)
            exact leafL ⟨rfl, S⟩
          · refine fI 13 (.int .i64 p0.Num) [(12, .pointer (some ⟨b2, 0, none⟩)), (11, .bool (decide (1000000000 < p0.Den)))] 10 [some 9, some 8] rfl rfl (by kernel_rfl) rfl (by kernel_rfl) (by kernel_rfl) fun G a w S => ?_
            refine sLoad1 (p := b2) (off := 0) (T := 25) (vs := [.int .i64 p0.Num, .int .i64 p0.Den]) 0 (.int .i64 p0.Num) S (wG (c := decide (1000000000 < p0.Den)) 8 false 11 rfl rfl (by kernel_rfl) hc8) rfl (by kernel_rfl) (by kernel_rfl) (by kernel_rfl) rfl rfl (by decide) (fun a S => ?_)
            exact leafL ⟨rfl, S⟩
          · refine fI 14 (.int .u64 r9) [(13, .int .i64 p0.Num), (11, .bool (decide (1000000000 < p0.Den)))] 11 [some 10, some 8] rfl rfl (by kernel_rfl) rfl (by kernel_rfl) (by kernel_rfl) fun G a w S => ?_
            have S1 := S.mem
            refine sCallQ (X := Unit) (f := 82) (vs := [.int .i64 p0.Num]) (val := fun _ => .int .u64 r9) S (wG (c := decide (1000000000 < p0.Den)) 8 false 11 rfl rfl (by kernel_rfl) hc8) rfl callee82 (by kernel_rfl) (S1.quiet [] (by kernel_rfl)) (fun E1 w1 S1 => c_yarn_size E1 w1 p0.Num r9 hx10 S1) rfl (by decide) (fun _ a w S => ?_)
            exact leafL ⟨rfl, S⟩
          · refine fI 15 (.bool (decide (1000000000 < r9))) [(14, .int .u64 r9), (11, .bool (decide (1000000000 < p0.Den)))] 12 [some 11, some 8] rfl rfl (by kernel_rfl) rfl (by kernel_rfl) (by kernel_rfl) fun G a w S => ?_
            refine sBin (.bool (decide (1000000000 < r9))) S (wG (c := decide (1000000000 < p0.Den)) 8 false 11 rfl rfl (by kernel_rfl) hc8) rfl (by kernel_rfl) (by kernel_rfl) (bGt _ _ _ _ .u64 r9 1000000000) rfl (by decide) (fun a S => ?_)
            exact leafL ⟨rfl, S⟩
          · refine fI 16 (.bool (decide (1000000000 < r9))) [(11, .bool (decide (1000000000 < p0.Den))), (15, .bool (decide (1000000000 < r9)))] 13 [some 8, some 12] rfl rfl (by kernel_rfl) rfl (by kernel_rfl) (by kernel_rfl) fun G a w S => ?_
            refine sPickF (b := decide (1000000000 < p0.Den)) (.bool (decide (1000000000 < r9))) S (wN rfl) rfl (by kernel_rfl) hc8 (by kernel_rfl) rfl (by decide) (fun a S => ?_)
            exact leafL ⟨rfl, S⟩
          · refine fI 17 (.bool (decide (1000000000 < r9))) [(16, .bool (decide (1000000000 < r9)))] 14 [some 13] rfl rfl (by kernel_rfl) rfl (by kernel_rfl) (by kernel_rfl) fun G a w S => ?_
            refine sMove (.bool (decide (1000000000 < r9))) S (wN rfl) (.inl rfl) (by kernel_rfl) rfl (by decide) (fun a S => ?_)
            exact leafL ⟨rfl, S⟩
          · refine fI 18 (.pointer (some ⟨b2, 0, none⟩)) [(1, .pointer (some ⟨b2, 0, none⟩)), (17, .bool (decide (1000000000 < r9)))] 15 [none, some 14] rfl rfl (by kernel_rfl) rfl (by kernel_rfl) (by kernel_rfl) fun G a w S => ?_
            refine sField (b := b2) (off := 0) 0 0 S (wG (c := decide (1000000000 < r9)) 14 false 17 rfl rfl (by kernel_rfl) hc11) rfl (by kernel_rfl) (by kernel_rfl) rfl rfl (by decide) (fun a S => ?_)
            exact leafL ⟨rfl, S⟩
          · refine fI 19 (.int .i64 p0.Num) [(18, .pointer (some ⟨b2, 0, none⟩)), (17, .bool (decide (1000000000 < r9)))] 16 [some 15, some 14] rfl rfl (by kernel_rfl) rfl (by kernel_rfl) (by kernel_rfl) fun G a w S => ?_
            refine sLoad1 (p := b2) (off := 0) (T := 25) (vs := [.int .i64 p0.Num, .int .i64 p0.Den]) 0 (.int .i64 p0.Num) S (wG (c := decide (1000000000 < r9)) 14 false 17 rfl rfl (by kernel_rfl) hc11) rfl (by kernel_rfl) (by kernel_rfl) (by kernel_rfl) rfl rfl (by decide) (fun a S => ?_)
            exact leafL ⟨rfl, S⟩
          · refine fI 20 (.int .u64 r9) [(19, .int .i64 p0.Num), (17, .bool (decide (1000000000 < r9)))] 17 [some 16, some 14] rfl rfl (by kernel_rfl) rfl (by kernel_rfl) (by kernel_rfl) fun G a w S => ?_
            have S1 := S.mem
            refine sCallQ (X := Unit) (f := 82) (vs := [.int .i64 p0.Num]) (val := fun _ => .int .u64 r9) S (wG (c := decide (1000000000 < r9)) 14 false 17 rfl rfl (by kernel_rfl) hc11) rfl callee82 (by kernel_rfl) (S1.quiet [] (by kernel_rfl)) (fun E1 w1 S1 => c_yarn_size E1 w1 p0.Num r9 hx10 S1) rfl (by decide) (fun _ a w S => ?_)
            exact leafL ⟨rfl, S⟩
          · refine fI 21 (.pointer (some ⟨b2, 1, none⟩)) [(1, .pointer (some ⟨b2, 0, none⟩)), (17, .bool (decide (1000000000 < r9)))] 18 [none, some 14] rfl rfl (by kernel_rfl) rfl (by kernel_rfl) (by kernel_rfl) fun G a w S => ?_
            refine sField (b := b2) (off := 0) 1 1 S (wG (c := decide (1000000000 < r9)) 14 false 17 rfl rfl (by kernel_rfl) hc11) rfl (by kernel_rfl) (by kernel_rfl) rfl rfl (by decide) (fun a S => ?_)
            exact leafL ⟨rfl, S⟩
          · refine fI 22 (.int .i64 p0.Den) [(21, .pointer (some ⟨b2, 1, none⟩)), (17, .bool (decide (1000000000 < r9)))] 19 [some 18, some 14] rfl rfl (by kernel_rfl) rfl (by kernel_rfl) (by kernel_rfl) fun G a w S => ?_
            refine sLoad1 (p := b2) (off := 1) (T := 25) (vs := [.int .i64 p0.Num, .int .i64 p0.Den]) 0 (.int .i64 p0.Den) S (wG (c := decide (1000000000 < r9)) 14 false 17 rfl rfl (by kernel_rfl) hc11) rfl (by kernel_rfl) (by kernel_rfl) (by kernel_rfl) rfl rfl (by decide) (fun a S => ?_)
            exact leafL ⟨rfl, S⟩
          · refine fI 23 (.int .u64 (IntKind.u64.wrap p0.Den)) [(22, .int .i64 p0.Den), (17, .bool (decide (1000000000 < r9)))] 20 [some 19, some 14] rfl rfl (by kernel_rfl) rfl (by kernel_rfl) (by kernel_rfl) fun G a w S => ?_
            refine sConv (k := .i64) (k2 := .u64) (b := p0.Den) S (wG (c := decide (1000000000 < r9)) 14 false 17 rfl rfl (by kernel_rfl) hc11) rfl Try.underlying2 Try.underlying144 (by kernel_rfl) rfl (by decide) (fun a S => ?_)
            exact leafL ⟨rfl, S⟩
          · refine fI 24 (.int .u64 r12) [(20, .int .u64 r9), (23, .int .u64 (IntKind.u64.wrap p0.Den)), (17, .bool (decide (1000000000 < r9)))] 21 [some 17, some 20, some 14] rfl rfl (by kernel_rfl) rfl (by kernel_rfl) (by kernel_rfl) fun G a w S => ?_
            have S1 := S.mem
            refine sCallQ (X := Unit) (f := 81) (vs := [.int .u64 r9, .int .u64 (IntKind.u64.wrap p0.Den)]) (val := fun _ => .int .u64 r12) S (wG (c := decide (1000000000 < r9)) 14 false 17 rfl rfl (by kernel_rfl) hc11) rfl callee81 (by kernel_rfl) (S1.quiet [] (by kernel_rfl)) (fun E1 w1 S1 => c_yarn_gcd E1 w1 r9 (IntKind.u64.wrap p0.Den) r12 hx13 S1) rfl (by decide) (fun _ a w S => ?_)
            exact leafL ⟨rfl, S⟩
          · refine fI 25 (.bool (r12 != 1)) [(24, .int .u64 r12), (17, .bool (decide (1000000000 < r9)))] 22 [some 21, some 14] rfl rfl (by kernel_rfl) rfl (by kernel_rfl) (by kernel_rfl) fun G a w S => ?_
            refine sBin (.bool (r12 != 1)) S (wG (c := decide (1000000000 < r9)) 14 false 17 rfl rfl (by kernel_rfl) hc11) rfl (by kernel_rfl) (by kernel_rfl) (bNe _ _ _ _ .u64 r12 1) rfl (by decide) (fun a S => ?_)
            exact leafL ⟨rfl, S⟩
          · refine fI 26 (.bool (r12 != 1)) [(17, .bool (decide (1000000000 < r9))), (25, .bool (r12 != 1))] 23 [some 14, some 22] rfl rfl (by kernel_rfl) rfl (by kernel_rfl) (by kernel_rfl) fun G a w S => ?_
            refine sPickF (b := decide (1000000000 < r9)) (.bool (r12 != 1)) S (wN rfl) rfl (by kernel_rfl) hc11 (by kernel_rfl) rfl (by decide) (fun a S => ?_)
            exact leafL ⟨rfl, S⟩
          · exact leafT (⟨r12 != 1, Option.some.inj h, S.fix [] [] (by decide) (by kernel_rfl) (by kernel_rfl) (by kernel_rfl)⟩)
  · obtain ⟨o4, rfl, S⟩ := hI
    have h := g6
    clear g6
    try dsimp only at h
    rcases iteSome h with ⟨hc14, h⟩ | ⟨hc14, h⟩
    · refine sCondT (b := o4) S (by kernel_rfl) hc14 ?_
      refine sSeq (fun K15 hK15 => ?_)
      refine sRegion ?_
      refine sMove (.int .i64 8) S (wN rfl) (.inr rfl) (by kernel_rfl) rfl (by decide) (fun a S => ?_)
      refine leafL (leafT (hK15 _ _ ?_))
      obtain rfl := Option.some.inj h
      exact wp_ret (rThen (sRet (.int .i64 8) S (rsl1 rfl (rvT (t := 2) (v := .int .i64 8) S (by kernel_rfl))) ⟨(), rfl, S.mem.sel [] [] (by decide) (by kernel_rfl) (by kernel_rfl)⟩))
    · refine sCondF (b := o4) S (by kernel_rfl) hc14 ?_
      refine wp_skip (leafT (hK3 _ _ ?_))
      refine sSeq (fun K16 hK16 => ?_)
      refine sRegion ?_
      refine sMove (.int .i64 0) S (wN rfl) (.inr rfl) (by kernel_rfl) rfl (by decide) (fun a S => ?_)
      refine leafL (leafT (hK16 _ _ ?_))
      obtain rfl := Option.some.inj h
      exact wp_ret (sRet (.int .i64 0) S (rsl1 rfl (rvT (t := 2) (v := .int .i64 0) S (by kernel_rfl))) ⟨(), rfl, S.mem.sel [] [] (by decide) (by kernel_rfl) (by kernel_rfl)⟩)

end Go.Proofs.Ytdbgkakmhlmpbaa
