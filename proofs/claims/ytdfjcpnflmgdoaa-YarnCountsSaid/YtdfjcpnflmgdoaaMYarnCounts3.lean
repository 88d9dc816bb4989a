/- Several texts in one: G8 PlQ G47 G46 G23 G27 G45 G31 G49 G57 -/
import Derived.WalkKit
import Derived.Maps.AppendAt
import Derived.Deep.AppendLies
import Derived.KernelRfl
import Derived.Laws.OwnMore
import Derived.Great.BuildSlice
import Derived.Orders
import Derived.Laws.StructEq
import Derived.ChangeKeysEq
import Derived.Defers
import Derived.Test.YtdfjcpnflmgdoaaProg
import Derived.ProofKit
import Derived.OpenShut
import Derived.ChangeOld
import Derived.Deep.Slices
import Derived.Lib.SmallJoins
import Derived.JoinedOf
import Derived.JoinedAt
import Derived.Below
import Derived.Test.YtdfjcpnflmgdoaaRows
import Derived.Test.YtdfjcpnflmgdoaaMYarnCounts2
namespace Go.Proofs.Ytdfjcpnflmgdoaa
open Go.RowKit
set_option linter.unusedVariables false

def anc_yarn_Check_0 : List (List Nat) := [[], [0], [0, 1], [0, 1, 2], [0, 1, 2, 3], [0, 1, 2, 3, 4], [0, 1, 2, 3, 4, 5], [0, 1, 2, 3, 4, 5, 6], [0, 1, 2, 3, 4, 5, 6, 7], [0, 1, 2, 3, 4, 5, 6, 7, 8], [0, 1, 2, 3, 4, 5, 6, 7, 8, 9], [0, 1, 2, 3, 4, 5, 6, 7, 8, 9, 10], [0, 1, 2, 3, 4, 5, 6, 7, 8, 9, 10, 11], [0, 1, 2, 3, 4, 5, 6, 7, 8, 9, 10, 11, 12], [0, 1, 2, 3, 4, 5, 6, 7, 8, 9, 10, 11, 12, 13], [0, 1, 2, 3, 4, 5, 6, 7, 8, 9, 10, 11, 12, 13, 14], [0, 1, 2, 3, 4, 5, 6, 7, 8, 9, 10, 11, 12, 13, 14, 15], [0, 1, 2, 3, 4, 5, 6, 7, 8, 9, 10, 11, 12, 13, 14, 15, 16], [0, 1, 2, 3, 4, 5, 6, 7, 8, 9, 10, 11, 12, 13, 14], [0, 1, 2, 3, 4, 5, 6, 7, 8, 9, 10, 11, 12, 13, 14, 18], [0, 1, 2, 3, 4, 5, 6, 7, 8, 9, 10, 11, 12, 13, 14, 18, 19], [0, 1, 2, 3, 4, 5, 6, 7, 8, 9, 10, 11, 12, 13, 14, 15, 16, 17, 18, 19, 20], [0, 1, 2, 3, 4, 5, 6, 7, 8, 9, 10, 11, 12, 13, 14, 15, 16, 17, 18, 19, 20, 21], [0, 1, 2, 3, 4, 5, 6, 7, 8, 9, 10, 11, 12, 13, 14, 15, 16, 17, 18, 19, 20, 21, 22]]
noncomputable def F_yarn_Check (p0 : api_Ratio) : Option Int :=
  Option.bind (α := Bool) (
    if decide (p0.Den < 1) then
      some true
    else
      if decide (1000000000 < p0.Den) then
        some true
      else
        Option.bind (F_yarn_size p0.Num) fun r9 =>
        if decide (1000000000 < r9) then
          some true
        else
          Option.bind (F_yarn_gcd r9 (IntKind.u64.wrap p0.Den)) fun r12 =>
          some (r12 != 1)) fun o4 =>
  if o4 then
    some 8
  else
    some 0
set_option maxHeartbeats 4000000 in
set_option maxRecDepth 100000 in
theorem c_yarn_Check (E : Nat → Prop) (w0 : World) (p0 : api_Ratio) (v0 : Value) (r : Int) (h : F_yarn_Check p0 = some r) (S : St0 E [] w0 w0 [] [fRep r_api_Ratio (v0) p0]) :
    Calls Try.prog 8 #[v0] w0 (Ret (X := Unit) E [] w0 (fun _ => .int .i64 r) (fun _ => []) (fun _ => [])) := by
  unfold F_yarn_Check at h
  obtain rfl : v0 = .agg #[.int .i64 p0.Num, .int .i64 p0.Den] := S.know (i := 0) (e := fRep r_api_Ratio (v0) p0) (by kernel_rfl)
  refine sEnter (args := [.agg #[.int .i64 p0.Num, .int .i64 p0.Den]]) 27 Try.func8 rfl rfl (by simp) S (fun a S => ?_)
  refine sSeq (fun K1 hK1 => ?_)
  refine sRegion ?_
  refine sBox (v := .agg #[.int .i64 p0.Num, .int .i64 p0.Den]) S (wN rfl) rfl (by kernel_rfl) [.int .i64 p0.Num, .int .i64 p0.Den] rfl rfl (by decide) (fun a b2 w S => ?_)
  refine sMove (.int .i64 0) S (wN rfl) (.inr rfl) (by kernel_rfl) rfl (by decide) (fun a S => ?_)
  refine leafL (leafT (hK1 _ _ ?_))
  refine sSeq (fun K3 hK3 => ?_)
  obtain ⟨t5, h, g6⟩ := bindSome h
  refine sCut (fun a w => ∃ o4, o4 = t5 ∧ St [] E [] w0 27 a w [(26, .bool o4)] [] []) ?_ (fun a w hI => ?_)
  · rcases iteSome h with ⟨hc7, h⟩ | ⟨hc7, h⟩
    · refine sDraw (nf := []) (W := [(0, 3, .pointer (some ⟨b2, 1, none⟩)), (1, 4, .int .i64 p0.Den), (2, 5, .bool (decide (p0.Den < 1))), (3, 6, .bool (decide (p0.Den < 1))), (4, 7, undef), (5, 8, undef), (6, 9, undef), (7, 10, .bool true), (8, 11, .bool true), (9, 12, undef), (10, 13, undef), (11, 14, undef), (12, 15, undef), (13, 16, .bool true), (14, 17, .bool true), (15, 18, undef), (16, 19, undef), (17, 20, undef), (18, 21, undef), (19, 22, undef), (20, 23, undef), (21, 24, undef), (22, 25, undef), (23, 26, .bool true)]) (by kernel_rfl) S ?_
      refine node_by (A := anc_yarn_Check_0) (nf := []) (Y := []) (W := [(0, 3, .pointer (some ⟨b2, 1, none⟩)), (1, 4, .int .i64 p0.Den), (2, 5, .bool (decide (p0.Den < 1))), (3, 6, .bool (decide (p0.Den < 1))), (4, 7, undef), (5, 8, undef), (6, 9, undef), (7, 10, .bool true), (8, 11, .bool true), (9, 12, undef), (10, 13, undef), (11, 14, undef), (12, 15, undef), (13, 16, .bool true), (14, 17, .bool true), (15, 18, undef), (16, 19, undef), (17, 20, undef), (18, 21, undef), (19, 22, undef), (20, 23, undef), (21, 24, undef), (22, 25, undef), (23, 26, .bool true)]) 24 (by kernel_rfl) (by kernel_rfl) (by kernel_rfl) (by kernel_rfl) (by kernel_rfl) [0, 1, 2, 3, 4, 5, 6, 7, 8, 9, 10, 11, 12, 13, 14, 15, 16, 17, 18, 19, 20, 21, 22, 23] (by kernel_rfl) (by decide) (by decide) (aF 0 23 (by decide) ?_ (aF 1 22 (by decide) ?_ (aF 2 21 (by decide) ?_ (aF 3 20 (by decide) ?_ (aF 4 19 (by decide) ?_ (aF 5 18 (by decide) ?_ (aF 6 17 (by decide) ?_ (aF 7 16 (by decide) ?_ (aF 8 15 (by decide) ?_ (aF 9 14 (by decide) ?_ (aF 10 13 (by decide) ?_ (aF 11 12 (by decide) ?_ (aF 12 11 (by decide) ?_ (aF 13 10 (by decide) ?_ (aF 14 9 (by decide) ?_ (aF 15 8 (by decide) ?_ (aF 16 7 (by decide) ?_ (aF 17 6 (by decide) ?_ (aF 18 5 (by decide) ?_ (aF 19 4 (by decide) ?_ (aF 20 3 (by decide) ?_ (aF 21 2 (by decide) ?_ (aF 22 1 (by decide) ?_ (aF 23 0 (by decide) ?_ (trivial))))))))))))))))))))))))) [(26, .bool true)] (fin_of [some 23] rfl (by kernel_rfl) (by kernel_rfl)) (fun _ a w S => ?_)
      · refine fI 3 (.pointer (some ⟨b2, 1, none⟩)) [(1, .pointer (some ⟨b2, 0, none⟩))] 0 [none] rfl rfl (by kernel_rfl) rfl (by kernel_rfl) (by kernel_rfl) fun G a w S => ?_
        refine sField (b := b2) (off := 0) 1 1 S (wN rfl) rfl (by kernel_rfl) (by kernel_rfl) rfl rfl (by decide) (fun a S => ?_)
        exact leafL ⟨rfl, S⟩
      · refine fI 4 (.int .i64 p0.Den) [(3, .pointer (some ⟨b2, 1, none⟩))] 1 [some 0] rfl rfl (by kernel_rfl) rfl (by kernel_rfl) (by kernel_rfl) fun G a w S => ?_
        refine sLoad1 (p := b2) (off := 1) (T := 23) (vs := [.int .i64 p0.Num, .int .i64 p0.Den]) 0 (.int .i64 p0.Den) S (wN rfl) rfl (by kernel_rfl) (by kernel_rfl) (by kernel_rfl) rfl rfl (by decide) (fun a S => ?_)
        exact leafL ⟨rfl, S⟩
      · refine fI 5 (.bool (decide (p0.Den < 1))) [(4, .int .i64 p0.Den)] 2 [some 1] rfl rfl (by kernel_rfl) rfl (by kernel_rfl) (by kernel_rfl) fun G a w S => ?_
        refine sBin (.bool (decide (p0.Den < 1))) S (wN rfl) rfl (by kernel_rfl) (by kernel_rfl) (bLt _ _ _ _ .i64 p0.Den 1) rfl (by decide) (fun a S => ?_)
        exact leafL ⟨rfl, S⟩
      · refine fI 6 (.bool (decide (p0.Den < 1))) [(5, .bool (decide (p0.Den < 1)))] 3 [some 2] rfl rfl (by kernel_rfl) rfl (by kernel_rfl) (by kernel_rfl) fun G a w S => ?_
        refine sMove (.bool (decide (p0.Den < 1))) S (wN rfl) (.inl rfl) (by kernel_rfl) rfl (by decide) (fun a S => ?_)
        exact leafL ⟨rfl, S⟩
      · refine fI 7 undef [(1, .pointer (some ⟨b2, 0, none⟩)), (6, .bool (decide (p0.Den < 1)))] 4 [none, some 3] rfl rfl (by kernel_rfl) rfl (by kernel_rfl) (by kernel_rfl) fun G a w S => ?_
        refine sSkip (c := decide (p0.Den < 1)) 3 false 6 7 S rfl rfl (by kernel_rfl) hc7 rfl (by decide) (fun a S => ?_)
        exact leafL ⟨rfl, S⟩
      · refine fI 8 undef [(7, undef), (6, .bool (decide (p0.Den < 1)))] 5 [some 4, some 3] rfl rfl (by kernel_rfl) rfl (by kernel_rfl) (by kernel_rfl) fun G a w S => ?_
        refine sSkip (c := decide (p0.Den < 1)) 3 false 6 8 S rfl rfl (by kernel_rfl) hc7 rfl (by decide) (fun a S => ?_)
        exact leafL ⟨rfl, S⟩
      · refine fI 9 undef [(8, undef), (6, .bool (decide (p0.Den < 1)))] 6 [some 5, some 3] rfl rfl (by kernel_rfl) rfl (by kernel_rfl) (by kernel_rfl) fun G a w S => ?_
        refine sSkip (c := decide (p0.Den < 1)) 3 false 6 9 S rfl rfl (by kernel_rfl) hc7 rfl (by decide) (fun a S => ?_)
        exact leafL ⟨rfl, S⟩
      · refine fI 10 (.bool true) [(6, .bool (decide (p0.Den < 1))), (9, undef)] 7 [some 3, some 6] rfl rfl (by kernel_rfl) rfl (by kernel_rfl) (by kernel_rfl) fun G a w S => ?_
        refine sPickT (b := decide (p0.Den < 1)) (.bool true) S (wN rfl) rfl (by kernel_rfl) hc7 (by kernel_rfl) rfl (by decide) (fun a S => ?_)
        exact leafL ⟨rfl, S⟩
      · refine fI 11 (.bool true) [(10, .bool true)] 8 [some 7] rfl rfl (by kernel_rfl) rfl (by kernel_rfl) (by kernel_rfl) fun G a w S => ?_
        refine sMove (.bool true) S (wN rfl) (.inl rfl) (by kernel_rfl) rfl (by decide) (fun a S => ?_)
        exact leafL ⟨rfl, S⟩
      · refine fI 12 undef [(1, .pointer (some ⟨b2, 0, none⟩)), (11, .bool true)] 9 [none, some 8] rfl rfl (by kernel_rfl) rfl (by kernel_rfl) (by kernel_rfl) fun G a w S => ?_
        refine sSkip (c := true) 8 false 11 12 S rfl rfl (by kernel_rfl) rfl rfl (by decide) (fun a S => ?_)
        exact leafL ⟨rfl, S⟩
      · refine fI 13 undef [(12, undef), (11, .bool true)] 10 [some 9, some 8] rfl rfl (by kernel_rfl) rfl (by kernel_rfl) (by kernel_rfl) fun G a w S => ?_
        refine sSkip (c := true) 8 false 11 13 S rfl rfl (by kernel_rfl) rfl rfl (by decide) (fun a S => ?_)
        exact leafL ⟨rfl, S⟩
      · refine fI 14 undef [(13, undef), (11, .bool true)] 11 [some 10, some 8] rfl rfl (by kernel_rfl) rfl (by kernel_rfl) (by kernel_rfl) fun G a w S => ?_
        refine sSkip (c := true) 8 false 11 14 S rfl rfl (by kernel_rfl) rfl rfl (by decide) (fun a S => ?_)
        exact leafL ⟨rfl, S⟩
      · refine fI 15 undef [(14, undef), (11, .bool true)] 12 [some 11, some 8] rfl rfl (by kernel_rfl) rfl (by kernel_rfl) (by kernel_rfl) fun G a w S => ?_
        refine sSkip (c := true) 8 false 11 15 S rfl rfl (by kernel_rfl) rfl rfl (by decide) (fun a S => ?_)
        exact leafL ⟨rfl, S⟩
      · refine fI 16 (.bool true) [(11, .bool true), (15, undef)] 13 [some 8, some 12] rfl rfl (by kernel_rfl) rfl (by kernel_rfl) (by kernel_rfl) fun G a w S => ?_
        refine sPickT (b := true) (.bool true) S (wN rfl) rfl (by kernel_rfl) rfl (by kernel_rfl) rfl (by decide) (fun a S => ?_)
        exact leafL ⟨rfl, S⟩
      · refine fI 17 (.bool true) [(16, .bool true)] 14 [some 13] rfl rfl (by kernel_rfl) rfl (by kernel_rfl) (by kernel_rfl) fun G a w S => ?_
        refine sMove (.bool true) S (wN rfl) (.inl rfl) (by kernel_rfl) rfl (by decide) (fun a S => ?_)
        exact leafL ⟨rfl, S⟩
      · refine fI 18 undef [(1, .pointer (some ⟨b2, 0, none⟩)), (17, .bool true)] 15 [none, some 14] rfl rfl (by kernel_rfl) rfl (by kernel_rfl) (by kernel_rfl) fun G a w S => ?_
        refine sSkip (c := true) 14 false 17 18 S rfl rfl (by kernel_rfl) rfl rfl (by decide) (fun a S => ?_)
        exact leafL ⟨rfl, S⟩
      · refine fI 19 undef [(18, undef), (17, .bool true)] 16 [some 15, some 14] rfl rfl (by kernel_rfl) rfl (by kernel_rfl) (by kernel_rfl) fun G a w S => ?_
        refine sSkip (c := true) 14 false 17 19 S rfl rfl (by kernel_rfl) rfl rfl (by decide) (fun a S => ?_)
        exact leafL ⟨rfl, S⟩
      · refine fI 20 undef [(19, undef), (17, .bool true)] 17 [some 16, some 14] rfl rfl (by kernel_rfl) rfl (by kernel_rfl) (by kernel_rfl) fun G a w S => ?_
        refine sSkip (c := true) 14 false 17 20 S rfl rfl (by kernel_rfl) rfl rfl (by decide) (fun a S => ?_)
        exact leafL ⟨rfl, S⟩
      · refine fI 21 undef [(1, .pointer (some ⟨b2, 0, none⟩)), (17, .bool true)] 18 [none, some 14] rfl rfl (by kernel_rfl) rfl (by kernel_rfl) (by kernel_rfl) fun G a w S => ?_
        refine sSkip (c := true) 14 false 17 21 S rfl rfl (by kernel_rfl) rfl rfl (by decide) (fun a S => ?_)
        exact leafL ⟨rfl, S⟩
      · refine fI 22 undef [(21, undef), (17, .bool true)] 19 [some 18, some 14] rfl rfl (by kernel_rfl) rfl (by kernel_rfl) (by kernel_rfl) fun G a w S => ?_
        refine sSkip (c := true) 14 false 17 22 S rfl rfl (by kernel_rfl) rfl rfl (by decide) (fun a S => ?_)
        exact leafL ⟨rfl, S⟩
      · refine fI 23 undef [(22, undef), (17, .bool true)] 20 [some 19, some 14] rfl rfl (by kernel_rfl) rfl (by kernel_rfl) (by kernel_rfl) fun G a w S => ?_
        refine sSkip (c := true) 14 false 17 23 S rfl rfl (by kernel_rfl) rfl rfl (by decide) (fun a S => ?_)
        exact leafL ⟨rfl, S⟩
      · refine fI 24 undef [(20, undef), (23, undef), (17, .bool true)] 21 [some 17, some 20, some 14] rfl rfl (by kernel_rfl) rfl (by kernel_rfl) (by kernel_rfl) fun G a w S => ?_
        refine sSkip (c := true) 14 false 17 24 S rfl rfl (by kernel_rfl) rfl rfl (by decide) (fun a S => ?_)
        exact leafL ⟨rfl, S⟩
      · refine fI 25 undef [(24, undef), (17, .bool true)] 22 [some 21, some 14] rfl rfl (by kernel_rfl) rfl (by kernel_rfl) (by kernel_rfl) fun G a w S => ?_
        refine sSkip (c := true) 14 false 17 25 S rfl rfl (by kernel_rfl) rfl rfl (by decide) (fun a S => ?_)
        exact leafL ⟨rfl, S⟩
      · refine fI 26 (.bool true) [(17, .bool true), (25, undef)] 23 [some 14, some 22] rfl rfl (by kernel_rfl) rfl (by kernel_rfl) (by kernel_rfl) fun G a w S => ?_
        refine sPickT (b := true) (.bool true) S (wN rfl) rfl (by kernel_rfl) rfl (by kernel_rfl) rfl (by decide) (fun a S => ?_)
        exact leafL ⟨rfl, S⟩
      · exact leafT (⟨true, Option.some.inj h, S.fix [] [] (by decide) (by kernel_rfl) (by kernel_rfl) (by kernel_rfl)⟩)
    · rcases iteSome h with ⟨hc8, h⟩ | ⟨hc8, h⟩
      · refine sDraw (nf := []) (W := [(0, 3, .pointer (some ⟨b2, 1, none⟩)), (1, 4, .int .i64 p0.Den), (2, 5, .bool (decide (p0.Den < 1))), (3, 6, .bool (decide (p0.Den < 1))), (4, 7, .pointer (some ⟨b2, 1, none⟩)), (5, 8, .int .i64 p0.Den), (6, 9, .bool (decide (1000000000 < p0.Den))), (7, 10, .bool (decide (1000000000 < p0.Den))), (8, 11, .bool (decide (1000000000 < p0.Den))), (9, 12, undef), (10, 13, undef), (11, 14, undef), (12, 15, undef), (13, 16, .bool true), (14, 17, .bool true), (15, 18, undef), (16, 19, undef), (17, 20, undef), (18, 21, undef), (19, 22, undef), (20, 23, undef), (21, 24, undef), (22, 25, undef), (23, 26, .bool true)]) (by kernel_rfl) S ?_
        refine node_by (A := anc_yarn_Check_0) (nf := []) (Y := []) (W := [(0, 3, .pointer (some ⟨b2, 1, none⟩)), (1, 4, .int .i64 p0.Den), (2, 5, .bool (decide (p0.Den < 1))), (3, 6, .bool (decide (p0.Den < 1))), (4, 7, .pointer (some ⟨b2, 1, none⟩)), (5, 8, .int .i64 p0.Den), (6, 9, .bool (decide (1000000000 < p0.Den))), (7, 10, .bool (decide (1000000000 < p0.Den))), (8, 11, .bool (decide (1000000000 < p0.Den))), (9, 12, undef), (10, 13, undef), (11, 14, undef), (12, 15, undef), (13, 16, .bool true), (14, 17, .bool true), (15, 18, undef), (16, 19, undef), (17, 20, undef), (18, 21, undef), (19, 22, undef), (20, 23, undef), (21, 24, undef), (22, 25, undef), (23, 26, .bool true)]) 24 (by kernel_rfl) (by kernel_rfl) (by kernel_rfl) (by kernel_rfl) (by kernel_rfl) [0, 1, 2, 3, 4, 5, 6, 7, 8, 9, 10, 11, 12, 13, 14, 15, 16, 17, 18, 19, 20, 21, 22, 23] (by kernel_rfl) (by decide) (by decide) (aF 0 23 (by decide) ?_ (aF 1 22 (by decide) ?_ (aF 2 21 (by decide) ?_ (aF 3 20 (by decide) ?_ (aF 4 19 (by decide) ?_ (aF 5 18 (by decide) ?_ (aF 6 17 (by decide) ?_ (aF 7 16 (by decide) ?_ (aF 8 15 (by decide) ?_ (aF 9 14 (by decide) ?_ (aF 10 13 (by decide) ?_ (aF 11 12 (by decide) ?_ (aF 12 11 (by decide) ?_ (aF 13 10 (by decide) ?_ (aF 14 9 (by decide) ?_ (aF 15 8 (by decide) ?_ (aF 16 7 (by decide) ?_ (aF 17 6 (by decide) ?_ (aF 18 5 (by decide) ?_ (aF 19 4 (by decide) ?_ (aF 20 3 (by decide) ?_ (aF 21 2 (by decide) ?_ (aF 22 1 (by decide) ?_ (aF 23 0 (by decide) ?_ (trivial))))))))))))))))))))))))) [(26, .bool true)] (fin_of [some 23] rfl (by kernel_rfl) (by kernel_rfl)) (fun _ a w S => ?_)
        · refine fI 3 (.pointer (some ⟨b2, 1, none⟩)) [(1, .pointer (some ⟨b2, 0, none⟩))] 0 [none] rfl rfl (by kernel_rfl) rfl (by kernel_rfl) (by kernel_rfl) fun G a w S => ?_
          refine sField (b := b2) (off := 0) 1 1 S (wN rfl) rfl (by kernel_rfl) (by kernel_rfl) rfl rfl (by decide) (fun a S => ?_)
          exact leafL ⟨rfl, S⟩
        · refine fI 4 (.int .i64 p0.Den) [(3, .pointer (some ⟨b2, 1, none⟩))] 1 [some 0] rfl rfl (by kernel_rfl) rfl (by kernel_rfl) (by kernel_rfl) fun G a w S => ?_
          refine sLoad1 (p := b2) (off := 1) (T := 23) (vs := [.int .i64 p0.Num, .int .i64 p0.Den]) 0 (.int .i64 p0.Den) S (wN rfl) rfl (by kernel_rfl) (by kernel_rfl) (by kernel_rfl) rfl rfl (by decide) (fun a S => ?_)
          exact leafL ⟨rfl, S⟩
        · refine fI 5 (.bool (decide (p0.Den < 1))) [(4, .int .i64 p0.Den)] 2 [some 1] rfl rfl (by kernel_rfl) rfl (by kernel_rfl) (by kernel_rfl) fun G a w S => ?_
          refine sBin (.bool (decide (p0.Den < 1))) S (wN rfl) rfl (by kernel_rfl) (by kernel_rfl) (bLt _ _ _ _ .i64 p0.Den 1) rfl (by decide) (fun a S => ?_)
          exact leafL ⟨rfl, S⟩
        · refine fI 6 (.bool (decide (p0.Den < 1))) [(5, .bool (decide (p0.Den < 1)))] 3 [some 2] rfl rfl (by kernel_rfl) rfl (by kernel_rfl) (by kernel_rfl) fun G a w S => ?_
          refine sMove (.bool (decide (p0.Den < 1))) S (wN rfl) (.inl rfl) (by kernel_rfl) rfl (by decide) (fun a S => ?_)
          exact leafL ⟨rfl, S⟩
        · refine fI 7 (.pointer (some ⟨b2, 1, none⟩)) [(1, .pointer (some ⟨b2, 0, none⟩)), (6, .bool (decide (p0.Den < 1)))] 4 [none, some 3] rfl rfl (by kernel_rfl) rfl (by kernel_rfl) (by kernel_rfl) fun G a w S => ?_
          refine sField (b := b2) (off := 0) 1 1 S (wG (c := decide (p0.Den < 1)) 3 false 6 rfl rfl (by kernel_rfl) hc7) rfl (by kernel_rfl) (by kernel_rfl) rfl rfl (by decide) (fun a S => ?_)
          exact leafL ⟨rfl, S⟩
        · refine fI 8 (.int .i64 p0.Den) [(7, .pointer (some ⟨b2, 1, none⟩)), (6, .bool (decide (p0.Den < 1)))] 5 [some 4, some 3] rfl rfl (by kernel_rfl) rfl (by kernel_rfl) (by kernel_rfl) fun G a w S => ?_
          refine sLoad1 (p := b2) (off := 1) (T := 23) (vs := [.int .i64 p0.Num, .int .i64 p0.Den]) 0 (.int .i64 p0.Den) S (wG (c := decide (p0.Den < 1)) 3 false 6 rfl rfl (by kernel_rfl) hc7) rfl (by kernel_rfl) (by kernel_rfl) (by kernel_rfl) rfl rfl (by decide) (fun a S => ?_)
          exact leafL ⟨rfl, S⟩
        · refine fI 9 (.bool (decide (1000000000 < p0.Den))) [(8, .int .i64 p0.Den), (6, .bool (decide (p0.Den < 1)))] 6 [some 5, some 3] rfl rfl (by kernel_rfl) rfl (by kernel_rfl) (by kernel_rfl) fun G a w S => ?_
          refine sBin (.bool (decide (1000000000 < p0.Den))) S (wG (c := decide (p0.Den < 1)) 3 false 6 rfl rfl (by kernel_rfl) hc7) rfl (by kernel_rfl) (by kernel_rfl) (bGt _ _ _ _ .i64 p0.Den 1000000000) rfl (by decide) (fun a S => ?_)
          exact leafL ⟨rfl, S⟩
        · refine fI 10 (.bool (decide (1000000000 < p0.Den))) [(6, .bool (decide (p0.Den < 1))), (9, .bool (decide (1000000000 < p0.Den)))] 7 [some 3, some 6] rfl rfl (by kernel_rfl) rfl (by kernel_rfl) (by kernel_rfl) fun G a w S => ?_
          refine sPickF (b := decide (p0.Den < 1)) (.bool (decide (1000000000 < p0.Den))) S (wN rfl) rfl (by kernel_rfl) hc7 (by kernel_rfl) rfl (by decide) (fun a S => ?_)
          exact leafL ⟨rfl, S⟩
        · refine fI 11 (.bool (decide (1000000000 < p0.Den))) [(10, .bool (decide (1000000000 < p0.Den)))] 8 [some 7] rfl rfl (by kernel_rfl) rfl (by kernel_rfl) (by kernel_rfl) fun G a w S => ?_
          refine sMove (.bool (decide (1000000000 < p0.Den))) S (wN rfl) (.inl rfl) (by kernel_rfl) rfl (by decide) (fun a S => ?_)
          exact leafL ⟨rfl, S⟩
        · refine fI 12 undef [(1, .pointer (some ⟨b2, 0, none⟩)), (11, .bool (decide (1000000000 < p0.Den)))] 9 [none, some 8] rfl rfl (by kernel_rfl) rfl (by kernel_rfl) (by kernel_rfl) fun G a w S => ?_
          refine sSkip (c := decide (1000000000 < p0.Den)) 8 false 11 12 S rfl rfl (by kernel_rfl) hc8 rfl (by decide) (fun a S => ?_)
          exact leafL ⟨rfl, S⟩
        · refine fI 13 undef [(12, undef), (11, .bool (decide (1000000000 < p0.Den)))] 10 [some 9, some 8] rfl rfl (by kernel_rfl) rfl (by kernel_rfl) (by kernel_rfl) fun G a w S => ?_
          refine sSkip (c := decide (1000000000 < p0.Den)) 8 false 11 13 S rfl rfl (by kernel_rfl) hc8 rfl (by decide) (fun a S => ?_)
          exact leafL ⟨rfl, S⟩
        · refine fI 14 undef [(13, undef), (11, .bool (decide (1000000000 < p0.Den)))] 11 [some 10, some 8] rfl rfl (by kernel_rfl) rfl (by kernel_rfl) (by kernel_rfl) fun G a w S => ?_
          refine sSkip (c := decide (1000000000 < p0.Den)) 8 false 11 14 S rfl rfl (by kernel_rfl) hc8 rfl (by decide) (fun a S => ?_)
          exact leafL ⟨rfl, S⟩
        · refine fI 15 undef [(14, undef), (11, .bool (decide (1000000000 < p0.Den)))] 12 [some 11, some 8] rfl rfl (by kernel_rfl) rfl (by kernel_rfl) (by kernel_rfl) fun G a w S => ?_
          refine sSkip (c := decide (1000000000 < p0.Den)) 8 false 11 15 S rfl rfl (by kernel_rfl) hc8 rfl (by decide) (fun a S => ?_)
          exact leafL ⟨rfl, S⟩
        · refine fI 16 (.bool true) [(11, .bool (decide (1000000000 < p0.Den))), (15, undef)] 13 [some 8, some 12] rfl rfl (by kernel_rfl) rfl (by kernel_rfl) (by kernel_rfl) fun G a w S => ?_
          refine sPickT (b := decide (1000000000 < p0.Den)) (.bool true) S (wN rfl) rfl (by kernel_rfl) hc8 (by kernel_rfl) rfl (by decide) (fun a S => ?_)
          exact leafL ⟨rfl, S⟩
        · refine fI 17 (.bool true) [(16, .bool true)] 14 [some 13] rfl rfl (by kernel_rfl) rfl (by kernel_rfl) (by kernel_rfl) fun G a w S => ?_
          refine sMove (.bool true) S (wN rfl) (.inl rfl) (by kernel_rfl) rfl (by decide) (fun a S => ?_)
          exact leafL ⟨rfl, S⟩
        · refine fI 18 undef [(1, .pointer (some ⟨b2, 0, none⟩)), (17, .bool true)] 15 [none, some 14] rfl rfl (by kernel_rfl) rfl (by kernel_rfl) (by kernel_rfl) fun G a w S => ?_
          refine sSkip (c := true) 14 false 17 18 S rfl rfl (by kernel_rfl) rfl rfl (by decide) (fun a S => ?_)
          exact leafL ⟨rfl, S⟩
        · refine fI 19 undef [(18, undef), (17, .bool true)] 16 [some 15, some 14] rfl rfl (by kernel_rfl) rfl (by kernel_rfl) (by kernel_rfl) fun G a w S => ?_
          refine sSkip (c := true) 14 false 17 19 S rfl rfl (by kernel_rfl) rfl rfl (by decide) (fun a S => ?_)
          exact leafL ⟨rfl, S⟩
        · refine fI 20 undef [(19, undef), (17, .bool true)] 17 [some 16, some 14] rfl rfl (by kernel_rfl) rfl (by kernel_rfl) (by kernel_rfl) fun G a w S => ?_
          refine sSkip (c := true) 14 false 17 20 S rfl rfl (by kernel_rfl) rfl rfl (by decide) (fun a S => ?_)
          exact leafL ⟨rfl, S⟩
        · refine fI 21 undef [(1, .pointer (some ⟨b2, 0, none⟩)), (17, .bool true)] 18 [none, some 14] rfl rfl (by kernel_rfl) rfl (by kernel_rfl) (by kernel_rfl) fun G a w S => ?_
          refine sSkip (c := true) 14 false 17 21 S rfl rfl (by kernel_rfl) rfl rfl (by decide) (fun a S => ?_)
          exact leafL ⟨rfl, S⟩
        · refine fI 22 undef [(21, undef), (17, .bool true)] 19 [some 18, some 14] rfl rfl (by kernel_rfl) rfl (by kernel_rfl) (by kernel_rfl) fun G a w S => ?_
          refine sSkip (c := true) 14 false 17 22 S rfl rfl (by kernel_rfl) rfl rfl (by decide) (fun a S => ?_)
          exact leafL ⟨rfl, S⟩
        · refine fI 23 undef [(22, undef), (17, .bool true)] 20 [some 19, some 14] rfl rfl (by kernel_rfl) rfl (by kernel_rfl) (by kernel_rfl) fun G a w S => ?_
          refine sSkip (c := true) 14 false 17 23 S rfl rfl (by kernel_rfl) rfl rfl (by decide) (fun a S => ?_)
          exact leafL ⟨rfl, S⟩
        · refine fI 24 undef [(20, undef), (23, undef), (17, .bool true)] 21 [some 17, some 20, some 14] rfl rfl (by kernel_rfl) rfl (by kernel_rfl) (by kernel_rfl) fun G a w S => ?_
          refine sSkip (c := true) 14 false 17 24 S rfl rfl (by kernel_rfl) rfl rfl (by decide) (fun a S => ?_)
          exact leafL ⟨rfl, S⟩
        · refine fI 25 undef [(24, undef), (17, .bool true)] 22 [some 21, some 14] rfl rfl (by kernel_rfl) rfl (by kernel_rfl) (by kernel_rfl) fun G a w S => ?_
          refine sSkip (c := true) 14 false 17 25 S rfl rfl (by kernel_rfl) rfl rfl (by decide) (fun a S => ?_)
          exact leafL ⟨rfl, S⟩
        · refine fI 26 (.bool true) [(17, .bool true), (25, undef)] 23 [some 14, some 22] rfl rfl (by kernel_rfl) rfl (by kernel_rfl) (by kernel_rfl) fun G a w S => ?_
          refine sPickT (b := true) (.bool true) S (wN rfl) rfl (by kernel_rfl) rfl (by kernel_rfl) rfl (by decide) (fun a S => ?_)
          exact leafL ⟨rfl, S⟩
        · exact leafT (⟨true, Option.some.inj h, S.fix [] [] (by decide) (by kernel_rfl) (by kernel_rfl) (by kernel_rfl)⟩)
      · obtain ⟨r9, hx10, h⟩ := bindSome h
        rcases iteSome h with ⟨hc11, h⟩ | ⟨hc11, h⟩
        · refine sDraw (nf := []) (W := [(0, 3, .pointer (some ⟨b2, 1, none⟩)), (1, 4, .int .i64 p0.Den), (2, 5, .bool (decide (p0.Den < 1))), (3, 6, .bool (decide (p0.Den < 1))), (4, 7, .pointer (some ⟨b2, 1, none⟩)), (5, 8, .int .i64 p0.Den), (6, 9, .bool (decide (1000000000 < p0.Den))), (7, 10, .bool (decide (1000000000 < p0.Den))), (8, 11, .bool (decide (1000000000 < p0.Den))), (9, 12, .pointer (some ⟨b2, 0, none⟩)), (10, 13, .int .i64 p0.Num), (11, 14, .int .u64 r9), (12, 15, .bool (decide (1000000000 < r9))), (13, 16, .bool (decide (1000000000 < r9))), (14, 17, .bool (decide (1000000000 < r9))), (15, 18, undef), (16, 19, undef), (17, 20, undef), (18, 21, undef), (19, 22, undef), (20, 23, undef), (21, 24, undef), (22, 25, undef), (23, 26, .bool true)]) (by kernel_rfl) S ?_
          refine node_by (A := anc_yarn_Check_0) (nf := []) (Y := []) (W := [(0, 3, .pointer (some ⟨b2, 1, none⟩)), (1, 4, .int .i64 p0.Den), (2, 5, .bool (decide (p0.Den < 1))), (3, 6, .bool (decide (p0.Den < 1))), (4, 7, .pointer (some ⟨b2, 1, none⟩)), (5, 8, .int .i64 p0.Den), (6, 9, .bool (decide (1000000000 < p0.Den))), (7, 10, .bool (decide (1000000000 < p0.Den))), (8, 11, .bool (decide (1000000000 < p0.Den))), (9, 12, .pointer (some ⟨b2, 0, none⟩)), (10, 13, .int .i64 p0.Num), (11, 14, .int .u64 r9), (12, 15, .bool (decide (1000000000 < r9))), (13, 16, .bool (decide (1000000000 < r9))), (14, 17, .bool (decide (1000000000 < r9))), (15, 18, undef), (16, 19, undef), (17, 20, undef), (18, 21, undef), (19, 22, undef), (20, 23, undef), (21, 24, undef), (22, 25, undef), (23, 26, .bool true)]) 24 (by kernel_rfl) (by kernel_rfl) (by kernel_rfl) (by kernel_rfl) (by kernel_rfl) [0, 1, 2, 3, 4, 5, 6, 7, 8, 9, 10, 11, 12, 13, 14, 15, 16, 17, 18, 19, 20, 21, 22, 23] (by kernel_rfl) (by decide) (by decide) (aF 0 23 (by decide) ?_ (aF 1 22 (by decide) ?_ (aF 2 21 (by decide) ?_ (aF 3 20 (by decide) ?_ (aF 4 19 (by decide) ?_ (aF 5 18 (by decide) ?_ (aF 6 17 (by decide) ?_ (aF 7 16 (by decide) ?_ (aF 8 15 (by decide) ?_ (aF 9 14 (by decide) ?_ (aF 10 13 (by decide) ?_ (aF 11 12 (by decide) ?_ (aF 12 11 (by decide) ?_ (aF 13 10 (by decide) ?_ (aF 14 9 (by decide) ?_ (aF 15 8 (by decide) ?_ (aF 16 7 (by decide) ?_ (aF 17 6 (by decide) ?_ (aF 18 5 (by decide) ?_ (aF 19 4 (by decide) ?_ (aF 20 3 (by decide) ?_ (aF 21 2 (by decide) ?_ (aF 22 1 (by decide) ?_ (aF 23 0 (by decide) ?_ (trivial))))))))))))))))))))))))) [(26, .bool true)] (fin_of [some 23] rfl (by kernel_rfl) (by kernel_rfl)) (fun _ a w S => ?_)
          · refine fI 3 (.pointer (some ⟨b2, 1, none⟩)) [(1, .pointer (some ⟨b2, 0, none⟩))] 0 [none] rfl rfl (by kernel_rfl) rfl (by kernel_rfl) (by kernel_rfl) fun G a w S => ?_
            refine sField (b := b2) (off := 0) 1 1 S (wN rfl) rfl (by kernel_rfl) (by kernel_rfl) rfl rfl (by decide) (fun a S => ?_)
            exact leafL ⟨rfl, S⟩
          · refine fI 4 (.int .i64 p0.Den) [(3, .pointer (some ⟨b2, 1, none⟩))] 1 [some 0] rfl rfl (by kernel_rfl) rfl (by kernel_rfl) (by kernel_rfl) fun G a w S => ?_
            refine sLoad1 (p := b2) (off := 1) (T := 23) (vs := [.int .i64 p0.Num, .int .i64 p0.Den]) 0 (.int .i64 p0.Den) S (wN rfl) rfl (by kernel_rfl) (by kernel_rfl) (by kernel_rfl) rfl rfl (by decide) (fun a S => ?_)
            exact leafL ⟨rfl, S⟩
          · refine fI 5 (.bool (decide (p0.Den < 1))) [(4, .int .i64 p0.Den)] 2 [some 1] rfl rfl (by kernel_rfl) rfl (by kernel_rfl) (by kernel_rfl) fun G a w S => ?_
            refine sBin (.bool (decide (p0.Den < 1))) S (wN rfl) rfl (by kernel_rfl) (by kernel_rfl) (bLt _ _ _ _ .i64 p0.Den 1) rfl (by decide) (fun a S => ?_)
            exact leafL ⟨rfl, S⟩
          · refine fI 6 (.bool (decide (p0.Den < 1))) [(5, .bool (decide (p0.Den < 1)))] 3 [some 2] rfl rfl (by kernel_rfl) rfl (by kernel_rfl) (by kernel_rfl) fun G a w S => ?_
            refine sMove (.bool (decide (p0.Den < 1))) S (wN rfl) (.inl rfl) (by kernel_rfl) rfl (by decide) (fun a S => ?_)
            exact leafL ⟨rfl, S⟩
          · refine fI 7 (.pointer (some ⟨b2, 1, none⟩)) [(1, .pointer (some ⟨b2, 0, none⟩)), (6, .bool (decide (p0.Den < 1)))] 4 [none, some 3] rfl rfl (by kernel_rfl) rfl (by kernel_rfl) (by kernel_rfl) fun G a w S => ?_
            refine sField (b := b2) (off := 0) 1 1 S (wG (c := decide (p0.Den < 1)) 3 false 6 rfl rfl (by kernel_rfl) hc7) rfl (by kernel_rfl) (by kernel_rfl) rfl rfl (by decide) (fun a S => ?_)
            exact leafL ⟨rfl, S⟩
          · refine fI 8 (.int .i64 p0.Den) [(7, .pointer (some ⟨b2, 1, none⟩)), (6, .bool (decide (p0.Den < 1)))] 5 [some 4, some 3] rfl rfl (by kernel_rfl) rfl (by kernel_rfl) (by kernel_rfl) fun G a w S => ?_
            refine sLoad1 (p := b2) (off := 1) (T := 23) (vs := [.int .i64 p0.Num, .int .i64 p0.Den]) 0 (.int .i64 p0.Den) S (wG (c := decide (p0.Den < 1)) 3 false 6 rfl rfl (by kernel_rfl) hc7) rfl (by kernel_rfl) (by kernel_rfl) (by kernel_rfl) rfl rfl (by decide) (fun a S => ?_)
            exact leafL ⟨rfl, S⟩
          · refine fI 9 (.bool (decide (1000000000 < p0.Den))) [(8, .int .i64 p0.Den), (6, .bool (decide (p0.Den < 1)))] 6 [some 5, some 3] rfl rfl (by kernel_rfl) rfl (by kernel_rfl) (by kernel_rfl) fun G a w S => ?_
            refine sBin (.bool (decide (1000000000 < p0.Den))) S (wG (c := decide (p0.Den < 1)) 3 false 6 rfl rfl (by kernel_rfl) hc7) rfl (by kernel_rfl) (by kernel_rfl) (bGt _ _ _ _ .i64 p0.Den 1000000000) rfl (by decide) (fun a S => ?_)
            exact leafL ⟨rfl, S⟩
          · refine fI 10 (.bool (decide (1000000000 < p0.Den))) [(6, .bool (decide (p0.Den < 1))), (9, .bool (decide (1000000000 < p0.Den)))] 7 [some 3, some 6] rfl rfl (by kernel_rfl) rfl (by kernel_rfl) (by kernel_rfl) fun G a w S => ?_
            refine sPickF (b := decide (p0.Den < 1)) (.bool (decide (1000000000 < p0.Den))) S (wN rfl) rfl (by kernel_rfl) hc7 (by kernel_rfl) rfl (by decide) (fun a S => ?_)
            exact leafL ⟨rfl, S⟩
          · refine fI 11 (.bool (decide (1000000000 < p0.Den))) [(10, .bool (decide (1000000000 < p0.Den)))] 8 [some 7] rfl rfl (by kernel_rfl) rfl (by kernel_rfl) (by kernel_rfl) fun G a w S => ?_
            refine sMove (.bool (decide (1000000000 < p0.Den))) S (wN rfl) (.inl rfl) (by kernel_rfl) rfl (by decide) (fun a S => ?_)
            exact leafL ⟨rfl, S⟩
          · refine fI 12 (.pointer (some ⟨b2, 0, none⟩)) [(1, .pointer (some ⟨b2, 0, none⟩)), (11, .bool (decide (1000000000 < p0.Den)))] 9 [none, some 8] rfl rfl (by kernel_rfl) rfl (by kernel_rfl) (by kernel_rfl) fun G a w S => ?_
            refine sField (b := b2) (off := 0) 0 0 S (wG (c := decide (1000000000 < p0.Den)) 8 false 11 rfl rfl (by kernel_rfl) hc8) rfl (by kernel_rfl) (by kernel_rfl) rfl rfl (by decide) (fun a S => ?_)
            exact leafL ⟨rfl, S⟩
          · refine fI 13 (.int .i64 p0.Num) [(12, .pointer (some ⟨b2, 0, none⟩)), (11, .bool (decide (1000000000 < p0.Den)))] 10 [some 9, some 8] rfl rfl (by kernel_rfl) rfl (by kernel_rfl) (by kernel_rfl) fun G a w S => ?_
            refine sLoad1 (p := b2) (off := 0) (T := 23) (vs := [.int .i64 p0.Num, .int .i64 p0.Den]) 0 (.int .i64 p0.Num) S (wG (c := decide (1000000000 < p0.Den)) 8 false 11 rfl rfl (by kernel_rfl) hc8) rfl (by kernel_rfl) (by kernel_rfl) (by kernel_rfl) rfl rfl (by decide) (fun a S => ?_)
            exact leafL ⟨rfl, S⟩
          · refine fI 14 (.int .u64 r9) [(13, .int .i64 p0.Num), (11, .bool (decide (1000000000 < p0.Den)))] 11 [some 10, some 8] rfl rfl (by kernel_rfl) rfl (by kernel_rfl) (by kernel_rfl) fun G a w S => ?_
            have S1 := S.mem
            refine sCallQ (X := Unit) (f := 37) (vs := [.int .i64 p0.Num]) (val := fun _ => .int .u64 r9) S (wG (c := decide (1000000000 < p0.Den)) 8 false 11 rfl rfl (by kernel_rfl) hc8) rfl callee37 (by kernel_rfl) (S1.quiet [] (by kernel_rfl)) (fun E1 w1 S1 => c_yarn_size E1 w1 p0.Num r9 hx10 S1) rfl (by decide) (fun _ a w S => ?_)
            exact leafL ⟨rfl, S⟩
          · refine fI 15 (.bool (decide (1000000000 < r9))) [(14, .int .u64 r9), (11, .bool (decide (1000000000 < p0.Den)))] 12 [some 11, some 8] rfl rfl (by kernel_rfl) rfl (by kernel_rfl) (by kernel_rfl) fun G a w S => ?_
            refine sBin (.bool (decide (1000000000 < r9))) S (wG (c := decide (1000000000 < p0.Den)) 8 false 11 rfl rfl (by kernel_rfl) hc8) rfl (by kernel_rfl) (by kernel_rfl) (bGt _ _ _ _ .u64 r9 1000000000) rfl (by decide) (fun a S => ?_)
            exact leafL ⟨rfl, S⟩
          · refine fI 16 (.bool (decide (1000000000 < r9))) [(11, .bool (decide (1000000000 < p0.Den))), (15, .bool (decide (1000000000 < r9)))] 13 [some 8, some 12] rfl rfl (by kernel_rfl) rfl (by kernel_rfl) (by kernel_rfl) fun G a w S => ?_
            refine sPickF (b := decide (1000000000 < p0.Den)) (.bool (decide (1000000000 < r9))) S (wN rfl) rfl (by kernel_rfl) hc8 (by kernel_rfl) rfl (by decide) (fun a S => ?_)
            exact leafL ⟨rfl, S⟩
          · refine fI 17 (.bool (decide (1000000000 < r9))) [(16, .bool (decide (1000000000 < r9)))] 14 [some 13] rfl rfl (by kernel_rfl) rfl (by kernel_rfl) (by kernel_rfl) fun G a w S => ?_
            refine sMove (.bool (decide (1000000000 < r9))) S (wN rfl) (.inl rfl) (by kernel_rfl) rfl (by decide) (fun a S => ?_)
            exact leafL ⟨rfl, S⟩
          · refine fI 18 undef [(1, .pointer (some ⟨b2, 0, none⟩)), (17, .bool (decide (1000000000 < r9)))] 15 [none, some 14] rfl rfl (by kernel_rfl) rfl (by kernel_rfl) (by kernel_rfl) fun G a w S => ?_
            refine sSkip (c := decide (1000000000 < r9)) 14 false 17 18 S rfl rfl (by kernel_rfl) hc11 rfl (by decide) (fun a S => ?_)
            exact leafL ⟨rfl, S⟩
          · refine fI 19 undef [(18, undef), (17, .bool (decide (1000000000 < r9)))] 16 [some 15, some 14] rfl rfl (by kernel_rfl) rfl (by kernel_rfl) (by kernel_rfl) fun G a w S => ?_
            refine sSkip (c := decide (1000000000 < r9)) 14 false 17 19 S rfl rfl (by kernel_rfl) hc11 rfl (by decide) (fun a S => ?_)
            exact leafL ⟨rfl, S⟩
          · refine fI 20 undef [(19, undef), (17, .bool (decide (1000000000 < r9)))] 17 [some 16, some 14] rfl rfl (by kernel_rfl) rfl (by kernel_rfl) (by kernel_rfl) fun G a w S => ?_
            refine sSkip (c := decide (1000000000 < r9)) 14 false 17 20 S rfl rfl (by kernel_rfl) hc11 rfl (by decide) (fun a S => ?_)
            exact leafL ⟨rfl, S⟩
          · refine fI 21 undef [(1, .pointer (some ⟨b2, 0, none⟩)), (17, .bool (decide (1000000000 < r9)))] 18 [none, some 14] rfl rfl (by kernel_rfl) rfl (by kernel_rfl) (by kernel_rfl) fun G a w S => ?_
            refine sSkip (c := decide (1000000000 < r9)) 14 false 17 21 S rfl rfl (by kernel_rfl) hc11 rfl (by decide) (fun a S => ?_)
            exact leafL ⟨rfl, S⟩
          · refine fI 22 undef [(21, undef), (17, .bool (decide (1000000000 < r9)))] 19 [some 18, some 14] rfl rfl (by kernel_rfl) rfl (by kernel_rfl) (by kernel_rfl) fun G a w S => ?_
            refine sSkip (c := decide (1000000000 < r9)) 14 false 17 22 S rfl rfl (by kernel_rfl) hc11 rfl (by decide) (fun a S => ?_)
            exact leafL ⟨rfl, S⟩
          · refine fI 23 undef [(22, undef), (17, .bool (decide (1000000000 < r9)))] 20 [some 19, some 14] rfl rfl (by kernel_rfl) rfl (by kernel_rfl) (by kernel_rfl) fun G a w S => ?_
            refine sSkip (c := decide (1000000000 < r9)) 14 false 17 23 S rfl rfl (by kernel_rfl) hc11 rfl (by decide) (fun a S => ?_)
            exact leafL ⟨rfl, S⟩
          · refine fI 24 undef [(20, undef), (23, undef), (17, .bool (decide (1000000000 < r9)))] 21 [some 17, some 20, some 14] rfl rfl (by kernel_rfl) rfl (by kernel_rfl) (by kernel_rfl) fun G a w S => ?_
            refine sSkip (c := decide (1000000000 < r9)) 14 false 17 24 S rfl rfl (by kernel_rfl) hc11 rfl (by decide) (fun a S => ?_)
            exact leafL ⟨rfl, S⟩
          · refine fI 25 undef [(24, undef), (17, .bool (decide (1000000000 < r9)))] 22 [some 21, some 14] rfl rfl (by kernel_rfl) rfl (by kernel_rfl) (by kernel_rfl) fun G a w S => ?_
            refine sSkip (c := decide (1000000000 < r9)) 14 false 17 25 S rfl rfl (by kernel_rfl) hc11 rfl (by decide) (fun a S => ?_)
            exact leafL ⟨rfl, S⟩
          · refine fI 26 (.bool true) [(17, .bool (decide (1000000000 < r9))), (25, undef)] 23 [some 14, some 22] rfl rfl (by kernel_rfl) rfl (by kernel_rfl) (by kernel_rfl) fun G a w S => ?_
            refine sPickT (b := decide (1000000000 < r9)) (.bool true) S (wN rfl) rfl (by kernel_rfl) hc11 (by kernel_rfl) rfl (by decide) (fun a S => ?_)
            exact leafL ⟨rfl, S⟩
          · exact leafT (⟨true, Option.some.inj h, S.fix [] [] (by decide) (by kernel_rfl) (by kernel_rfl) (by kernel_rfl)⟩)
        · obtain ⟨r12, hx13, h⟩ := bindSome h
          refine sDraw (nf := []) (W := [(0, 3, .pointer (some ⟨b2, 1, none⟩)), (1, 4, .int .i64 p0.Den), (2, 5, .bool (decide (p0.Den < 1))), (3, 6, .bool (decide (p0.Den < 1))), (4, 7, .pointer (some ⟨b2, 1, none⟩)), (5, 8, .int .i64 p0.Den), (6, 9, .bool (decide (1000000000 < p0.Den))), (7, 10, .bool (decide (1000000000 < p0.Den))), (8, 11, .bool (decide (1000000000 < p0.Den))), (9, 12, .pointer (some ⟨b2, 0, none⟩)), (10, 13, .int .i64 p0.Num), (11, 14, .int .u64 r9), (12, 15, .bool (decide (1000000000 < r9))), (13, 16, .bool (decide (1000000000 < r9))), (14, 17, .bool (decide (1000000000 < r9))), (15, 18, .pointer (some ⟨b2, 0, none⟩)), (16, 19, .int .i64 p0.Num), (17, 20, .int .u64 r9), (18, 21, .pointer (some ⟨b2, 1, none⟩)), (19, 22, .int .i64 p0.Den), (20, 23, .int .u64 (IntKind.u64.wrap p0.Den)), (21, 24, .int .u64 r12), (22, 25, .bool (r12 != 1)), (23, 26, .bool (r12 != 1))]) (by kernel_rfl) S ?_
          refine node_by (A := anc_yarn_Check_0) (nf := []) (Y := []) (W := [(0, 3, .pointer (some ⟨b2, 1, none⟩)), (1, 4, .int .i64 p0.Den), (2, 5, .bool (decide (p0.Den < 1))), (3, 6, .bool (decide (p0.Den < 1))), (4, 7, .pointer (some ⟨b2, 1, none⟩)), (5, 8, .int .i64 p0.Den), (6, 9, .bool (decide (1000000000 < p0.Den))), (7, 10, .bool (decide (1000000000 < p0.Den))), (8, 11, .bool (decide (1000000000 < p0.Den))), (9, 12, .pointer (some ⟨b2, 0, none⟩)), (10, 13, .int .i64 p0.Num), (11, 14, .int .u64 r9), (12, 15, .bool (decide (1000000000 < r9))), (13, 16, .bool (decide (1000000000 < r9))), (14, 17, .bool (decide (1000000000 < r9))), (15, 18, .pointer (some ⟨b2, 0, none⟩)), (16, 19, .int .i64 p0.Num), (17, 20, .int .u64 r9), (18, 21, .pointer (some ⟨b2, 1, none⟩)), (19, 22, .int .i64 p0.Den), (20, 23, .int .u64 (IntKind.u64.wrap p0.Den)), (21, 24, .int .u64 r12), (22, 25, .bool (r12 != 1)), (23, 26, .bool (r12 != 1))]) 24 (by kernel_rfl) (by kernel_rfl) (by kernel_rfl) (by kernel_rfl) (by kernel_rfl) [0, 1, 2, 3, 4, 5, 6, 7, 8, 9, 10, 11, 12, 13, 14, 15, 16, 17, 18, 19, 20, 21, 22, 23] (by kernel_rfl) (by decide) (by decide) (aF 0 23 (by decide) ?_ (aF 1 22 (by decide) ?_ (aF 2 21 (by decide) ?_ (aF 3 20 (by decide) ?_ (aF 4 19 (by decide) ?_ (aF 5 18 (by decide) ?_ (aF 6 17 (by decide) ?_ (aF 7 16 (by decide) ?_ (aF 8 15 (by decide) ?_ (aF 9 14 (by decide) ?_ (aF 10 13 (by decide) ?_ (aF 11 12 (by decide) ?_ (aF 12 11 (by decide) ?_ (aF 13 10 (by decide) ?_ (aF 14 9 (by decide) ?_ (aF 15 8 (by decide) ?_ (aF 16 7 (by decide) ?_ (aF 17 6 (by decide) ?_ (aF 18 5 (by decide) ?_ (aF 19 4 (by decide) ?_ (aF 20 3 (by decide) ?_ (aF 21 2 (by decide) ?_ (aF 22 1 (by decide) ?_ (aF 23 0 (by decide) ?_ (trivial))))))))))))))))))))))))) [(26, .bool (r12 != 1))] (fin_of [some 23] rfl (by kernel_rfl) (by kernel_rfl)) (fun _ a w S => ?_)
          · refine fI 3 (.pointer (some ⟨b2, 1, none⟩)) [(1, .pointer (some ⟨b2, 0, none⟩))] 0 [none] rfl rfl (by kernel_rfl) rfl (by kernel_rfl) (by kernel_rfl) fun G a w S => ?_
            refine sField (b := b2) (off := 0) 1 1 S (wN rfl) rfl (by kernel_rfl) (by kernel_rfl) rfl rfl (by decide) (fun a S => ?_)
            exact leafL ⟨rfl, S⟩
          · refine fI 4 (.int .i64 p0.Den) [(3, .pointer (some ⟨b2, 1, none⟩))] 1 [some 0] rfl rfl (by kernel_rfl) rfl (by kernel_rfl) (by kernel_rfl) fun G a w S => ?_
            refine sLoad1 (p := b2) (off := 1) (T := 23) (vs := [.int .i64 p0.Num, .int .i64 p0.Den]) 0 (.int .i64 p0.Den) S (wN rfl) rfl (by kernel_rfl) (by kernel_rfl) (by kernel_rfl) rfl rfl (by decide) (fun a S => ?_)
            exact leafL ⟨rfl, S⟩
          · refine fI 5 (.bool (decide (p0.Den < 1))) [(4, .int .i64 p0.Den)] 2 [some 1] rfl rfl (by kernel_rfl) rfl (by kernel_rfl) (by kernel_rfl) fun G a w S => ?_
            refine sBin (.bool (decide (p0.Den < 1))) S (wN rfl) rfl (by kernel_rfl) (by kernel_rfl) (bLt _ _ _ _ .i64 p0.Den 1) rfl (by decide) (fun a S => ?_)
            exact leafL ⟨rfl, S⟩
          · refine fI 6 (.bool (decide (p0.Den < 1))) [(5, .bool (decide (p0.Den < 1)))] 3 [some 2] rfl rfl (by kernel_rfl) rfl (by kernel_rfl) (by kernel_rfl) fun G a w S => ?_
            refine sMove (.bool (decide (p0.Den < 1))) S (wN rfl) (.inl rfl) (by kernel_rfl) rfl (by decide) (fun a S => ?_)
            exact leafL ⟨rfl, S⟩
          · refine fI 7 (.pointer (some ⟨b2, 1, none⟩)) [(1, .pointer (some ⟨b2, 0, none⟩)), (6, .bool (decide (p0.Den < 1)))] 4 [none, some 3] rfl rfl (by kernel_rfl) rfl (by kernel_rfl) (by kernel_rfl) fun G a w S => ?_
            refine sField (b := b2) (off := 0) 1 1 S (wG (c := decide (p0.Den < 1)) 3 false 6 rfl rfl (by kernel_rfl) hc7) rfl (by kernel_rfl) (by kernel_rfl) rfl rfl (by decide) (fun a S => ?_)
            exact leafL ⟨rfl, S⟩
          · refine fI 8 (.int .i64 p0.Den) [(7, .pointer (some ⟨b2, 1, none⟩)), (6, .bool (decide (p0.Den < 1)))] 5 [some 4, some 3] rfl rfl (by kernel_rfl) rfl (by kernel_rfl) (by kernel_rfl) fun G a w S => ?_
            refine sLoad1 (p := b2) (off := 1) (T := 23) (vs := [.int .i64 p0.Num, .int .i64 p0.Den]) 0 (.int .i64 p0.Den) S (wG (c := decide (p0.Den < 1)) 3 false 6 rfl rfl (by kernel_rfl) hc7) rfl (by kernel_rfl) (by kernel_rfl) (by kernel_rfl) rfl rfl (by decide) (fun a S => ?_)
            exact leafL ⟨rfl, S⟩
          · refine fI 9 (.bool (decide (1000000000 < p0.Den))) [(8, .int .i64 p0.Den), (6, .bool (decide (p0.Den < 1)))] 6 [some 5, some 3] rfl rfl (by kernel_rfl) rfl (by kernel_rfl) (by kernel_rfl) fun G a w S => ?_
            refine sBin (.bool (decide (1000000000 < p0.Den))) S (wG (c := decide (p0.Den < 1)) 3 false 6 rfl rfl (by kernel_rfl) hc7) rfl (by kernel_rfl) (by kernel_rfl) (bGt _ _ _ _ .i64 p0.Den 1000000000) rfl (by decide) (fun a S => ?_)
            exact leafL ⟨rfl, S⟩
          · refine fI 10 (.bool (decide (1000000000 < p0.Den))) [(6, .bool (decide (p0.Den < 1))), (9, .bool (decide (1000000000 < p0.Den)))] 7 [some 3, some 6] rfl rfl (by kernel_rfl) rfl (by kernel_rfl) (by kernel_rfl) fun G a w S => ?_
            refine sPickF (b := decide (p0.Den < 1)) (.bool (decide (1000000000 < p0.Den))) S (wN rfl) rfl (by kernel_rfl) hc7 (by kernel_rfl) rfl (by decide) (fun a S => ?_)
            exact leafL ⟨rfl, S⟩
          · refine fI 11 (.bool (decide (1000000000 < p0.Den))) [(10, .bool (decide (1000000000 < p0.Den)))] 8 [some 7] rfl rfl (by kernel_rfl) rfl (by kernel_rfl) (by kernel_rfl) fun G a w S => ?_
            refine sMove (.bool (decide (1000000000 < p0.Den))) S (wN rfl) (.inl rfl) (by kernel_rfl) rfl (by decide) (fun a S => ?_)
            exact leafL ⟨rfl, S⟩
          · refine fI 12 (.pointer (some ⟨b2, 0, none⟩)) [(1, .pointer (some ⟨b2, 0, none⟩)), (11, .bool (decide (1000000000 < p0.Den)))] 9 [none, some 8] rfl rfl (by kernel_rfl) rfl (by kernel_rfl) (by kernel_rfl) fun G a w S => ?_
            refine sField (b := b2) (off := 0) 0 0 S (wG (c := decide (1000000000 < p0.Den)) 8 false 11 rfl rfl (by kernel_rfl) hc8) rfl (by kernel_rfl) (by kernel_rfl) rfl rfl (by decide) (fun a S => ?_)
            exact leafL ⟨rfl, S⟩
          · refine fI 13 (.int .i64 p0.Num) [(12, .pointer (some ⟨b2, 0, none⟩)), (11, .bool (decide (1000000000 < p0.Den)))] 10 [some 9, some 8] rfl rfl (by kernel_rfl) rfl (by kernel_rfl) (by kernel_rfl) fun G a w S => ?_
            refine sLoad1 (p := b2) (off := 0) (T := 23) (vs := [.int .i64 p0.Num, .int .i64 p0.Den]) 0 (.int .i64 p0.Num) S (wG (c := decide (1000000000 < p0.Den)) 8 false 11 rfl rfl (by kernel_rfl) hc8) rfl (by kernel_rfl) (by kernel_rfl) (by kernel_rfl) rfl rfl (by decide) (fun a S => ?_)
            exact leafL ⟨rfl, S⟩
          · refine fI 14 (.int .u64 r9) [(13, .int .i64 p0.Num), (11, .bool (decide (1000000000 < p0.Den)))] 11 [some 10, some 8] rfl rfl (by kernel_rfl) rfl (by kernel_rfl) (by kernel_rfl) fun G a w S => ?_
            have S1 := S.mem
            refine sCallQ (X := Unit) (f := 37) (vs := [.int .i64 p0.Num]) (val := fun _ => .int .u64 r9) S (wG (c := decide (1000000000 < p0.Den)) 8 false 11 rfl rfl (by kernel_rfl) hc8) rfl callee37 (by kernel_rfl) (S1.quiet [] (by kernel_rfl)) (fun E1 w1 S1 => c_yarn_size E1 w1 p0.Num r9 hx10 S1) rfl (by decide) (fun _ a w S => ?_)
            exact leafL ⟨rfl, S⟩
          · refine fI 15 (.bool (decide (1000000000 < r9))) [(14, .int .u64 r9), (11, .bool (decide (1000000000 < p0.Den)))] 12 [some 11, some 8] rfl rfl (by kernel_rfl) rfl (by kernel_rfl) (by kernel_rfl) fun G a w S => ?_
            refine sBin (.bool (decide (1000000000 < r9))) S (wG (c := decide (1000000000 < p0.Den)) 8 false 11 rfl rfl (by kernel_rfl) hc8) rfl (by kernel_rfl) (by kernel_rfl) (bGt _ _ _ _ .u64 r9 1000000000) rfl (by decide) (fun a S => ?_)
            exact leafL ⟨rfl, S⟩
          · refine fI 16 (.bool (decide (1000000000 < r9))) [(11, .bool (decide (1000000000 < p0.Den))), (15, .bool (decide (1000000000 < r9)))] 13 [some 8, some 12] rfl rfl (by kernel_rfl) rfl (by kernel_rfl) (by kernel_rfl) fun G a w S => ?_
            refine sPickF (b := decide (1000000000 < p0.Den)) (.bool (decide (1000000000 < r9))) S (wN rfl) rfl (by kernel_rfl) hc8 (by kernel_rfl) rfl (by decide) (fun a S => ?_)
            exact leafL ⟨rfl, S⟩
          · refine fI 17 (.bool (decide (1000000000 < r9))) [(16, .bool (decide (1000000000 < r9)))] 14 [some 13] rfl rfl (by kernel_rfl) rfl (by kernel_rfl) (by kernel_rfl) fun G a w S => ?_
            refine sMove (.bool (decide (1000000000 < r9))) S (wN rfl) (.inl rfl) (by kernel_rfl) rfl (by decide) (fun a S => ?_)
            exact leafL ⟨rfl, S⟩
          · refine fI 18 (.pointer (some ⟨b2, 0, none⟩)) [(1, .pointer (some ⟨b2, 0, none⟩)), (17, .bool (decide (1000000000 < r9)))] 15 [none, some 14] rfl rfl (by kernel_rfl) rfl (by kernel_rfl) (by kernel_rfl) fun G a w S => ?_
            refine sField (b := b2) (off := 0) 0 0 S (wG (c := decide (1000000000 < r9)) 14 false 17 rfl rfl (by kernel_rfl) hc11) rfl (by kernel_rfl) (by kernel_rfl) rfl rfl (by decide) (fun a S => ?_)
            exact leafL ⟨rfl, S⟩
          · refine fI 19 (.int .i64 p0.Num) [(18, .pointer (some ⟨b2, 0, none⟩)), (17, .bool (decide (1000000000 < r9)))] 16 [some 15, some 14] rfl rfl (by kernel_rfl) rfl (by kernel_rfl) (by kernel_rfl) fun G a w S => ?_
            refine sLoad1 (p := b2) (off := 0) (T := 23) (vs := [.int .i64 p0.Num, .int .i64 p0.Den]) 0 (.int .i64 p0.Num) S (wG (c := decide (1000000000 < r9)) 14 false 17 rfl rfl (by kernel_rfl) hc11) rfl (by kernel_rfl) (by kernel_rfl) (by kernel_rfl) rfl rfl (by decide) (fun a S => ?_)
            exact leafL ⟨rfl, S⟩
          · refine fI 20 (.int .u64 r9) [(19, .int .i64 p0.Num), (17, .bool (decide (1000000000 < r9)))] 17 [some 16, some 14] rfl rfl (by kernel_rfl) rfl (by kernel_rfl) (by kernel_rfl) fun G a w S => ?_
            have S1 := S.mem
            refine sCallQ (X := Unit) (f := 37) (vs := [.int .i64 p0.Num]) (val := fun _ => .int .u64 r9) S (wG (c := decide (1000000000 < r9)) 14 false 17 rfl rfl (by kernel_rfl) hc11) rfl callee37 (by kernel_rfl) (S1.quiet [] (by kernel_rfl)) (fun E1 w1 S1 => c_yarn_size E1 w1 p0.Num r9 hx10 S1) rfl (by decide) (fun _ a w S => ?_)
            exact leafL ⟨rfl, S⟩
          · refine fI 21 (.pointer (some ⟨b2, 1, none⟩)) [(1, .pointer (some ⟨b2, 0, none⟩)), (17, .bool (decide (1000000000 < r9)))] 18 [none, some 14] rfl rfl (by kernel_rfl) rfl (by kernel_rfl) (by kernel_rfl) fun G a w S => ?_
            refine sField (b := b2) (off := 0) 1 1 S (wG (c := decide (1000000000 < r9)) 14 false 17 rfl rfl (by kernel_rfl) hc11) rfl (by kernel_rfl) (by kernel_rfl) rfl rfl (by decide) (fun a S => ?_)
            exact leafL ⟨rfl, S⟩
          · refine fI 22 (.int .i64 p0.Den) [(21, .pointer (some ⟨b2, 1, none⟩)), (17, .bool (decide (1000000000 < r9)))] 19 [some 18, some 14] rfl rfl (by kernel_rfl) rfl (by kernel_rfl) (by kernel_rfl) fun G a w S => ?_
            refine sLoad1 (p := b2) (off := 1) (T := 23) (vs := [.int .i64 p0.Num, .int .i64 p0.Den]) 0 (.int .i64 p0.Den) S (wG (c := decide (1000000000 < r9)) 14 false 17 rfl rfl (by kernel_rfl) hc11) rfl (by kernel_rfl) (by kernel_rfl) (by kernel_rfl) rfl rfl (by decide) (fun a S => ?_)
            exact leafL ⟨rfl, S⟩
          · refine fI 23 (.int .u64 (IntKind.u64.wrap p0.Den)) [(22, .int .i64 p0.Den), (17, .bool (decide (1000000000 < r9)))] 20 [some 19, some 14] rfl rfl (by kernel_rfl) rfl (by kernel_rfl) (by kernel_rfl) fun G a w S => ?_
            refine sConv (k := .i64) (k2 := .u64) (b := p0.Den) S (wG (c := decide (1000000000 < r9)) 14 false 17 rfl rfl (by kernel_rfl) hc11) rfl Try.underlying2 Try.underlying60 (by kernel_rfl) rfl (by decide) (fun a S => ?_)
            exact leafL ⟨rfl, S⟩
          · refine fI 24 (.int .u64 r12) [(20, .int .u64 r9), (23, .int .u64 (IntKind.u64.wrap p0.Den)), (17, .bool (decide (1000000000 < r9)))] 21 [some 17, some 20, some 14] rfl rfl (by kernel_rfl) rfl (by kernel_rfl) (by kernel_rfl) fun G a w S => ?_
            have S1 := S.mem
            refine sCallQ (X := Unit) (f := 38) (vs := [.int .u64 r9, .int .u64 (IntKind.u64.wrap p0.Den)]) (val := fun _ => .int .u64 r12) S (wG (c := decide (1000000000 < r9)) 14 false 17 rfl rfl (by kernel_rfl) hc11) rfl callee38 (by kernel_rfl) (S1.quiet [] (by kernel_rfl)) (fun E1 w1 S1 => c_yarn_gcd E1 w1 r9 (IntKind.u64.wrap p0.Den) r12 hx13 S1) rfl (by decide) (fun _ a w S => ?_)
            exact leafL ⟨rfl, S⟩
          · refine fI 25 (.bool (r12 != 1)) [(24, .int .u64 r12), (17, .bool (decide (1000000000 < r9)))] 22 [some 21, some 14] rfl rfl (by kernel_rfl) rfl (by kernel_rfl) (by kernel_rfl) fun G a w S => ?_
            refine sBin (.bool (r12 != 1)) S (wG (c := decide (1000000000 < r9)) 14 false 17 rfl rfl (by kernel_rfl) hc11) rfl (by kernel_rfl) (by kernel_rfl) (bNe _ _ _ _ .u64 r12 1) rfl (by decide) (fun a S => ?_)
            exact leafL ⟨rfl, S⟩
          · refine fI 26 (.bool (r12 != 1)) [(17, .bool (decide (1000000000 < r9))), (25, .bool (r12 != 1))] 23 [some 14, some 22] rfl rfl (by kernel_rfl) rfl (by kernel_rfl) (by kernel_rfl) fun G a w S => ?_
            refine sPickF (b := decide (1000000000 < r9)) (.bool (r12 != 1)) S (wN rfl) rfl (by kernel_rfl) hc11 (by kernel_rfl) rfl (by decide) (fun a S => ?_)
            exact leafL ⟨rfl, S⟩
          · exact leafT (⟨r12 != 1, Option.some.inj h, S.fix [] [] (by decide) (by kernel_rfl) (by kernel_rfl) (by kernel_rfl)⟩)
  · obtain ⟨o4, rfl, S⟩ := hI
    have h := g6
    clear g6
    try dsimp only at h
    rcases iteSome h with ⟨hc14, h⟩ | ⟨hc14, h⟩
    · refine sCondT (b := o4) S (by kernel_rfl) hc14 ?_
      refine sSeq (fun K15 hK15 => ?_)
      refine sRegion ?_
      refine sMove (.int .i64 8) S (wN rfl) (.inr rfl) (by kernel_rfl) rfl (by decide) (fun a S => ?_)
      refine leafL (leafT (hK15 _ _ ?_))
      obtain rfl := Option.some.inj h
      exact wp_ret (rThen (sRet (.int .i64 8) S (rsl1 rfl (rvT (t := 2) (v := .int .i64 8) S (by kernel_rfl))) ⟨(), rfl, S.mem.sel [] [] (by decide) (by kernel_rfl) (by kernel_rfl)⟩))
    · refine sCondF (b := o4) S (by kernel_rfl) hc14 ?_
      refine wp_skip (leafT (hK3 _ _ ?_))
      refine sSeq (fun K16 hK16 => ?_)
      refine sRegion ?_
      refine sMove (.int .i64 0) S (wN rfl) (.inr rfl) (by kernel_rfl) rfl (by decide) (fun a S => ?_)
      refine leafL (leafT (hK16 _ _ ?_))
      obtain rfl := Option.some.inj h
      exact wp_ret (sRet (.int .i64 0) S (rsl1 rfl (rvT (t := 2) (v := .int .i64 0) S (by kernel_rfl))) ⟨(), rfl, S.mem.sel [] [] (by decide) (by kernel_rfl) (by kernel_rfl)⟩)

end Go.Proofs.Ytdfjcpnflmgdoaa
namespace Go.Proofs.Ytdfjcpnflmgdoaa
open Go.RowKit
set_option linter.unusedVariables false

theorem gcd_any {B : Int × Int → Option ((Int × Int) ⊕ Int)} (hB : ∀ a b : Int, B (a, b) = if (b != 0) = true then Option.bind (remI a b) fun z => some (.inl (b, z)) else some (.inr a)) (a b : Int) : ∃ t, whileO B (a, b) = some t ∧ t.natAbs = Nat.gcd a.natAbs b.natAbs := by
  refine whileO_inv (fun s => Nat.gcd s.1.natAbs s.2.natAbs = Nat.gcd a.natAbs b.natAbs) (fun s => s.2.natAbs) _ rfl ?_
  rintro ⟨x, y⟩ hg
  dsimp only at hg
  rw [hB]
  by_cases hy : y = 0
  · subst hy
    refine .inr ⟨x, by simp, ?_⟩
    rw [← hg]; simp
  · have h1 : (y != 0) = true := nT hy
    have h2 : remI x y = some (x.tmod y) := by unfold remI; rw [if_neg hy]
    have h3 : (x.tmod y).natAbs = x.natAbs % y.natAbs := Int.natAbs_tmod x y
    refine .inl ⟨(y, x.tmod y), by rw [if_pos h1, h2]; rfl, ?_, ?_⟩
    · show Nat.gcd y.natAbs (x.tmod y).natAbs = _
      rw [← hg, h3, Nat.gcd_comm x.natAbs, Nat.gcd_rec y.natAbs x.natAbs, Nat.gcd_comm]
    · show (x.tmod y).natAbs < y.natAbs
      rw [h3]
      exact Nat.mod_lt _ (by omega)
theorem common_some (a b : Int) : ∃ t, F_raddleref23_common a b = some t := by
  obtain ⟨t, t1, _⟩ := gcd_any (B := raddleref23_common_l1) (fun a b => rfl) a b
  unfold F_raddleref23_common
  rw [t1]
  simp only [Option.bind_some]
  split
  · exact ⟨_, rfl⟩
  · exact ⟨_, rfl⟩
theorem rcheck_some (r : api_Ratio) : ∃ e, F_raddleref23_Check r = some e := by
  obtain ⟨t, ht⟩ := common_some r.Num r.Den
  unfold F_raddleref23_Check
  rw [ht]
  by_cases e1 : r.Den < 1
  · exact ⟨8, by simp [e1]⟩
  by_cases e2 : 1000000000 < r.Den
  · exact ⟨8, by simp [e1, e2]⟩
  by_cases e3 : r.Num < -1000000000
  · exact ⟨8, by simp [e1, e2, e3]⟩
  by_cases e4 : 1000000000 < r.Num
  · exact ⟨8, by simp [e1, e2, e3, e4]⟩
  by_cases e5 : t = 1
  · exact ⟨0, by simp [e1, e2, e3, e4, e5]⟩
  · exact ⟨8, by simp [e1, e2, e3, e4, e5]⟩
theorem ygcd_some (a b : Int) : ∃ t, F_yarn_gcd a b = some t := by
  obtain ⟨t, t1, _⟩ := gcd_any (B := yarn_gcd_l1) (fun a b => rfl) a b
  unfold F_yarn_gcd
  rw [t1]
  exact ⟨_, rfl⟩
theorem ycheck_some (r : api_Ratio) : ∃ e, F_yarn_Check r = some e := by
  have h1 : ∃ n, F_yarn_size r.Num = some n := by
    unfold F_yarn_size
    split
    · exact ⟨_, rfl⟩
    · exact ⟨_, rfl⟩
  obtain ⟨n, hn⟩ := h1
  obtain ⟨t, ht⟩ := ygcd_some n (IntKind.u64.wrap r.Den)
  unfold F_yarn_Check
  rw [hn]
  by_cases e1 : r.Den < 1
  · exact ⟨8, by simp [e1]⟩
  by_cases e2 : 1000000000 < r.Den
  · exact ⟨8, by simp [e1, e2]⟩
  by_cases e3 : 1000000000 < n
  · exact ⟨8, by simp [e1, e2, e3]⟩
  by_cases e5 : t = 1
  · exact ⟨0, by simp [e1, e2, e3, ht, e5]⟩
  · exact ⟨8, by simp [e1, e2, e3, ht, e5]⟩
theorem ycheck_pos (x y : Nat) (hx : x ≤ 9223372036854775807) (hy : y ≤ 9223372036854775807) : F_yarn_Check ⟨(x : Int), (y : Int)⟩ = some (if 1 ≤ y ∧ y ≤ 1000000000 ∧ x ≤ 1000000000 ∧ Nat.gcd x y = 1 then 0 else 8) := by
  unfold F_yarn_Check
  simp only [size_eq x hx, u64_of (show (0 : Int) ≤ y by omega) (by omega), ygcd_eq, Option.bind_some]
  by_cases e1 : 1 ≤ y
  case neg => simp only [dT (show (y : Int) < 1 by omega), if_true, Option.bind_some, e1, false_and, if_false]
  by_cases e2 : y ≤ 1000000000
  case neg => simp only [dF (show ¬ (y : Int) < 1 by omega), dT (show (1000000000 : Int) < y by omega), Bool.false_eq_true, if_true, if_false, Option.bind_some, e2, false_and, and_false]
  by_cases e3 : x ≤ 1000000000
  case neg => simp only [dF (show ¬ (y : Int) < 1 by omega), dF (show ¬ (1000000000 : Int) < y by omega), dT (show (1000000000 : Int) < x by omega), Bool.false_eq_true, if_true, if_false, Option.bind_some, e3, false_and, and_false]
  by_cases e4 : Nat.gcd x y = 1
  · simp only [dF (show ¬ (y : Int) < 1 by omega), dF (show ¬ (1000000000 : Int) < y by omega), dF (show ¬ (1000000000 : Int) < x by omega), e4, show (((1 : Nat) : Int) != 1) = false from rfl, Bool.false_eq_true, if_true, if_false, Option.bind_some, e1, e2, e3, and_self]
  · simp only [dF (show ¬ (y : Int) < 1 by omega), dF (show ¬ (1000000000 : Int) < y by omega), dF (show ¬ (1000000000 : Int) < x by omega), nT (show ¬ ((Nat.gcd x y : Nat) : Int) = 1 by omega), Bool.false_eq_true, if_true, if_false, Option.bind_some, e4, and_false]
/-- what Make answers: a ratio in lowest terms, or the error of its size -/
theorem mk_cases (X Y : Nat) (hY : 0 < Y) : (∃ a b q : Nat, mk X Y = (⟨(a : Int), (b : Int)⟩, 0) ∧ a * q = X ∧ b * q = Y ∧ 0 < q ∧ 0 < b ∧ a ≤ 1000000000 ∧ b ≤ 1000000000 ∧ Nat.gcd a b = 1) ∨ mk X Y = (⟨0, 0⟩, 16) := by
  unfold mk
  by_cases h : X / Nat.gcd X Y ≤ 1000000000 ∧ Y / Nat.gcd X Y ≤ 1000000000
  · rw [if_pos h]
    have hg : 0 < Nat.gcd X Y := Nat.gcd_pos_of_pos_right X hY
    exact .inl ⟨_, _, Nat.gcd X Y, rfl, Nat.div_mul_cancel (Nat.gcd_dvd_left X Y), Nat.div_mul_cancel (Nat.gcd_dvd_right X Y), hg, (Nat.le_div_iff_mul_le hg).2 (by rw [Nat.one_mul]; exact Nat.gcd_le_right X hY), h.1, h.2, Nat.gcd_div_gcd_div_gcd_of_pos_right hY⟩
  · rw [if_neg h]
    exact .inr rfl
theorem mk_low {x y : Nat} (hx : x ≤ 1000000000) (hy : y ≤ 1000000000) (hg : Nat.gcd x y = 1) : mk x y = (⟨(x : Int), (y : Int)⟩, 0) := by
  unfold mk
  rw [hg, Nat.div_one, Nat.div_one, if_pos ⟨hx, hy⟩]
/-- ratios of whatever sign -/
def okr (r : api_Ratio) : Prop := 1 ≤ r.Den ∧ r.Den ≤ 1000000000 ∧ r.Num.natAbs ≤ 1000000000 ∧ Nat.gcd r.Num.natAbs r.Den.natAbs = 1
instance (r : api_Ratio) : Decidable (okr r) := by unfold okr; exact inferInstance
theorem common_any (a b : Int) (ha : a.natAbs ≤ 9223372036854775807) (hb : b.natAbs ≤ 9223372036854775807) : F_raddleref23_common a b = some ((Nat.gcd a.natAbs b.natAbs : Nat) : Int) := by
  obtain ⟨t, t1, t2⟩ := gcd_any (B := raddleref23_common_l1) (fun a b => rfl) a b
  have hg : Nat.gcd a.natAbs b.natAbs ≤ 9223372036854775807 := by
    by_cases h : b.natAbs = 0
    · rw [h, Nat.gcd_zero_right]; exact ha
    · exact Nat.le_trans (Nat.gcd_le_right _ (Nat.pos_of_ne_zero h)) hb
  unfold F_raddleref23_common
  rw [t1]
  simp only [Option.bind_some]
  rw [← t2] at hg ⊢
  by_cases h : t < 0
  · simp only [dT h, if_true]
    rw [w64_of (by omega) (by omega)]
    congr 1
    omega
  · simp only [dF h, Bool.false_eq_true, if_false]
    congr 1
    omega
theorem size_any (x : Int) (h0 : -9223372036854775808 ≤ x) (h1 : x ≤ 9223372036854775807) : F_yarn_size x = some ((x.natAbs : Nat) : Int) := by
  unfold F_yarn_size
  by_cases h : x < 0
  · simp only [dT h, if_true]
    have : IntKind.u64.wrap (0 - IntKind.u64.wrap x) = ((x.natAbs : Nat) : Int) := by
      have e1 : IntKind.u64.wrap x = x + 18446744073709551616 := by
        unfold IntKind.wrap
        simp [IntKind.bits, IntKind.signed]
        omega
      rw [e1]
      unfold IntKind.wrap
      simp [IntKind.bits, IntKind.signed]
      omega
    rw [this]
  · simp only [dF h, Bool.false_eq_true, if_false]
    rw [u64_of (by omega) (by omega)]
    congr 1
    omega
theorem rcheck_any (r : api_Ratio) (h0 : -9223372036854775808 ≤ r.Num) (h1 : r.Num ≤ 9223372036854775807) (h2 : r.Den ≤ 9223372036854775807) : F_raddleref23_Check r = some (if okr r then 0 else 8) := by
  unfold F_raddleref23_Check
  by_cases e1 : r.Den < 1
  · rw [if_neg (fun h : okr r => by have a1 := h.1; have a2 := h.2.1; have a3 := h.2.2.1; omega)]; simp only [dT e1, if_true, Option.bind_some]
  by_cases e2 : 1000000000 < r.Den
  · rw [if_neg (fun h : okr r => by have a1 := h.1; have a2 := h.2.1; have a3 := h.2.2.1; omega)]; simp only [dF e1, dT e2, Bool.false_eq_true, if_true, if_false, Option.bind_some]
  by_cases e3 : r.Num < -1000000000
  · rw [if_neg (fun h : okr r => by have a1 := h.1; have a2 := h.2.1; have a3 := h.2.2.1; omega)]; simp only [dF e1, dF e2, dT e3, Bool.false_eq_true, if_true, if_false, Option.bind_some]
  by_cases e4 : 1000000000 < r.Num
  · rw [if_neg (fun h : okr r => by have a1 := h.1; have a2 := h.2.1; have a3 := h.2.2.1; omega)]; simp only [dF e1, dF e2, dF e3, dT e4, Bool.false_eq_true, if_true, if_false, Option.bind_some]
  simp only [dF e1, dF e2, dF e3, dF e4, Bool.false_eq_true, if_false, common_any r.Num r.Den (by omega) (by omega), Option.bind_some]
  by_cases e5 : Nat.gcd r.Num.natAbs r.Den.natAbs = 1
  · rw [if_pos (show okr r from ⟨by omega, by omega, by omega, e5⟩), e5]; rfl
  · rw [if_neg (fun h : okr r => e5 h.2.2.2)]
    simp only [nT (show ¬ ((Nat.gcd r.Num.natAbs r.Den.natAbs : Nat) : Int) = 1 by omega), if_true]
theorem ycheck_any (r : api_Ratio) (h0 : -9223372036854775808 ≤ r.Num) (h1 : r.Num ≤ 9223372036854775807) (h2 : r.Den ≤ 9223372036854775807) : F_yarn_Check r = some (if okr r then 0 else 8) := by
  unfold F_yarn_Check
  by_cases e1 : r.Den < 1
  · rw [if_neg (fun h : okr r => by have a1 := h.1; have a2 := h.2.1; have a3 := h.2.2.1; omega)]; simp only [dT e1, if_true, Option.bind_some]
  by_cases e2 : 1000000000 < r.Den
  · rw [if_neg (fun h : okr r => by have a1 := h.1; have a2 := h.2.1; have a3 := h.2.2.1; omega)]; simp only [dF e1, dT e2, Bool.false_eq_true, if_true, if_false, Option.bind_some]
  simp only [dF e1, dF e2, Bool.false_eq_true, if_false, size_any r.Num h0 h1, Option.bind_some]
  by_cases e3 : 1000000000 < ((r.Num.natAbs : Nat) : Int)
  · rw [if_neg (fun h : okr r => by have a1 := h.1; have a2 := h.2.1; have a3 := h.2.2.1; omega)]; simp only [dT e3, if_true, Option.bind_some]
  have e6 : IntKind.u64.wrap r.Den = ((r.Den.natAbs : Nat) : Int) := by rw [u64_of (by omega) (by omega)]; omega
  simp only [dF e3, Bool.false_eq_true, if_false, e6, ygcd_eq, Option.bind_some]
  by_cases e5 : Nat.gcd r.Num.natAbs r.Den.natAbs = 1
  · rw [if_pos (show okr r from ⟨by omega, by omega, by omega, e5⟩), e5]; rfl
  · rw [if_neg (fun h : okr r => e5 h.2.2.2)]
    simp only [nT (show ¬ ((Nat.gcd r.Num.natAbs r.Den.natAbs : Nat) : Int) = 1 by omega), if_true]
/-- Make, whatever the signs -/
def smk (x y : Int) : api_Ratio × Int := if y = 0 then (⟨0, 0⟩, 18) else if (mk x.natAbs y.natAbs).2 = 0 then (⟨if (decide (x < 0) != decide (y < 0)) = true then -(mk x.natAbs y.natAbs).1.Num else (mk x.natAbs y.natAbs).1.Num, (mk x.natAbs y.natAbs).1.Den⟩, 0) else (⟨0, 0⟩, 16)
theorem ymake_any (x y : Int) (hx : x.natAbs ≤ 9223372036854775807) (hy : y.natAbs ≤ 9223372036854775807) : F_yarn_Make x y = some (smk x y) := by
  unfold F_yarn_Make smk
  by_cases h0 : y = 0
  · rw [if_pos h0]; simp only [bT h0, if_true]
  rw [if_neg h0]
  have hb0 : 0 < y.natAbs := by omega
  have hg : 0 < Nat.gcd x.natAbs y.natAbs := Nat.gcd_pos_of_pos_right _ hb0
  simp only [bF h0, Bool.false_eq_true, if_false, size_any x (by omega) (by omega), size_any y (by omega) (by omega), ygcd_eq, Option.bind_some, quoK_nat hg hx, quoK_nat hg hy]
  unfold mk
  have h1 : x.natAbs / Nat.gcd x.natAbs y.natAbs ≤ x.natAbs := Nat.div_le_self _ _
  have h2 : y.natAbs / Nat.gcd x.natAbs y.natAbs ≤ y.natAbs := Nat.div_le_self _ _
  generalize x.natAbs / Nat.gcd x.natAbs y.natAbs = u at *
  generalize y.natAbs / Nat.gcd x.natAbs y.natAbs = v at *
  by_cases e1 : u ≤ 1000000000
  · by_cases e2 : v ≤ 1000000000
    · have hm : (if u ≤ 1000000000 ∧ v ≤ 1000000000 then ((⟨(u : Int), (v : Int)⟩ : api_Ratio), (0 : Int)) else (⟨0, 0⟩, 16)) = (⟨(u : Int), (v : Int)⟩, 0) := if_pos ⟨e1, e2⟩
      rw [hm]
      have k1 : IntKind.i64.wrap (u : Int) = u := i64_of (by omega) (by omega)
      have k2 : IntKind.i64.wrap (v : Int) = v := i64_of (by omega) (by omega)
      have k3 : w64 (0 - (u : Int)) = -(u : Int) := by rw [w64_of (by omega) (by omega)]; omega
      simp only [dF (show ¬ (1000000000 : Int) < u by omega), dF (show ¬ (1000000000 : Int) < v by omega), Bool.false_eq_true, if_false, Option.bind_some, k1, k2, k3, if_true]
      cases (decide (x < 0) != decide (y < 0)) <;> rfl
    · have hm : (if u ≤ 1000000000 ∧ v ≤ 1000000000 then ((⟨(u : Int), (v : Int)⟩ : api_Ratio), (0 : Int)) else (⟨0, 0⟩, 16)) = (⟨0, 0⟩, 16) := if_neg (by omega)
      rw [hm]
      simp only [dF (show ¬ (1000000000 : Int) < u by omega), dT (show (1000000000 : Int) < v by omega), Bool.false_eq_true, if_false, if_true, Option.bind_some, show ¬ (16 : Int) = 0 by omega]
  · have hm : (if u ≤ 1000000000 ∧ v ≤ 1000000000 then ((⟨(u : Int), (v : Int)⟩ : api_Ratio), (0 : Int)) else (⟨0, 0⟩, 16)) = (⟨0, 0⟩, 16) := if_neg (by omega)
    rw [hm]
    simp only [dT (show (1000000000 : Int) < u by omega), if_true, Option.bind_some, show ¬ (16 : Int) = 0 by omega, if_false]
theorem quo_any {x : Int} {g : Nat} (hg : 0 < g) (hx : x.natAbs ≤ 9223372036854775807) : quoI x (g : Int) = some (if x < 0 then -((x.natAbs / g : Nat) : Int) else ((x.natAbs / g : Nat) : Int)) := by
  have h1 : x.natAbs / g ≤ x.natAbs := Nat.div_le_self _ _
  unfold quoI
  rw [if_neg (by omega)]
  have ht : x.tdiv (g : Int) = if x < 0 then -((x.natAbs / g : Nat) : Int) else ((x.natAbs / g : Nat) : Int) := by
    by_cases h : x < 0
    · rw [if_pos h]
      have e : x = -((x.natAbs : Nat) : Int) := by omega
      rw [e, Int.neg_tdiv, Int.natAbs_neg, Int.natAbs_natCast]; rfl
    · rw [if_neg h]
      have e : x = ((x.natAbs : Nat) : Int) := by omega
      rw [e, Int.natAbs_natCast]; rfl
  rw [ht]
  generalize x.natAbs / g = q at *
  congr 1
  by_cases h : x < 0
  · rw [if_pos h]; exact w64_of (by omega) (by omega)
  · rw [if_neg h]; exact w64_of (by omega) (by omega)
theorem rmake_pos (x : Int) (b : Nat) (hx : x.natAbs ≤ 9223372036854775807) (hb : b ≤ 9223372036854775807) (hb0 : 0 < b) :
    (Option.bind (F_raddleref23_common x (b : Int)) fun r => Option.bind (quoI x r) fun z46 => Option.bind (quoI (b : Int) r) fun z48 => Option.bind (F_raddleref23_Check (api_Ratio.mk z46 z48)) fun r54 => if (r54 != 0) = true then some ((api_Ratio.mk 0 0), 16) else some ((api_Ratio.mk z46 z48), 0)) =
      some (if (mk x.natAbs b).2 = 0 then (⟨if x < 0 then -(mk x.natAbs b).1.Num else (mk x.natAbs b).1.Num, (mk x.natAbs b).1.Den⟩, 0) else (⟨0, 0⟩, (16 : Int))) := by
  have hg : 0 < Nat.gcd x.natAbs b := Nat.gcd_pos_of_pos_right _ hb0
  have h3 : Nat.gcd (x.natAbs / Nat.gcd x.natAbs b) (b / Nat.gcd x.natAbs b) = 1 := Nat.gcd_div_gcd_div_gcd_of_pos_right hb0
  have h4 : 1 ≤ b / Nat.gcd x.natAbs b := (Nat.le_div_iff_mul_le hg).2 (by rw [Nat.one_mul]; exact Nat.gcd_le_right _ hb0)
  rw [common_any x (b : Int) hx (by omega), Int.natAbs_natCast, Option.bind_some, quo_any hg hx, quo_nat hg hb]
  simp only [Option.bind_some]
  unfold mk
  have h1 : x.natAbs / Nat.gcd x.natAbs b ≤ x.natAbs := Nat.div_le_self _ _
  have h2 : b / Nat.gcd x.natAbs b ≤ b := Nat.div_le_self _ _
  generalize x.natAbs / Nat.gcd x.natAbs b = u at *
  generalize b / Nat.gcd x.natAbs b = v at *
  have hz : ∃ z : Int, (if x < 0 then -(u : Int) else (u : Int)) = z ∧ z.natAbs = u := by
    by_cases h : x < 0
    · exact ⟨-(u : Int), by rw [if_pos h], by omega⟩
    · exact ⟨(u : Int), by rw [if_neg h], by omega⟩
  obtain ⟨z, z1, z2⟩ := hz
  rw [z1, rcheck_any _ (by show -9223372036854775808 ≤ z; omega) (by show z ≤ _; omega) (by show (v : Int) ≤ _; omega)]
  simp only [Option.bind_some]
  by_cases e : u ≤ 1000000000 ∧ v ≤ 1000000000
  · have ho : okr (api_Ratio.mk z (v : Int)) := ⟨by show (1 : Int) ≤ v; omega, by show (v : Int) ≤ _; omega, by show z.natAbs ≤ _; omega, by show Nat.gcd z.natAbs (v : Int).natAbs = 1; rw [z2, Int.natAbs_natCast]; exact h3⟩
    rw [if_pos ho, if_pos e]
    simp only [bne_self_eq_false, Bool.false_eq_true, if_false, if_true]
    rw [z1]
  · have ho : ¬ okr (api_Ratio.mk z (v : Int)) := fun h => by
      have a1 : (v : Int) ≤ 1000000000 := h.2.1
      have a2 : z.natAbs ≤ 1000000000 := h.2.2.1
      exact e ⟨by omega, by omega⟩
    rw [if_neg ho, if_neg e]
    simp only [nT (show ¬ (8 : Int) = 0 by omega), if_true, show ¬ (16 : Int) = 0 by omega, if_false]
theorem rmake_any (x y : Int) (hx : x.natAbs ≤ 9223372036854775807) (hy : y.natAbs ≤ 9223372036854775807) : F_raddleref23_Make x y = some (smk x y) := by
  unfold F_raddleref23_Make smk
  by_cases h0 : y = 0
  · rw [if_pos h0]; simp only [bT h0, if_true]
  rw [if_neg h0]
  simp only [bF h0, bF (show ¬ x = -9223372036854775808 by omega), bF (show ¬ y = -9223372036854775808 by omega), Bool.false_eq_true, if_false, Option.bind_some]
  by_cases hn : y < 0
  · have k1 : w64 (0 - x) = -x := by rw [w64_of (by omega) (by omega)]; omega
    have k2 : w64 (0 - y) = ((y.natAbs : Nat) : Int) := by rw [w64_of (by omega) (by omega)]; omega
    simp only [dT hn, if_true, Option.bind_some, k1, k2]
    rw [rmake_pos (-x) y.natAbs (by omega) hy (by omega), Int.natAbs_neg]
    congr 1
    by_cases hm : (mk x.natAbs y.natAbs).2 = 0
    · rw [if_pos hm, if_pos hm]
      by_cases hxn : x < 0
      · rw [if_neg (by omega)]; simp [hxn]
      · by_cases hx0 : x = 0
        · subst hx0
          have : (mk 0 y.natAbs).1.Num = 0 := by
            unfold mk
            simp
            split <;> rfl
          simp [this]
        · rw [if_pos (by omega)]; simp [hxn]
    · rw [if_neg hm, if_neg hm]
  · have k2 : y = ((y.natAbs : Nat) : Int) := by omega
    simp only [dF hn, Bool.false_eq_true, if_false, Option.bind_some]
    have := rmake_pos x y.natAbs hx hy (by omega)
    rw [← k2] at this
    rw [this]
    congr 1
    by_cases hm : (mk x.natAbs y.natAbs).2 = 0
    · rw [if_pos hm, if_pos hm]
      by_cases hxn : x < 0
      · rw [if_pos hxn]; simp [hxn]
      · rw [if_neg hxn]; simp [hxn]
    · rw [if_neg hm, if_neg hm]

end Go.Proofs.Ytdfjcpnflmgdoaa
namespace Go.Proofs.Ytdfjcpnflmgdoaa
open Go.RowKit
set_option linter.unusedVariables false

noncomputable def F_yarn_factors (p0 : Int) : Option (Int × Int × Bool × Bool) :=
  if p0 == 1 then
    some (1, 1, true, true)
  else
    if p0 == 2 then
      some (1, 9, true, true)
    else
      if p0 == 3 then
        some (1000, 1, false, true)
      else
        if p0 == 4 then
          some (226796185, 384048, false, true)
        else
          some (0, 0, false, false)
set_option maxHeartbeats 4000000 in
set_option maxRecDepth 100000 in
theorem c_yarn_factors (E : Nat → Prop) (w0 : World) (p0 : Int) (r : (Int × Int × Bool × Bool)) (h : F_yarn_factors p0 = some r) (S : St0 E [] w0 w0 [] []) :
    Calls Try.prog 47 #[.int .u8 p0] w0 (Ret (X := Unit) E [] w0 (fun _ => .tuple #[.int .i64 r.1, .int .i64 r.2.1, .bool r.2.2.1, .bool r.2.2.2]) (fun _ => []) (fun _ => [])) := by
  unfold F_yarn_factors at h
  refine sEnter (args := [.int .u8 p0]) 15 Try.func47 rfl rfl (by simp) S (fun a S => ?_)
  refine sSeq (fun K1 hK1 => ?_)
  refine sRegion ?_
  refine sMove (.int .i64 0) S (wN rfl) (.inr rfl) (by kernel_rfl) rfl (by decide) (fun a S => ?_)
  refine sMove (.int .i64 0) S (wN rfl) (.inr rfl) (by kernel_rfl) rfl (by decide) (fun a S => ?_)
  refine sMove (.bool false) S (wN rfl) (.inr rfl) (by kernel_rfl) rfl (by decide) (fun a S => ?_)
  refine sMove (.bool false) S (wN rfl) (.inr rfl) (by kernel_rfl) rfl (by decide) (fun a S => ?_)
  refine leafL (leafT (hK1 _ _ ?_))
  refine sSeq (fun K2 hK2 => ?_)
  refine sSeq (fun K3 hK3 => ?_)
  refine sRegion ?_
  refine sMove (.int .u8 p0) S (wN rfl) (.inl rfl) (by kernel_rfl) rfl (by decide) (fun a S => ?_)
  refine leafL (leafT (hK3 _ _ ?_))
  refine wp_block ?_
  refine sSeq (fun K4 hK4 => ?_)
  refine sRegion ?_
  refine sBin (.bool (p0 == 1)) S (wN rfl) rfl (by kernel_rfl) (by kernel_rfl) (bEq _ _ _ _ .u8 p0 1) rfl (by decide) (fun a S => ?_)
  refine sMove (.bool (p0 == 1)) S (wN rfl) (.inr rfl) (by kernel_rfl) rfl (by decide) (fun a S => ?_)
  refine leafL (leafT (hK4 _ _ ?_))
  rcases iteSome h with ⟨hc5, h⟩ | ⟨hc5, h⟩
  · refine sCondT (b := p0 == 1) S (by kernel_rfl) hc5 ?_
    refine sSeq (fun K6 hK6 => ?_)
    refine sRegion ?_
    refine sMove (.int .i64 1) S (wN rfl) (.inr rfl) (by kernel_rfl) rfl (by decide) (fun a S => ?_)
    refine sMove (.int .i64 1) S (wN rfl) (.inr rfl) (by kernel_rfl) rfl (by decide) (fun a S => ?_)
    refine sMove (.bool true) S (wN rfl) (.inr rfl) (by kernel_rfl) rfl (by decide) (fun a S => ?_)
    refine sMove (.bool true) S (wN rfl) (.inr rfl) (by kernel_rfl) rfl (by decide) (fun a S => ?_)
    refine leafL (leafT (hK6 _ _ ?_))
    obtain rfl := Option.some.inj h
    exact wp_ret (rBlock (rThen (sRet (.tuple #[.int .i64 1, .int .i64 1, .bool true, .bool true]) S (rsl4 rfl (rvT (t := 2) (v := .int .i64 1) S (by kernel_rfl)) (rvT (t := 3) (v := .int .i64 1) S (by kernel_rfl)) (rvT (t := 4) (v := .bool true) S (by kernel_rfl)) (rvT (t := 5) (v := .bool true) S (by kernel_rfl))) ⟨(), rfl, S.mem.sel [] [] (by decide) (by kernel_rfl) (by kernel_rfl)⟩)))
  · refine sCondF (b := p0 == 1) S (by kernel_rfl) hc5 ?_
    refine sSeq (fun K7 hK7 => ?_)
    refine sRegion ?_
    refine sBin (.bool (p0 == 2)) S (wN rfl) rfl (by kernel_rfl) (by kernel_rfl) (bEq _ _ _ _ .u8 p0 2) rfl (by decide) (fun a S => ?_)
    refine sMove (.bool (p0 == 2)) S (wN rfl) (.inr rfl) (by kernel_rfl) rfl (by decide) (fun a S => ?_)
    refine leafL (leafT (hK7 _ _ ?_))
    rcases iteSome h with ⟨hc8, h⟩ | ⟨hc8, h⟩
    · refine sCondT (b := p0 == 2) S (by kernel_rfl) hc8 ?_
      refine sSeq (fun K9 hK9 => ?_)
      refine sRegion ?_
      refine sMove (.int .i64 1) S (wN rfl) (.inr rfl) (by kernel_rfl) rfl (by decide) (fun a S => ?_)
      refine sMove (.int .i64 9) S (wN rfl) (.inr rfl) (by kernel_rfl) rfl (by decide) (fun a S => ?_)
      refine sMove (.bool true) S (wN rfl) (.inr rfl) (by kernel_rfl) rfl (by decide) (fun a S => ?_)
      refine sMove (.bool true) S (wN rfl) (.inr rfl) (by kernel_rfl) rfl (by decide) (fun a S => ?_)
      refine leafL (leafT (hK9 _ _ ?_))
      obtain rfl := Option.some.inj h
      exact wp_ret (rBlock (rThen (sRet (.tuple #[.int .i64 1, .int .i64 9, .bool true, .bool true]) S (rsl4 rfl (rvT (t := 2) (v := .int .i64 1) S (by kernel_rfl)) (rvT (t := 3) (v := .int .i64 9) S (by kernel_rfl)) (rvT (t := 4) (v := .bool true) S (by kernel_rfl)) (rvT (t := 5) (v := .bool true) S (by kernel_rfl))) ⟨(), rfl, S.mem.sel [] [] (by decide) (by kernel_rfl) (by kernel_rfl)⟩)))
    · refine sCondF (b := p0 == 2) S (by kernel_rfl) hc8 ?_
      refine sSeq (fun K10 hK10 => ?_)
      refine sRegion ?_
      refine sBin (.bool (p0 == 3)) S (wN rfl) rfl (by kernel_rfl) (by kernel_rfl) (bEq _ _ _ _ .u8 p0 3) rfl (by decide) (fun a S => ?_)
      refine sMove (.bool (p0 == 3)) S (wN rfl) (.inr rfl) (by kernel_rfl) rfl (by decide) (fun a S => ?_)
      refine leafL (leafT (hK10 _ _ ?_))
      rcases iteSome h with ⟨hc11, h⟩ | ⟨hc11, h⟩
      · refine sCondT (b := p0 == 3) S (by kernel_rfl) hc11 ?_
        refine sSeq (fun K12 hK12 => ?_)
        refine sRegion ?_
        refine sMove (.int .i64 1000) S (wN rfl) (.inr rfl) (by kernel_rfl) rfl (by decide) (fun a S => ?_)
        refine sMove (.int .i64 1) S (wN rfl) (.inr rfl) (by kernel_rfl) rfl (by decide) (fun a S => ?_)
        refine sMove (.bool false) S (wN rfl) (.inr rfl) (by kernel_rfl) rfl (by decide) (fun a S => ?_)
        refine sMove (.bool true) S (wN rfl) (.inr rfl) (by kernel_rfl) rfl (by decide) (fun a S => ?_)
        refine leafL (leafT (hK12 _ _ ?_))
        obtain rfl := Option.some.inj h
        exact wp_ret (rBlock (rThen (sRet (.tuple #[.int .i64 1000, .int .i64 1, .bool false, .bool true]) S (rsl4 rfl (rvT (t := 2) (v := .int .i64 1000) S (by kernel_rfl)) (rvT (t := 3) (v := .int .i64 1) S (by kernel_rfl)) (rvT (t := 4) (v := .bool false) S (by kernel_rfl)) (rvT (t := 5) (v := .bool true) S (by kernel_rfl))) ⟨(), rfl, S.mem.sel [] [] (by decide) (by kernel_rfl) (by kernel_rfl)⟩)))
      · refine sCondF (b := p0 == 3) S (by kernel_rfl) hc11 ?_
        refine sSeq (fun K13 hK13 => ?_)
        refine sRegion ?_
        refine sBin (.bool (p0 == 4)) S (wN rfl) rfl (by kernel_rfl) (by kernel_rfl) (bEq _ _ _ _ .u8 p0 4) rfl (by decide) (fun a S => ?_)
        refine sMove (.bool (p0 == 4)) S (wN rfl) (.inr rfl) (by kernel_rfl) rfl (by decide) (fun a S => ?_)
        refine leafL (leafT (hK13 _ _ ?_))
        rcases iteSome h with ⟨hc14, h⟩ | ⟨hc14, h⟩
        · refine sCondT (b := p0 == 4) S (by kernel_rfl) hc14 ?_
          refine sSeq (fun K15 hK15 => ?_)
          refine sRegion ?_
          refine sMove (.int .i64 226796185) S (wN rfl) (.inr rfl) (by kernel_rfl) rfl (by decide) (fun a S => ?_)
          refine sMove (.int .i64 384048) S (wN rfl) (.inr rfl) (by kernel_rfl) rfl (by decide) (fun a S => ?_)
          refine sMove (.bool false) S (wN rfl) (.inr rfl) (by kernel_rfl) rfl (by decide) (fun a S => ?_)
          refine sMove (.bool true) S (wN rfl) (.inr rfl) (by kernel_rfl) rfl (by decide) (fun a S => ?_)
          refine leafL (leafT (hK15 _ _ ?_))
          obtain rfl := Option.some.inj h
          exact wp_ret (rBlock (rThen (sRet (.tuple #[.int .i64 226796185, .int .i64 384048, .bool false, .bool true]) S (rsl4 rfl (rvT (t := 2) (v := .int .i64 226796185) S (by kernel_rfl)) (rvT (t := 3) (v := .int .i64 384048) S (by kernel_rfl)) (rvT (t := 4) (v := .bool false) S (by kernel_rfl)) (rvT (t := 5) (v := .bool true) S (by kernel_rfl))) ⟨(), rfl, S.mem.sel [] [] (by decide) (by kernel_rfl) (by kernel_rfl)⟩)))
        · refine sCondF (b := p0 == 4) S (by kernel_rfl) hc14 ?_
          refine wp_skip (leafB (leafT (hK2 _ _ ?_)))
          refine sSeq (fun K16 hK16 => ?_)
          refine sRegion ?_
          refine sMove (.int .i64 0) S (wN rfl) (.inr rfl) (by kernel_rfl) rfl (by decide) (fun a S => ?_)
          refine sMove (.int .i64 0) S (wN rfl) (.inr rfl) (by kernel_rfl) rfl (by decide) (fun a S => ?_)
          refine sMove (.bool false) S (wN rfl) (.inr rfl) (by kernel_rfl) rfl (by decide) (fun a S => ?_)
          refine sMove (.bool false) S (wN rfl) (.inr rfl) (by kernel_rfl) rfl (by decide) (fun a S => ?_)
          refine leafL (leafT (hK16 _ _ ?_))
          obtain rfl := Option.some.inj h
          exact wp_ret (sRet (.tuple #[.int .i64 0, .int .i64 0, .bool false, .bool false]) S (rsl4 rfl (rvT (t := 2) (v := .int .i64 0) S (by kernel_rfl)) (rvT (t := 3) (v := .int .i64 0) S (by kernel_rfl)) (rvT (t := 4) (v := .bool false) S (by kernel_rfl)) (rvT (t := 5) (v := .bool false) S (by kernel_rfl))) ⟨(), rfl, S.mem.sel [] [] (by decide) (by kernel_rfl) (by kernel_rfl)⟩)

end Go.Proofs.Ytdfjcpnflmgdoaa
namespace Go.Proofs.Ytdfjcpnflmgdoaa
open Go.RowKit
set_option linter.unusedVariables false

noncomputable def F_yarn_counted (p0 : api_Count) : Option Int :=
  Option.bind (F_yarn_factors p0.System) fun r5 =>
  Option.bind (α := Bool) (
    if !r5.2.2.2 then
      some true
    else
      Option.bind (F_yarn_Check p0.N) fun r11 =>
      if r11 != 0 then
        some true
      else
        some (decide (p0.N.Num ≤ 0))) fun o7 =>
  if o7 then
    some 8
  else
    some 0
set_option maxHeartbeats 4000000 in
set_option maxRecDepth 100000 in
theorem c_yarn_counted (E : Nat → Prop) (w0 : World) (p0 : api_Count) (v0 : Value) (r : Int) (h : F_yarn_counted p0 = some r) (S : St0 E [] w0 w0 [] [fRep r_api_Count (v0) p0]) :
    Calls Try.prog 46 #[v0] w0 (Ret (X := Unit) E [] w0 (fun _ => .int .i64 r) (fun _ => []) (fun _ => [])) := by
  unfold F_yarn_counted at h
  obtain rfl : v0 = .agg #[.int .u8 p0.System, .int .i64 p0.N.Num, .int .i64 p0.N.Den] := S.know (i := 0) (e := fRep r_api_Count (v0) p0) (by kernel_rfl)
  refine sEnter (args := [.agg #[.int .u8 p0.System, .int .i64 p0.N.Num, .int .i64 p0.N.Den]]) 29 Try.func46 rfl rfl (by simp) S (fun a S => ?_)
  refine sSeq (fun K1 hK1 => ?_)
  refine sRegion ?_
  refine sBox (v := .agg #[.int .u8 p0.System, .int .i64 p0.N.Num, .int .i64 p0.N.Den]) S (wN rfl) rfl (by kernel_rfl) [.int .u8 p0.System, .int .i64 p0.N.Num, .int .i64 p0.N.Den] rfl rfl (by decide) (fun a b2 w S => ?_)
  refine sMove (.int .i64 0) S (wN rfl) (.inr rfl) (by kernel_rfl) rfl (by decide) (fun a S => ?_)
  refine leafL (leafT (hK1 _ _ ?_))
  refine sSeq (fun K3 hK3 => ?_)
  refine sSeq (fun K4 hK4 => ?_)
  refine sRegion ?_
  refine sField (b := b2) (off := 0) 0 0 S (wN rfl) rfl (by kernel_rfl) (by kernel_rfl) rfl rfl (by decide) (fun a S => ?_)
  refine sLoad1 (p := b2) (off := 0) (T := 41) (vs := [.int .u8 p0.System, .int .i64 p0.N.Num, .int .i64 p0.N.Den]) 0 (.int .u8 p0.System) S (wN rfl) rfl (by kernel_rfl) (by kernel_rfl) (by kernel_rfl) rfl rfl (by decide) (fun a S => ?_)
  obtain ⟨r5, hx6, h⟩ := bindSome h
  have S1 := S.mem
  refine sCallQ (X := Unit) (f := 47) (vs := [.int .u8 p0.System]) (val := fun _ => .tuple #[.int .i64 r5.1, .int .i64 r5.2.1, .bool r5.2.2.1, .bool r5.2.2.2]) S (wN rfl) rfl callee47 (by kernel_rfl) (S1.quiet [] (by kernel_rfl)) (fun E1 w1 S1 => c_yarn_factors E1 w1 p0.System r5 hx6 S1) rfl (by decide) (fun _ a w S => ?_)
  refine sMove (.tuple #[.int .i64 r5.1, .int .i64 r5.2.1, .bool r5.2.2.1, .bool r5.2.2.2]) S (wN rfl) (.inl rfl) (by kernel_rfl) rfl (by decide) (fun a S => ?_)
  refine sExtract (vs := [.int .i64 r5.1, .int .i64 r5.2.1, .bool r5.2.2.1, .bool r5.2.2.2]) (.int .i64 r5.1) S (wN rfl) rfl (by kernel_rfl) rfl rfl (by decide) (fun a S => ?_)
  refine sExtract (vs := [.int .i64 r5.1, .int .i64 r5.2.1, .bool r5.2.2.1, .bool r5.2.2.2]) (.int .i64 r5.2.1) S (wN rfl) rfl (by kernel_rfl) rfl rfl (by decide) (fun a S => ?_)
  refine sExtract (vs := [.int .i64 r5.1, .int .i64 r5.2.1, .bool r5.2.2.1, .bool r5.2.2.2]) (.bool r5.2.2.1) S (wN rfl) rfl (by kernel_rfl) rfl rfl (by decide) (fun a S => ?_)
  refine sExtract (vs := [.int .i64 r5.1, .int .i64 r5.2.1, .bool r5.2.2.1, .bool r5.2.2.2]) (.bool r5.2.2.2) S (wN rfl) rfl (by kernel_rfl) rfl rfl (by decide) (fun a S => ?_)
  refine sMove (.int .i64 r5.1) S (wN rfl) (.inr rfl) (by kernel_rfl) rfl (by decide) (fun a S => ?_)
  refine sMove (.int .i64 r5.2.1) S (wN rfl) (.inr rfl) (by kernel_rfl) rfl (by decide) (fun a S => ?_)
  refine sMove (.bool r5.2.2.1) S (wN rfl) (.inr rfl) (by kernel_rfl) rfl (by decide) (fun a S => ?_)
  refine sMove (.bool r5.2.2.2) S (wN rfl) (.inr rfl) (by kernel_rfl) rfl (by decide) (fun a S => ?_)
  refine leafL (leafT (hK4 _ _ ?_))
  obtain ⟨t8, h, g9⟩ := bindSome h
  refine sCut (fun a w => ∃ o7, o7 = t8 ∧ St [] E [] w0 29 a w [(28, .bool o7)] [] []) ?_ (fun a w hI => ?_)
  · refine sRegion ?_
    refine sMove (.bool r5.2.2.2) S (wN rfl) (.inl rfl) (by kernel_rfl) rfl (by decide) (fun a S => ?_)
    refine sNot (b := r5.2.2.2) S (wN rfl) rfl (by kernel_rfl) rfl (by decide) (fun a S => ?_)
    refine sMove (.bool (!r5.2.2.2)) S (wN rfl) (.inl rfl) (by kernel_rfl) rfl (by decide) (fun a S => ?_)
    rcases iteSome h with ⟨hc10, h⟩ | ⟨hc10, h⟩
    · refine sSkip (c := !r5.2.2.2) 2 false 17 18 S rfl rfl (by kernel_rfl) hc10 rfl (by decide) (fun a S => ?_)
      refine sSkip (c := !r5.2.2.2) 2 false 17 19 S rfl rfl (by kernel_rfl) hc10 rfl (by decide) (fun a S => ?_)
      refine sSkip (c := !r5.2.2.2) 2 false 17 20 S rfl rfl (by kernel_rfl) hc10 rfl (by decide) (fun a S => ?_)
      refine sSkip (c := !r5.2.2.2) 2 false 17 21 S rfl rfl (by kernel_rfl) hc10 rfl (by decide) (fun a S => ?_)
      refine sPickT (b := !r5.2.2.2) (.bool true) S (wN rfl) rfl (by kernel_rfl) hc10 (by kernel_rfl) rfl (by decide) (fun a S => ?_)
      refine sMove (.bool true) S (wN rfl) (.inl rfl) (by kernel_rfl) rfl (by decide) (fun a S => ?_)
      refine sSkip (c := true) 8 false 23 24 S rfl rfl (by kernel_rfl) rfl rfl (by decide) (fun a S => ?_)
      refine sSkip (c := true) 8 false 23 25 S rfl rfl (by kernel_rfl) rfl rfl (by decide) (fun a S => ?_)
      refine sSkip (c := true) 8 false 23 26 S rfl rfl (by kernel_rfl) rfl rfl (by decide) (fun a S => ?_)
      refine sSkip (c := true) 8 false 23 27 S rfl rfl (by kernel_rfl) rfl rfl (by decide) (fun a S => ?_)
      refine sPickT (b := true) (.bool true) S (wN rfl) rfl (by kernel_rfl) rfl (by kernel_rfl) rfl (by decide) (fun a S => ?_)
      exact leafL (leafT (⟨true, Option.some.inj h, S.fix [] [] (by decide) (by kernel_rfl) (by kernel_rfl) (by kernel_rfl)⟩))
    · refine sField (b := b2) (off := 0) 1 1 S (wG (c := !r5.2.2.2) 2 false 17 rfl rfl (by kernel_rfl) hc10) rfl (by kernel_rfl) (by kernel_rfl) rfl rfl (by decide) (fun a S => ?_)
      refine sLoadN (p := b2) (off := 1) (T := 41) (vs := [.int .u8 p0.System, .int .i64 p0.N.Num, .int .i64 p0.N.Den]) 0 [.int .i64 p0.N.Num, .int .i64 p0.N.Den] S (wG (c := !r5.2.2.2) 2 false 17 rfl rfl (by kernel_rfl) hc10) rfl (by kernel_rfl) (by kernel_rfl) (by kernel_rfl) (by kernel_rfl) rfl rfl (by decide) (fun a S => ?_)
      obtain ⟨r11, hx12, h⟩ := bindSome h
      have S1 := S.mem
      have S1 := S1.learn (fRep r_api_Ratio (.agg #[.int .i64 p0.N.Num, .int .i64 p0.N.Den]) p0.N) rfl
      refine sCallQ (X := Unit) (f := 8) (vs := [.agg #[.int .i64 p0.N.Num, .int .i64 p0.N.Den]]) (val := fun _ => .int .i64 r11) S (wG (c := !r5.2.2.2) 2 false 17 rfl rfl (by kernel_rfl) hc10) rfl callee8 (by kernel_rfl) (S1.quiet [0] (by kernel_rfl)) (fun E1 w1 S1 => c_yarn_Check E1 w1 p0.N (.agg #[.int .i64 p0.N.Num, .int .i64 p0.N.Den]) r11 hx12 S1) rfl (by decide) (fun _ a w S => ?_)
      refine sBin (.bool (r11 != 0)) S (wG (c := !r5.2.2.2) 2 false 17 rfl rfl (by kernel_rfl) hc10) rfl (by kernel_rfl) (by kernel_rfl) (bNe _ _ _ _ .i64 r11 0) rfl (by decide) (fun a S => ?_)
      refine sPickF (b := !r5.2.2.2) (.bool (r11 != 0)) S (wN rfl) rfl (by kernel_rfl) hc10 (by kernel_rfl) rfl (by decide) (fun a S => ?_)
      refine sMove (.bool (r11 != 0)) S (wN rfl) (.inl rfl) (by kernel_rfl) rfl (by decide) (fun a S => ?_)
      rcases iteSome h with ⟨hc13, h⟩ | ⟨hc13, h⟩
      · refine sSkip (c := r11 != 0) 8 false 23 24 S rfl rfl (by kernel_rfl) hc13 rfl (by decide) (fun a S => ?_)
        refine sSkip (c := r11 != 0) 8 false 23 25 S rfl rfl (by kernel_rfl) hc13 rfl (by decide) (fun a S => ?_)
        refine sSkip (c := r11 != 0) 8 false 23 26 S rfl rfl (by kernel_rfl) hc13 rfl (by decide) (fun a S => ?_)
        refine sSkip (c := r11 != 0) 8 false 23 27 S rfl rfl (by kernel_rfl) hc13 rfl (by decide) (fun a S => ?_)
        refine sPickT (b := r11 != 0) (.bool true) S (wN rfl) rfl (by kernel_rfl) hc13 (by kernel_rfl) rfl (by decide) (fun a S => ?_)
        exact leafL (leafT (⟨true, Option.some.inj h, S.fix [] [] (by decide) (by kernel_rfl) (by kernel_rfl) (by kernel_rfl)⟩))
      · refine sField (b := b2) (off := 0) 1 1 S (wG (c := r11 != 0) 8 false 23 rfl rfl (by kernel_rfl) hc13) rfl (by kernel_rfl) (by kernel_rfl) rfl rfl (by decide) (fun a S => ?_)
        refine sField (b := b2) (off := 1) 0 1 S (wG (c := r11 != 0) 8 false 23 rfl rfl (by kernel_rfl) hc13) rfl (by kernel_rfl) (by kernel_rfl) rfl rfl (by decide) (fun a S => ?_)
        refine sLoad1 (p := b2) (off := 1) (T := 41) (vs := [.int .u8 p0.System, .int .i64 p0.N.Num, .int .i64 p0.N.Den]) 0 (.int .i64 p0.N.Num) S (wG (c := r11 != 0) 8 false 23 rfl rfl (by kernel_rfl) hc13) rfl (by kernel_rfl) (by kernel_rfl) (by kernel_rfl) rfl rfl (by decide) (fun a S => ?_)
        refine sBin (.bool (decide (p0.N.Num ≤ 0))) S (wG (c := r11 != 0) 8 false 23 rfl rfl (by kernel_rfl) hc13) rfl (by kernel_rfl) (by kernel_rfl) (bLe _ _ _ _ .i64 p0.N.Num 0) rfl (by decide) (fun a S => ?_)
        refine sPickF (b := r11 != 0) (.bool (decide (p0.N.Num ≤ 0))) S (wN rfl) rfl (by kernel_rfl) hc13 (by kernel_rfl) rfl (by decide) (fun a S => ?_)
        exact leafL (leafT (⟨decide (p0.N.Num ≤ 0), Option.some.inj h, S.fix [] [] (by decide) (by kernel_rfl) (by kernel_rfl) (by kernel_rfl)⟩))
  · obtain ⟨o7, rfl, S⟩ := hI
    have h := g9
    clear g9
    try dsimp only at h
    rcases iteSome h with ⟨hc14, h⟩ | ⟨hc14, h⟩
    · refine sCondT (b := o7) S (by kernel_rfl) hc14 ?_
      refine sSeq (fun K15 hK15 => ?_)
      refine sRegion ?_
      refine sMove (.int .i64 8) S (wN rfl) (.inr rfl) (by kernel_rfl) rfl (by decide) (fun a S => ?_)
      refine leafL (leafT (hK15 _ _ ?_))
      obtain rfl := Option.some.inj h
      exact wp_ret (rThen (sRet (.int .i64 8) S (rsl1 rfl (rvT (t := 2) (v := .int .i64 8) S (by kernel_rfl))) ⟨(), rfl, S.mem.sel [] [] (by decide) (by kernel_rfl) (by kernel_rfl)⟩))
    · refine sCondF (b := o7) S (by kernel_rfl) hc14 ?_
      refine wp_skip (leafT (hK3 _ _ ?_))
      refine sSeq (fun K16 hK16 => ?_)
      refine sRegion ?_
      refine sMove (.int .i64 0) S (wN rfl) (.inr rfl) (by kernel_rfl) rfl (by decide) (fun a S => ?_)
      refine leafL (leafT (hK16 _ _ ?_))
      obtain rfl := Option.some.inj h
      exact wp_ret (sRet (.int .i64 0) S (rsl1 rfl (rvT (t := 2) (v := .int .i64 0) S (by kernel_rfl))) ⟨(), rfl, S.mem.sel [] [] (by decide) (by kernel_rfl) (by kernel_rfl)⟩)

end Go.Proofs.Ytdfjcpnflmgdoaa
namespace Go.Proofs.Ytdfjcpnflmgdoaa
open Go.RowKit
set_option linter.unusedVariables false

def anc_yarn_Convert_0 : List (List Nat) := [[], [], [0, 1], [], [], [3, 4], [0, 1, 2], [0, 1, 2, 3, 4, 5, 6]]
noncomputable def F_yarn_Convert (p0 : api_Count) (p1 : Int) : Option (api_Count × Int) :=
  Option.bind (F_yarn_counted p0) fun r6 =>
  if r6 != 0 then
    some ((api_Count.mk 0 (api_Ratio.mk 0 0)), r6)
  else
    Option.bind (F_yarn_factors p0.System) fun r12 =>
    Option.bind (F_yarn_factors p1) fun r15 =>
    if !r15.2.2.2 then
      some ((api_Count.mk 0 (api_Ratio.mk 0 0)), 2)
    else
      Option.bind (α := (Int × Int)) (
        Option.bind (α := Bool) (
          if !r12.2.2.1 then
            some (!r15.2.2.1)
          else
            some false) fun o26 =>
        if o26 then
          some (w64 (r12.2.1 * r15.1), w64 (r12.1 * r15.2.1))
        else
          some (w64 (r12.1 * r15.2.1), w64 (r12.2.1 * r15.1))) fun (o22, o23) =>
      Option.bind (α := (Int × Int)) (
        Option.bind (α := Bool) (
          if r12.2.2.1 then
            some (!r15.2.2.1)
          else
            some false) fun o35 =>
        if o35 then
          some (w64 (r15.1 * r12.2.1), w64 (r15.2.1 * r12.1))
        else
          some (o22, o23)) fun (o31, o32) =>
      Option.bind (F_yarn_gcd (IntKind.u64.wrap o31) (IntKind.u64.wrap o32)) fun r41 =>
      Option.bind (quoI o31 (IntKind.i64.wrap r41)) fun z44 =>
      Option.bind (quoI o32 (IntKind.i64.wrap r41)) fun z46 =>
      Option.bind (α := (Int × Int)) (
        if r12.2.2.1 != r15.2.2.1 then
          some (p0.N.Den, p0.N.Num)
        else
          some (p0.N.Num, p0.N.Den)) fun (o50, o51) =>
      Option.bind (F_yarn_Make (w64 (z44 * o50)) (w64 (z46 * o51))) fun r57 =>
      if r57.2 != 0 then
        some ((api_Count.mk 0 (api_Ratio.mk 0 0)), r57.2)
      else
        if r57.1.Num == 0 then
          some ((api_Count.mk 0 (api_Ratio.mk 0 0)), 16)
        else
          some ((api_Count.mk p1 r57.1), 0)
def c_yarn_Convert_val (r : (api_Count × Int)) (x : Value) : Value := .tuple #[x, .int .i64 r.2]
def c_yarn_Convert_D (r : (api_Count × Int)) (x : Value) : List Fact := [fRep r_api_Count x r.1]
set_option maxHeartbeats 4000000 in
set_option maxRecDepth 100000 in
theorem c_yarn_Convert (E : Nat → Prop) (w0 : World) (p0 : api_Count) (v0 : Value) (p1 : Int) (r : (api_Count × Int)) (h : F_yarn_Convert p0 p1 = some r) (S : St0 E [] w0 w0 [] [fRep r_api_Count (v0) p0]) :
    Calls Try.prog 23 #[v0, .int .u8 p1] w0 (Ret (X := Value) E [] w0 (c_yarn_Convert_val r) (fun _ => []) (c_yarn_Convert_D r)) := by
  unfold F_yarn_Convert at h
  obtain rfl : v0 = .agg #[.int .u8 p0.System, .int .i64 p0.N.Num, .int .i64 p0.N.Den] := S.know (i := 0) (e := fRep r_api_Count (v0) p0) (by kernel_rfl)
  refine sEnter (args := [.agg #[.int .u8 p0.System, .int .i64 p0.N.Num, .int .i64 p0.N.Den], .int .u8 p1]) 116 Try.func23 rfl rfl (by simp) S (fun a S => ?_)
  refine sSeq (fun K1 hK1 => ?_)
  refine sRegion ?_
  refine sBox (v := .agg #[.int .u8 p0.System, .int .i64 p0.N.Num, .int .i64 p0.N.Den]) S (wN rfl) rfl (by kernel_rfl) [.int .u8 p0.System, .int .i64 p0.N.Num, .int .i64 p0.N.Den] rfl rfl (by decide) (fun a b2 w S => ?_)
  refine sAlloc (.agg #[.int .u8 0, .int .i64 0, .int .i64 0]) S (wN rfl) rfl (by kernel_rfl) [.int .u8 0, .int .i64 0, .int .i64 0] rfl rfl (by decide) (fun a b3 w S => ?_)
  refine sMove (.int .i64 0) S (wN rfl) (.inr rfl) (by kernel_rfl) rfl (by decide) (fun a S => ?_)
  refine leafL (leafT (hK1 _ _ ?_))
  refine sSeq (fun K4 hK4 => ?_)
  refine sSeq (fun K5 hK5 => ?_)
  refine sRegion ?_
  refine sLoadN (p := b2) (off := 0) (T := 41) (vs := [.int .u8 p0.System, .int .i64 p0.N.Num, .int .i64 p0.N.Den]) 1 [.int .u8 p0.System, .int .i64 p0.N.Num, .int .i64 p0.N.Den] S (wN rfl) rfl (by kernel_rfl) (by kernel_rfl) (by kernel_rfl) (by kernel_rfl) rfl rfl (by decide) (fun a S => ?_)
  obtain ⟨r6, hx7, h⟩ := bindSome h
  have S1 := S.mem
  refine sCallQ (X := Unit) (f := 46) (vs := [.agg #[.int .u8 p0.System, .int .i64 p0.N.Num, .int .i64 p0.N.Den]]) (val := fun _ => .int .i64 r6) S (wN rfl) rfl callee46 (by kernel_rfl) (S1.quiet [0] (by kernel_rfl)) (fun E1 w1 S1 => c_yarn_counted E1 w1 p0 (.agg #[.int .u8 p0.System, .int .i64 p0.N.Num, .int .i64 p0.N.Den]) r6 hx7 S1) rfl (by decide) (fun _ a w S => ?_)
  refine sMove (.int .i64 r6) S (wN rfl) (.inr rfl) (by kernel_rfl) rfl (by decide) (fun a S => ?_)
  refine leafL (leafT (hK5 _ _ ?_))
  refine sSeq (fun K8 hK8 => ?_)
  refine sRegion ?_
  refine sMove (.int .i64 r6) S (wN rfl) (.inl rfl) (by kernel_rfl) rfl (by decide) (fun a S => ?_)
  refine sBin (.bool (r6 != 0)) S (wN rfl) rfl (by kernel_rfl) (by kernel_rfl) (bNe _ _ _ _ .i64 r6 0) rfl (by decide) (fun a S => ?_)
  refine leafL (leafT (hK8 _ _ ?_))
  rcases iteSome h with ⟨hc9, h⟩ | ⟨hc9, h⟩
  · refine sCondT (b := r6 != 0) S (by kernel_rfl) hc9 ?_
    refine sSeq (fun K10 hK10 => ?_)
    refine sRegion ?_
    refine sBuild [] [.int .u8 0, .int .i64 0, .int .i64 0] S (wN rfl) rfl (by kernel_rfl) (by kernel_rfl) rfl (by decide) (fun a S => ?_)
    refine sMove (.int .i64 r6) S (wN rfl) (.inl rfl) (by kernel_rfl) rfl (by decide) (fun a S => ?_)
    refine sStore (p := b3) (off := 0) (T := 41) (vs := [.int .u8 0, .int .i64 0, .int .i64 0]) (v := .agg #[.int .u8 0, .int .i64 0, .int .i64 0]) 0 [.int .u8 0, .int .i64 0, .int .i64 0] S (wN rfl) rfl (by kernel_rfl) (by kernel_rfl) rfl (by kernel_rfl) (by kernel_rfl) rfl (by simp) rfl (fun a w S => ?_)
    refine sMove (.int .i64 r6) S (wN rfl) (.inr rfl) (by kernel_rfl) rfl (by decide) (fun a S => ?_)
    refine leafL (leafT (hK10 _ _ ?_))
    obtain rfl := Option.some.inj h
    have S := S.learn (fRep r_api_Count (.agg #[.int .u8 0, .int .i64 0, .int .i64 0]) (api_Count.mk 0 (api_Ratio.mk 0 0))) rfl
    exact wp_ret (rThen (sRet (.tuple #[.agg #[.int .u8 0, .int .i64 0, .int .i64 0], .int .i64 r6]) S (rsl2 rfl (rvN (c := 4) (t := 41) (T := 41) (p := b3) 0 [.int .u8 0, .int .i64 0, .int .i64 0] S (by kernel_rfl) (by kernel_rfl) (by kernel_rfl) (by kernel_rfl)) (rvT (t := 5) (v := .int .i64 r6) S (by kernel_rfl))) ⟨(.agg #[.int .u8 0, .int .i64 0, .int .i64 0]), rfl, S.mem.sel [] [0] (by decide) (by kernel_rfl) (by kernel_rfl)⟩))
  · refine sCondF (b := r6 != 0) S (by kernel_rfl) hc9 ?_
    refine wp_skip (leafT (hK4 _ _ ?_))
    refine sSeq (fun K11 hK11 => ?_)
    refine sRegion ?_
    refine sField (b := b2) (off := 0) 0 0 S (wN rfl) rfl (by kernel_rfl) (by kernel_rfl) rfl rfl (by decide) (fun a S => ?_)
    refine sLoad1 (p := b2) (off := 0) (T := 41) (vs := [.int .u8 p0.System, .int .i64 p0.N.Num, .int .i64 p0.N.Den]) 1 (.int .u8 p0.System) S (wN rfl) rfl (by kernel_rfl) (by kernel_rfl) (by kernel_rfl) rfl rfl (by decide) (fun a S => ?_)
    obtain ⟨r12, hx13, h⟩ := bindSome h
    have S1 := S.mem
    refine sCallQ (X := Unit) (f := 47) (vs := [.int .u8 p0.System]) (val := fun _ => .tuple #[.int .i64 r12.1, .int .i64 r12.2.1, .bool r12.2.2.1, .bool r12.2.2.2]) S (wN rfl) rfl callee47 (by kernel_rfl) (S1.quiet [] (by kernel_rfl)) (fun E1 w1 S1 => c_yarn_factors E1 w1 p0.System r12 hx13 S1) rfl (by decide) (fun _ a w S => ?_)
    refine sMove (.tuple #[.int .i64 r12.1, .int .i64 r12.2.1, .bool r12.2.2.1, .bool r12.2.2.2]) S (wN rfl) (.inl rfl) (by kernel_rfl) rfl (by decide) (fun a S => ?_)
    refine sExtract (vs := [.int .i64 r12.1, .int .i64 r12.2.1, .bool r12.2.2.1, .bool r12.2.2.2]) (.int .i64 r12.1) S (wN rfl) rfl (by kernel_rfl) rfl rfl (by decide) (fun a S => ?_)
    refine sExtract (vs := [.int .i64 r12.1, .int .i64 r12.2.1, .bool r12.2.2.1, .bool r12.2.2.2]) (.int .i64 r12.2.1) S (wN rfl) rfl (by kernel_rfl) rfl rfl (by decide) (fun a S => ?_)
    refine sExtract (vs := [.int .i64 r12.1, .int .i64 r12.2.1, .bool r12.2.2.1, .bool r12.2.2.2]) (.bool r12.2.2.1) S (wN rfl) rfl (by kernel_rfl) rfl rfl (by decide) (fun a S => ?_)
    refine sExtract (vs := [.int .i64 r12.1, .int .i64 r12.2.1, .bool r12.2.2.1, .bool r12.2.2.2]) (.bool r12.2.2.2) S (wN rfl) rfl (by kernel_rfl) rfl rfl (by decide) (fun a S => ?_)
    refine sMove (.int .i64 r12.1) S (wN rfl) (.inr rfl) (by kernel_rfl) rfl (by decide) (fun a S => ?_)
    refine sMove (.int .i64 r12.2.1) S (wN rfl) (.inr rfl) (by kernel_rfl) rfl (by decide) (fun a S => ?_)
    refine sMove (.bool r12.2.2.1) S (wN rfl) (.inr rfl) (by kernel_rfl) rfl (by decide) (fun a S => ?_)
    refine sMove (.bool r12.2.2.2) S (wN rfl) (.inr rfl) (by kernel_rfl) rfl (by decide) (fun a S => ?_)
    refine leafL (leafT (hK11 _ _ ?_))
    refine sSeq (fun K14 hK14 => ?_)
    refine sRegion ?_
    refine sMove (.int .u8 p1) S (wN rfl) (.inl rfl) (by kernel_rfl) rfl (by decide) (fun a S => ?_)
    obtain ⟨r15, hx16, h⟩ := bindSome h
    have S1 := S.mem
    refine sCallQ (X := Unit) (f := 47) (vs := [.int .u8 p1]) (val := fun _ => .tuple #[.int .i64 r15.1, .int .i64 r15.2.1, .bool r15.2.2.1, .bool r15.2.2.2]) S (wN rfl) rfl callee47 (by kernel_rfl) (S1.quiet [] (by kernel_rfl)) (fun E1 w1 S1 => c_yarn_factors E1 w1 p1 r15 hx16 S1) rfl (by decide) (fun _ a w S => ?_)
    refine sMove (.tuple #[.int .i64 r15.1, .int .i64 r15.2.1, .bool r15.2.2.1, .bool r15.2.2.2]) S (wN rfl) (.inl rfl) (by kernel_rfl) rfl (by decide) (fun a S => ?_)
    refine sExtract (vs := [.int .i64 r15.1, .int .i64 r15.2.1, .bool r15.2.2.1, .bool r15.2.2.2]) (.int .i64 r15.1) S (wN rfl) rfl (by kernel_rfl) rfl rfl (by decide) (fun a S => ?_)
    refine sExtract (vs := [.int .i64 r15.1, .int .i64 r15.2.1, .bool r15.2.2.1, .bool r15.2.2.2]) (.int .i64 r15.2.1) S (wN rfl) rfl (by kernel_rfl) rfl rfl (by decide) (fun a S => ?_)
    refine sExtract (vs := [.int .i64 r15.1, .int .i64 r15.2.1, .bool r15.2.2.1, .bool r15.2.2.2]) (.bool r15.2.2.1) S (wN rfl) rfl (by kernel_rfl) rfl rfl (by decide) (fun a S => ?_)
    refine sExtract (vs := [.int .i64 r15.1, .int .i64 r15.2.1, .bool r15.2.2.1, .bool r15.2.2.2]) (.bool r15.2.2.2) S (wN rfl) rfl (by kernel_rfl) rfl rfl (by decide) (fun a S => ?_)
    refine sMove (.int .i64 r15.1) S (wN rfl) (.inr rfl) (by kernel_rfl) rfl (by decide) (fun a S => ?_)
    refine sMove (.int .i64 r15.2.1) S (wN rfl) (.inr rfl) (by kernel_rfl) rfl (by decide) (fun a S => ?_)
    refine sMove (.bool r15.2.2.1) S (wN rfl) (.inr rfl) (by kernel_rfl) rfl (by decide) (fun a S => ?_)
    refine sMove (.bool r15.2.2.2) S (wN rfl) (.inr rfl) (by kernel_rfl) rfl (by decide) (fun a S => ?_)
    refine leafL (leafT (hK14 _ _ ?_))
    refine sSeq (fun K17 hK17 => ?_)
    refine sSeq (fun K18 hK18 => ?_)
    refine sRegion ?_
    refine sMove (.bool r15.2.2.2) S (wN rfl) (.inl rfl) (by kernel_rfl) rfl (by decide) (fun a S => ?_)
    refine sNot (b := r15.2.2.2) S (wN rfl) rfl (by kernel_rfl) rfl (by decide) (fun a S => ?_)
    refine leafL (leafT (hK18 _ _ ?_))
    rcases iteSome h with ⟨hc19, h⟩ | ⟨hc19, h⟩
    · refine sCondT (b := !r15.2.2.2) S (by kernel_rfl) hc19 ?_
      refine sSeq (fun K20 hK20 => ?_)
      refine sRegion ?_
      refine sBuild [] [.int .u8 0, .int .i64 0, .int .i64 0] S (wN rfl) rfl (by kernel_rfl) (by kernel_rfl) rfl (by decide) (fun a S => ?_)
      refine sStore (p := b3) (off := 0) (T := 41) (vs := [.int .u8 0, .int .i64 0, .int .i64 0]) (v := .agg #[.int .u8 0, .int .i64 0, .int .i64 0]) 0 [.int .u8 0, .int .i64 0, .int .i64 0] S (wN rfl) rfl (by kernel_rfl) (by kernel_rfl) rfl (by kernel_rfl) (by kernel_rfl) rfl (by simp) rfl (fun a w S => ?_)
      refine sMove (.int .i64 2) S (wN rfl) (.inr rfl) (by kernel_rfl) rfl (by decide) (fun a S => ?_)
      refine leafL (leafT (hK20 _ _ ?_))
      obtain rfl := Option.some.inj h
      have S := S.learn (fRep r_api_Count (.agg #[.int .u8 0, .int .i64 0, .int .i64 0]) (api_Count.mk 0 (api_Ratio.mk 0 0))) rfl
      exact wp_ret (rThen (sRet (.tuple #[.agg #[.int .u8 0, .int .i64 0, .int .i64 0], .int .i64 2]) S (rsl2 rfl (rvN (c := 4) (t := 41) (T := 41) (p := b3) 0 [.int .u8 0, .int .i64 0, .int .i64 0] S (by kernel_rfl) (by kernel_rfl) (by kernel_rfl) (by kernel_rfl)) (rvT (t := 5) (v := .int .i64 2) S (by kernel_rfl))) ⟨(.agg #[.int .u8 0, .int .i64 0, .int .i64 0]), rfl, S.mem.sel [] [0] (by decide) (by kernel_rfl) (by kernel_rfl)⟩))
    · refine sCondF (b := !r15.2.2.2) S (by kernel_rfl) hc19 ?_
      refine wp_skip (leafT (hK17 _ _ ?_))
      refine sSeq (fun K21 hK21 => ?_)
      refine sRegion ?_
      refine sMove (.int .i64 r12.1) S (wN rfl) (.inl rfl) (by kernel_rfl) rfl (by decide) (fun a S => ?_)
      refine sMove (.int .i64 r15.2.1) S (wN rfl) (.inl rfl) (by kernel_rfl) rfl (by decide) (fun a S => ?_)
      refine sBin (.int .i64 (w64 (r12.1 * r15.2.1))) S (wN rfl) rfl (by kernel_rfl) (by kernel_rfl) (bMul _ _ _ _ r12.1 r15.2.1) rfl (by decide) (fun a S => ?_)
      refine sMove (.int .i64 r12.2.1) S (wN rfl) (.inl rfl) (by kernel_rfl) rfl (by decide) (fun a S => ?_)
      refine sMove (.int .i64 r15.1) S (wN rfl) (.inl rfl) (by kernel_rfl) rfl (by decide) (fun a S => ?_)
      refine sBin (.int .i64 (w64 (r12.2.1 * r15.1))) S (wN rfl) rfl (by kernel_rfl) (by kernel_rfl) (bMul _ _ _ _ r12.2.1 r15.1) rfl (by decide) (fun a S => ?_)
      refine sMove (.int .i64 (w64 (r12.1 * r15.2.1))) S (wN rfl) (.inr rfl) (by kernel_rfl) rfl (by decide) (fun a S => ?_)
      refine sMove (.int .i64 (w64 (r12.2.1 * r15.1))) S (wN rfl) (.inr rfl) (by kernel_rfl) rfl (by decide) (fun a S => ?_)
      refine leafL (leafT (hK21 _ _ ?_))
      obtain ⟨t24, h, g25⟩ := bindSome h
      refine sCut (fun a w => ∃ o22, ∃ o23, (o22, o23) = t24 ∧ St [] E [] w0 116 a w [(1, .int .u8 p1), (2, .pointer (some ⟨b2, 0, none⟩)), (4, .pointer (some ⟨b3, 0, none⟩)), (7, .int .i64 r12.1), (8, .int .i64 r12.2.1), (9, .bool r12.2.2.1), (11, .int .i64 r15.1), (12, .int .i64 r15.2.1), (13, .bool r15.2.2.1), (15, .int .i64 o22), (16, .int .i64 o23)] [eBox b2 41 [.int .u8 p0.System, .int .i64 p0.N.Num, .int .i64 p0.N.Den], eBox b3 41 [.int .u8 0, .int .i64 0, .int .i64 0]] []) ?_ (fun a w hI => ?_)
      · obtain ⟨t27, h, g28⟩ := bindSome h
        refine sCut (fun a w => ∃ o26, o26 = t27 ∧ St [] E [] w0 116 a w [(1, .int .u8 p1), (2, .pointer (some ⟨b2, 0, none⟩)), (4, .pointer (some ⟨b3, 0, none⟩)), (7, .int .i64 r12.1), (8, .int .i64 r12.2.1), (9, .bool r12.2.2.1), (11, .int .i64 r15.1), (12, .int .i64 r15.2.1), (13, .bool r15.2.2.1), (15, .int .i64 (w64 (r12.1 * r15.2.1))), (16, .int .i64 (w64 (r12.2.1 * r15.1))), (56, .bool o26)] [eBox b2 41 [.int .u8 p0.System, .int .i64 p0.N.Num, .int .i64 p0.N.Den], eBox b3 41 [.int .u8 0, .int .i64 0, .int .i64 0]] []) ?_ (fun a w hI => ?_)
        · refine sRegion ?_
          refine sMove (.bool r12.2.2.1) S (wN rfl) (.inl rfl) (by kernel_rfl) rfl (by decide) (fun a S => ?_)
          refine sNot (b := r12.2.2.1) S (wN rfl) rfl (by kernel_rfl) rfl (by decide) (fun a S => ?_)
          refine sMove (.bool (!r12.2.2.1)) S (wN rfl) (.inl rfl) (by kernel_rfl) rfl (by decide) (fun a S => ?_)
          rcases iteSome h with ⟨hc29, h⟩ | ⟨hc29, h⟩
          · refine sMove (.bool r15.2.2.1) S (wG (c := !r12.2.2.1) 2 true 53 rfl rfl (by kernel_rfl) hc29) (.inl rfl) (by kernel_rfl) rfl (by decide) (fun a S => ?_)
            refine sNot (b := r15.2.2.1) S (wG (c := !r12.2.2.1) 2 true 53 rfl rfl (by kernel_rfl) hc29) rfl (by kernel_rfl) rfl (by decide) (fun a S => ?_)
            refine sPickT (b := !r12.2.2.1) (.bool (!r15.2.2.1)) S (wN rfl) rfl (by kernel_rfl) hc29 (by kernel_rfl) rfl (by decide) (fun a S => ?_)
            exact leafL (leafT (⟨!r15.2.2.1, Option.some.inj h, S.fix [1, 0] [] (by decide) (by kernel_rfl) (by kernel_rfl) (by kernel_rfl)⟩))
          · refine sSkip (c := !r12.2.2.1) 2 true 53 54 S rfl rfl (by kernel_rfl) hc29 rfl (by decide) (fun a S => ?_)
            refine sSkip (c := !r12.2.2.1) 2 true 53 55 S rfl rfl (by kernel_rfl) hc29 rfl (by decide) (fun a S => ?_)
            refine sPickF (b := !r12.2.2.1) (.bool false) S (wN rfl) rfl (by kernel_rfl) hc29 (by kernel_rfl) rfl (by decide) (fun a S => ?_)
            exact leafL (leafT (⟨false, Option.some.inj h, S.fix [1, 0] [] (by decide) (by kernel_rfl) (by kernel_rfl) (by kernel_rfl)⟩))
        · obtain ⟨o26, rfl, S⟩ := hI
          have h := g28
          clear g28
          try dsimp only at h
          rcases iteSome h with ⟨hc30, h⟩ | ⟨hc30, h⟩
          · refine sCondT (b := o26) S (by kernel_rfl) hc30 ?_
            refine sRegion ?_
            refine sMove (.int .i64 (w64 (r12.2.1 * r15.1))) S (wN rfl) (.inl rfl) (by kernel_rfl) rfl (by decide) (fun a S => ?_)
            refine sMove (.int .i64 (w64 (r12.1 * r15.2.1))) S (wN rfl) (.inl rfl) (by kernel_rfl) rfl (by decide) (fun a S => ?_)
            refine sMove (.int .i64 (w64 (r12.2.1 * r15.1))) S (wN rfl) (.inr rfl) (by kernel_rfl) rfl (by decide) (fun a S => ?_)
            refine sMove (.int .i64 (w64 (r12.1 * r15.2.1))) S (wN rfl) (.inr rfl) (by kernel_rfl) rfl (by decide) (fun a S => ?_)
            exact leafL (leafT (⟨w64 (r12.2.1 * r15.1), w64 (r12.1 * r15.2.1), Option.some.inj h, S.fix [0, 1] [] (by decide) (by kernel_rfl) (by kernel_rfl) (by kernel_rfl)⟩))
          · refine sCondF (b := o26) S (by kernel_rfl) hc30 ?_
            exact wp_skip (leafT (⟨w64 (r12.1 * r15.2.1), w64 (r12.2.1 * r15.1), Option.some.inj h, S.fix [0, 1] [] (by decide) (by kernel_rfl) (by kernel_rfl) (by kernel_rfl)⟩))
      · obtain ⟨o22, o23, rfl, S⟩ := hI
        have h := g25
        clear g25
        try dsimp only at h
        obtain ⟨t33, h, g34⟩ := bindSome h
        refine sCut (fun a w => ∃ o31, ∃ o32, (o31, o32) = t33 ∧ St [] E [] w0 116 a w [(1, .int .u8 p1), (2, .pointer (some ⟨b2, 0, none⟩)), (4, .pointer (some ⟨b3, 0, none⟩)), (9, .bool r12.2.2.1), (13, .bool r15.2.2.1), (15, .int .i64 o31), (16, .int .i64 o32)] [eBox b2 41 [.int .u8 p0.System, .int .i64 p0.N.Num, .int .i64 p0.N.Den], eBox b3 41 [.int .u8 0, .int .i64 0, .int .i64 0]] []) ?_ (fun a w hI => ?_)
        · obtain ⟨t36, h, g37⟩ := bindSome h
          refine sCut (fun a w => ∃ o35, o35 = t36 ∧ St [] E [] w0 116 a w [(1, .int .u8 p1), (2, .pointer (some ⟨b2, 0, none⟩)), (4, .pointer (some ⟨b3, 0, none⟩)), (7, .int .i64 r12.1), (8, .int .i64 r12.2.1), (9, .bool r12.2.2.1), (11, .int .i64 r15.1), (12, .int .i64 r15.2.1), (13, .bool r15.2.2.1), (15, .int .i64 o22), (16, .int .i64 o23), (63, .bool o35)] [eBox b2 41 [.int .u8 p0.System, .int .i64 p0.N.Num, .int .i64 p0.N.Den], eBox b3 41 [.int .u8 0, .int .i64 0, .int .i64 0]] []) ?_ (fun a w hI => ?_)
          · refine sRegion ?_
            refine sMove (.bool r12.2.2.1) S (wN rfl) (.inl rfl) (by kernel_rfl) rfl (by decide) (fun a S => ?_)
            refine sMove (.bool r12.2.2.1) S (wN rfl) (.inl rfl) (by kernel_rfl) rfl (by decide) (fun a S => ?_)
            rcases iteSome h with ⟨hc38, h⟩ | ⟨hc38, h⟩
            · refine sMove (.bool r15.2.2.1) S (wG (c := r12.2.2.1) 1 true 60 rfl rfl (by kernel_rfl) hc38) (.inl rfl) (by kernel_rfl) rfl (by decide) (fun a S => ?_)
              refine sNot (b := r15.2.2.1) S (wG (c := r12.2.2.1) 1 true 60 rfl rfl (by kernel_rfl) hc38) rfl (by kernel_rfl) rfl (by decide) (fun a S => ?_)
              refine sPickT (b := r12.2.2.1) (.bool (!r15.2.2.1)) S (wN rfl) rfl (by kernel_rfl) hc38 (by kernel_rfl) rfl (by decide) (fun a S => ?_)
              exact leafL (leafT (⟨!r15.2.2.1, Option.some.inj h, S.fix [0, 1] [] (by decide) (by kernel_rfl) (by kernel_rfl) (by kernel_rfl)⟩))
            · refine sSkip (c := r12.2.2.1) 1 true 60 61 S rfl rfl (by kernel_rfl) hc38 rfl (by decide) (fun a S => ?_)
              refine sSkip (c := r12.2.2.1) 1 true 60 62 S rfl rfl (by kernel_rfl) hc38 rfl (by decide) (fun a S => ?_)
              refine sPickF (b := r12.2.2.1) (.bool false) S (wN rfl) rfl (by kernel_rfl) hc38 (by kernel_rfl) rfl (by decide) (fun a S => ?_)
              exact leafL (leafT (⟨false, Option.some.inj h, S.fix [0, 1] [] (by decide) (by kernel_rfl) (by kernel_rfl) (by kernel_rfl)⟩))
          · obtain ⟨o35, rfl, S⟩ := hI
            have h := g37
            clear g37
            try dsimp only at h
            rcases iteSome h with ⟨hc39, h⟩ | ⟨hc39, h⟩
            · refine sCondT (b := o35) S (by kernel_rfl) hc39 ?_
              refine sRegion ?_
              refine sMove (.int .i64 r15.1) S (wN rfl) (.inl rfl) (by kernel_rfl) rfl (by decide) (fun a S => ?_)
              refine sMove (.int .i64 r12.2.1) S (wN rfl) (.inl rfl) (by kernel_rfl) rfl (by decide) (fun a S => ?_)
              refine sBin (.int .i64 (w64 (r15.1 * r12.2.1))) S (wN rfl) rfl (by kernel_rfl) (by kernel_rfl) (bMul _ _ _ _ r15.1 r12.2.1) rfl (by decide) (fun a S => ?_)
              refine sMove (.int .i64 r15.2.1) S (wN rfl) (.inl rfl) (by kernel_rfl) rfl (by decide) (fun a S => ?_)
              refine sMove (.int .i64 r12.1) S (wN rfl) (.inl rfl) (by kernel_rfl) rfl (by decide) (fun a S => ?_)
              refine sBin (.int .i64 (w64 (r15.2.1 * r12.1))) S (wN rfl) rfl (by kernel_rfl) (by kernel_rfl) (bMul _ _ _ _ r15.2.1 r12.1) rfl (by decide) (fun a S => ?_)
              refine sMove (.int .i64 (w64 (r15.1 * r12.2.1))) S (wN rfl) (.inr rfl) (by kernel_rfl) rfl (by decide) (fun a S => ?_)
              refine sMove (.int .i64 (w64 (r15.2.1 * r12.1))) S (wN rfl) (.inr rfl) (by kernel_rfl) rfl (by decide) (fun a S => ?_)
              exact leafL (leafT (⟨w64 (r15.1 * r12.2.1), w64 (r15.2.1 * r12.1), Option.some.inj h, S.fix [0, 1] [] (by decide) (by kernel_rfl) (by kernel_rfl) (by kernel_rfl)⟩))
            · refine sCondF (b := o35) S (by kernel_rfl) hc39 ?_
              exact wp_skip (leafT (⟨o22, o23, Option.some.inj h, S.fix [0, 1] [] (by decide) (by kernel_rfl) (by kernel_rfl) (by kernel_rfl)⟩))
        · obtain ⟨o31, o32, rfl, S⟩ := hI
          have h := g34
          clear g34
          try dsimp only at h
          refine sSeq (fun K40 hK40 => ?_)
          refine sRegion ?_
          refine sMove (.int .i64 o31) S (wN rfl) (.inl rfl) (by kernel_rfl) rfl (by decide) (fun a S => ?_)
          refine sConv (k := .i64) (k2 := .u64) (b := o31) S (wN rfl) rfl Try.underlying2 Try.underlying60 (by kernel_rfl) rfl (by decide) (fun a S => ?_)
          refine sMove (.int .i64 o32) S (wN rfl) (.inl rfl) (by kernel_rfl) rfl (by decide) (fun a S => ?_)
          refine sConv (k := .i64) (k2 := .u64) (b := o32) S (wN rfl) rfl Try.underlying2 Try.underlying60 (by kernel_rfl) rfl (by decide) (fun a S => ?_)
          obtain ⟨r41, hx42, h⟩ := bindSome h
          have S1 := S.mem
          refine sCallQ (X := Unit) (f := 38) (vs := [.int .u64 (IntKind.u64.wrap o31), .int .u64 (IntKind.u64.wrap o32)]) (val := fun _ => .int .u64 r41) S (wN rfl) rfl callee38 (by kernel_rfl) (S1.quiet [] (by kernel_rfl)) (fun E1 w1 S1 => c_yarn_gcd E1 w1 (IntKind.u64.wrap o31) (IntKind.u64.wrap o32) r41 hx42 S1) rfl (by decide) (fun _ a w S => ?_)
          refine sConv (k := .u64) (k2 := .i64) (b := r41) S (wN rfl) rfl Try.underlying60 Try.underlying2 (by kernel_rfl) rfl (by decide) (fun a S => ?_)
          refine sMove (.int .i64 (IntKind.i64.wrap r41)) S (wN rfl) (.inr rfl) (by kernel_rfl) rfl (by decide) (fun a S => ?_)
          refine leafL (leafT (hK40 _ _ ?_))
          refine sSeq (fun K43 hK43 => ?_)
          obtain ⟨z44, hx45, h⟩ := bindSome h
          obtain ⟨z46, hx47, h⟩ := bindSome h
          refine sDraw (nf := []) (W := [(0, 76, .int .i64 o31), (1, 77, .int .i64 (IntKind.i64.wrap r41)), (2, 78, .int .i64 z44), (3, 79, .int .i64 o32), (4, 80, .int .i64 (IntKind.i64.wrap r41)), (5, 81, .int .i64 z46), (6, 15, .int .i64 z44), (7, 16, .int .i64 z46)]) (by kernel_rfl) S ?_
          refine node_by (A := anc_yarn_Convert_0) (nf := []) (Y := []) (W := [(0, 76, .int .i64 o31), (1, 77, .int .i64 (IntKind.i64.wrap r41)), (2, 78, .int .i64 z44), (3, 79, .int .i64 o32), (4, 80, .int .i64 (IntKind.i64.wrap r41)), (5, 81, .int .i64 z46), (6, 15, .int .i64 z44), (7, 16, .int .i64 z46)]) 8 (by kernel_rfl) (by kernel_rfl) (by kernel_rfl) (by kernel_rfl) (by kernel_rfl) [0, 1, 2, 3, 4, 5, 6, 7] (by kernel_rfl) (by decide) (by decide) (aF 0 7 (by decide) ?_ (aF 1 6 (by decide) ?_ (aF 2 5 (by decide) ?_ (aF 3 4 (by decide) ?_ (aF 4 3 (by decide) ?_ (aF 5 2 (by decide) ?_ (aF 6 1 (by decide) ?_ (aF 7 0 (by decide) ?_ (trivial))))))))) [(1, .int .u8 p1), (2, .pointer (some ⟨b2, 0, none⟩)), (4, .pointer (some ⟨b3, 0, none⟩)), (9, .bool r12.2.2.1), (13, .bool r15.2.2.1), (15, .int .i64 z44), (16, .int .i64 z46)] (fin_of [none, none, none, none, none, some 6, some 7] rfl (by kernel_rfl) (by kernel_rfl)) (fun _ a w S => ?_)
          · refine fI 76 (.int .i64 o31) [(15, .int .i64 o31)] 0 [none] rfl rfl (by kernel_rfl) rfl (by kernel_rfl) (by kernel_rfl) fun G a w S => ?_
            refine sMove (.int .i64 o31) S (wN rfl) (.inl rfl) (by kernel_rfl) rfl (by decide) (fun a S => ?_)
            exact leafL ⟨rfl, S⟩
          · refine fI 77 (.int .i64 (IntKind.i64.wrap r41)) [(17, .int .i64 (IntKind.i64.wrap r41))] 1 [none] rfl rfl (by kernel_rfl) rfl (by kernel_rfl) (by kernel_rfl) fun G a w S => ?_
            refine sMove (.int .i64 (IntKind.i64.wrap r41)) S (wN rfl) (.inl rfl) (by kernel_rfl) rfl (by decide) (fun a S => ?_)
            exact leafL ⟨rfl, S⟩
          · refine fI 78 (.int .i64 z44) [(76, .int .i64 o31), (77, .int .i64 (IntKind.i64.wrap r41))] 2 [some 0, some 1] rfl rfl (by kernel_rfl) rfl (by kernel_rfl) (by kernel_rfl) fun G a w S => ?_
            refine sBin (.int .i64 z44) S (wN rfl) rfl (by kernel_rfl) (by kernel_rfl) (bQuo _ _ _ _ (x := o31) (y := IntKind.i64.wrap r41) hx45) rfl (by decide) (fun a S => ?_)
            exact leafL ⟨rfl, S⟩
          · refine fI 79 (.int .i64 o32) [(16, .int .i64 o32)] 3 [none] rfl rfl (by kernel_rfl) rfl (by kernel_rfl) (by kernel_rfl) fun G a w S => ?_
            refine sMove (.int .i64 o32) S (wN rfl) (.inl rfl) (by kernel_rfl) rfl (by decide) (fun a S => ?_)
            exact leafL ⟨rfl, S⟩
          · refine fI 80 (.int .i64 (IntKind.i64.wrap r41)) [(17, .int .i64 (IntKind.i64.wrap r41))] 4 [none] rfl rfl (by kernel_rfl) rfl (by kernel_rfl) (by kernel_rfl) fun G a w S => ?_
            refine sMove (.int .i64 (IntKind.i64.wrap r41)) S (wN rfl) (.inl rfl) (by kernel_rfl) rfl (by decide) (fun a S => ?_)
            exact leafL ⟨rfl, S⟩
          · refine fI 81 (.int .i64 z46) [(79, .int .i64 o32), (80, .int .i64 (IntKind.i64.wrap r41))] 5 [some 3, some 4] rfl rfl (by kernel_rfl) rfl (by kernel_rfl) (by kernel_rfl) fun G a w S => ?_
            refine sBin (.int .i64 z46) S (wN rfl) rfl (by kernel_rfl) (by kernel_rfl) (bQuo _ _ _ _ (x := o32) (y := IntKind.i64.wrap r41) hx47) rfl (by decide) (fun a S => ?_)
            exact leafL ⟨rfl, S⟩
          · refine fI 15 (.int .i64 z44) [(78, .int .i64 z44)] 6 [some 2] rfl rfl (by kernel_rfl) rfl (by kernel_rfl) (by kernel_rfl) fun G a w S => ?_
            refine sMove (.int .i64 z44) S (wN rfl) (.inr rfl) (by kernel_rfl) rfl (by decide) (fun a S => ?_)
            exact leafL ⟨rfl, S⟩
          · refine fI 16 (.int .i64 z46) [(81, .int .i64 z46)] 7 [some 5] rfl rfl (by kernel_rfl) rfl (by kernel_rfl) (by kernel_rfl) fun G a w S => ?_
            refine sMove (.int .i64 z46) S (wN rfl) (.inr rfl) (by kernel_rfl) rfl (by decide) (fun a S => ?_)
            exact leafL ⟨rfl, S⟩
          · refine leafT (hK43 _ _ ?_)
            refine sSeq (fun K48 hK48 => ?_)
            refine sRegion ?_
            refine sField (b := b2) (off := 0) 1 1 S (wN rfl) rfl (by kernel_rfl) (by kernel_rfl) rfl rfl (by decide) (fun a S => ?_)
            refine sLoadN (p := b2) (off := 1) (T := 41) (vs := [.int .u8 p0.System, .int .i64 p0.N.Num, .int .i64 p0.N.Den]) 0 [.int .i64 p0.N.Num, .int .i64 p0.N.Den] S (wN rfl) rfl (by kernel_rfl) (by kernel_rfl) (by kernel_rfl) (by kernel_rfl) rfl rfl (by decide) (fun a S => ?_)
            refine sAlloc (.agg #[.int .i64 0, .int .i64 0]) S (wN rfl) rfl (by kernel_rfl) [.int .i64 0, .int .i64 0] rfl rfl (by decide) (fun a b49 w S => ?_)
            refine sStore (p := b49) (off := 0) (T := 23) (vs := [.int .i64 0, .int .i64 0]) (v := .agg #[.int .i64 p0.N.Num, .int .i64 p0.N.Den]) 0 [.int .i64 p0.N.Num, .int .i64 p0.N.Den] S (wN rfl) rfl (by kernel_rfl) (by kernel_rfl) rfl (by kernel_rfl) (by kernel_rfl) rfl (by simp) rfl (fun a w S => ?_)
            refine leafL (leafT (hK48 _ _ ?_))
            obtain ⟨t52, h, g53⟩ := bindSome h
            refine sCut (fun a w => ∃ o50, ∃ o51, (o50, o51) = t52 ∧ St [] E [] w0 116 a w [(1, .int .u8 p1), (4, .pointer (some ⟨b3, 0, none⟩)), (15, .int .i64 z44), (16, .int .i64 z46), (18, .pointer (some ⟨b49, 0, none⟩))] [eBox b3 41 [.int .u8 0, .int .i64 0, .int .i64 0], eBox b49 23 [.int .i64 o50, .int .i64 o51]] []) ?_ (fun a w hI => ?_)
            · refine sSeq (fun K54 hK54 => ?_)
              refine sRegion ?_
              refine sMove (.bool r12.2.2.1) S (wN rfl) (.inl rfl) (by kernel_rfl) rfl (by decide) (fun a S => ?_)
              refine sMove (.bool r15.2.2.1) S (wN rfl) (.inl rfl) (by kernel_rfl) rfl (by decide) (fun a S => ?_)
              refine sBin (.bool (r12.2.2.1 != r15.2.2.1)) S (wN rfl) rfl (by kernel_rfl) (by kernel_rfl) (bNeB _ _ _ _ Try.underlying4 r12.2.2.1 r15.2.2.1) rfl (by decide) (fun a S => ?_)
              refine leafL (leafT (hK54 _ _ ?_))
              rcases iteSome h with ⟨hc55, h⟩ | ⟨hc55, h⟩
              · refine sCondT (b := r12.2.2.1 != r15.2.2.1) S (by kernel_rfl) hc55 ?_
                refine sRegion ?_
                refine sField (b := b49) (off := 0) 1 1 S (wN rfl) rfl (by kernel_rfl) (by kernel_rfl) rfl rfl (by decide) (fun a S => ?_)
                refine sLoad1 (p := b49) (off := 1) (T := 23) (vs := [.int .i64 p0.N.Num, .int .i64 p0.N.Den]) 0 (.int .i64 p0.N.Den) S (wN rfl) rfl (by kernel_rfl) (by kernel_rfl) (by kernel_rfl) rfl rfl (by decide) (fun a S => ?_)
                refine sField (b := b49) (off := 0) 0 0 S (wN rfl) rfl (by kernel_rfl) (by kernel_rfl) rfl rfl (by decide) (fun a S => ?_)
                refine sLoad1 (p := b49) (off := 0) (T := 23) (vs := [.int .i64 p0.N.Num, .int .i64 p0.N.Den]) 0 (.int .i64 p0.N.Num) S (wN rfl) rfl (by kernel_rfl) (by kernel_rfl) (by kernel_rfl) rfl rfl (by decide) (fun a S => ?_)
                refine sField (b := b49) (off := 0) 0 0 S (wN rfl) rfl (by kernel_rfl) (by kernel_rfl) rfl rfl (by decide) (fun a S => ?_)
                refine sStore (p := b49) (off := 0) (T := 23) (vs := [.int .i64 p0.N.Num, .int .i64 p0.N.Den]) (v := .int .i64 p0.N.Den) 0 [.int .i64 p0.N.Den] S (wN rfl) rfl (by kernel_rfl) (by kernel_rfl) rfl (by kernel_rfl) (by kernel_rfl) rfl (by simp) rfl (fun a w S => ?_)
                refine sField (b := b49) (off := 0) 1 1 S (wN rfl) rfl (by kernel_rfl) (by kernel_rfl) rfl rfl (by decide) (fun a S => ?_)
                refine sStore (p := b49) (off := 1) (T := 23) (vs := [.int .i64 p0.N.Den, .int .i64 p0.N.Den]) (v := .int .i64 p0.N.Num) 0 [.int .i64 p0.N.Num] S (wN rfl) rfl (by kernel_rfl) (by kernel_rfl) rfl (by kernel_rfl) (by kernel_rfl) rfl (by simp) rfl (fun a w S => ?_)
                exact leafL (leafT (⟨p0.N.Den, p0.N.Num, Option.some.inj h, S.fix [2, 0] [] (by decide) (by kernel_rfl) (by kernel_rfl) (by kernel_rfl)⟩))
              · refine sCondF (b := r12.2.2.1 != r15.2.2.1) S (by kernel_rfl) hc55 ?_
                exact wp_skip (leafT (⟨p0.N.Num, p0.N.Den, Option.some.inj h, S.fix [2, 0] [] (by decide) (by kernel_rfl) (by kernel_rfl) (by kernel_rfl)⟩))
            · obtain ⟨o50, o51, rfl, S⟩ := hI
              have h := g53
              clear g53
              try dsimp only at h
              refine sSeq (fun K56 hK56 => ?_)
              refine sRegion ?_
              refine sMove (.int .i64 z44) S (wN rfl) (.inl rfl) (by kernel_rfl) rfl (by decide) (fun a S => ?_)
              refine sField (b := b49) (off := 0) 0 0 S (wN rfl) rfl (by kernel_rfl) (by kernel_rfl) rfl rfl (by decide) (fun a S => ?_)
              refine sLoad1 (p := b49) (off := 0) (T := 23) (vs := [.int .i64 o50, .int .i64 o51]) 1 (.int .i64 o50) S (wN rfl) rfl (by kernel_rfl) (by kernel_rfl) (by kernel_rfl) rfl rfl (by decide) (fun a S => ?_)
              refine sBin (.int .i64 (w64 (z44 * o50))) S (wN rfl) rfl (by kernel_rfl) (by kernel_rfl) (bMul _ _ _ _ z44 o50) rfl (by decide) (fun a S => ?_)
              refine sMove (.int .i64 z46) S (wN rfl) (.inl rfl) (by kernel_rfl) rfl (by decide) (fun a S => ?_)
              refine sField (b := b49) (off := 0) 1 1 S (wN rfl) rfl (by kernel_rfl) (by kernel_rfl) rfl rfl (by decide) (fun a S => ?_)
              refine sLoad1 (p := b49) (off := 1) (T := 23) (vs := [.int .i64 o50, .int .i64 o51]) 1 (.int .i64 o51) S (wN rfl) rfl (by kernel_rfl) (by kernel_rfl) (by kernel_rfl) rfl rfl (by decide) (fun a S => ?_)
              refine sBin (.int .i64 (w64 (z46 * o51))) S (wN rfl) rfl (by kernel_rfl) (by kernel_rfl) (bMul _ _ _ _ z46 o51) rfl (by decide) (fun a S => ?_)
              obtain ⟨r57, hx58, h⟩ := bindSome h
              refine sCall (X := Value) (f := 48) (vs := [.int .i64 (w64 (z44 * o50)), .int .i64 (w64 (z46 * o51))]) (val := c_yarn_Make_val r57) (B' := fun _ => []) (D' := c_yarn_Make_D r57) [] [eBox b3 41 [.int .u8 0, .int .i64 0, .int .i64 0], eBox b49 23 [.int .i64 o50, .int .i64 o51]] [] [0, 1] [] S (wN rfl) rfl callee48 (by kernel_rfl) (by decide) (by kernel_rfl) (by kernel_rfl) (fun E1 w1 S1 => c_yarn_Make E1 w1 (w64 (z44 * o50)) (w64 (z46 * o51)) r57 hx58 S1) rfl (by decide) (fun u59 a w S => ?_)
              obtain rfl : u59 = .agg #[.int .i64 r57.1.Num, .int .i64 r57.1.Den] := S.mem.know (i := 0) (e := fRep r_api_Ratio (u59) r57.1) (by kernel_rfl)
              refine sMove (.tuple #[.agg #[.int .i64 r57.1.Num, .int .i64 r57.1.Den], .int .i64 r57.2]) S (wN rfl) (.inl rfl) (by kernel_rfl) rfl (by decide) (fun a S => ?_)
              refine sExtract (vs := [.agg #[.int .i64 r57.1.Num, .int .i64 r57.1.Den], .int .i64 r57.2]) (.agg #[.int .i64 r57.1.Num, .int .i64 r57.1.Den]) S (wN rfl) rfl (by kernel_rfl) rfl rfl (by decide) (fun a S => ?_)
              refine sExtract (vs := [.agg #[.int .i64 r57.1.Num, .int .i64 r57.1.Den], .int .i64 r57.2]) (.int .i64 r57.2) S (wN rfl) rfl (by kernel_rfl) rfl rfl (by decide) (fun a S => ?_)
              refine sAlloc (.agg #[.int .i64 0, .int .i64 0]) S (wN rfl) rfl (by kernel_rfl) [.int .i64 0, .int .i64 0] rfl rfl (by decide) (fun a b60 w S => ?_)
              refine sStore (p := b60) (off := 0) (T := 23) (vs := [.int .i64 0, .int .i64 0]) (v := .agg #[.int .i64 r57.1.Num, .int .i64 r57.1.Den]) 0 [.int .i64 r57.1.Num, .int .i64 r57.1.Den] S (wN rfl) rfl (by kernel_rfl) (by kernel_rfl) rfl (by kernel_rfl) (by kernel_rfl) rfl (by simp) rfl (fun a w S => ?_)
              refine sMove (.int .i64 r57.2) S (wN rfl) (.inr rfl) (by kernel_rfl) rfl (by decide) (fun a S => ?_)
              refine leafL (leafT (hK56 _ _ ?_))
              refine sSeq (fun K61 hK61 => ?_)
              refine sSeq (fun K62 hK62 => ?_)
              refine sRegion ?_
              refine sMove (.int .i64 r57.2) S (wN rfl) (.inl rfl) (by kernel_rfl) rfl (by decide) (fun a S => ?_)
              refine sBin (.bool (r57.2 != 0)) S (wN rfl) rfl (by kernel_rfl) (by kernel_rfl) (bNe _ _ _ _ .i64 r57.2 0) rfl (by decide) (fun a S => ?_)
              refine leafL (leafT (hK62 _ _ ?_))
              rcases iteSome h with ⟨hc63, h⟩ | ⟨hc63, h⟩
              · refine sCondT (b := r57.2 != 0) S (by kernel_rfl) hc63 ?_
                refine sSeq (fun K64 hK64 => ?_)
                refine sRegion ?_
                refine sBuild [] [.int .u8 0, .int .i64 0, .int .i64 0] S (wN rfl) rfl (by kernel_rfl) (by kernel_rfl) rfl (by decide) (fun a S => ?_)
                refine sMove (.int .i64 r57.2) S (wN rfl) (.inl rfl) (by kernel_rfl) rfl (by decide) (fun a S => ?_)
                refine sStore (p := b3) (off := 0) (T := 41) (vs := [.int .u8 0, .int .i64 0, .int .i64 0]) (v := .agg #[.int .u8 0, .int .i64 0, .int .i64 0]) 1 [.int .u8 0, .int .i64 0, .int .i64 0] S (wN rfl) rfl (by kernel_rfl) (by kernel_rfl) rfl (by kernel_rfl) (by kernel_rfl) rfl (by simp) rfl (fun a w S => ?_)
                refine sMove (.int .i64 r57.2) S (wN rfl) (.inr rfl) (by kernel_rfl) rfl (by decide) (fun a S => ?_)
                refine leafL (leafT (hK64 _ _ ?_))
                obtain rfl := Option.some.inj h
                have S := S.learn (fRep r_api_Count (.agg #[.int .u8 0, .int .i64 0, .int .i64 0]) (api_Count.mk 0 (api_Ratio.mk 0 0))) rfl
                exact wp_ret (rThen (sRet (.tuple #[.agg #[.int .u8 0, .int .i64 0, .int .i64 0], .int .i64 r57.2]) S (rsl2 rfl (rvN (c := 4) (t := 41) (T := 41) (p := b3) 0 [.int .u8 0, .int .i64 0, .int .i64 0] S (by kernel_rfl) (by kernel_rfl) (by kernel_rfl) (by kernel_rfl)) (rvT (t := 5) (v := .int .i64 r57.2) S (by kernel_rfl))) ⟨(.agg #[.int .u8 0, .int .i64 0, .int .i64 0]), rfl, S.mem.sel [] [0] (by decide) (by kernel_rfl) (by kernel_rfl)⟩))
              · refine sCondF (b := r57.2 != 0) S (by kernel_rfl) hc63 ?_
                refine wp_skip (leafT (hK61 _ _ ?_))
                refine sSeq (fun K65 hK65 => ?_)
                refine sSeq (fun K66 hK66 => ?_)
                refine sRegion ?_
                refine sField (b := b60) (off := 0) 0 0 S (wN rfl) rfl (by kernel_rfl) (by kernel_rfl) rfl rfl (by decide) (fun a S => ?_)
                refine sLoad1 (p := b60) (off := 0) (T := 23) (vs := [.int .i64 r57.1.Num, .int .i64 r57.1.Den]) 0 (.int .i64 r57.1.Num) S (wN rfl) rfl (by kernel_rfl) (by kernel_rfl) (by kernel_rfl) rfl rfl (by decide) (fun a S => ?_)
                refine sBin (.bool (r57.1.Num == 0)) S (wN rfl) rfl (by kernel_rfl) (by kernel_rfl) (bEq _ _ _ _ .i64 r57.1.Num 0) rfl (by decide) (fun a S => ?_)
                refine leafL (leafT (hK66 _ _ ?_))
                rcases iteSome h with ⟨hc67, h⟩ | ⟨hc67, h⟩
                · refine sCondT (b := r57.1.Num == 0) S (by kernel_rfl) hc67 ?_
                  refine sSeq (fun K68 hK68 => ?_)
                  refine sRegion ?_
                  refine sBuild [] [.int .u8 0, .int .i64 0, .int .i64 0] S (wN rfl) rfl (by kernel_rfl) (by kernel_rfl) rfl (by decide) (fun a S => ?_)
                  refine sStore (p := b3) (off := 0) (T := 41) (vs := [.int .u8 0, .int .i64 0, .int .i64 0]) (v := .agg #[.int .u8 0, .int .i64 0, .int .i64 0]) 1 [.int .u8 0, .int .i64 0, .int .i64 0] S (wN rfl) rfl (by kernel_rfl) (by kernel_rfl) rfl (by kernel_rfl) (by kernel_rfl) rfl (by simp) rfl (fun a w S => ?_)
                  refine sMove (.int .i64 16) S (wN rfl) (.inr rfl) (by kernel_rfl) rfl (by decide) (fun a S => ?_)
                  refine leafL (leafT (hK68 _ _ ?_))
                  obtain rfl := Option.some.inj h
                  have S := S.learn (fRep r_api_Count (.agg #[.int .u8 0, .int .i64 0, .int .i64 0]) (api_Count.mk 0 (api_Ratio.mk 0 0))) rfl
                  exact wp_ret (rThen (sRet (.tuple #[.agg #[.int .u8 0, .int .i64 0, .int .i64 0], .int .i64 16]) S (rsl2 rfl (rvN (c := 4) (t := 41) (T := 41) (p := b3) 0 [.int .u8 0, .int .i64 0, .int .i64 0] S (by kernel_rfl) (by kernel_rfl) (by kernel_rfl) (by kernel_rfl)) (rvT (t := 5) (v := .int .i64 16) S (by kernel_rfl))) ⟨(.agg #[.int .u8 0, .int .i64 0, .int .i64 0]), rfl, S.mem.sel [] [0] (by decide) (by kernel_rfl) (by kernel_rfl)⟩))
                · refine sCondF (b := r57.1.Num == 0) S (by kernel_rfl) hc67 ?_
                  refine wp_skip (leafT (hK65 _ _ ?_))
                  refine sSeq (fun K69 hK69 => ?_)
                  refine sRegion ?_
                  refine sMove (.int .u8 p1) S (wN rfl) (.inl rfl) (by kernel_rfl) rfl (by decide) (fun a S => ?_)
                  refine sLoadN (p := b60) (off := 0) (T := 23) (vs := [.int .i64 r57.1.Num, .int .i64 r57.1.Den]) 0 [.int .i64 r57.1.Num, .int .i64 r57.1.Den] S (wN rfl) rfl (by kernel_rfl) (by kernel_rfl) (by kernel_rfl) (by kernel_rfl) rfl rfl (by decide) (fun a S => ?_)
                  refine sBuild [(0, .int .u8 p1), (1, .agg #[.int .i64 r57.1.Num, .int .i64 r57.1.Den])] [.int .u8 p1, .int .i64 r57.1.Num, .int .i64 r57.1.Den] S (wN rfl) rfl (by kernel_rfl) (by kernel_rfl) rfl (by decide) (fun a S => ?_)
                  refine sStore (p := b3) (off := 0) (T := 41) (vs := [.int .u8 0, .int .i64 0, .int .i64 0]) (v := .agg #[.int .u8 p1, .int .i64 r57.1.Num, .int .i64 r57.1.Den]) 1 [.int .u8 p1, .int .i64 r57.1.Num, .int .i64 r57.1.Den] S (wN rfl) rfl (by kernel_rfl) (by kernel_rfl) rfl (by kernel_rfl) (by kernel_rfl) rfl (by simp) rfl (fun a w S => ?_)
                  refine sMove (.int .i64 0) S (wN rfl) (.inr rfl) (by kernel_rfl) rfl (by decide) (fun a S => ?_)
                  refine leafL (leafT (hK69 _ _ ?_))
                  obtain rfl := Option.some.inj h
                  have S := S.learn (fRep r_api_Count (.agg #[.int .u8 p1, .int .i64 r57.1.Num, .int .i64 r57.1.Den]) (api_Count.mk p1 r57.1)) rfl
                  exact wp_ret (sRet (.tuple #[.agg #[.int .u8 p1, .int .i64 r57.1.Num, .int .i64 r57.1.Den], .int .i64 0]) S (rsl2 rfl (rvN (c := 4) (t := 41) (T := 41) (p := b3) 0 [.int .u8 p1, .int .i64 r57.1.Num, .int .i64 r57.1.Den] S (by kernel_rfl) (by kernel_rfl) (by kernel_rfl) (by kernel_rfl)) (rvT (t := 5) (v := .int .i64 0) S (by kernel_rfl))) ⟨(.agg #[.int .u8 p1, .int .i64 r57.1.Num, .int .i64 r57.1.Den]), rfl, S.mem.sel [] [0] (by decide) (by kernel_rfl) (by kernel_rfl)⟩)

end Go.Proofs.Ytdfjcpnflmgdoaa
namespace Go.Proofs.Ytdfjcpnflmgdoaa
open Go.RowKit
set_option linter.unusedVariables false

noncomputable def F_yarn_Weigh (p0 : api_Count) (p1 : Int) : Option (api_Ratio × Int) :=
  Option.bind (F_yarn_counted p0) fun r6 =>
  if r6 != 0 then
    some ((api_Ratio.mk 0 0), r6)
  else
    Option.bind (α := Bool) (
      if decide (p1 < 0) then
        some true
      else
        some (decide (1000000000 < p1))) fun o12 =>
    if o12 then
      some ((api_Ratio.mk 0 0), 2)
    else
      Option.bind (F_yarn_Convert p0 1) fun r19 =>
      if r19.2 != 0 then
        some ((api_Ratio.mk 0 0), r19.2)
      else
        Option.bind (F_yarn_Make (w64 (p1 * r19.1.N.Num)) (w64 (10000 * r19.1.N.Den))) fun r28 =>
        some (r28.1, r28.2)
def c_yarn_Weigh_val (r : (api_Ratio × Int)) (x : Value) : Value := .tuple #[x, .int .i64 r.2]
def c_yarn_Weigh_D (r : (api_Ratio × Int)) (x : Value) : List Fact := [fRep r_api_Ratio x r.1]
set_option maxHeartbeats 4000000 in
set_option maxRecDepth 100000 in
theorem c_yarn_Weigh (E : Nat → Prop) (w0 : World) (p0 : api_Count) (v0 : Value) (p1 : Int) (r : (api_Ratio × Int)) (h : F_yarn_Weigh p0 p1 = some r) (S : St0 E [] w0 w0 [] [fRep r_api_Count (v0) p0]) :
    Calls Try.prog 27 #[v0, .int .i64 p1] w0 (Ret (X := Value) E [] w0 (c_yarn_Weigh_val r) (fun _ => []) (c_yarn_Weigh_D r)) := by
  unfold F_yarn_Weigh at h
  obtain rfl : v0 = .agg #[.int .u8 p0.System, .int .i64 p0.N.Num, .int .i64 p0.N.Den] := S.know (i := 0) (e := fRep r_api_Count (v0) p0) (by kernel_rfl)
  refine sEnter (args := [.agg #[.int .u8 p0.System, .int .i64 p0.N.Num, .int .i64 p0.N.Den], .int .i64 p1]) 43 Try.func27 rfl rfl (by simp) S (fun a S => ?_)
  refine sSeq (fun K1 hK1 => ?_)
  refine sRegion ?_
  refine sBox (v := .agg #[.int .u8 p0.System, .int .i64 p0.N.Num, .int .i64 p0.N.Den]) S (wN rfl) rfl (by kernel_rfl) [.int .u8 p0.System, .int .i64 p0.N.Num, .int .i64 p0.N.Den] rfl rfl (by decide) (fun a b2 w S => ?_)
  refine sAlloc (.agg #[.int .i64 0, .int .i64 0]) S (wN rfl) rfl (by kernel_rfl) [.int .i64 0, .int .i64 0] rfl rfl (by decide) (fun a b3 w S => ?_)
  refine sMove (.int .i64 0) S (wN rfl) (.inr rfl) (by kernel_rfl) rfl (by decide) (fun a S => ?_)
  refine leafL (leafT (hK1 _ _ ?_))
  refine sSeq (fun K4 hK4 => ?_)
  refine sSeq (fun K5 hK5 => ?_)
  refine sRegion ?_
  refine sLoadN (p := b2) (off := 0) (T := 41) (vs := [.int .u8 p0.System, .int .i64 p0.N.Num, .int .i64 p0.N.Den]) 1 [.int .u8 p0.System, .int .i64 p0.N.Num, .int .i64 p0.N.Den] S (wN rfl) rfl (by kernel_rfl) (by kernel_rfl) (by kernel_rfl) (by kernel_rfl) rfl rfl (by decide) (fun a S => ?_)
  obtain ⟨r6, hx7, h⟩ := bindSome h
  have S1 := S.mem
  refine sCallQ (X := Unit) (f := 46) (vs := [.agg #[.int .u8 p0.System, .int .i64 p0.N.Num, .int .i64 p0.N.Den]]) (val := fun _ => .int .i64 r6) S (wN rfl) rfl callee46 (by kernel_rfl) (S1.quiet [0] (by kernel_rfl)) (fun E1 w1 S1 => c_yarn_counted E1 w1 p0 (.agg #[.int .u8 p0.System, .int .i64 p0.N.Num, .int .i64 p0.N.Den]) r6 hx7 S1) rfl (by decide) (fun _ a w S => ?_)
  refine sMove (.int .i64 r6) S (wN rfl) (.inr rfl) (by kernel_rfl) rfl (by decide) (fun a S => ?_)
  refine leafL (leafT (hK5 _ _ ?_))
  refine sSeq (fun K8 hK8 => ?_)
  refine sRegion ?_
  refine sMove (.int .i64 r6) S (wN rfl) (.inl rfl) (by kernel_rfl) rfl (by decide) (fun a S => ?_)
  refine sBin (.bool (r6 != 0)) S (wN rfl) rfl (by kernel_rfl) (by kernel_rfl) (bNe _ _ _ _ .i64 r6 0) rfl (by decide) (fun a S => ?_)
  refine leafL (leafT (hK8 _ _ ?_))
  rcases iteSome h with ⟨hc9, h⟩ | ⟨hc9, h⟩
  · refine sCondT (b := r6 != 0) S (by kernel_rfl) hc9 ?_
    refine sSeq (fun K10 hK10 => ?_)
    refine sRegion ?_
    refine sBuild [] [.int .i64 0, .int .i64 0] S (wN rfl) rfl (by kernel_rfl) (by kernel_rfl) rfl (by decide) (fun a S => ?_)
    refine sMove (.int .i64 r6) S (wN rfl) (.inl rfl) (by kernel_rfl) rfl (by decide) (fun a S => ?_)
    refine sStore (p := b3) (off := 0) (T := 23) (vs := [.int .i64 0, .int .i64 0]) (v := .agg #[.int .i64 0, .int .i64 0]) 0 [.int .i64 0, .int .i64 0] S (wN rfl) rfl (by kernel_rfl) (by kernel_rfl) rfl (by kernel_rfl) (by kernel_rfl) rfl (by simp) rfl (fun a w S => ?_)
    refine sMove (.int .i64 r6) S (wN rfl) (.inr rfl) (by kernel_rfl) rfl (by decide) (fun a S => ?_)
    refine leafL (leafT (hK10 _ _ ?_))
    obtain rfl := Option.some.inj h
    have S := S.learn (fRep r_api_Ratio (.agg #[.int .i64 0, .int .i64 0]) (api_Ratio.mk 0 0)) rfl
    exact wp_ret (rThen (sRet (.tuple #[.agg #[.int .i64 0, .int .i64 0], .int .i64 r6]) S (rsl2 rfl (rvN (c := 4) (t := 23) (T := 23) (p := b3) 0 [.int .i64 0, .int .i64 0] S (by kernel_rfl) (by kernel_rfl) (by kernel_rfl) (by kernel_rfl)) (rvT (t := 5) (v := .int .i64 r6) S (by kernel_rfl))) ⟨(.agg #[.int .i64 0, .int .i64 0]), rfl, S.mem.sel [] [0] (by decide) (by kernel_rfl) (by kernel_rfl)⟩))
  · refine sCondF (b := r6 != 0) S (by kernel_rfl) hc9 ?_
    refine wp_skip (leafT (hK4 _ _ ?_))
    refine sSeq (fun K11 hK11 => ?_)
    obtain ⟨t13, h, g14⟩ := bindSome h
    refine sCut (fun a w => ∃ o12, o12 = t13 ∧ St [] E [] w0 43 a w [(1, .int .i64 p1), (2, .pointer (some ⟨b2, 0, none⟩)), (4, .pointer (some ⟨b3, 0, none⟩)), (20, .bool o12)] [eBox b2 41 [.int .u8 p0.System, .int .i64 p0.N.Num, .int .i64 p0.N.Den], eBox b3 23 [.int .i64 0, .int .i64 0]] []) ?_ (fun a w hI => ?_)
    · refine sRegion ?_
      refine sMove (.int .i64 p1) S (wN rfl) (.inl rfl) (by kernel_rfl) rfl (by decide) (fun a S => ?_)
      refine sBin (.bool (decide (p1 < 0))) S (wN rfl) rfl (by kernel_rfl) (by kernel_rfl) (bLt _ _ _ _ .i64 p1 0) rfl (by decide) (fun a S => ?_)
      refine sMove (.bool (decide (p1 < 0))) S (wN rfl) (.inl rfl) (by kernel_rfl) rfl (by decide) (fun a S => ?_)
      rcases iteSome h with ⟨hc15, h⟩ | ⟨hc15, h⟩
      · refine sSkip (c := decide (p1 < 0)) 2 false 17 18 S rfl rfl (by kernel_rfl) hc15 rfl (by decide) (fun a S => ?_)
        refine sSkip (c := decide (p1 < 0)) 2 false 17 19 S rfl rfl (by kernel_rfl) hc15 rfl (by decide) (fun a S => ?_)
        refine sPickT (b := decide (p1 < 0)) (.bool true) S (wN rfl) rfl (by kernel_rfl) hc15 (by kernel_rfl) rfl (by decide) (fun a S => ?_)
        exact leafL (leafT (⟨true, Option.some.inj h, S.fix [1, 0] [] (by decide) (by kernel_rfl) (by kernel_rfl) (by kernel_rfl)⟩))
      · refine sMove (.int .i64 p1) S (wG (c := decide (p1 < 0)) 2 false 17 rfl rfl (by kernel_rfl) hc15) (.inl rfl) (by kernel_rfl) rfl (by decide) (fun a S => ?_)
        refine sBin (.bool (decide (1000000000 < p1))) S (wG (c := decide (p1 < 0)) 2 false 17 rfl rfl (by kernel_rfl) hc15) rfl (by kernel_rfl) (by kernel_rfl) (bGt _ _ _ _ .i64 p1 1000000000) rfl (by decide) (fun a S => ?_)
        refine sPickF (b := decide (p1 < 0)) (.bool (decide (1000000000 < p1))) S (wN rfl) rfl (by kernel_rfl) hc15 (by kernel_rfl) rfl (by decide) (fun a S => ?_)
        exact leafL (leafT (⟨decide (1000000000 < p1), Option.some.inj h, S.fix [1, 0] [] (by decide) (by kernel_rfl) (by kernel_rfl) (by kernel_rfl)⟩))
    · obtain ⟨o12, rfl, S⟩ := hI
      have h := g14
      clear g14
      try dsimp only at h
      rcases iteSome h with ⟨hc16, h⟩ | ⟨hc16, h⟩
      · refine sCondT (b := o12) S (by kernel_rfl) hc16 ?_
        refine sSeq (fun K17 hK17 => ?_)
        refine sRegion ?_
        refine sBuild [] [.int .i64 0, .int .i64 0] S (wN rfl) rfl (by kernel_rfl) (by kernel_rfl) rfl (by decide) (fun a S => ?_)
        refine sStore (p := b3) (off := 0) (T := 23) (vs := [.int .i64 0, .int .i64 0]) (v := .agg #[.int .i64 0, .int .i64 0]) 1 [.int .i64 0, .int .i64 0] S (wN rfl) rfl (by kernel_rfl) (by kernel_rfl) rfl (by kernel_rfl) (by kernel_rfl) rfl (by simp) rfl (fun a w S => ?_)
        refine sMove (.int .i64 2) S (wN rfl) (.inr rfl) (by kernel_rfl) rfl (by decide) (fun a S => ?_)
        refine leafL (leafT (hK17 _ _ ?_))
        obtain rfl := Option.some.inj h
        have S := S.learn (fRep r_api_Ratio (.agg #[.int .i64 0, .int .i64 0]) (api_Ratio.mk 0 0)) rfl
        exact wp_ret (rThen (sRet (.tuple #[.agg #[.int .i64 0, .int .i64 0], .int .i64 2]) S (rsl2 rfl (rvN (c := 4) (t := 23) (T := 23) (p := b3) 0 [.int .i64 0, .int .i64 0] S (by kernel_rfl) (by kernel_rfl) (by kernel_rfl) (by kernel_rfl)) (rvT (t := 5) (v := .int .i64 2) S (by kernel_rfl))) ⟨(.agg #[.int .i64 0, .int .i64 0]), rfl, S.mem.sel [] [0] (by decide) (by kernel_rfl) (by kernel_rfl)⟩))
      · refine sCondF (b := o12) S (by kernel_rfl) hc16 ?_
        refine wp_skip (leafT (hK11 _ _ ?_))
        refine sSeq (fun K18 hK18 => ?_)
        refine sRegion ?_
        refine sLoadN (p := b2) (off := 0) (T := 41) (vs := [.int .u8 p0.System, .int .i64 p0.N.Num, .int .i64 p0.N.Den]) 0 [.int .u8 p0.System, .int .i64 p0.N.Num, .int .i64 p0.N.Den] S (wN rfl) rfl (by kernel_rfl) (by kernel_rfl) (by kernel_rfl) (by kernel_rfl) rfl rfl (by decide) (fun a S => ?_)
        obtain ⟨r19, hx20, h⟩ := bindSome h
        have S := S.learn (fRep r_api_Count (.agg #[.int .u8 p0.System, .int .i64 p0.N.Num, .int .i64 p0.N.Den]) p0) rfl
        refine sCall (X := Value) (f := 23) (vs := [.agg #[.int .u8 p0.System, .int .i64 p0.N.Num, .int .i64 p0.N.Den], .int .u8 1]) (val := c_yarn_Convert_val r19) (B' := fun _ => []) (D' := c_yarn_Convert_D r19) [] [eBox b2 41 [.int .u8 p0.System, .int .i64 p0.N.Num, .int .i64 p0.N.Den], eBox b3 23 [.int .i64 0, .int .i64 0]] [fRep r_api_Count (.agg #[.int .u8 p0.System, .int .i64 p0.N.Num, .int .i64 p0.N.Den]) p0] [0, 1] [0] S (wN rfl) rfl callee23 (by kernel_rfl) (by decide) (by kernel_rfl) (by kernel_rfl) (fun E1 w1 S1 => c_yarn_Convert E1 w1 p0 (.agg #[.int .u8 p0.System, .int .i64 p0.N.Num, .int .i64 p0.N.Den]) 1 r19 hx20 S1) rfl (by decide) (fun u21 a w S => ?_)
        obtain rfl : u21 = .agg #[.int .u8 r19.1.System, .int .i64 r19.1.N.Num, .int .i64 r19.1.N.Den] := S.mem.know (i := 0) (e := fRep r_api_Count (u21) r19.1) (by kernel_rfl)
        refine sMove (.tuple #[.agg #[.int .u8 r19.1.System, .int .i64 r19.1.N.Num, .int .i64 r19.1.N.Den], .int .i64 r19.2]) S (wN rfl) (.inl rfl) (by kernel_rfl) rfl (by decide) (fun a S => ?_)
        refine sExtract (vs := [.agg #[.int .u8 r19.1.System, .int .i64 r19.1.N.Num, .int .i64 r19.1.N.Den], .int .i64 r19.2]) (.agg #[.int .u8 r19.1.System, .int .i64 r19.1.N.Num, .int .i64 r19.1.N.Den]) S (wN rfl) rfl (by kernel_rfl) rfl rfl (by decide) (fun a S => ?_)
        refine sExtract (vs := [.agg #[.int .u8 r19.1.System, .int .i64 r19.1.N.Num, .int .i64 r19.1.N.Den], .int .i64 r19.2]) (.int .i64 r19.2) S (wN rfl) rfl (by kernel_rfl) rfl rfl (by decide) (fun a S => ?_)
        refine sAlloc (.agg #[.int .u8 0, .int .i64 0, .int .i64 0]) S (wN rfl) rfl (by kernel_rfl) [.int .u8 0, .int .i64 0, .int .i64 0] rfl rfl (by decide) (fun a b22 w S => ?_)
        refine sStore (p := b22) (off := 0) (T := 41) (vs := [.int .u8 0, .int .i64 0, .int .i64 0]) (v := .agg #[.int .u8 r19.1.System, .int .i64 r19.1.N.Num, .int .i64 r19.1.N.Den]) 0 [.int .u8 r19.1.System, .int .i64 r19.1.N.Num, .int .i64 r19.1.N.Den] S (wN rfl) rfl (by kernel_rfl) (by kernel_rfl) rfl (by kernel_rfl) (by kernel_rfl) rfl (by simp) rfl (fun a w S => ?_)
        refine sMove (.int .i64 r19.2) S (wN rfl) (.inr rfl) (by kernel_rfl) rfl (by decide) (fun a S => ?_)
        refine leafL (leafT (hK18 _ _ ?_))
        refine sSeq (fun K23 hK23 => ?_)
        refine sSeq (fun K24 hK24 => ?_)
        refine sRegion ?_
        refine sMove (.int .i64 r19.2) S (wN rfl) (.inl rfl) (by kernel_rfl) rfl (by decide) (fun a S => ?_)
        refine sBin (.bool (r19.2 != 0)) S (wN rfl) rfl (by kernel_rfl) (by kernel_rfl) (bNe _ _ _ _ .i64 r19.2 0) rfl (by decide) (fun a S => ?_)
        refine leafL (leafT (hK24 _ _ ?_))
        rcases iteSome h with ⟨hc25, h⟩ | ⟨hc25, h⟩
        · refine sCondT (b := r19.2 != 0) S (by kernel_rfl) hc25 ?_
          refine sSeq (fun K26 hK26 => ?_)
          refine sRegion ?_
          refine sBuild [] [.int .i64 0, .int .i64 0] S (wN rfl) rfl (by kernel_rfl) (by kernel_rfl) rfl (by decide) (fun a S => ?_)
          refine sMove (.int .i64 r19.2) S (wN rfl) (.inl rfl) (by kernel_rfl) rfl (by decide) (fun a S => ?_)
          refine sStore (p := b3) (off := 0) (T := 23) (vs := [.int .i64 0, .int .i64 0]) (v := .agg #[.int .i64 0, .int .i64 0]) 2 [.int .i64 0, .int .i64 0] S (wN rfl) rfl (by kernel_rfl) (by kernel_rfl) rfl (by kernel_rfl) (by kernel_rfl) rfl (by simp) rfl (fun a w S => ?_)
          refine sMove (.int .i64 r19.2) S (wN rfl) (.inr rfl) (by kernel_rfl) rfl (by decide) (fun a S => ?_)
          refine leafL (leafT (hK26 _ _ ?_))
          obtain rfl := Option.some.inj h
          have S := S.learn (fRep r_api_Ratio (.agg #[.int .i64 0, .int .i64 0]) (api_Ratio.mk 0 0)) rfl
          exact wp_ret (rThen (sRet (.tuple #[.agg #[.int .i64 0, .int .i64 0], .int .i64 r19.2]) S (rsl2 rfl (rvN (c := 4) (t := 23) (T := 23) (p := b3) 0 [.int .i64 0, .int .i64 0] S (by kernel_rfl) (by kernel_rfl) (by kernel_rfl) (by kernel_rfl)) (rvT (t := 5) (v := .int .i64 r19.2) S (by kernel_rfl))) ⟨(.agg #[.int .i64 0, .int .i64 0]), rfl, S.mem.sel [] [0] (by decide) (by kernel_rfl) (by kernel_rfl)⟩))
        · refine sCondF (b := r19.2 != 0) S (by kernel_rfl) hc25 ?_
          refine wp_skip (leafT (hK23 _ _ ?_))
          refine sSeq (fun K27 hK27 => ?_)
          refine sRegion ?_
          refine sMove (.int .i64 p1) S (wN rfl) (.inl rfl) (by kernel_rfl) rfl (by decide) (fun a S => ?_)
          refine sField (b := b22) (off := 0) 1 1 S (wN rfl) rfl (by kernel_rfl) (by kernel_rfl) rfl rfl (by decide) (fun a S => ?_)
          refine sField (b := b22) (off := 1) 0 1 S (wN rfl) rfl (by kernel_rfl) (by kernel_rfl) rfl rfl (by decide) (fun a S => ?_)
          refine sLoad1 (p := b22) (off := 1) (T := 41) (vs := [.int .u8 r19.1.System, .int .i64 r19.1.N.Num, .int .i64 r19.1.N.Den]) 0 (.int .i64 r19.1.N.Num) S (wN rfl) rfl (by kernel_rfl) (by kernel_rfl) (by kernel_rfl) rfl rfl (by decide) (fun a S => ?_)
          refine sBin (.int .i64 (w64 (p1 * r19.1.N.Num))) S (wN rfl) rfl (by kernel_rfl) (by kernel_rfl) (bMul _ _ _ _ p1 r19.1.N.Num) rfl (by decide) (fun a S => ?_)
          refine sField (b := b22) (off := 0) 1 1 S (wN rfl) rfl (by kernel_rfl) (by kernel_rfl) rfl rfl (by decide) (fun a S => ?_)
          refine sField (b := b22) (off := 1) 1 2 S (wN rfl) rfl (by kernel_rfl) (by kernel_rfl) rfl rfl (by decide) (fun a S => ?_)
          refine sLoad1 (p := b22) (off := 2) (T := 41) (vs := [.int .u8 r19.1.System, .int .i64 r19.1.N.Num, .int .i64 r19.1.N.Den]) 0 (.int .i64 r19.1.N.Den) S (wN rfl) rfl (by kernel_rfl) (by kernel_rfl) (by kernel_rfl) rfl rfl (by decide) (fun a S => ?_)
          refine sBin (.int .i64 (w64 (10000 * r19.1.N.Den))) S (wN rfl) rfl (by kernel_rfl) (by kernel_rfl) (bMul _ _ _ _ 10000 r19.1.N.Den) rfl (by decide) (fun a S => ?_)
          obtain ⟨r28, hx29, h⟩ := bindSome h
          refine sCall (X := Value) (f := 48) (vs := [.int .i64 (w64 (p1 * r19.1.N.Num)), .int .i64 (w64 (10000 * r19.1.N.Den))]) (val := c_yarn_Make_val r28) (B' := fun _ => []) (D' := c_yarn_Make_D r28) [] [eBox b22 41 [.int .u8 r19.1.System, .int .i64 r19.1.N.Num, .int .i64 r19.1.N.Den], eBox b2 41 [.int .u8 p0.System, .int .i64 p0.N.Num, .int .i64 p0.N.Den], eBox b3 23 [.int .i64 0, .int .i64 0]] [] [0, 1, 2] [] S (wN rfl) rfl callee48 (by kernel_rfl) (by decide) (by kernel_rfl) (by kernel_rfl) (fun E1 w1 S1 => c_yarn_Make E1 w1 (w64 (p1 * r19.1.N.Num)) (w64 (10000 * r19.1.N.Den)) r28 hx29 S1) rfl (by decide) (fun u30 a w S => ?_)
          obtain rfl : u30 = .agg #[.int .i64 r28.1.Num, .int .i64 r28.1.Den] := S.mem.know (i := 0) (e := fRep r_api_Ratio (u30) r28.1) (by kernel_rfl)
          refine sExtract (vs := [.agg #[.int .i64 r28.1.Num, .int .i64 r28.1.Den], .int .i64 r28.2]) (.agg #[.int .i64 r28.1.Num, .int .i64 r28.1.Den]) S (wN rfl) rfl (by kernel_rfl) rfl rfl (by decide) (fun a S => ?_)
          refine sExtract (vs := [.agg #[.int .i64 r28.1.Num, .int .i64 r28.1.Den], .int .i64 r28.2]) (.int .i64 r28.2) S (wN rfl) rfl (by kernel_rfl) rfl rfl (by decide) (fun a S => ?_)
          refine sStore (p := b3) (off := 0) (T := 23) (vs := [.int .i64 0, .int .i64 0]) (v := .agg #[.int .i64 r28.1.Num, .int .i64 r28.1.Den]) 2 [.int .i64 r28.1.Num, .int .i64 r28.1.Den] S (wN rfl) rfl (by kernel_rfl) (by kernel_rfl) rfl (by kernel_rfl) (by kernel_rfl) rfl (by simp) rfl (fun a w S => ?_)
          refine sMove (.int .i64 r28.2) S (wN rfl) (.inr rfl) (by kernel_rfl) rfl (by decide) (fun a S => ?_)
          refine leafL (leafT (hK27 _ _ ?_))
          obtain rfl := Option.some.inj h
          exact wp_ret (sRet (.tuple #[.agg #[.int .i64 r28.1.Num, .int .i64 r28.1.Den], .int .i64 r28.2]) S (rsl2 rfl (rvN (c := 4) (t := 23) (T := 23) (p := b3) 0 [.int .i64 r28.1.Num, .int .i64 r28.1.Den] S (by kernel_rfl) (by kernel_rfl) (by kernel_rfl) (by kernel_rfl)) (rvT (t := 5) (v := .int .i64 r28.2) S (by kernel_rfl))) ⟨(.agg #[.int .i64 r28.1.Num, .int .i64 r28.1.Den]), rfl, S.mem.sel [] [0] (by decide) (by kernel_rfl) (by kernel_rfl)⟩)

end Go.Proofs.Ytdfjcpnflmgdoaa
namespace Go.Proofs.Ytdfjcpnflmgdoaa
open Go.RowKit
set_option linter.unusedVariables false

noncomputable def F_yarn_floor (p0 : Int) (p1 : Int) : Option Int :=
  Option.bind (quoI p0 p1) fun z3 =>
  Option.bind (α := Int) (
    Option.bind (remI p0 p1) fun z9 =>
    if decide (z9 < 0) then
      some (w64 (z3 - 1))
    else
      some z3) fun o5 =>
  some o5
set_option maxHeartbeats 4000000 in
set_option maxRecDepth 100000 in
theorem c_yarn_floor (E : Nat → Prop) (w0 : World) (p0 : Int) (p1 : Int) (r : Int) (h : F_yarn_floor p0 p1 = some r) (S : St0 E [] w0 w0 [] []) :
    Calls Try.prog 45 #[.int .i64 p0, .int .i64 p1] w0 (Ret (X := Unit) E [] w0 (fun _ => .int .i64 r) (fun _ => []) (fun _ => [])) := by
  unfold F_yarn_floor at h
  refine sEnter (args := [.int .i64 p0, .int .i64 p1]) 16 Try.func45 rfl rfl (by simp) S (fun a S => ?_)
  refine sSeq (fun K1 hK1 => ?_)
  refine sRegion ?_
  refine sMove (.int .i64 0) S (wN rfl) (.inr rfl) (by kernel_rfl) rfl (by decide) (fun a S => ?_)
  refine leafL (leafT (hK1 _ _ ?_))
  refine sSeq (fun K2 hK2 => ?_)
  refine sRegion ?_
  refine sMove (.int .i64 p0) S (wN rfl) (.inl rfl) (by kernel_rfl) rfl (by decide) (fun a S => ?_)
  refine sMove (.int .i64 p1) S (wN rfl) (.inl rfl) (by kernel_rfl) rfl (by decide) (fun a S => ?_)
  obtain ⟨z3, hx4, h⟩ := bindSome h
  refine sBin (.int .i64 z3) S (wN rfl) rfl (by kernel_rfl) (by kernel_rfl) (bQuo _ _ _ _ (x := p0) (y := p1) hx4) rfl (by decide) (fun a S => ?_)
  refine sMove (.int .i64 z3) S (wN rfl) (.inr rfl) (by kernel_rfl) rfl (by decide) (fun a S => ?_)
  refine leafL (leafT (hK2 _ _ ?_))
  obtain ⟨t6, h, g7⟩ := bindSome h
  refine sCut (fun a w => ∃ o5, o5 = t6 ∧ St [] E [] w0 16 a w [(5, .int .i64 o5)] [] []) ?_ (fun a w hI => ?_)
  · refine sSeq (fun K8 hK8 => ?_)
    refine sRegion ?_
    refine sMove (.int .i64 p0) S (wN rfl) (.inl rfl) (by kernel_rfl) rfl (by decide) (fun a S => ?_)
    refine sMove (.int .i64 p1) S (wN rfl) (.inl rfl) (by kernel_rfl) rfl (by decide) (fun a S => ?_)
    obtain ⟨z9, hx10, h⟩ := bindSome h
    refine sBin (.int .i64 z9) S (wN rfl) rfl (by kernel_rfl) (by kernel_rfl) (bRem _ _ _ _ (x := p0) (y := p1) hx10) rfl (by decide) (fun a S => ?_)
    refine sBin (.bool (decide (z9 < 0))) S (wN rfl) rfl (by kernel_rfl) (by kernel_rfl) (bLt _ _ _ _ .i64 z9 0) rfl (by decide) (fun a S => ?_)
    refine leafL (leafT (hK8 _ _ ?_))
    rcases iteSome h with ⟨hc11, h⟩ | ⟨hc11, h⟩
    · refine sCondT (b := decide (z9 < 0)) S (by kernel_rfl) hc11 ?_
      refine sRegion ?_
      refine sMove (.int .i64 z3) S (wN rfl) (.inl rfl) (by kernel_rfl) rfl (by decide) (fun a S => ?_)
      refine sBin (.int .i64 (w64 (z3 - 1))) S (wN rfl) rfl (by kernel_rfl) (by kernel_rfl) (bSub _ _ _ _ z3 1) rfl (by decide) (fun a S => ?_)
      refine sMove (.int .i64 (w64 (z3 - 1))) S (wN rfl) (.inr rfl) (by kernel_rfl) rfl (by decide) (fun a S => ?_)
      exact leafL (leafT (⟨w64 (z3 - 1), Option.some.inj h, S.fix [] [] (by decide) (by kernel_rfl) (by kernel_rfl) (by kernel_rfl)⟩))
    · refine sCondF (b := decide (z9 < 0)) S (by kernel_rfl) hc11 ?_
      exact wp_skip (leafT (⟨z3, Option.some.inj h, S.fix [] [] (by decide) (by kernel_rfl) (by kernel_rfl) (by kernel_rfl)⟩))
  · obtain ⟨o5, rfl, S⟩ := hI
    have h := g7
    clear g7
    try dsimp only at h
    refine sSeq (fun K12 hK12 => ?_)
    refine sRegion ?_
    refine sMove (.int .i64 o5) S (wN rfl) (.inl rfl) (by kernel_rfl) rfl (by decide) (fun a S => ?_)
    refine sMove (.int .i64 o5) S (wN rfl) (.inr rfl) (by kernel_rfl) rfl (by decide) (fun a S => ?_)
    refine leafL (leafT (hK12 _ _ ?_))
    obtain rfl := Option.some.inj h
    exact wp_ret (sRet (.int .i64 o5) S (rsl1 rfl (rvT (t := 4) (v := .int .i64 o5) S (by kernel_rfl))) ⟨(), rfl, S.mem.sel [] [] (by decide) (by kernel_rfl) (by kernel_rfl)⟩)

end Go.Proofs.Ytdfjcpnflmgdoaa
namespace Go.Proofs.Ytdfjcpnflmgdoaa
open Go.RowKit
set_option linter.unusedVariables false

noncomputable def F_yarn_Skeins (p0 : api_Count) (p1 : Int) (p2 : Int) : Option (Int × Int) :=
  Option.bind (F_yarn_Weigh p0 p1) fun r4 =>
  if r4.2 != 0 then
    some (0, r4.2)
  else
    Option.bind (α := Bool) (
      if decide (p2 < 1) then
        some true
      else
        some (decide (1000000000 < p2))) fun o13 =>
    if o13 then
      some (0, 2)
    else
      Option.bind (F_yarn_floor (w64 (0 - r4.1.Num)) (w64 (r4.1.Den * p2))) fun r20 =>
      some (w64 (0 - r20), 0)
set_option maxHeartbeats 4000000 in
set_option maxRecDepth 100000 in
theorem c_yarn_Skeins (E : Nat → Prop) (w0 : World) (p0 : api_Count) (v0 : Value) (p1 : Int) (p2 : Int) (r : (Int × Int)) (h : F_yarn_Skeins p0 p1 p2 = some r) (S : St0 E [] w0 w0 [] [fRep r_api_Count (v0) p0]) :
    Calls Try.prog 31 #[v0, .int .i64 p1, .int .i64 p2] w0 (Ret (X := Unit) E [] w0 (fun _ => .tuple #[.int .i64 r.1, .int .i64 r.2]) (fun _ => []) (fun _ => [])) := by
  unfold F_yarn_Skeins at h
  obtain rfl : v0 = .agg #[.int .u8 p0.System, .int .i64 p0.N.Num, .int .i64 p0.N.Den] := S.know (i := 0) (e := fRep r_api_Count (v0) p0) (by kernel_rfl)
  refine sEnter (args := [.agg #[.int .u8 p0.System, .int .i64 p0.N.Num, .int .i64 p0.N.Den], .int .i64 p1, .int .i64 p2]) 34 Try.func31 rfl rfl (by simp) S (fun a S => ?_)
  refine sSeq (fun K1 hK1 => ?_)
  refine sRegion ?_
  refine sBox (v := .agg #[.int .u8 p0.System, .int .i64 p0.N.Num, .int .i64 p0.N.Den]) S (wN rfl) rfl (by kernel_rfl) [.int .u8 p0.System, .int .i64 p0.N.Num, .int .i64 p0.N.Den] rfl rfl (by decide) (fun a b2 w S => ?_)
  refine sMove (.int .i64 0) S (wN rfl) (.inr rfl) (by kernel_rfl) rfl (by decide) (fun a S => ?_)
  refine sMove (.int .i64 0) S (wN rfl) (.inr rfl) (by kernel_rfl) rfl (by decide) (fun a S => ?_)
  refine leafL (leafT (hK1 _ _ ?_))
  refine sSeq (fun K3 hK3 => ?_)
  refine sRegion ?_
  refine sLoadN (p := b2) (off := 0) (T := 41) (vs := [.int .u8 p0.System, .int .i64 p0.N.Num, .int .i64 p0.N.Den]) 0 [.int .u8 p0.System, .int .i64 p0.N.Num, .int .i64 p0.N.Den] S (wN rfl) rfl (by kernel_rfl) (by kernel_rfl) (by kernel_rfl) (by kernel_rfl) rfl rfl (by decide) (fun a S => ?_)
  refine sMove (.int .i64 p1) S (wN rfl) (.inl rfl) (by kernel_rfl) rfl (by decide) (fun a S => ?_)
  obtain ⟨r4, hx5, h⟩ := bindSome h
  refine sCall (X := Value) (f := 27) (vs := [.agg #[.int .u8 p0.System, .int .i64 p0.N.Num, .int .i64 p0.N.Den], .int .i64 p1]) (val := c_yarn_Weigh_val r4) (B' := fun _ => []) (D' := c_yarn_Weigh_D r4) [] [eBox b2 41 [.int .u8 p0.System, .int .i64 p0.N.Num, .int .i64 p0.N.Den]] [fRep r_api_Count (.agg #[.int .u8 p0.System, .int .i64 p0.N.Num, .int .i64 p0.N.Den]) p0] [0] [0] S (wN rfl) rfl callee27 (by kernel_rfl) (by decide) (by kernel_rfl) (by kernel_rfl) (fun E1 w1 S1 => c_yarn_Weigh E1 w1 p0 (.agg #[.int .u8 p0.System, .int .i64 p0.N.Num, .int .i64 p0.N.Den]) p1 r4 hx5 S1) rfl (by decide) (fun u6 a w S => ?_)
  obtain rfl : u6 = .agg #[.int .i64 r4.1.Num, .int .i64 r4.1.Den] := S.mem.know (i := 0) (e := fRep r_api_Ratio (u6) r4.1) (by kernel_rfl)
  refine sMove (.tuple #[.agg #[.int .i64 r4.1.Num, .int .i64 r4.1.Den], .int .i64 r4.2]) S (wN rfl) (.inl rfl) (by kernel_rfl) rfl (by decide) (fun a S => ?_)
  refine sExtract (vs := [.agg #[.int .i64 r4.1.Num, .int .i64 r4.1.Den], .int .i64 r4.2]) (.agg #[.int .i64 r4.1.Num, .int .i64 r4.1.Den]) S (wN rfl) rfl (by kernel_rfl) rfl rfl (by decide) (fun a S => ?_)
  refine sExtract (vs := [.agg #[.int .i64 r4.1.Num, .int .i64 r4.1.Den], .int .i64 r4.2]) (.int .i64 r4.2) S (wN rfl) rfl (by kernel_rfl) rfl rfl (by decide) (fun a S => ?_)
  refine sAlloc (.agg #[.int .i64 0, .int .i64 0]) S (wN rfl) rfl (by kernel_rfl) [.int .i64 0, .int .i64 0] rfl rfl (by decide) (fun a b7 w S => ?_)
  refine sStore (p := b7) (off := 0) (T := 23) (vs := [.int .i64 0, .int .i64 0]) (v := .agg #[.int .i64 r4.1.Num, .int .i64 r4.1.Den]) 0 [.int .i64 r4.1.Num, .int .i64 r4.1.Den] S (wN rfl) rfl (by kernel_rfl) (by kernel_rfl) rfl (by kernel_rfl) (by kernel_rfl) rfl (by simp) rfl (fun a w S => ?_)
  refine sMove (.int .i64 r4.2) S (wN rfl) (.inr rfl) (by kernel_rfl) rfl (by decide) (fun a S => ?_)
  refine leafL (leafT (hK3 _ _ ?_))
  refine sSeq (fun K8 hK8 => ?_)
  refine sSeq (fun K9 hK9 => ?_)
  refine sRegion ?_
  refine sMove (.int .i64 r4.2) S (wN rfl) (.inl rfl) (by kernel_rfl) rfl (by decide) (fun a S => ?_)
  refine sBin (.bool (r4.2 != 0)) S (wN rfl) rfl (by kernel_rfl) (by kernel_rfl) (bNe _ _ _ _ .i64 r4.2 0) rfl (by decide) (fun a S => ?_)
  refine leafL (leafT (hK9 _ _ ?_))
  rcases iteSome h with ⟨hc10, h⟩ | ⟨hc10, h⟩
  · refine sCondT (b := r4.2 != 0) S (by kernel_rfl) hc10 ?_
    refine sSeq (fun K11 hK11 => ?_)
    refine sRegion ?_
    refine sMove (.int .i64 r4.2) S (wN rfl) (.inl rfl) (by kernel_rfl) rfl (by decide) (fun a S => ?_)
    refine sMove (.int .i64 0) S (wN rfl) (.inr rfl) (by kernel_rfl) rfl (by decide) (fun a S => ?_)
    refine sMove (.int .i64 r4.2) S (wN rfl) (.inr rfl) (by kernel_rfl) rfl (by decide) (fun a S => ?_)
    refine leafL (leafT (hK11 _ _ ?_))
    obtain rfl := Option.some.inj h
    exact wp_ret (rThen (sRet (.tuple #[.int .i64 0, .int .i64 r4.2]) S (rsl2 rfl (rvT (t := 6) (v := .int .i64 0) S (by kernel_rfl)) (rvT (t := 7) (v := .int .i64 r4.2) S (by kernel_rfl))) ⟨(), rfl, S.mem.sel [] [] (by decide) (by kernel_rfl) (by kernel_rfl)⟩))
  · refine sCondF (b := r4.2 != 0) S (by kernel_rfl) hc10 ?_
    refine wp_skip (leafT (hK8 _ _ ?_))
    refine sSeq (fun K12 hK12 => ?_)
    obtain ⟨t14, h, g15⟩ := bindSome h
    refine sCut (fun a w => ∃ o13, o13 = t14 ∧ St [] E [] w0 34 a w [(2, .int .i64 p2), (8, .pointer (some ⟨b7, 0, none⟩)), (24, .bool o13)] [eBox b7 23 [.int .i64 r4.1.Num, .int .i64 r4.1.Den]] []) ?_ (fun a w hI => ?_)
    · refine sRegion ?_
      refine sMove (.int .i64 p2) S (wN rfl) (.inl rfl) (by kernel_rfl) rfl (by decide) (fun a S => ?_)
      refine sBin (.bool (decide (p2 < 1))) S (wN rfl) rfl (by kernel_rfl) (by kernel_rfl) (bLt _ _ _ _ .i64 p2 1) rfl (by decide) (fun a S => ?_)
      refine sMove (.bool (decide (p2 < 1))) S (wN rfl) (.inl rfl) (by kernel_rfl) rfl (by decide) (fun a S => ?_)
      rcases iteSome h with ⟨hc16, h⟩ | ⟨hc16, h⟩
      · refine sSkip (c := decide (p2 < 1)) 2 false 21 22 S rfl rfl (by kernel_rfl) hc16 rfl (by decide) (fun a S => ?_)
        refine sSkip (c := decide (p2 < 1)) 2 false 21 23 S rfl rfl (by kernel_rfl) hc16 rfl (by decide) (fun a S => ?_)
        refine sPickT (b := decide (p2 < 1)) (.bool true) S (wN rfl) rfl (by kernel_rfl) hc16 (by kernel_rfl) rfl (by decide) (fun a S => ?_)
        exact leafL (leafT (⟨true, Option.some.inj h, S.fix [0] [] (by decide) (by kernel_rfl) (by kernel_rfl) (by kernel_rfl)⟩))
      · refine sMove (.int .i64 p2) S (wG (c := decide (p2 < 1)) 2 false 21 rfl rfl (by kernel_rfl) hc16) (.inl rfl) (by kernel_rfl) rfl (by decide) (fun a S => ?_)
        refine sBin (.bool (decide (1000000000 < p2))) S (wG (c := decide (p2 < 1)) 2 false 21 rfl rfl (by kernel_rfl) hc16) rfl (by kernel_rfl) (by kernel_rfl) (bGt _ _ _ _ .i64 p2 1000000000) rfl (by decide) (fun a S => ?_)
        refine sPickF (b := decide (p2 < 1)) (.bool (decide (1000000000 < p2))) S (wN rfl) rfl (by kernel_rfl) hc16 (by kernel_rfl) rfl (by decide) (fun a S => ?_)
        exact leafL (leafT (⟨decide (1000000000 < p2), Option.some.inj h, S.fix [0] [] (by decide) (by kernel_rfl) (by kernel_rfl) (by kernel_rfl)⟩))
    · obtain ⟨o13, rfl, S⟩ := hI
      have h := g15
      clear g15
      try dsimp only at h
      rcases iteSome h with ⟨hc17, h⟩ | ⟨hc17, h⟩
      · refine sCondT (b := o13) S (by kernel_rfl) hc17 ?_
        refine sSeq (fun K18 hK18 => ?_)
        refine sRegion ?_
        refine sMove (.int .i64 0) S (wN rfl) (.inr rfl) (by kernel_rfl) rfl (by decide) (fun a S => ?_)
        refine sMove (.int .i64 2) S (wN rfl) (.inr rfl) (by kernel_rfl) rfl (by decide) (fun a S => ?_)
        refine leafL (leafT (hK18 _ _ ?_))
        obtain rfl := Option.some.inj h
        exact wp_ret (rThen (sRet (.tuple #[.int .i64 0, .int .i64 2]) S (rsl2 rfl (rvT (t := 6) (v := .int .i64 0) S (by kernel_rfl)) (rvT (t := 7) (v := .int .i64 2) S (by kernel_rfl))) ⟨(), rfl, S.mem.sel [] [] (by decide) (by kernel_rfl) (by kernel_rfl)⟩))
      · refine sCondF (b := o13) S (by kernel_rfl) hc17 ?_
        refine wp_skip (leafT (hK12 _ _ ?_))
        refine sSeq (fun K19 hK19 => ?_)
        refine sRegion ?_
        refine sField (b := b7) (off := 0) 0 0 S (wN rfl) rfl (by kernel_rfl) (by kernel_rfl) rfl rfl (by decide) (fun a S => ?_)
        refine sLoad1 (p := b7) (off := 0) (T := 23) (vs := [.int .i64 r4.1.Num, .int .i64 r4.1.Den]) 0 (.int .i64 r4.1.Num) S (wN rfl) rfl (by kernel_rfl) (by kernel_rfl) (by kernel_rfl) rfl rfl (by decide) (fun a S => ?_)
        refine sNeg (b := r4.1.Num) S (wN rfl) rfl (by kernel_rfl) rfl (by decide) (fun a S => ?_)
        refine sField (b := b7) (off := 0) 1 1 S (wN rfl) rfl (by kernel_rfl) (by kernel_rfl) rfl rfl (by decide) (fun a S => ?_)
        refine sLoad1 (p := b7) (off := 1) (T := 23) (vs := [.int .i64 r4.1.Num, .int .i64 r4.1.Den]) 0 (.int .i64 r4.1.Den) S (wN rfl) rfl (by kernel_rfl) (by kernel_rfl) (by kernel_rfl) rfl rfl (by decide) (fun a S => ?_)
        refine sMove (.int .i64 p2) S (wN rfl) (.inl rfl) (by kernel_rfl) rfl (by decide) (fun a S => ?_)
        refine sBin (.int .i64 (w64 (r4.1.Den * p2))) S (wN rfl) rfl (by kernel_rfl) (by kernel_rfl) (bMul _ _ _ _ r4.1.Den p2) rfl (by decide) (fun a S => ?_)
        obtain ⟨r20, hx21, h⟩ := bindSome h
        have S1 := S.mem
        refine sCallQ (X := Unit) (f := 45) (vs := [.int .i64 (w64 (0 - r4.1.Num)), .int .i64 (w64 (r4.1.Den * p2))]) (val := fun _ => .int .i64 r20) S (wN rfl) rfl callee45 (by kernel_rfl) (S1.quiet [] (by kernel_rfl)) (fun E1 w1 S1 => c_yarn_floor E1 w1 (w64 (0 - r4.1.Num)) (w64 (r4.1.Den * p2)) r20 hx21 S1) rfl (by decide) (fun _ a w S => ?_)
        refine sNeg (b := r20) S (wN rfl) rfl (by kernel_rfl) rfl (by decide) (fun a S => ?_)
        refine sMove (.int .i64 (w64 (0 - r20))) S (wN rfl) (.inr rfl) (by kernel_rfl) rfl (by decide) (fun a S => ?_)
        refine sMove (.int .i64 0) S (wN rfl) (.inr rfl) (by kernel_rfl) rfl (by decide) (fun a S => ?_)
        refine leafL (leafT (hK19 _ _ ?_))
        obtain rfl := Option.some.inj h
        exact wp_ret (sRet (.tuple #[.int .i64 (w64 (0 - r20)), .int .i64 0]) S (rsl2 rfl (rvT (t := 6) (v := .int .i64 (w64 (0 - r20))) S (by kernel_rfl)) (rvT (t := 7) (v := .int .i64 0) S (by kernel_rfl))) ⟨(), rfl, S.mem.sel [] [] (by decide) (by kernel_rfl) (by kernel_rfl)⟩)

end Go.Proofs.Ytdfjcpnflmgdoaa
namespace Go.Proofs.Ytdfjcpnflmgdoaa
open Go.RowKit
set_option linter.unusedVariables false

noncomputable def F_raddleref23_Counted (p0 : api_Count) : Option Int :=
  Option.bind (α := Bool) (
    if decide (p0.System < 1) then
      some true
    else
      if decide (4 < p0.System) then
        some true
      else
        Option.bind (F_raddleref23_Check p0.N) fun r9 =>
        if r9 != 0 then
          some true
        else
          some (decide (p0.N.Num < 1))) fun o4 =>
  if o4 then
    some 8
  else
    some 0
set_option maxHeartbeats 4000000 in
set_option maxRecDepth 100000 in
theorem c_raddleref23_Counted (E : Nat → Prop) (w0 : World) (p0 : api_Count) (v0 : Value) (r : Int) (h : F_raddleref23_Counted p0 = some r) (S : St0 E [] w0 w0 [] [fRep r_api_Count (v0) p0]) :
    Calls Try.prog 49 #[v0] w0 (Ret (X := Unit) E [] w0 (fun _ => .int .i64 r) (fun _ => []) (fun _ => [])) := by
  unfold F_raddleref23_Counted at h
  obtain rfl : v0 = .agg #[.int .u8 p0.System, .int .i64 p0.N.Num, .int .i64 p0.N.Den] := S.know (i := 0) (e := fRep r_api_Count (v0) p0) (by kernel_rfl)
  refine sEnter (args := [.agg #[.int .u8 p0.System, .int .i64 p0.N.Num, .int .i64 p0.N.Den]]) 23 Try.func49 rfl rfl (by simp) S (fun a S => ?_)
  refine sSeq (fun K1 hK1 => ?_)
  refine sRegion ?_
  refine sBox (v := .agg #[.int .u8 p0.System, .int .i64 p0.N.Num, .int .i64 p0.N.Den]) S (wN rfl) rfl (by kernel_rfl) [.int .u8 p0.System, .int .i64 p0.N.Num, .int .i64 p0.N.Den] rfl rfl (by decide) (fun a b2 w S => ?_)
  refine sMove (.int .i64 0) S (wN rfl) (.inr rfl) (by kernel_rfl) rfl (by decide) (fun a S => ?_)
  refine leafL (leafT (hK1 _ _ ?_))
  refine sSeq (fun K3 hK3 => ?_)
  obtain ⟨t5, h, g6⟩ := bindSome h
  refine sCut (fun a w => ∃ o4, o4 = t5 ∧ St [] E [] w0 23 a w [(22, .bool o4)] [] []) ?_ (fun a w hI => ?_)
  · refine sRegion ?_
    refine sField (b := b2) (off := 0) 0 0 S (wN rfl) rfl (by kernel_rfl) (by kernel_rfl) rfl rfl (by decide) (fun a S => ?_)
    refine sLoad1 (p := b2) (off := 0) (T := 41) (vs := [.int .u8 p0.System, .int .i64 p0.N.Num, .int .i64 p0.N.Den]) 0 (.int .u8 p0.System) S (wN rfl) rfl (by kernel_rfl) (by kernel_rfl) (by kernel_rfl) rfl rfl (by decide) (fun a S => ?_)
    refine sBin (.bool (decide (p0.System < 1))) S (wN rfl) rfl (by kernel_rfl) (by kernel_rfl) (bLt _ _ _ _ .u8 p0.System 1) rfl (by decide) (fun a S => ?_)
    refine sMove (.bool (decide (p0.System < 1))) S (wN rfl) (.inl rfl) (by kernel_rfl) rfl (by decide) (fun a S => ?_)
    rcases iteSome h with ⟨hc7, h⟩ | ⟨hc7, h⟩
    · refine sSkip (c := decide (p0.System < 1)) 3 false 6 7 S rfl rfl (by kernel_rfl) hc7 rfl (by decide) (fun a S => ?_)
      refine sSkip (c := decide (p0.System < 1)) 3 false 6 8 S rfl rfl (by kernel_rfl) hc7 rfl (by decide) (fun a S => ?_)
      refine sSkip (c := decide (p0.System < 1)) 3 false 6 9 S rfl rfl (by kernel_rfl) hc7 rfl (by decide) (fun a S => ?_)
      refine sPickT (b := decide (p0.System < 1)) (.bool true) S (wN rfl) rfl (by kernel_rfl) hc7 (by kernel_rfl) rfl (by decide) (fun a S => ?_)
      refine sMove (.bool true) S (wN rfl) (.inl rfl) (by kernel_rfl) rfl (by decide) (fun a S => ?_)
      refine sSkip (c := true) 8 false 11 12 S rfl rfl (by kernel_rfl) rfl rfl (by decide) (fun a S => ?_)
      refine sSkip (c := true) 8 false 11 13 S rfl rfl (by kernel_rfl) rfl rfl (by decide) (fun a S => ?_)
      refine sSkip (c := true) 8 false 11 14 S rfl rfl (by kernel_rfl) rfl rfl (by decide) (fun a S => ?_)
      refine sSkip (c := true) 8 false 11 15 S rfl rfl (by kernel_rfl) rfl rfl (by decide) (fun a S => ?_)
      refine sPickT (b := true) (.bool true) S (wN rfl) rfl (by kernel_rfl) rfl (by kernel_rfl) rfl (by decide) (fun a S => ?_)
      refine sMove (.bool true) S (wN rfl) (.inl rfl) (by kernel_rfl) rfl (by decide) (fun a S => ?_)
      refine sSkip (c := true) 14 false 17 18 S rfl rfl (by kernel_rfl) rfl rfl (by decide) (fun a S => ?_)
      refine sSkip (c := true) 14 false 17 19 S rfl rfl (by kernel_rfl) rfl rfl (by decide) (fun a S => ?_)
      refine sSkip (c := true) 14 false 17 20 S rfl rfl (by kernel_rfl) rfl rfl (by decide) (fun a S => ?_)
      refine sSkip (c := true) 14 false 17 21 S rfl rfl (by kernel_rfl) rfl rfl (by decide) (fun a S => ?_)
      refine sPickT (b := true) (.bool true) S (wN rfl) rfl (by kernel_rfl) rfl (by kernel_rfl) rfl (by decide) (fun a S => ?_)
      exact leafL (leafT (⟨true, Option.some.inj h, S.fix [] [] (by decide) (by kernel_rfl) (by kernel_rfl) (by kernel_rfl)⟩))
    · refine sField (b := b2) (off := 0) 0 0 S (wG (c := decide (p0.System < 1)) 3 false 6 rfl rfl (by kernel_rfl) hc7) rfl (by kernel_rfl) (by kernel_rfl) rfl rfl (by decide) (fun a S => ?_)
      refine sLoad1 (p := b2) (off := 0) (T := 41) (vs := [.int .u8 p0.System, .int .i64 p0.N.Num, .int .i64 p0.N.Den]) 0 (.int .u8 p0.System) S (wG (c := decide (p0.System < 1)) 3 false 6 rfl rfl (by kernel_rfl) hc7) rfl (by kernel_rfl) (by kernel_rfl) (by kernel_rfl) rfl rfl (by decide) (fun a S => ?_)
      refine sBin (.bool (decide (4 < p0.System))) S (wG (c := decide (p0.System < 1)) 3 false 6 rfl rfl (by kernel_rfl) hc7) rfl (by kernel_rfl) (by kernel_rfl) (bGt _ _ _ _ .u8 p0.System 4) rfl (by decide) (fun a S => ?_)
      refine sPickF (b := decide (p0.System < 1)) (.bool (decide (4 < p0.System))) S (wN rfl) rfl (by kernel_rfl) hc7 (by kernel_rfl) rfl (by decide) (fun a S => ?_)
      refine sMove (.bool (decide (4 < p0.System))) S (wN rfl) (.inl rfl) (by kernel_rfl) rfl (by decide) (fun a S => ?_)
      rcases iteSome h with ⟨hc8, h⟩ | ⟨hc8, h⟩
      · refine sSkip (c := decide (4 < p0.System)) 8 false 11 12 S rfl rfl (by kernel_rfl) hc8 rfl (by decide) (fun a S => ?_)
        refine sSkip (c := decide (4 < p0.System)) 8 false 11 13 S rfl rfl (by kernel_rfl) hc8 rfl (by decide) (fun a S => ?_)
        refine sSkip (c := decide (4 < p0.System)) 8 false 11 14 S rfl rfl (by kernel_rfl) hc8 rfl (by decide) (fun a S => ?_)
        refine sSkip (c := decide (4 < p0.System)) 8 false 11 15 S rfl rfl (by kernel_rfl) hc8 rfl (by decide) (fun a S => ?_)
        refine sPickT (b := decide (4 < p0.System)) (.bool true) S (wN rfl) rfl (by kernel_rfl) hc8 (by kernel_rfl) rfl (by decide) (fun a S => ?_)
        refine sMove (.bool true) S (wN rfl) (.inl rfl) (by kernel_rfl) rfl (by decide) (fun a S => ?_)
        refine sSkip (c := true) 14 false 17 18 S rfl rfl (by kernel_rfl) rfl rfl (by decide) (fun a S => ?_)
        refine sSkip (c := true) 14 false 17 19 S rfl rfl (by kernel_rfl) rfl rfl (by decide) (fun a S => ?_)
        refine sSkip (c := true) 14 false 17 20 S rfl rfl (by kernel_rfl) rfl rfl (by decide) (fun a S => ?_)
        refine sSkip (c := true) 14 false 17 21 S rfl rfl (by kernel_rfl) rfl rfl (by decide) (fun a S => ?_)
        refine sPickT (b := true) (.bool true) S (wN rfl) rfl (by kernel_rfl) rfl (by kernel_rfl) rfl (by decide) (fun a S => ?_)
        exact leafL (leafT (⟨true, Option.some.inj h, S.fix [] [] (by decide) (by kernel_rfl) (by kernel_rfl) (by kernel_rfl)⟩))
      · refine sField (b := b2) (off := 0) 1 1 S (wG (c := decide (4 < p0.System)) 8 false 11 rfl rfl (by kernel_rfl) hc8) rfl (by kernel_rfl) (by kernel_rfl) rfl rfl (by decide) (fun a S => ?_)
        refine sLoadN (p := b2) (off := 1) (T := 41) (vs := [.int .u8 p0.System, .int .i64 p0.N.Num, .int .i64 p0.N.Den]) 0 [.int .i64 p0.N.Num, .int .i64 p0.N.Den] S (wG (c := decide (4 < p0.System)) 8 false 11 rfl rfl (by kernel_rfl) hc8) rfl (by kernel_rfl) (by kernel_rfl) (by kernel_rfl) (by kernel_rfl) rfl rfl (by decide) (fun a S => ?_)
        obtain ⟨r9, hx10, h⟩ := bindSome h
        have S1 := S.mem
        have S1 := S1.learn (fRep r_api_Ratio (.agg #[.int .i64 p0.N.Num, .int .i64 p0.N.Den]) p0.N) rfl
        refine sCallQ (X := Unit) (f := 9) (vs := [.agg #[.int .i64 p0.N.Num, .int .i64 p0.N.Den]]) (val := fun _ => .int .i64 r9) S (wG (c := decide (4 < p0.System)) 8 false 11 rfl rfl (by kernel_rfl) hc8) rfl callee9 (by kernel_rfl) (S1.quiet [0] (by kernel_rfl)) (fun E1 w1 S1 => c_raddleref23_Check E1 w1 p0.N (.agg #[.int .i64 p0.N.Num, .int .i64 p0.N.Den]) r9 hx10 S1) rfl (by decide) (fun _ a w S => ?_)
        refine sBin (.bool (r9 != 0)) S (wG (c := decide (4 < p0.System)) 8 false 11 rfl rfl (by kernel_rfl) hc8) rfl (by kernel_rfl) (by kernel_rfl) (bNe _ _ _ _ .i64 r9 0) rfl (by decide) (fun a S => ?_)
        refine sPickF (b := decide (4 < p0.System)) (.bool (r9 != 0)) S (wN rfl) rfl (by kernel_rfl) hc8 (by kernel_rfl) rfl (by decide) (fun a S => ?_)
        refine sMove (.bool (r9 != 0)) S (wN rfl) (.inl rfl) (by kernel_rfl) rfl (by decide) (fun a S => ?_)
        rcases iteSome h with ⟨hc11, h⟩ | ⟨hc11, h⟩
        · refine sSkip (c := r9 != 0) 14 false 17 18 S rfl rfl (by kernel_rfl) hc11 rfl (by decide) (fun a S => ?_)
          refine sSkip (c := r9 != 0) 14 false 17 19 S rfl rfl (by kernel_rfl) hc11 rfl (by decide) (fun a S => ?_)
          refine sSkip (c := r9 != 0) 14 false 17 20 S rfl rfl (by kernel_rfl) hc11 rfl (by decide) (fun a S => ?_)
          refine sSkip (c := r9 != 0) 14 false 17 21 S rfl rfl (by kernel_rfl) hc11 rfl (by decide) (fun a S => ?_)
          refine sPickT (b := r9 != 0) (.bool true) S (wN rfl) rfl (by kernel_rfl) hc11 (by kernel_rfl) rfl (by decide) (fun a S => ?_)
          exact leafL (leafT (⟨true, Option.some.inj h, S.fix [] [] (by decide) (by kernel_rfl) (by kernel_rfl) (by kernel_rfl)⟩))
        · refine sField (b := b2) (off := 0) 1 1 S (wG (c := r9 != 0) 14 false 17 rfl rfl (by kernel_rfl) hc11) rfl (by kernel_rfl) (by kernel_rfl) rfl rfl (by decide) (fun a S => ?_)
          refine sField (b := b2) (off := 1) 0 1 S (wG (c := r9 != 0) 14 false 17 rfl rfl (by kernel_rfl) hc11) rfl (by kernel_rfl) (by kernel_rfl) rfl rfl (by decide) (fun a S => ?_)
          refine sLoad1 (p := b2) (off := 1) (T := 41) (vs := [.int .u8 p0.System, .int .i64 p0.N.Num, .int .i64 p0.N.Den]) 0 (.int .i64 p0.N.Num) S (wG (c := r9 != 0) 14 false 17 rfl rfl (by kernel_rfl) hc11) rfl (by kernel_rfl) (by kernel_rfl) (by kernel_rfl) rfl rfl (by decide) (fun a S => ?_)
          refine sBin (.bool (decide (p0.N.Num < 1))) S (wG (c := r9 != 0) 14 false 17 rfl rfl (by kernel_rfl) hc11) rfl (by kernel_rfl) (by kernel_rfl) (bLt _ _ _ _ .i64 p0.N.Num 1) rfl (by decide) (fun a S => ?_)
          refine sPickF (b := r9 != 0) (.bool (decide (p0.N.Num < 1))) S (wN rfl) rfl (by kernel_rfl) hc11 (by kernel_rfl) rfl (by decide) (fun a S => ?_)
          exact leafL (leafT (⟨decide (p0.N.Num < 1), Option.some.inj h, S.fix [] [] (by decide) (by kernel_rfl) (by kernel_rfl) (by kernel_rfl)⟩))
  · obtain ⟨o4, rfl, S⟩ := hI
    have h := g6
    clear g6
    try dsimp only at h
    rcases iteSome h with ⟨hc12, h⟩ | ⟨hc12, h⟩
    · refine sCondT (b := o4) S (by kernel_rfl) hc12 ?_
      refine sSeq (fun K13 hK13 => ?_)
      refine sRegion ?_
      refine sMove (.int .i64 8) S (wN rfl) (.inr rfl) (by kernel_rfl) rfl (by decide) (fun a S => ?_)
      refine leafL (leafT (hK13 _ _ ?_))
      obtain rfl := Option.some.inj h
      exact wp_ret (rThen (sRet (.int .i64 8) S (rsl1 rfl (rvT (t := 2) (v := .int .i64 8) S (by kernel_rfl))) ⟨(), rfl, S.mem.sel [] [] (by decide) (by kernel_rfl) (by kernel_rfl)⟩))
    · refine sCondF (b := o4) S (by kernel_rfl) hc12 ?_
      refine wp_skip (leafT (hK3 _ _ ?_))
      refine sSeq (fun K14 hK14 => ?_)
      refine sRegion ?_
      refine sMove (.int .i64 0) S (wN rfl) (.inr rfl) (by kernel_rfl) rfl (by decide) (fun a S => ?_)
      refine leafL (leafT (hK14 _ _ ?_))
      obtain rfl := Option.some.inj h
      exact wp_ret (sRet (.int .i64 0) S (rsl1 rfl (rvT (t := 2) (v := .int .i64 0) S (by kernel_rfl))) ⟨(), rfl, S.mem.sel [] [] (by decide) (by kernel_rfl) (by kernel_rfl)⟩)

end Go.Proofs.Ytdfjcpnflmgdoaa
namespace Go.Proofs.Ytdfjcpnflmgdoaa
open Go.RowKit
set_option linter.unusedVariables false

def anc_raddleref23_over_0 : List (List Nat) := [[], [], [0, 1], [], [3], [0, 1, 2, 3, 4], [], [], [6, 7], [], [9], [6, 7, 8, 9, 10], [0, 1, 2, 3, 4, 5, 6, 7, 8, 9, 10, 11], [0, 1, 2, 3, 4, 5, 6, 7, 8, 9, 10, 11, 12], [0, 1, 2, 3, 4, 5, 6, 7, 8, 9, 10, 11, 12], [0, 1, 2, 3, 4, 5, 6, 7, 8, 9, 10, 11, 12, 13, 14], [0, 1, 2, 3, 4, 5, 6, 7, 8, 9, 10, 11, 12, 13, 14, 15]]
noncomputable def F_raddleref23_over (p0 : Int) (p1 : Int) (p2 : api_Ratio) (p3 : Bool) : Option (api_Ratio × Int) :=
  Option.bind (F_raddleref23_common p0 p1) fun r5 =>
  if p3 then
    Option.bind (quoI p0 r5) fun z11 =>
    Option.bind (quoI p1 r5) fun z13 =>
    Option.bind (F_raddleref23_Make (w64 (z11 * p2.Num)) (w64 (z13 * p2.Den))) fun r15 =>
    some (r15.1, r15.2)
  else
    Option.bind (quoI p0 r5) fun z20 =>
    Option.bind (quoI p1 r5) fun z22 =>
    Option.bind (F_raddleref23_Make (w64 (z20 * p2.Den)) (w64 (z22 * p2.Num))) fun r24 =>
    some (r24.1, r24.2)
def c_raddleref23_over_val (r : (api_Ratio × Int)) (x : Value) : Value := .tuple #[x, .int .i64 r.2]
def c_raddleref23_over_D (r : (api_Ratio × Int)) (x : Value) : List Fact := [fRep r_api_Ratio x r.1]
set_option maxHeartbeats 4000000 in
set_option maxRecDepth 100000 in
theorem c_raddleref23_over (E : Nat → Prop) (w0 : World) (p0 : Int) (p1 : Int) (p2 : api_Ratio) (v2 : Value) (p3 : Bool) (r : (api_Ratio × Int)) (h : F_raddleref23_over p0 p1 p2 p3 = some r) (S : St0 E [] w0 w0 [] [fRep r_api_Ratio (v2) p2]) :
    Calls Try.prog 57 #[.int .i64 p0, .int .i64 p1, v2, .bool p3] w0 (Ret (X := Value) E [] w0 (c_raddleref23_over_val r) (fun _ => []) (c_raddleref23_over_D r)) := by
  unfold F_raddleref23_over at h
  obtain rfl : v2 = .agg #[.int .i64 p2.Num, .int .i64 p2.Den] := S.know (i := 0) (e := fRep r_api_Ratio (v2) p2) (by kernel_rfl)
  refine sEnter (args := [.int .i64 p0, .int .i64 p1, .agg #[.int .i64 p2.Num, .int .i64 p2.Den], .bool p3]) 45 Try.func57 rfl rfl (by simp) S (fun a S => ?_)
  refine sSeq (fun K1 hK1 => ?_)
  refine sRegion ?_
  refine sBox (v := .agg #[.int .i64 p2.Num, .int .i64 p2.Den]) S (wN rfl) rfl (by kernel_rfl) [.int .i64 p2.Num, .int .i64 p2.Den] rfl rfl (by decide) (fun a b2 w S => ?_)
  refine sAlloc (.agg #[.int .i64 0, .int .i64 0]) S (wN rfl) rfl (by kernel_rfl) [.int .i64 0, .int .i64 0] rfl rfl (by decide) (fun a b3 w S => ?_)
  refine sMove (.int .i64 0) S (wN rfl) (.inr rfl) (by kernel_rfl) rfl (by decide) (fun a S => ?_)
  refine leafL (leafT (hK1 _ _ ?_))
  refine sSeq (fun K4 hK4 => ?_)
  refine sRegion ?_
  refine sMove (.int .i64 p0) S (wN rfl) (.inl rfl) (by kernel_rfl) rfl (by decide) (fun a S => ?_)
  refine sMove (.int .i64 p1) S (wN rfl) (.inl rfl) (by kernel_rfl) rfl (by decide) (fun a S => ?_)
  obtain ⟨r5, hx6, h⟩ := bindSome h
  have S1 := S.mem
  refine sCallQ (X := Unit) (f := 39) (vs := [.int .i64 p0, .int .i64 p1]) (val := fun _ => .int .i64 r5) S (wN rfl) rfl callee39 (by kernel_rfl) (S1.quiet [] (by kernel_rfl)) (fun E1 w1 S1 => c_raddleref23_common E1 w1 p0 p1 r5 hx6 S1) rfl (by decide) (fun _ a w S => ?_)
  refine sMove (.int .i64 r5) S (wN rfl) (.inr rfl) (by kernel_rfl) rfl (by decide) (fun a S => ?_)
  refine leafL (leafT (hK4 _ _ ?_))
  refine sSeq (fun K7 hK7 => ?_)
  refine sSeq (fun K8 hK8 => ?_)
  refine sRegion ?_
  refine sMove (.bool p3) S (wN rfl) (.inl rfl) (by kernel_rfl) rfl (by decide) (fun a S => ?_)
  refine leafL (leafT (hK8 _ _ ?_))
  rcases iteSome h with ⟨hc9, h⟩ | ⟨hc9, h⟩
  · refine sCondT (b := p3) S (by kernel_rfl) hc9 ?_
    refine sSeq (fun K10 hK10 => ?_)
    obtain ⟨z11, hx12, h⟩ := bindSome h
    obtain ⟨z13, hx14, h⟩ := bindSome h
    obtain ⟨r15, hx16, h⟩ := bindSome h
    refine sDraw (nf := [12, 15]) (W := [(0, 15, .int .i64 p0), (1, 16, .int .i64 r5), (2, 17, .int .i64 z11), (3, 18, .pointer (some ⟨b2, 0, none⟩)), (4, 19, .int .i64 p2.Num), (5, 20, .int .i64 (w64 (z11 * p2.Num))), (6, 21, .int .i64 p1), (7, 22, .int .i64 r5), (8, 23, .int .i64 z13), (9, 24, .pointer (some ⟨b2, 1, none⟩)), (10, 25, .int .i64 p2.Den), (11, 26, .int .i64 (w64 (z13 * p2.Den)))]) (by kernel_rfl) S ?_
    refine node_by (A := anc_raddleref23_over_0) (nf := [12, 15]) (Y := []) (W := [(0, 15, .int .i64 p0), (1, 16, .int .i64 r5), (2, 17, .int .i64 z11), (3, 18, .pointer (some ⟨b2, 0, none⟩)), (4, 19, .int .i64 p2.Num), (5, 20, .int .i64 (w64 (z11 * p2.Num))), (6, 21, .int .i64 p1), (7, 22, .int .i64 r5), (8, 23, .int .i64 z13), (9, 24, .pointer (some ⟨b2, 1, none⟩)), (10, 25, .int .i64 p2.Den), (11, 26, .int .i64 (w64 (z13 * p2.Den)))]) 17 (by kernel_rfl) (by kernel_rfl) (by kernel_rfl) (by kernel_rfl) (by kernel_rfl) [0, 1, 2, 3, 4, 5, 6, 7, 8, 9, 10, 11] (by kernel_rfl) (by decide) (by decide) (aF 0 16 (by decide) ?_ (aF 1 15 (by decide) ?_ (aF 2 14 (by decide) ?_ (aF 3 13 (by decide) ?_ (aF 4 12 (by decide) ?_ (aF 5 11 (by decide) ?_ (aF 6 10 (by decide) ?_ (aF 7 9 (by decide) ?_ (aF 8 8 (by decide) ?_ (aF 9 7 (by decide) ?_ (aF 10 6 (by decide) ?_ (aF 11 5 (by decide) ?_ (aN 12 4 (by decide) ?_ (aE 13 3 12 (by decide) (aE 14 2 12 (by decide) (aB 15 1 12 (by decide) (aE 16 0 12 (by decide) (trivial)))))))))))))))))) [] (fun q hq => by cases hq) (fun hY => absurd (hY 12 (by decide)) (by decide))
    · refine fI 15 (.int .i64 p0) [(0, .int .i64 p0)] 0 [none] rfl rfl (by kernel_rfl) rfl (by kernel_rfl) (by kernel_rfl) fun G a w S => ?_
      refine sMove (.int .i64 p0) S (wN rfl) (.inl rfl) (by kernel_rfl) rfl (by decide) (fun a S => ?_)
      exact leafL ⟨rfl, S⟩
    · refine fI 16 (.int .i64 r5) [(10, .int .i64 r5)] 1 [none] rfl rfl (by kernel_rfl) rfl (by kernel_rfl) (by kernel_rfl) fun G a w S => ?_
      refine sMove (.int .i64 r5) S (wN rfl) (.inl rfl) (by kernel_rfl) rfl (by decide) (fun a S => ?_)
      exact leafL ⟨rfl, S⟩
    · refine fI 17 (.int .i64 z11) [(15, .int .i64 p0), (16, .int .i64 r5)] 2 [some 0, some 1] rfl rfl (by kernel_rfl) rfl (by kernel_rfl) (by kernel_rfl) fun G a w S => ?_
      refine sBin (.int .i64 z11) S (wN rfl) rfl (by kernel_rfl) (by kernel_rfl) (bQuo _ _ _ _ (x := p0) (y := r5) hx12) rfl (by decide) (fun a S => ?_)
      exact leafL ⟨rfl, S⟩
    · refine fI 18 (.pointer (some ⟨b2, 0, none⟩)) [(6, .pointer (some ⟨b2, 0, none⟩))] 3 [none] rfl rfl (by kernel_rfl) rfl (by kernel_rfl) (by kernel_rfl) fun G a w S => ?_
      refine sField (b := b2) (off := 0) 0 0 S (wN rfl) rfl (by kernel_rfl) (by kernel_rfl) rfl rfl (by decide) (fun a S => ?_)
      exact leafL ⟨rfl, S⟩
    · refine fI 19 (.int .i64 p2.Num) [(18, .pointer (some ⟨b2, 0, none⟩))] 4 [some 3] rfl rfl (by kernel_rfl) rfl (by kernel_rfl) (by kernel_rfl) fun G a w S => ?_
      refine sLoad1 (p := b2) (off := 0) (T := 23) (vs := [.int .i64 p2.Num, .int .i64 p2.Den]) 1 (.int .i64 p2.Num) S (wN rfl) rfl (by kernel_rfl) (by kernel_rfl) (by kernel_rfl) rfl rfl (by decide) (fun a S => ?_)
      exact leafL ⟨rfl, S⟩
    · refine fI 20 (.int .i64 (w64 (z11 * p2.Num))) [(17, .int .i64 z11), (19, .int .i64 p2.Num)] 5 [some 2, some 4] rfl rfl (by kernel_rfl) rfl (by kernel_rfl) (by kernel_rfl) fun G a w S => ?_
      refine sBin (.int .i64 (w64 (z11 * p2.Num))) S (wN rfl) rfl (by kernel_rfl) (by kernel_rfl) (bMul _ _ _ _ z11 p2.Num) rfl (by decide) (fun a S => ?_)
      exact leafL ⟨rfl, S⟩
    · refine fI 21 (.int .i64 p1) [(1, .int .i64 p1)] 6 [none] rfl rfl (by kernel_rfl) rfl (by kernel_rfl) (by kernel_rfl) fun G a w S => ?_
      refine sMove (.int .i64 p1) S (wN rfl) (.inl rfl) (by kernel_rfl) rfl (by decide) (fun a S => ?_)
      exact leafL ⟨rfl, S⟩
    · refine fI 22 (.int .i64 r5) [(10, .int .i64 r5)] 7 [none] rfl rfl (by kernel_rfl) rfl (by kernel_rfl) (by kernel_rfl) fun G a w S => ?_
      refine sMove (.int .i64 r5) S (wN rfl) (.inl rfl) (by kernel_rfl) rfl (by decide) (fun a S => ?_)
      exact leafL ⟨rfl, S⟩
    · refine fI 23 (.int .i64 z13) [(21, .int .i64 p1), (22, .int .i64 r5)] 8 [some 6, some 7] rfl rfl (by kernel_rfl) rfl (by kernel_rfl) (by kernel_rfl) fun G a w S => ?_
      refine sBin (.int .i64 z13) S (wN rfl) rfl (by kernel_rfl) (by kernel_rfl) (bQuo _ _ _ _ (x := p1) (y := r5) hx14) rfl (by decide) (fun a S => ?_)
      exact leafL ⟨rfl, S⟩
    · refine fI 24 (.pointer (some ⟨b2, 1, none⟩)) [(6, .pointer (some ⟨b2, 0, none⟩))] 9 [none] rfl rfl (by kernel_rfl) rfl (by kernel_rfl) (by kernel_rfl) fun G a w S => ?_
      refine sField (b := b2) (off := 0) 1 1 S (wN rfl) rfl (by kernel_rfl) (by kernel_rfl) rfl rfl (by decide) (fun a S => ?_)
      exact leafL ⟨rfl, S⟩
    · refine fI 25 (.int .i64 p2.Den) [(24, .pointer (some ⟨b2, 1, none⟩))] 10 [some 9] rfl rfl (by kernel_rfl) rfl (by kernel_rfl) (by kernel_rfl) fun G a w S => ?_
      refine sLoad1 (p := b2) (off := 1) (T := 23) (vs := [.int .i64 p2.Num, .int .i64 p2.Den]) 1 (.int .i64 p2.Den) S (wN rfl) rfl (by kernel_rfl) (by kernel_rfl) (by kernel_rfl) rfl rfl (by decide) (fun a S => ?_)
      exact leafL ⟨rfl, S⟩
    · refine fI 26 (.int .i64 (w64 (z13 * p2.Den))) [(23, .int .i64 z13), (25, .int .i64 p2.Den)] 11 [some 8, some 10] rfl rfl (by kernel_rfl) rfl (by kernel_rfl) (by kernel_rfl) fun G a w S => ?_
      refine sBin (.int .i64 (w64 (z13 * p2.Den))) S (wN rfl) rfl (by kernel_rfl) (by kernel_rfl) (bMul _ _ _ _ z13 p2.Den) rfl (by decide) (fun a S => ?_)
      exact leafL ⟨rfl, S⟩
    · refine ⟨_, [(20, .int .i64 (w64 (z11 * p2.Num))), (26, .int .i64 (w64 (z13 * p2.Den)))], rfl, (srcs_of [some 5, some 11] rfl (by kernel_rfl) (by kernel_rfl)), fun G a w S => ?_⟩
      refine sCall (X := Value) (f := 36) (vs := [.int .i64 (w64 (z11 * p2.Num)), .int .i64 (w64 (z13 * p2.Den))]) (val := c_raddleref23_Make_val r15) (B' := fun _ => []) (D' := c_raddleref23_Make_D r15) [] [eBox b3 23 [.int .i64 0, .int .i64 0], eBox b2 23 [.int .i64 p2.Num, .int .i64 p2.Den]] [] [0, 1] [] S (wN rfl) rfl callee36 (by kernel_rfl) (by decide) (by kernel_rfl) (by kernel_rfl) (fun E1 w1 S1 => c_raddleref23_Make E1 w1 (w64 (z11 * p2.Num)) (w64 (z13 * p2.Den)) r15 hx16 S1) rfl (by decide) (fun u18 a w S => ?_)
      obtain rfl : u18 = .agg #[.int .i64 r15.1.Num, .int .i64 r15.1.Den] := S.mem.know (i := 0) (e := fRep r_api_Ratio (u18) r15.1) (by kernel_rfl)
      refine leafL ⟨rfl, _, _, .inl ⟨27, (.tuple #[.agg #[.int .i64 r15.1.Num, .int .i64 r15.1.Den], .int .i64 r15.2]), [(13, 28, .agg #[.int .i64 r15.1.Num, .int .i64 r15.1.Den]), (14, 29, .int .i64 r15.2)], rfl, S, hz_of (by kernel_rfl), ?_⟩⟩
      refine node_by (A := anc_raddleref23_over_0) (nf := [12, 15]) (Y := [12]) 17 (by kernel_rfl) (by kernel_rfl) (by kernel_rfl) (by kernel_rfl) (by kernel_rfl) [13, 14, 12, 0, 1, 2, 3, 4, 5, 6, 7, 8, 9, 10, 11] (by kernel_rfl) (by decide) (by decide) (aD 0 16 12 (by decide) (aD 1 15 12 (by decide) (aD 2 14 12 (by decide) (aD 3 13 12 (by decide) (aD 4 12 12 (by decide) (aD 5 11 12 (by decide) (aD 6 10 12 (by decide) (aD 7 9 12 (by decide) (aD 8 8 12 (by decide) (aD 9 7 12 (by decide) (aD 10 6 12 (by decide) (aD 11 5 12 (by decide) (aY 12 4 (by decide) (aF 13 3 (by decide) ?_ (aF 14 2 (by decide) ?_ (aN 15 1 (by decide) ?_ (aE 16 0 15 (by decide) (trivial)))))))))))))))))) [] (fun q hq => by cases hq) (fun hY => absurd (hY 15 (by decide)) (by decide))
      · refine fI 28 (.agg #[.int .i64 r15.1.Num, .int .i64 r15.1.Den]) [(27, .tuple #[.agg #[.int .i64 r15.1.Num, .int .i64 r15.1.Den], .int .i64 r15.2])] 0 [some 2] rfl rfl (by kernel_rfl) rfl (by kernel_rfl) (by kernel_rfl) fun G a w S => ?_
        refine sExtract (vs := [.agg #[.int .i64 r15.1.Num, .int .i64 r15.1.Den], .int .i64 r15.2]) (.agg #[.int .i64 r15.1.Num, .int .i64 r15.1.Den]) S (wN rfl) rfl (by kernel_rfl) rfl rfl (by decide) (fun a S => ?_)
        exact leafL ⟨rfl, S⟩
      · refine fI 29 (.int .i64 r15.2) [(27, .tuple #[.agg #[.int .i64 r15.1.Num, .int .i64 r15.1.Den], .int .i64 r15.2])] 1 [some 2] rfl rfl (by kernel_rfl) rfl (by kernel_rfl) (by kernel_rfl) fun G a w S => ?_
        refine sExtract (vs := [.agg #[.int .i64 r15.1.Num, .int .i64 r15.1.Den], .int .i64 r15.2]) (.int .i64 r15.2) S (wN rfl) rfl (by kernel_rfl) rfl rfl (by decide) (fun a S => ?_)
        exact leafL ⟨rfl, S⟩
      · refine ⟨_, [(8, .pointer (some ⟨b3, 0, none⟩)), (28, .agg #[.int .i64 r15.1.Num, .int .i64 r15.1.Den])], rfl, (srcs_of [none, some 0] rfl (by kernel_rfl) (by kernel_rfl)), fun G a w S => ?_⟩
        refine sStore (p := b3) (off := 0) (T := 23) (vs := [.int .i64 0, .int .i64 0]) (v := .agg #[.int .i64 r15.1.Num, .int .i64 r15.1.Den]) 0 [.int .i64 r15.1.Num, .int .i64 r15.1.Den] S (wN rfl) rfl (by kernel_rfl) (by kernel_rfl) rfl (by kernel_rfl) (by kernel_rfl) rfl (by simp) rfl (fun a w S => ?_)
        refine leafL ⟨rfl, _, _, .inr ⟨[(16, 9, .int .i64 r15.2)], rfl, S, hz_of (by kernel_rfl), ?_⟩⟩
        refine node_by (A := anc_raddleref23_over_0) (nf := [12, 15]) (Y := [15, 12]) 17 (by kernel_rfl) (by kernel_rfl) (by kernel_rfl) (by kernel_rfl) (by kernel_rfl) [16, 13, 14, 12, 0, 1, 2, 3, 4, 5, 6, 7, 8, 9, 10, 11] (by kernel_rfl) (by decide) (by decide) (aD 0 16 15 (by decide) (aD 1 15 15 (by decide) (aD 2 14 15 (by decide) (aD 3 13 15 (by decide) (aD 4 12 15 (by decide) (aD 5 11 15 (by decide) (aD 6 10 15 (by decide) (aD 7 9 15 (by decide) (aD 8 8 15 (by decide) (aD 9 7 15 (by decide) (aD 10 6 15 (by decide) (aD 11 5 15 (by decide) (aY 12 4 (by decide) (aD 13 3 15 (by decide) (aD 14 2 15 (by decide) (aY 15 1 (by decide) (aF 16 0 (by decide) ?_ (trivial)))))))))))))))))) [(8, .pointer (some ⟨b3, 0, none⟩)), (9, .int .i64 r15.2)] (fin_of [none, some 0] rfl (by kernel_rfl) (by kernel_rfl)) (fun _ a w S => ?_)
        · refine fI 9 (.int .i64 r15.2) [(29, .int .i64 r15.2)] 0 [some 2] rfl rfl (by kernel_rfl) rfl (by kernel_rfl) (by kernel_rfl) fun G a w S => ?_
          refine sMove (.int .i64 r15.2) S (wN rfl) (.inr rfl) (by kernel_rfl) rfl (by decide) (fun a S => ?_)
          exact leafL ⟨rfl, S⟩
        · refine leafT (hK10 _ _ ?_)
          obtain rfl := Option.some.inj h
          exact wp_ret (rThen (sRet (.tuple #[.agg #[.int .i64 r15.1.Num, .int .i64 r15.1.Den], .int .i64 r15.2]) S (rsl2 rfl (rvN (c := 8) (t := 23) (T := 23) (p := b3) 0 [.int .i64 r15.1.Num, .int .i64 r15.1.Den] S (by kernel_rfl) (by kernel_rfl) (by kernel_rfl) (by kernel_rfl)) (rvT (t := 9) (v := .int .i64 r15.2) S (by kernel_rfl))) ⟨(.agg #[.int .i64 r15.1.Num, .int .i64 r15.1.Den]), rfl, S.mem.sel [] [0] (by decide) (by kernel_rfl) (by kernel_rfl)⟩))
  · refine sCondF (b := p3) S (by kernel_rfl) hc9 ?_
    refine wp_skip (leafT (hK7 _ _ ?_))
    refine sSeq (fun K19 hK19 => ?_)
    obtain ⟨z20, hx21, h⟩ := bindSome h
    obtain ⟨z22, hx23, h⟩ := bindSome h
    obtain ⟨r24, hx25, h⟩ := bindSome h
    refine sDraw (nf := [12, 15]) (W := [(0, 30, .int .i64 p0), (1, 31, .int .i64 r5), (2, 32, .int .i64 z20), (3, 33, .pointer (some ⟨b2, 1, none⟩)), (4, 34, .int .i64 p2.Den), (5, 35, .int .i64 (w64 (z20 * p2.Den))), (6, 36, .int .i64 p1), (7, 37, .int .i64 r5), (8, 38, .int .i64 z22), (9, 39, .pointer (some ⟨b2, 0, none⟩)), (10, 40, .int .i64 p2.Num), (11, 41, .int .i64 (w64 (z22 * p2.Num)))]) (by kernel_rfl) S ?_
    refine node_by (A := anc_raddleref23_over_0) (nf := [12, 15]) (Y := []) (W := [(0, 30, .int .i64 p0), (1, 31, .int .i64 r5), (2, 32, .int .i64 z20), (3, 33, .pointer (some ⟨b2, 1, none⟩)), (4, 34, .int .i64 p2.Den), (5, 35, .int .i64 (w64 (z20 * p2.Den))), (6, 36, .int .i64 p1), (7, 37, .int .i64 r5), (8, 38, .int .i64 z22), (9, 39, .pointer (some ⟨b2, 0, none⟩)), (10, 40, .int .i64 p2.Num), (11, 41, .int .i64 (w64 (z22 * p2.Num)))]) 17 (by kernel_rfl) (by kernel_rfl) (by kernel_rfl) (by kernel_rfl) (by kernel_rfl) [0, 1, 2, 3, 4, 5, 6, 7, 8, 9, 10, 11] (by kernel_rfl) (by decide) (by decide) (aF 0 16 (by decide) ?_ (aF 1 15 (by decide) ?_ (aF 2 14 (by decide) ?_ (aF 3 13 (by decide) ?_ (aF 4 12 (by decide) ?_ (aF 5 11 (by decide) ?_ (aF 6 10 (by decide) ?_ (aF 7 9 (by decide) ?_ (aF 8 8 (by decide) ?_ (aF 9 7 (by decide) ?_ (aF 10 6 (by decide) ?_ (aF 11 5 (by decide) ?_ (aN 12 4 (by decide) ?_ (aE 13 3 12 (by decide) (aE 14 2 12 (by decide) (aB 15 1 12 (by decide) (aE 16 0 12 (by decide) (trivial)))))))))))))))))) [] (fun q hq => by cases hq) (fun hY => absurd (hY 12 (by decide)) (by decide))
    · refine fI 30 (.int .i64 p0) [(0, .int .i64 p0)] 0 [none] rfl rfl (by kernel_rfl) rfl (by kernel_rfl) (by kernel_rfl) fun G a w S => ?_
      refine sMove (.int .i64 p0) S (wN rfl) (.inl rfl) (by kernel_rfl) rfl (by decide) (fun a S => ?_)
      exact leafL ⟨rfl, S⟩
    · refine fI 31 (.int .i64 r5) [(10, .int .i64 r5)] 1 [none] rfl rfl (by kernel_rfl) rfl (by kernel_rfl) (by kernel_rfl) fun G a w S => ?_
      refine sMove (.int .i64 r5) S (wN rfl) (.inl rfl) (by kernel_rfl) rfl (by decide) (fun a S => ?_)
      exact leafL ⟨rfl, S⟩
    · refine fI 32 (.int .i64 z20) [(30, .int .i64 p0), (31, .int .i64 r5)] 2 [some 0, some 1] rfl rfl (by kernel_rfl) rfl (by kernel_rfl) (by kernel_rfl) fun G a w S => ?_
      refine sBin (.int .i64 z20) S (wN rfl) rfl (by kernel_rfl) (by kernel_rfl) (bQuo _ _ _ _ (x := p0) (y := r5) hx21) rfl (by decide) (fun a S => ?_)
      exact leafL ⟨rfl, S⟩
    · refine fI 33 (.pointer (some ⟨b2, 1, none⟩)) [(6, .pointer (some ⟨b2, 0, none⟩))] 3 [none] rfl rfl (by kernel_rfl) rfl (by kernel_rfl) (by kernel_rfl) fun G a w S => ?_
      refine sField (b := b2) (off := 0) 1 1 S (wN rfl) rfl (by kernel_rfl) (by kernel_rfl) rfl rfl (by decide) (fun a S => ?_)
      exact leafL ⟨rfl, S⟩
    · refine fI 34 (.int .i64 p2.Den) [(33, .pointer (some ⟨b2, 1, none⟩))] 4 [some 3] rfl rfl (by kernel_rfl) rfl (by kernel_rfl) (by kernel_rfl) fun G a w S => ?_
      refine sLoad1 (p := b2) (off := 1) (T := 23) (vs := [.int .i64 p2.Num, .int .i64 p2.Den]) 1 (.int .i64 p2.Den) S (wN rfl) rfl (by kernel_rfl) (by kernel_rfl) (by kernel_rfl) rfl rfl (by decide) (fun a S => ?_)
      exact leafL ⟨rfl, S⟩
    · refine fI 35 (.int .i64 (w64 (z20 * p2.Den))) [(32, .int .i64 z20), (34, .int .i64 p2.Den)] 5 [some 2, some 4] rfl rfl (by kernel_rfl) rfl (by kernel_rfl) (by kernel_rfl) fun G a w S => ?_
      refine sBin (.int .i64 (w64 (z20 * p2.Den))) S (wN rfl) rfl (by kernel_rfl) (by kernel_rfl) (bMul _ _ _ _ z20 p2.Den) rfl (by decide) (fun a S => ?_)
      exact leafL ⟨rfl, S⟩
    · refine fI 36 (.int .i64 p1) [(1, .int .i64 p1)] 6 [none] rfl rfl (by kernel_rfl) rfl (by kernel_rfl) (by kernel_rfl) fun G a w S => ?_
      refine sMove (.int .i64 p1) S (wN rfl) (.inl rfl) (by kernel_rfl) rfl (by decide) (fun a S => ?_)
      exact leafL ⟨rfl, S⟩
    · refine fI 37 (.int .i64 r5) [(10, .int .i64 r5)] 7 [none] rfl rfl (by kernel_rfl) rfl (by kernel_rfl) (by kernel_rfl) fun G a w S => ?_
      refine sMove (.int .i64 r5) S (wN rfl) (.inl rfl) (by kernel_rfl) rfl (by decide) (fun a S => ?_)
      exact leafL ⟨rfl, S⟩
    · refine fI 38 (.int .i64 z22) [(36, .int .i64 p1), (37, .int .i64 r5)] 8 [some 6, some 7] rfl rfl (by kernel_rfl) rfl (by kernel_rfl) (by kernel_rfl) fun G a w S => ?_
      refine sBin (.int .i64 z22) S (wN rfl) rfl (by kernel_rfl) (by kernel_rfl) (bQuo _ _ _ _ (x := p1) (y := r5) hx23) rfl (by decide) (fun a S => ?_)
      exact leafL ⟨rfl, S⟩
    · refine fI 39 (.pointer (some ⟨b2, 0, none⟩)) [(6, .pointer (some ⟨b2, 0, none⟩))] 9 [none] rfl rfl (by kernel_rfl) rfl (by kernel_rfl) (by kernel_rfl) fun G a w S => ?_
      refine sField (b := b2) (off := 0) 0 0 S (wN rfl) rfl (by kernel_rfl) (by kernel_rfl) rfl rfl (by decide) (fun a S => ?_)
      exact leafL ⟨rfl, S⟩
    · refine fI 40 (.int .i64 p2.Num) [(39, .pointer (some ⟨b2, 0, none⟩))] 10 [some 9] rfl rfl (by kernel_rfl) rfl (by kernel_rfl) (by kernel_rfl) fun G a w S => ?_
      refine sLoad1 (p := b2) (off := 0) (T := 23) (vs := [.int .i64 p2.Num, .int .i64 p2.Den]) 1 (.int .i64 p2.Num) S (wN rfl) rfl (by kernel_rfl) (by kernel_rfl) (by kernel_rfl) rfl rfl (by decide) (fun a S => ?_)
      exact leafL ⟨rfl, S⟩
    · refine fI 41 (.int .i64 (w64 (z22 * p2.Num))) [(38, .int .i64 z22), (40, .int .i64 p2.Num)] 11 [some 8, some 10] rfl rfl (by kernel_rfl) rfl (by kernel_rfl) (by kernel_rfl) fun G a w S => ?_
      refine sBin (.int .i64 (w64 (z22 * p2.Num))) S (wN rfl) rfl (by kernel_rfl) (by kernel_rfl) (bMul _ _ _ _ z22 p2.Num) rfl (by decide) (fun a S => ?_)
      exact leafL ⟨rfl, S⟩
    · refine ⟨_, [(35, .int .i64 (w64 (z20 * p2.Den))), (41, .int .i64 (w64 (z22 * p2.Num)))], rfl, (srcs_of [some 5, some 11] rfl (by kernel_rfl) (by kernel_rfl)), fun G a w S => ?_⟩
      refine sCall (X := Value) (f := 36) (vs := [.int .i64 (w64 (z20 * p2.Den)), .int .i64 (w64 (z22 * p2.Num))]) (val := c_raddleref23_Make_val r24) (B' := fun _ => []) (D' := c_raddleref23_Make_D r24) [] [eBox b3 23 [.int .i64 0, .int .i64 0], eBox b2 23 [.int .i64 p2.Num, .int .i64 p2.Den]] [] [0, 1] [] S (wN rfl) rfl callee36 (by kernel_rfl) (by decide) (by kernel_rfl) (by kernel_rfl) (fun E1 w1 S1 => c_raddleref23_Make E1 w1 (w64 (z20 * p2.Den)) (w64 (z22 * p2.Num)) r24 hx25 S1) rfl (by decide) (fun u27 a w S => ?_)
      obtain rfl : u27 = .agg #[.int .i64 r24.1.Num, .int .i64 r24.1.Den] := S.mem.know (i := 0) (e := fRep r_api_Ratio (u27) r24.1) (by kernel_rfl)
      refine leafL ⟨rfl, _, _, .inl ⟨42, (.tuple #[.agg #[.int .i64 r24.1.Num, .int .i64 r24.1.Den], .int .i64 r24.2]), [(13, 43, .agg #[.int .i64 r24.1.Num, .int .i64 r24.1.Den]), (14, 44, .int .i64 r24.2)], rfl, S, hz_of (by kernel_rfl), ?_⟩⟩
      refine node_by (A := anc_raddleref23_over_0) (nf := [12, 15]) (Y := [12]) 17 (by kernel_rfl) (by kernel_rfl) (by kernel_rfl) (by kernel_rfl) (by kernel_rfl) [13, 14, 12, 0, 1, 2, 3, 4, 5, 6, 7, 8, 9, 10, 11] (by kernel_rfl) (by decide) (by decide) (aD 0 16 12 (by decide) (aD 1 15 12 (by decide) (aD 2 14 12 (by decide) (aD 3 13 12 (by decide) (aD 4 12 12 (by decide) (aD 5 11 12 (by decide) (aD 6 10 12 (by decide) (aD 7 9 12 (by decide) (aD 8 8 12 (by decide) (aD 9 7 12 (by decide) (aD 10 6 12 (by decide) (aD 11 5 12 (by decide) (aY 12 4 (by decide) (aF 13 3 (by decide) ?_ (aF 14 2 (by decide) ?_ (aN 15 1 (by decide) ?_ (aE 16 0 15 (by decide) (trivial)))))))))))))))))) [] (fun q hq => by cases hq) (fun hY => absurd (hY 15 (by decide)) (by decide))
      · refine fI 43 (.agg #[.int .i64 r24.1.Num, .int .i64 r24.1.Den]) [(42, .tuple #[.agg #[.int .i64 r24.1.Num, .int .i64 r24.1.Den], .int .i64 r24.2])] 0 [some 2] rfl rfl (by kernel_rfl) rfl (by kernel_rfl) (by kernel_rfl) fun G a w S => ?_
        refine sExtract (vs := [.agg #[.int .i64 r24.1.Num, .int .i64 r24.1.Den], .int .i64 r24.2]) (.agg #[.int .i64 r24.1.Num, .int .i64 r24.1.Den]) S (wN rfl) rfl (by kernel_rfl) rfl rfl (by decide) (fun a S => ?_)
        exact leafL ⟨rfl, S⟩
      · refine fI 44 (.int .i64 r24.2) [(42, .tuple #[.agg #[.int .i64 r24.1.Num, .int .i64 r24.1.Den], .int .i64 r24.2])] 1 [some 2] rfl rfl (by kernel_rfl) rfl (by kernel_rfl) (by kernel_rfl) fun G a w S => ?_
        refine sExtract (vs := [.agg #[.int .i64 r24.1.Num, .int .i64 r24.1.Den], .int .i64 r24.2]) (.int .i64 r24.2) S (wN rfl) rfl (by kernel_rfl) rfl rfl (by decide) (fun a S => ?_)
        exact leafL ⟨rfl, S⟩
      · refine ⟨_, [(8, .pointer (some ⟨b3, 0, none⟩)), (43, .agg #[.int .i64 r24.1.Num, .int .i64 r24.1.Den])], rfl, (srcs_of [none, some 0] rfl (by kernel_rfl) (by kernel_rfl)), fun G a w S => ?_⟩
        refine sStore (p := b3) (off := 0) (T := 23) (vs := [.int .i64 0, .int .i64 0]) (v := .agg #[.int .i64 r24.1.Num, .int .i64 r24.1.Den]) 0 [.int .i64 r24.1.Num, .int .i64 r24.1.Den] S (wN rfl) rfl (by kernel_rfl) (by kernel_rfl) rfl (by kernel_rfl) (by kernel_rfl) rfl (by simp) rfl (fun a w S => ?_)
        refine leafL ⟨rfl, _, _, .inr ⟨[(16, 9, .int .i64 r24.2)], rfl, S, hz_of (by kernel_rfl), ?_⟩⟩
        refine node_by (A := anc_raddleref23_over_0) (nf := [12, 15]) (Y := [15, 12]) 17 (by kernel_rfl) (by kernel_rfl) (by kernel_rfl) (by kernel_rfl) (by kernel_rfl) [16, 13, 14, 12, 0, 1, 2, 3, 4, 5, 6, 7, 8, 9, 10, 11] (by kernel_rfl) (by decide) (by decide) (aD 0 16 15 (by decide) (aD 1 15 15 (by decide) (aD 2 14 15 (by decide) (aD 3 13 15 (by decide) (aD 4 12 15 (by decide) (aD 5 11 15 (by decide) (aD 6 10 15 (by decide) (aD 7 9 15 (by decide) (aD 8 8 15 (by decide) (aD 9 7 15 (by decide) (aD 10 6 15 (by decide) (aD 11 5 15 (by decide) (aY 12 4 (by decide) (aD 13 3 15 (by decide) (aD 14 2 15 (by decide) (aY 15 1 (by decide) (aF 16 0 (by decide) ?_ (trivial)))))))))))))))))) [(8, .pointer (some ⟨b3, 0, none⟩)), (9, .int .i64 r24.2)] (fin_of [none, some 0] rfl (by kernel_rfl) (by kernel_rfl)) (fun _ a w S => ?_)
        · refine fI 9 (.int .i64 r24.2) [(44, .int .i64 r24.2)] 0 [some 2] rfl rfl (by kernel_rfl) rfl (by kernel_rfl) (by kernel_rfl) fun G a w S => ?_
          refine sMove (.int .i64 r24.2) S (wN rfl) (.inr rfl) (by kernel_rfl) rfl (by decide) (fun a S => ?_)
          exact leafL ⟨rfl, S⟩
        · refine leafT (hK19 _ _ ?_)
          obtain rfl := Option.some.inj h
          exact wp_ret (sRet (.tuple #[.agg #[.int .i64 r24.1.Num, .int .i64 r24.1.Den], .int .i64 r24.2]) S (rsl2 rfl (rvN (c := 8) (t := 23) (T := 23) (p := b3) 0 [.int .i64 r24.1.Num, .int .i64 r24.1.Den] S (by kernel_rfl) (by kernel_rfl) (by kernel_rfl) (by kernel_rfl)) (rvT (t := 9) (v := .int .i64 r24.2) S (by kernel_rfl))) ⟨(.agg #[.int .i64 r24.1.Num, .int .i64 r24.1.Den]), rfl, S.mem.sel [] [0] (by decide) (by kernel_rfl) (by kernel_rfl)⟩)

end Go.Proofs.Ytdfjcpnflmgdoaa
