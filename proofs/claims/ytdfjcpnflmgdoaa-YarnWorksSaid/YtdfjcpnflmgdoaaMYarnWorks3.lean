/- Several texts in one: G8 PlQ G40 G55 G43 G53s0 G54s1 G33s1 G10 G35 G11 G41 G33s2 G12 G13 G42 G33s3 G14 -/
import Derived.WalkKit
import Derived.Maps.AppendAt
import Derived.Deep.AppendLies
import Derived.KernelRfl
import Derived.Laws.OwnMore
import Derived.Great.BuildSlice
import Derived.Orders
import Derived.Laws.StructEq
import Derived.ChangeKeysEq
import Derived.Defers
import Derived.Test.YtdfjcpnflmgdoaaProg
import Derived.ProofKit
import Derived.OpenShut
import Derived.ChangeOld
import Derived.Deep.Slices
import Derived.Lib.SmallJoins
import Derived.JoinedOf
import Derived.JoinedAt
import Derived.Below
import Derived.Test.YtdfjcpnflmgdoaaRows
import Derived.Test.YtdfjcpnflmgdoaaMYarnWorks2
namespace Go.Proofs.Ytdfjcpnflmgdoaa
open Go.RowKit
set_option linter.unusedVariables false

def anc_yarn_Check_0 : List (List Nat) := [[], [0], [0, 1], [0, 1, 2], [0, 1, 2, 3], [0, 1, 2, 3, 4], [0, 1, 2, 3, 4, 5], [0, 1, 2, 3, 4, 5, 6], [0, 1, 2, 3, 4, 5, 6, 7], [0, 1, 2, 3, 4, 5, 6, 7, 8], [0, 1, 2, 3, 4, 5, 6, 7, 8, 9], [0, 1, 2, 3, 4, 5, 6, 7, 8, 9, 10], [0, 1, 2, 3, 4, 5, 6, 7, 8, 9, 10, 11], [0, 1, 2, 3, 4, 5, 6, 7, 8, 9, 10, 11, 12], [0, 1, 2, 3, 4, 5, 6, 7, 8, 9, 10, 11, 12, 13], [0, 1, 2, 3, 4, 5, 6, 7, 8, 9, 10, 11, 12, 13, 14], [0, 1, 2, 3, 4, 5, 6, 7, 8, 9, 10, 11, 12, 13, 14, 15], [0, 1, 2, 3, 4, 5, 6, 7, 8, 9, 10, 11, 12, 13, 14, 15, 16], [0, 1, 2, 3, 4, 5, 6, 7, 8, 9, 10, 11, 12, 13, 14], [0, 1, 2, 3, 4, 5, 6, 7, 8, 9, 10, 11, 12, 13, 14, 18], [0, 1, 2, 3, 4, 5, 6, 7, 8, 9, 10, 11, 12, 13, 14, 18, 19], [0, 1, 2, 3, 4, 5, 6, 7, 8, 9, 10, 11, 12, 13, 14, 15, 16, 17, 18, 19, 20], [0, 1, 2, 3, 4, 5, 6, 7, 8, 9, 10, 11, 12, 13, 14, 15, 16, 17, 18, 19, 20, 21], [0, 1, 2, 3, 4, 5, 6, 7, 8, 9, 10, 11, 12, 13, 14, 15, 16, 17, 18, 19, 20, 21, 22]]
noncomputable def F_yarn_Check (p0 : api_Ratio) : Option Int :=
  Option.bind (α := Bool) (
    if decide (p0.Den < 1) then
      some true
    else
      if decide (1000000000 < p0.Den) then
        some true
      else
        Option.bind (F_yarn_size p0.Num) fun r9 =>
        if decide (1000000000 < r9) then
          some true
        else
          Option.bind (F_yarn_gcd r9 (IntKind.u64.wrap p0.Den)) fun r12 =>
          some (r12 != 1)) fun o4 =>
  if o4 then
    some 8
  else
    some 0
set_option maxHeartbeats 4000000 in
set_option maxRecDepth 100000 in
theorem c_yarn_Check (E : Nat → Prop) (w0 : World) (p0 : api_Ratio) (v0 : Value) (r : Int) (h : F_yarn_Check p0 = some r) (S : St0 E [] w0 w0 [] [fRep r_api_Ratio (v0) p0]) :
    Calls Try.prog 8 #[v0] w0 (Ret (X := Unit) E [] w0 (fun _ => .int .i64 r) (fun _ => []) (fun _ => [])) := by
  unfold F_yarn_Check at h
  obtain rfl : v0 = .agg #[.int .i64 p0.Num, .int .i64 p0.Den] := S.know (i := 0) (e := fRep r_api_Ratio (v0) p0) (by kernel_rfl)
  refine sEnter (args := [.agg #[.int .i64 p0.Num, .int .i64 p0.Den]]) 27 Try.func8 rfl rfl (by simp) S (fun a S => ?_)
  refine sSeq (fun K1 hK1 => ?_)
  refine sRegion ?_
  refine sBox (v := .agg #[.int .i64 p0.Num, .int .i64 p0.Den]) S (wN rfl) rfl (by kernel_rfl) [.int .i64 p0.Num, .int .i64 p0.Den] rfl rfl (by decide) (fun a b2 w S => ?_)
  refine sMove (.int .i64 0) S (wN rfl) (.inr rfl) (by kernel_rfl) rfl (by decide) (fun a S => ?_)
  refine leafL (leafT (hK1 _ _ ?_))
  refine sSeq (fun K3 hK3 => ?_)
  obtain ⟨t5, h, g6⟩ := bindSome h
  refine sCut (fun a w => ∃ o4, o4 = t5 ∧ St [] E [] w0 27 a w [(26, .bool o4)] [] []) ?_ (fun a w hI => ?_)
  · rcases iteSome h with ⟨hc7, h⟩ | ⟨hc7, h⟩
    · refine sDraw (nf := []) (W := [(0, 3, .pointer (some ⟨b2, 1, none⟩)), (1, 4, .int .i64 p0.Den), (2, 5, .bool (decide (p0.Den < 1))), (3, 6, .bool (decide (p0.Den < 1))), (4, 7, undef), (5, 8, undef), (6, 9, undef), (7, 10, .bool true), (8, 11, .bool true), (9, 12, undef), (10, 13, undef), (11, 14, undef), (12, 15, undef), (13, 16, .bool true), (14, 17, .bool true), (15, 18, undef), (16, 19, undef), (17, 20, undef), (18, 21, undef), (19, 22, undef), (20, 23, undef), (21, 24, undef), (22, 25, undef), (23, 26, .bool true)]) (by kernel_rfl) S ?_
      refine node_by (A := anc_yarn_Check_0) (nf := []) (Y := []) (W := [(0, 3, .pointer (some ⟨b2, 1, none⟩)), (1, 4, .int .i64 p0.Den), (2, 5, .bool (decide (p0.Den < 1))), (3, 6, .bool (decide (p0.Den < 1))), (4, 7, undef), (5, 8, undef), (6, 9, undef), (7, 10, .bool true), (8, 11, .bool true), (9, 12, undef), (10, 13, undef), (11, 14, undef), (12, 15, undef), (13, 16, .bool true), (14, 17, .bool true), (15, 18, undef), (16, 19, undef), (17, 20, undef), (18, 21, undef), (19, 22, undef), (20, 23, undef), (21, 24, undef), (22, 25, undef), (23, 26, .bool true)]) 24 (by kernel_rfl) (by kernel_rfl) (by kernel_rfl) (by kernel_rfl) (by kernel_rfl) [0, 1, 2, 3, 4, 5, 6, 7, 8, 9, 10, 11, 12, 13, 14, 15, 16, 17, 18, 19, 20, 21, 22, 23] (by kernel_rfl) (by decide) (by decide) (aF 0 23 (by decide) ?_ (aF 1 22 (by decide) ?_ (aF 2 21 (by decide) ?_ (aF 3 20 (by decide) ?_ (aF 4 19 (by decide) ?_ (aF 5 18 (by decide) ?_ (aF 6 17 (by decide) ?_ (aF 7 16 (by decide) ?_ (aF 8 15 (by decide) ?_ (aF 9 14 (by decide) ?_ (aF 10 13 (by decide) ?_ (aF 11 12 (by decide) ?_ (aF 12 11 (by decide) ?_ (aF 13 10 (by decide) ?_ (aF 14 9 (by decide) ?_ (aF 15 8 (by decide) ?_ (aF 16 7 (by decide) ?_ (aF 17 6 (by decide) ?_ (aF 18 5 (by decide) ?_ (aF 19 4 (by decide) ?_ (aF 20 3 (by decide) ?_ (aF 21 2 (by decide) ?_ (aF 22 1 (by decide) ?_ (aF 23 0 (by decide) ?_ (trivial))))))))))))))))))))))))) [(26, .bool true)] (fin_of [some 23] rfl (by kernel_rfl) (by kernel_rfl)) (fun _ a w S => ?_)
      · refine fI 3 (.pointer (some ⟨b2, 1, none⟩)) [(1, .pointer (some ⟨b2, 0, none⟩))] 0 [none] rfl rfl (by kernel_rfl) rfl (by kernel_rfl) (by kernel_rfl) fun G a w S => ?_
        refine sField (b := b2) (off := 0) 1 1 S (wN rfl) rfl (by kernel_rfl) (by kernel_rfl) rfl rfl (by decide) (fun a S => ?_)
        exact leafL ⟨rfl, S⟩
      · refine fI 4 (.int .i64 p0.Den) [(3, .pointer (some ⟨b2, 1, none⟩))] 1 [some 0] rfl rfl (by kernel_rfl) rfl (by kernel_rfl) (by kernel_rfl) fun G a w S => ?_
        refine sLoad1 (p := b2) (off := 1) (T := 23) (vs := [.int .i64 p0.Num, .int .i64 p0.Den]) 0 (.int .i64 p0.Den) S (wN rfl) rfl (by kernel_rfl) (by kernel_rfl) (by kernel_rfl) rfl rfl (by decide) (fun a S => ?_)
        exact leafL ⟨rfl, S⟩
      · refine fI 5 (.bool (decide (p0.Den < 1))) [(4, .int .i64 p0.Den)] 2 [some 1] rfl rfl (by kernel_rfl) rfl (by kernel_rfl) (by kernel_rfl) fun G a w S => ?_
        refine sBin (.bool (decide (p0.Den < 1))) S (wN rfl) rfl (by kernel_rfl) (by kernel_rfl) (bLt _ _ _ _ .i64 p0.Den 1) rfl (by decide) (fun a S => ?_)
        exact leafL ⟨rfl, S⟩
      · refine fI 6 (.bool (decide (p0.Den < 1))) [(5, .bool (decide (p0.Den < 1)))] 3 [some 2] rfl rfl (by kernel_rfl) rfl (by kernel_rfl) (by kernel_rfl) fun G a w S => ?_
        refine sMove (.bool (decide (p0.Den < 1))) S (wN rfl) (.inl rfl) (by kernel_rfl) rfl (by decide) (fun a S => ?_)
        exact leafL ⟨rfl, S⟩
      · refine fI 7 undef [(1, .pointer (some ⟨b2, 0, none⟩)), (6, .bool (decide (p0.Den < 1)))] 4 [none, some 3] rfl rfl (by kernel_rfl) rfl (by kernel_rfl) (by kernel_rfl) fun G a w S => ?_
        refine sSkip (c := decide (p0.Den < 1)) 3 false 6 7 S rfl rfl (by kernel_rfl) hc7 rfl (by decide) (fun a S => ?_)
        exact leafL ⟨rfl, S⟩
      · refine fI 8 undef [(7, undef), (6, .bool (decide (p0.Den < 1)))] 5 [some 4, some 3] rfl rfl (by kernel_rfl) rfl (by kernel_rfl) (by kernel_rfl) fun G a w S => ?_
        refine sSkip (c := decide (p0.Den < 1)) 3 false 6 8 S rfl rfl (by kernel_rfl) hc7 rfl (by decide) (fun a S => ?_)
        exact leafL ⟨rfl, S⟩
      · refine fI 9 undef [(8, undef), (6, .bool (decide (p0.Den < 1)))] 6 [some 5, some 3] rfl rfl (by kernel_rfl) rfl (by kernel_rfl) (by kernel_rfl) fun G a w S => ?_
        refine sSkip (c := decide (p0.Den < 1)) 3 false 6 9 S rfl rfl (by kernel_rfl) hc7 rfl (by decide) (fun a S => ?_)
        exact leafL ⟨rfl, S⟩
      · refine fI 10 (.bool true) [(6, .bool (decide (p0.Den < 1))), (9, undef)] 7 [some 3, some 6] rfl rfl (by kernel_rfl) rfl (by kernel_rfl) (by kernel_rfl) fun G a w S => ?_
        refine sPickT (b := decide (p0.Den < 1)) (.bool true) S (wN rfl) rfl (by kernel_rfl) hc7 (by kernel_rfl) rfl (by decide) (fun a S => ?_)
        exact leafL ⟨rfl, S⟩
      · refine fI 11 (.bool true) [(10, .bool true)] 8 [some 7] rfl rfl (by kernel_rfl) rfl (by kernel_rfl) (by kernel_rfl) fun G a w S => ?_
        refine sMove (.bool true) S (wN rfl) (.inl rfl) (by kernel_rfl) rfl (by decide) (fun a S => ?_)
        exact leafL ⟨rfl, S⟩
      · refine fI 12 undef [(1, .pointer (some ⟨b2, 0, none⟩)), (11, .bool true)] 9 [none, some 8] rfl rfl (by kernel_rfl) rfl (by kernel_rfl) (by kernel_rfl) fun G a w S => ?_
        refine sSkip (c := true) 8 false 11 12 S rfl rfl (by kernel_rfl) rfl rfl (by decide) (fun a S => ?_)
        exact leafL ⟨rfl, S⟩
      · refine fI 13 undef [(12, undef), (11, .bool true)] 10 [some 9, some 8] rfl rfl (by kernel_rfl) rfl (by kernel_rfl) (by kernel_rfl) fun G a w S => ?_
        refine sSkip (c := true) 8 false 11 13 S rfl rfl (by kernel_rfl) rfl rfl (by decide) (fun a S => ?_)
        exact leafL ⟨rfl, S⟩
      · refine fI 14 undef [(13, undef), (11, .bool true)] 11 [some 10, some 8] rfl rfl (by kernel_rfl) rfl (by kernel_rfl) (by kernel_rfl) fun G a w S => ?_
        refine sSkip (c := true) 8 false 11 14 S rfl rfl (by kernel_rfl) rfl rfl (by decide) (fun a S => ?_)
        exact leafL ⟨rfl, S⟩
      · refine fI 15 undef [(14, undef), (11, .bool true)] 12 [some 11, some 8] rfl rfl (by kernel_rfl) rfl (by kernel_rfl) (by kernel_rfl) fun G a w S => ?_
        refine sSkip (c := true) 8 false 11 15 S rfl rfl (by kernel_rfl) rfl rfl (by decide) (fun a S => ?_)
        exact leafL ⟨rfl, S⟩
      · refine fI 16 (.bool true) [(11, .bool true), (15, undef)] 13 [some 8, some 12] rfl rfl (by kernel_rfl) rfl (by kernel_rfl) (by kernel_rfl) fun G a w S => ?_
        refine sPickT (b := true) (.bool true) S (wN rfl) rfl (by kernel_rfl) rfl (by kernel_rfl) rfl (by decide) (fun a S => ?_)
        exact leafL ⟨rfl, S⟩
      · refine fI 17 (.bool true) [(16, .bool true)] 14 [some 13] rfl rfl (by kernel_rfl) rfl (by kernel_rfl) (by kernel_rfl) fun G a w S => ?_
        refine sMove (.bool true) S (wN rfl) (.inl rfl) (by kernel_rfl) rfl (by decide) (fun a S => ?_)
        exact leafL ⟨rfl, S⟩
      · refine fI 18 undef [(1, .pointer (some ⟨b2, 0, none⟩)), (17, .bool true)] 15 [none, some 14] rfl rfl (by kernel_rfl) rfl (by kernel_rfl) (by kernel_rfl) fun G a w S => ?_
        refine sSkip (c := true) 14 false 17 18 S rfl rfl (by kernel_rfl) rfl rfl (by decide) (fun a S => ?_)
        exact leafL ⟨rfl, S⟩
      · refine fI 19 undef [(18, undef), (17, .bool true)] 16 [some 15, some 14] rfl rfl (by kernel_rfl) rfl (by kernel_rfl) (by kernel_rfl) fun G a w S => ?_
        refine sSkip (c := true) 14 false 17 19 S rfl rfl (by kernel_rfl) rfl rfl (by decide) (fun a S => ?_)
        exact leafL ⟨rfl, S⟩
      · refine fI 20 undef [(19, undef), (17, .bool true)] 17 [some 16, some 14] rfl rfl (by kernel_rfl) rfl (by kernel_rfl) (by kernel_rfl) fun G a w S => ?_
        refine sSkip (c := true) 14 false 17 20 S rfl rfl (by kernel_rfl) rfl rfl (by decide) (fun a S => ?_)
        exact leafL ⟨rfl, S⟩
      · refine fI 21 undef [(1, .pointer (some ⟨b2, 0, none⟩)), (17, .bool true)] 18 [none, some 14] rfl rfl (by kernel_rfl) rfl (by kernel_rfl) (by kernel_rfl) fun G a w S => ?_
        refine sSkip (c := true) 14 false 17 21 S rfl rfl (by kernel_rfl) rfl rfl (by decide) (fun a S => ?_)
        exact leafL ⟨rfl, S⟩
      · refine fI 22 undef [(21, undef), (17, .bool true)] 19 [some 18, some 14] rfl rfl (by kernel_rfl) rfl (by kernel_rfl) (by kernel_rfl) fun G a w S => ?_
        refine sSkip (c := true) 14 false 17 22 S rfl rfl (by kernel_rfl) rfl rfl (by decide) (fun a S => ?_)
        exact leafL ⟨rfl, S⟩
      · refine fI 23 undef [(22, undef), (17, .bool true)] 20 [some 19, some 14] rfl rfl (by kernel_rfl) rfl (by kernel_rfl) (by kernel_rfl) fun G a w S => ?_
        refine sSkip (c := true) 14 false 17 23 S rfl rfl (by kernel_rfl) rfl rfl (by decide) (fun a S => ?_)
        exact leafL ⟨rfl, S⟩
      · refine fI 24 undef [(20, undef), (23, undef), (17, .bool true)] 21 [some 17, some 20, some 14] rfl rfl (by kernel_rfl) rfl (by kernel_rfl) (by kernel_rfl) fun G a w S => ?_
        refine sSkip (c := true) 14 false 17 24 S rfl rfl (by kernel_rfl) rfl rfl (by decide) (fun a S => ?_)
        exact leafL ⟨rfl, S⟩
      · refine fI 25 undef [(24, undef), (17, .bool true)] 22 [some 21, some 14] rfl rfl (by kernel_rfl) rfl (by kernel_rfl) (by kernel_rfl) fun G a w S => ?_
        refine sSkip (c := true) 14 false 17 25 S rfl rfl (by kernel_rfl) rfl rfl (by decide) (fun a S => ?_)
        exact leafL ⟨rfl, S⟩
      · refine fI 26 (.bool true) [(17, .bool true), (25, undef)] 23 [some 14, some 22] rfl rfl (by kernel_rfl) rfl (by kernel_rfl) (by kernel_rfl) fun G a w S => ?_
        refine sPickT (b := true) (.bool true) S (wN rfl) rfl (by kernel_rfl) rfl (by kernel_rfl) rfl (by decide) (fun a S => ?_)
        exact leafL ⟨rfl, S⟩
      · exact leafT (⟨true, Option.some.inj h, S.fix [] [] (by decide) (by kernel_rfl) (by kernel_rfl) (by kernel_rfl)⟩)
    · rcases iteSome h with ⟨hc8, h⟩ | ⟨hc8, h⟩
      · refine sDraw (nf := []) (W := [(0, 3, .pointer (some ⟨b2, 1, none⟩)), (1, 4, .int .i64 p0.Den), (2, 5, .bool (decide (p0.Den < 1))), (3, 6, .bool (decide (p0.Den < 1))), (4, 7, .pointer (some ⟨b2, 1, none⟩)), (5, 8, .int .i64 p0.Den), (6, 9, .bool (decide (1000000000 < p0.Den))), (7, 10, .bool (decide (1000000000 < p0.Den))), (8, 11, .bool (decide (1000000000 < p0.Den))), (9, 12, undef), (10, 13, undef), (11, 14, undef), (12, 15, undef), (13, 16, .bool true), (14, 17, .bool true), (15, 18, undef), (16, 19, undef), (17, 20, undef), (18, 21, undef), (19, 22, undef), (20, 23, undef), (21, 24, undef), (22, 25, undef), (23, 26, .bool true)]) (by kernel_rfl) S ?_
        refine node_by (A := anc_yarn_Check_0) (nf := []) (Y := []) (W := [(0, 3, .pointer (some ⟨b2, 1, none⟩)), (1, 4, .int .i64 p0.Den), (2, 5, .bool (decide (p0.Den < 1))), (3, 6, .bool (decide (p0.Den < 1))), (4, 7, .pointer (some ⟨b2, 1, none⟩)), (5, 8, .int .i64 p0.Den), (6, 9, .bool (decide (1000000000 < p0.Den))), (7, 10, .bool (decide (1000000000 < p0.Den))), (8, 11, .bool (decide (1000000000 < p0.Den))), (9, 12, undef), (10, 13, undef), (11, 14, undef), (12, 15, undef), (13, 16, .bool true), (14, 17, .bool true), (15, 18, undef), (16, 19, undef), (17, 20, undef), (18, 21, undef), (19, 22, undef), (20, 23, undef), (21, 24, undef), (22, 25, undef), (23, 26, .bool true)]) 24 (by kernel_rfl) (by kernel_rfl) (by kernel_rfl) (by kernel_rfl) (by kernel_rfl) [0, 1, 2, 3, 4, 5, 6, 7, 8, 9, 10, 11, 12, 13, 14, 15, 16, 17, 18, 19, 20, 21, 22, 23] (by kernel_rfl) (by decide) (by decide) (aF 0 23 (by decide) ?_ (aF 1 22 (by decide) ?_ (aF 2 21 (by decide) ?_ (aF 3 20 (by decide) ?_ (aF 4 19 (by decide) ?_ (aF 5 18 (by decide) ?_ (aF 6 17 (by decide) ?_ (aF 7 16 (by decide) ?_ (aF 8 15 (by decide) ?_ (aF 9 14 (by decide) ?_ (aF 10 13 (by decide) ?_ (aF 11 12 (by decide) ?_ (aF 12 11 (by decide) ?_ (aF 13 10 (by decide) ?_ (aF 14 9 (by decide) ?_ (aF 15 8 (by decide) ?_ (aF 16 7 (by decide) ?_ (aF 17 6 (by decide) ?_ (aF 18 5 (by decide) ?_ (aF 19 4 (by decide) ?_ (aF 20 3 (by decide) ?_ (aF 21 2 (by decide) ?_ (aF 22 1 (by decide) ?_ (aF 23 0 (by decide) ?_ (trivial))))))))))))))))))))))))) [(26, .bool true)] (fin_of [some 23] rfl (by kernel_rfl) (by kernel_rfl)) (fun _ a w S => ?_)
        · refine fI 3 (.pointer (some ⟨b2, 1, none⟩)) [(1, .pointer (some ⟨b2, 0, none⟩))] 0 [none] rfl rfl (by kernel_rfl) rfl (by kernel_rfl) (by kernel_rfl) fun G a w S => ?_
          refine sField (b := b2) (off := 0) 1 1 S (wN rfl) rfl (by kernel_rfl) (by kernel_rfl) rfl rfl (by decide) (fun a S => ?_)
          exact leafL ⟨rfl, S⟩
        · refine fI 4 (.int .i64 p0.Den) [(3, .pointer (some ⟨b2, 1, none⟩))] 1 [some 0] rfl rfl (by kernel_rfl) rfl (by kernel_rfl) (by kernel_rfl) fun G a w S => ?_
          refine sLoad1 (p := b2) (off := 1) (T := 23) (vs := [.int .i64 p0.Num, .int .i64 p0.Den]) 0 (.int .i64 p0.Den) S (wN rfl) rfl (by kernel_rfl) (by kernel_rfl) (by kernel_rfl) rfl rfl (by decide) (fun a S => ?_)
          exact leafL ⟨rfl, S⟩
        · refine fI 5 (.bool (decide (p0.Den < 1))) [(4, .int .i64 p0.Den)] 2 [some 1] rfl rfl (by kernel_rfl) rfl (by kernel_rfl) (by kernel_rfl) fun G a w S => ?_
          refine sBin (.bool (decide (p0.Den < 1))) S (wN rfl) rfl (by kernel_rfl) (by kernel_rfl) (bLt _ _ _ _ .i64 p0.Den 1) rfl (by decide) (fun a S => ?_)
          exact leafL ⟨rfl, S⟩
        · refine fI 6 (.bool (decide (p0.Den < 1))) [(5, .bool (decide (p0.Den < 1)))] 3 [some 2] rfl rfl (by kernel_rfl) rfl (by kernel_rfl) (by kernel_rfl) fun G a w S => ?_
          refine sMove (.bool (decide (p0.Den < 1))) S (wN rfl) (.inl rfl) (by kernel_rfl) rfl (by decide) (fun a S => ?_)
          exact leafL ⟨rfl, S⟩
        · refine fI 7 (.pointer (some ⟨b2, 1, none⟩)) [(1, .pointer (some ⟨b2, 0, none⟩)), (6, .bool (decide (p0.Den < 1)))] 4 [none, some 3] rfl rfl (by kernel_rfl) rfl (by kernel_rfl) (by kernel_rfl) fun G a w S => ?_
          refine sField (b := b2) (off := 0) 1 1 S (wG (c := decide (p0.Den < 1)) 3 false 6 rfl rfl (by kernel_rfl) hc7) rfl (by kernel_rfl) (by kernel_rfl) rfl rfl (by decide) (fun a S => ?_)
          exact leafL ⟨rfl, S⟩
        · refine fI 8 (.int .i64 p0.Den) [(7, .pointer (some ⟨b2, 1, none⟩)), (6, .bool (decide (p0.Den < 1)))] 5 [some 4, some 3] rfl rfl (by kernel_rfl) rfl (by kernel_rfl) (by kernel_rfl) fun G a w S => ?_
          refine sLoad1 (p := b2) (off := 1) (T := 23) (vs := [.int .i64 p0.Num, .int .i64 p0.Den]) 0 (.int .i64 p0.Den) S (wG (c := decide (p0.Den < 1)) 3 false 6 rfl rfl (by kernel_rfl) hc7) rfl (by kernel_rfl) (by kernel_rfl) (by kernel_rfl) rfl rfl (by decide) (fun a S => ?_)
          exact leafL ⟨rfl, S⟩
        · refine fI 9 (.bool (decide (1000000000 < p0.Den))) [(8, .int .i64 p0.Den), (6, .bool (decide (p0.Den < 1)))] 6 [some 5, some 3] rfl rfl (by kernel_rfl) rfl (by kernel_rfl) (by kernel_rfl) fun G a w S => ?_
          refine sBin (.bool (decide (1000000000 < p0.Den))) S (wG (c := decide (p0.Den < 1)) 3 false 6 rfl rfl (by kernel_rfl) hc7) rfl (by kernel_rfl) (by kernel_rfl) (bGt _ _ _ _ .i64 p0.Den 1000000000) rfl (by decide) (fun a S => ?_)
          exact leafL ⟨rfl, S⟩
        · refine fI 10 (.bool (decide (1000000000 < p0.Den))) [(6, .bool (decide (p0.Den < 1))), (9, .bool (decide (1000000000 < p0.Den)))] 7 [some 3, some 6] rfl rfl (by kernel_rfl) rfl (by kernel_rfl) (by kernel_rfl) fun G a w S => ?_
          refine sPickF (b := decide (p0.Den < 1)) (.bool (decide (1000000000 < p0.Den))) S (wN rfl) rfl (by kernel_rfl) hc7 (by kernel_rfl) rfl (by decide) (fun a S => ?_)
          exact leafL ⟨rfl, S⟩
        · refine fI 11 (.bool (decide (1000000000 < p0.Den))) [(10, .bool (decide (1000000000 < p0.Den)))] 8 [some 7] rfl rfl (by kernel_rfl) rfl (by kernel_rfl) (by kernel_rfl) fun G a w S => ?_
          refine sMove (.bool (decide (1000000000 < p0.Den))) S (wN rfl) (.inl rfl) (by kernel_rfl) rfl (by decide) (fun a S => ?_)
          exact leafL ⟨rfl, S⟩
        · refine fI 12 undef [(1, .pointer (some ⟨b2, 0, none⟩)), (11, .bool (decide (1000000000 < p0.Den)))] 9 [none, some 8] rfl rfl (by kernel_rfl) rfl (by kernel_rfl) (by kernel_rfl) fun G a w S => ?_
          refine sSkip (c := decide (1000000000 < p0.Den)) 8 false 11 12 S rfl rfl (by kernel_rfl) hc8 rfl (by decide) (fun a S => ?_)
          exact leafL ⟨rfl, S⟩
        · refine fI 13 undef [(12, undef), (11, .bool (decide (1000000000 < p0.Den)))] 10 [some 9, some 8] rfl rfl (by kernel_rfl) rfl (by kernel_rfl) (by kernel_rfl) fun G a w S => ?_
          refine sSkip (c := decide (1000000000 < p0.Den)) 8 false 11 13 S rfl rfl (by kernel_rfl) hc8 rfl (by decide) (fun a S => ?_)
          exact leafL ⟨rfl, S⟩
        · refine fI 14 undef [(13, undef), (11, .bool (decide (1000000000 < p0.Den)))] 11 [some 10, some 8] rfl rfl (by kernel_rfl) rfl (by kernel_rfl) (by kernel_rfl) fun G a w S => ?_
          refine sSkip (c := decide (1000000000 < p0.Den)) 8 false 11 14 S rfl rfl (by kernel_rfl) hc8 rfl (by decide) (fun a S => ?_)
          exact leafL ⟨rfl, S⟩
        · refine fI 15 undef [(14, undef), (11, .bool (decide (1000000000 < p0.Den)))] 12 [some 11, some 8] rfl rfl (by kernel_rfl) rfl (by kernel_rfl) (by kernel_rfl) fun G a w S => ?_
          refine sSkip (c := decide (1000000000 < p0.Den)) 8 false 11 15 S rfl rfl (by kernel_rfl) hc8 rfl (by decide) (fun a S => ?_)
          exact leafL ⟨rfl, S⟩
        · refine fI 16 (.bool true) [(11, .bool (decide (1000000000 < p0.Den))), (15, undef)] 13 [some 8, some 12] rfl rfl (by kernel_rfl) rfl (by kernel_rfl) (by kernel_rfl) fun G a w S => ?_
          refine sPickT (b := decide (1000000000 < p0.Den)) (.bool true) S (wN rfl) rfl (by kernel_rfl) hc8 (by kernel_rfl) rfl (by decide) (fun a S => ?_)
          exact leafL ⟨rfl, S⟩
        · refine fI 17 (.bool true) [(16, .bool true)] 14 [some 13] rfl rfl (by kernel_rfl) rfl (by kernel_rfl) (by kernel_rfl) fun G a w S => ?_
          refine sMove (.bool true) S (wN rfl) (.inl rfl) (by kernel_rfl) rfl (by decide) (fun a S => ?_)
          exact leafL ⟨rfl, S⟩
        · refine fI 18 undef [(1, .pointer (some ⟨b2, 0, none⟩)), (17, .bool true)] 15 [none, some 14] rfl rfl (by kernel_rfl) rfl (by kernel_rfl) (by kernel_rfl) fun G a w S => ?_
          refine sSkip (c := true) 14 false 17 18 S rfl rfl (by kernel_rfl) rfl rfl (by decide) (fun a S => ?_)
          exact leafL ⟨rfl, S⟩
        · refine fI 19 undef [(18, undef), (17, .bool true)] 16 [some 15, some 14] rfl rfl (by kernel_rfl) rfl (by kernel_rfl) (by kernel_rfl) fun G a w S => ?_
          refine sSkip (c := true) 14 false 17 19 S rfl rfl (by kernel_rfl) rfl rfl (by decide) (fun a S => ?_)
          exact leafL ⟨rfl, S⟩
        · refine fI 20 undef [(19, undef), (17, .bool true)] 17 [some 16, some 14] rfl rfl (by kernel_rfl) rfl (by kernel_rfl) (by kernel_rfl) fun G a w S => ?_
          refine sSkip (c := true) 14 false 17 20 S rfl rfl (by kernel_rfl) rfl rfl (by decide) (fun a S => ?_)
          exact leafL ⟨rfl, S⟩
        · refine fI 21 undef [(1, .pointer (some ⟨b2, 0, none⟩)), (17, .bool true)] 18 [none, some 14] rfl rfl (by kernel_rfl) rfl (by kernel_rfl) (by kernel_rfl) fun G a w S => ?_
          refine sSkip (c := true) 14 false 17 21 S rfl rfl (by kernel_rfl) rfl rfl (by decide) (fun a S => ?_)
          exact leafL ⟨rfl, S⟩
        · refine fI 22 undef [(21, undef), (17, .bool true)] 19 [some 18, some 14] rfl rfl (by kernel_rfl) rfl (by kernel_rfl) (by kernel_rfl) fun G a w S => ?_
          refine sSkip (c := true) 14 false 17 22 S rfl rfl (by kernel_rfl) rfl rfl (by decide) (fun a S => ?_)
          exact leafL ⟨rfl, S⟩
        · refine fI 23 undef [(22, undef), (17, .bool true)] 20 [some 19, some 14] rfl rfl (by kernel_rfl) rfl (by kernel_rfl) (by kernel_rfl) fun G a w S => ?_
          refine sSkip (c := true) 14 false 17 23 S rfl rfl (by kernel_rfl) rfl rfl (by decide) (fun a S => ?_)
          exact leafL ⟨rfl, S⟩
        · refine fI 24 undef [(20, undef), (23, undef), (17, .bool true)] 21 [some 17, some 20, some 14] rfl rfl (by kernel_rfl) rfl (by kernel_rfl) (by kernel_rfl) fun G a w S => ?_
          refine sSkip (c := true) 14 false 17 24 S rfl rfl (by kernel_rfl) rfl rfl (by decide) (fun a S => ?_)
          exact leafL ⟨rfl, S⟩
        · refine fI 25 undef [(24, undef), (17, .bool true)] 22 [some 21, some 14] rfl rfl (by kernel_rfl) rfl (by kernel_rfl) (by kernel_rfl) fun G a w S => ?_
          refine sSkip (c := true) 14 false 17 25 S rfl rfl (by kernel_rfl) rfl rfl (by decide) (fun a S => ?_)
          exact leafL ⟨rfl, S⟩
        · refine fI 26 (.bool true) [(17, .bool true), (25, undef)] 23 [some 14, some 22] rfl rfl (by kernel_rfl) rfl (by kernel_rfl) (by kernel_rfl) fun G a w S => ?_
          refine sPickT (b := true) (.bool true) S (wN rfl) rfl (by kernel_rfl) rfl (by kernel_rfl) rfl (by decide) (fun a S => ?_)
          exact leafL ⟨rfl, S⟩
        · exact leafT (⟨true, Option.some.inj h, S.fix [] [] (by decide) (by kernel_rfl) (by kernel_rfl) (by kernel_rfl)⟩)
      · obtain ⟨r9, hx10, h⟩ := bindSome h
        rcases iteSome h with ⟨hc11, h⟩ | ⟨hc11, h⟩
        · refine sDraw (nf := []) (W := [(0, 3, .pointer (some ⟨b2, 1, none⟩)), (1, 4, .int .i64 p0.Den), (2, 5, .bool (decide (p0.Den < 1))), (3, 6, .bool (decide (p0.Den < 1))), (4, 7, .pointer (some ⟨b2, 1, none⟩)), (5, 8, .int .i64 p0.Den), (6, 9, .bool (decide (1000000000 < p0.Den))), (7, 10, .bool (decide (1000000000 < p0.Den))), (8, 11, .bool (decide (1000000000 < p0.Den))), (9, 12, .pointer (some ⟨b2, 0, none⟩)), (10, 13, .int .i64 p0.Num), (11, 14, .int .u64 r9), (12, 15, .bool (decide (1000000000 < r9))), (13, 16, .bool (decide (1000000000 < r9))), (14, 17, .bool (decide (1000000000 < r9))), (15, 18, undef), (16, 19, undef), (17, 20, undef), (18, 21, undef), (19, 22, undef), (20, 23, undef), (21, 24, undef), (22, 25, undef), (23, 26, .bool true)]) (by kernel_rfl) S ?_
          refine node_by (A := anc_yarn_Check_0) (nf := []) (Y := []) (W := [(0, 3, .pointer (some ⟨b2, 1, none⟩)), (1, 4, .int .i64 p0.Den), (2, 5, .bool (decide (p0.Den < 1))), (3, 6, .bool (decide (p0.Den < 1))), (4, 7, .pointer (some ⟨b2, 1, none⟩)), (5, 8, .int .i64 p0.Den), (6, 9, .bool (decide (1000000000 < p0.Den))), (7, 10, .bool (decide (1000000000 < p0.Den))), (8, 11, .bool (decide (1000000000 < p0.Den))), (9, 12, .pointer (some ⟨b2, 0, none⟩)), (10, 13, .int .i64 p0.Num), (11, 14, .int .u64 r9), (12, 15, .bool (decide (1000000000 < r9))), (13, 16, .bool (decide (1000000000 < r9))), (14, 17, .bool (decide (1000000000 < r9))), (15, 18, undef), (16, 19, undef), (17, 20, undef), (18, 21, undef), (19, 22, undef), (20, 23, undef), (21, 24, undef), (22, 25, undef), (23, 26, .bool true)]) 24 (by kernel_rfl) (by kernel_rfl) (by kernel_rfl) (by kernel_rfl) (by kernel_rfl) [0, 1, 2, 3, 4, 5, 6, 7, 8, 9, 10, 11, 12, 13, 14, 15, 16, 17, 18, 19, 20, 21, 22, 23] (by kernel_rfl) (by decide) (by decide) (aF 0 23 (by decide) ?_ (aF 1 22 (by decide) ?_ (aF 2 21 (by decide) ?_ (aF 3 20 (by decide) ?_ (aF 4 19 (by decide) ?_ (aF 5 18 (by decide) ?_ (aF 6 17 (by decide) ?_ (aF 7 16 (by decide) ?_ (aF 8 15 (by decide) ?_ (aF 9 14 (by decide) ?_ (aF 10 13 (by decide) ?_ (aF 11 12 (by decide) ?_ (aF 12 11 (by decide) ?_ (aF 13 10 (by decide) ?_ (aF 14 9 (by decide) ?_ (aF 15 8 (by decide) ?_ (aF 16 7 (by decide) ?_ (aF 17 6 (by decide) ?_ (aF 18 5 (by decide) ?_ (aF 19 4 (by decide) ?_ (aF 20 3 (by decide) ?_ (aF 21 2 (by decide) ?_ (aF 22 1 (by decide) ?_ (aF 23 0 (by decide) ?_ (trivial))))))))))))))))))))))))) [(26, .bool true)] (fin_of [some 23] rfl (by kernel_rfl) (by kernel_rfl)) (fun _ a w S => ?_)
          · refine fI 3 (.pointer (some ⟨b2, 1, none⟩)) [(1, .pointer (some ⟨b2, 0, none⟩))] 0 [none] rfl rfl (by kernel_rfl) rfl (by kernel_rfl) (by kernel_rfl) fun G a w S => ?_
            refine sField (b := b2) (off := 0) 1 1 S (wN rfl) rfl (by kernel_rfl) (by kernel_rfl) rfl rfl (by decide) (fun a S => ?_)
            exact leafL ⟨rfl, S⟩
          · refine fI 4 (.int .i64 p0.Den) [(3, .pointer (some ⟨b2, 1, none⟩))] 1 [some 0] rfl rfl (by kernel_rfl) rfl (by kernel_rfl) (by kernel_rfl) fun G a w S => ?_
            refine sLoad1 (p := b2) (off := 1) (T := 23) (vs := [.int .i64 p0.Num, .int .i64 p0.Den]) 0 (.int .i64 p0.Den) S (wN rfl) rfl (by kernel_rfl) (by kernel_rfl) (by kernel_rfl) rfl rfl (by decide) (fun a S => ?_)
            exact leafL ⟨rfl, S⟩
          · refine fI 5 (.bool (decide (p0.Den < 1))) [(4, .int .i64 p0.Den)] 2 [some 1] rfl rfl (by kernel_rfl) rfl (by kernel_rfl) (by kernel_rfl) fun G a w S => ?_
            refine sBin (.bool (decide (p0.Den < 1))) S (wN rfl) rfl (by kernel_rfl) (by kernel_rfl) (bLt _ _ _ _ .i64 p0.Den 1) rfl (by decide) (fun a S => ?_)
            exact leafL ⟨rfl, S⟩
          · refine fI 6 (.bool (decide (p0.Den < 1))) [(5, .bool (decide (p0.Den < 1)))] 3 [some 2] rfl rfl (by kernel_rfl) rfl (by kernel_rfl) (by kernel_rfl) fun G a w S => ?_
            refine sMove (.bool (decide (p0.Den < 1))) S (wN rfl) (.inl rfl) (by kernel_rfl) rfl (by decide) (fun a S => ?_)
            exact leafL ⟨rfl, S⟩
          · refine fI 7 (.pointer (some ⟨b2, 1, none⟩)) [(1, .pointer (some ⟨b2, 0, none⟩)), (6, .bool (decide (p0.Den < 1)))] 4 [none, some 3] rfl rfl (by kernel_rfl) rfl (by kernel_rfl) (by kernel_rfl) fun G a w S => ?_
            refine sField (b := b2) (off := 0) 1 1 S (wG (c := decide (p0.Den < 1)) 3 false 6 rfl rfl (by kernel_rfl) hc7) rfl (by kernel_rfl) (by kernel_rfl) rfl rfl (by decide) (fun a S => ?_)
            exact leafL ⟨rfl, S⟩
          · refine fI 8 (.int .i64 p0.Den) [(7, .pointer (some ⟨b2, 1, none⟩)), (6, .bool (decide (p0.Den < 1)))] 5 [some 4, some 3] rfl rfl (by kernel_rfl) rfl (by kernel_rfl) (by kernel_rfl) fun G a w S => ?_
            refine sLoad1 (p := b2) (off := 1) (T := 23) (vs := [.int .i64 p0.Num, .int .i64 p0.Den]) 0 (.int .i64 p0.Den) S (wG (c := decide (p0.Den < 1)) 3 false 6 rfl rfl (by kernel_rfl) hc7) rfl (by kernel_rfl) (by kernel_rfl) (by kernel_rfl) rfl rfl (by decide) (fun a S => ?_)
            exact leafL ⟨rfl, S⟩
          · refine fI 9 (.bool (decide (1000000000 < p0.Den))) [(8, .int .i64 p0.Den), (6, .bool (decide (p0.Den < 1)))] 6 [some 5, some 3] rfl rfl (by kernel_rfl) rfl (by kernel_rfl) (by kernel_rfl) fun G a w S => ?_
            refine sBin (.bool (decide (1000000000 < p0.Den))) S (wG (c := decide (p0.Den < 1)) 3 false 6 rfl rfl (by kernel_rfl) hc7) rfl (by kernel_rfl) (by kernel_rfl) (bGt _ _ _ _ .i64 p0.Den 1000000000) rfl (by decide) (fun a S => ?_)
            exact leafL ⟨rfl, S⟩
          · refine fI 10 (.bool (decide (1000000000 < p0.Den))) [(6, .bool (decide (p0.Den < 1))), (9, .bool (decide (1000000000 < p0.Den)))] 7 [some 3, some 6] rfl rfl (by kernel_rfl) rfl (by kernel_rfl) (by kernel_rfl) fun G a w S => ?_
            refine sPickF (b := decide (p0.Den < 1)) (.bool (decide (1000000000 < p0.Den))) S (wN rfl) rfl (by kernel_rfl) hc7 (by kernel_rfl) rfl (by decide) (fun a S => ?_)
            exact leafL ⟨rfl, S⟩
          · refine fI 11 (.bool (decide (1000000000 < p0.Den))) [(10, .bool (decide (1000000000 < p0.Den)))] 8 [some 7] rfl rfl (by kernel_rfl) rfl (by kernel_rfl) (by kernel_rfl) fun G a w S => ?_
            refine sMove (.bool (decide (1000000000 < p0.Den))) S (wN rfl) (.inl rfl) (by kernel_rfl) rfl (by decide) (fun a S => ?_)
            exact leafL ⟨rfl, S⟩
          · refine fI 12 (.pointer (some ⟨b2, 0, none⟩)) [(1, .pointer (some ⟨b2, 0, none⟩)), (11, .bool (decide (1000000000 < p0.Den)))] 9 [none, some 8] rfl rfl (by kernel_rfl) rfl (by kernel_rfl) (by kernel_rfl) fun G a w S => ?_
            refine sField (b := b2) (off := 0) 0 0 S (wG (c := decide (1000000000 < p0.Den)) 8 false 11 rfl rfl (by kernel_rfl) hc8) rfl (by kernel_rfl) (by kernel_rfl) rfl rfl (by decide) (fun a S => ?_)
            exact leafL ⟨rfl, S⟩
          · refine fI 13 (.int .i64 p0.Num) [(12, .pointer (some ⟨b2, 0, none⟩)), (11, .bool (decide (1000000000 < p0.Den)))] 10 [some 9, some 8] rfl rfl (by kernel_rfl) rfl (by kernel_rfl) (by kernel_rfl) fun G a w S => ?_
            refine sLoad1 (p := b2) (off := 0) (T := 23) (vs := [.int .i64 p0.Num, .int .i64 p0.Den]) 0 (.int .i64 p0.Num) S (wG (c := decide (1000000000 < p0.Den)) 8 false 11 rfl rfl (by kernel_rfl) hc8) rfl (by kernel_rfl) (by kernel_rfl) (by kernel_rfl) rfl rfl (by decide) (fun a S => ?_)
            exact leafL ⟨rfl, S⟩
          · refine fI 14 (.int .u64 r9) [(13, .int .i64 p0.Num), (11, .bool (decide (1000000000 < p0.Den)))] 11 [some 10, some 8] rfl rfl (by kernel_rfl) rfl (by kernel_rfl) (by kernel_rfl) fun G a w S => ?_
            have S1 := S.mem
            refine sCallQ (X := Unit) (f := 37) (vs := [.int .i64 p0.Num]) (val := fun _ => .int .u64 r9) S (wG (c := decide (1000000000 < p0.Den)) 8 false 11 rfl rfl (by kernel_rfl) hc8) rfl callee37 (by kernel_rfl) (S1.quiet [] (by kernel_rfl)) (fun E1 w1 S1 => c_yarn_size E1 w1 p0.Num r9 hx10 S1) rfl (by decide) (fun _ a w S => ?_)
            exact leafL ⟨rfl, S⟩
          · refine fI 15 (.bool (decide (1000000000 < r9))) [(14, .int .u64 r9), (11, .bool (decide (1000000000 < p0.Den)))] 12 [some 11, some 8] rfl rfl (by kernel_rfl) rfl (by kernel_rfl) (by kernel_rfl) fun G a w S => ?_
            refine sBin (.bool (decide (1000000000 < r9))) S (wG (c := decide (1000000000 < p0.Den)) 8 false 11 rfl rfl (by kernel_rfl) hc8) rfl (by kernel_rfl) (by kernel_rfl) (bGt _ _ _ _ .u64 r9 1000000000) rfl (by decide) (fun a S => ?_)
            exact leafL ⟨rfl, S⟩
          · refine fI 16 (.bool (decide (1000000000 < r9))) [(11, .bool (decide (1000000000 < p0.Den))), (15, .bool (decide (1000000000 < r9)))] 13 [some 8, some 12] rfl rfl (by kernel_rfl) rfl (by kernel_rfl) (by kernel_rfl) fun G a w S => ?_
            refine sPickF (b := decide (1000000000 < p0.Den)) (.bool (decide (1000000000 < r9))) S (wN rfl) rfl (by kernel_rfl) hc8 (by kernel_rfl) rfl (by decide) (fun a S => ?_)
            exact leafL ⟨rfl, S⟩
          · refine fI 17 (.bool (decide (1000000000 < r9))) [(16, .bool (decide (1000000000 < r9)))] 14 [some 13] rfl rfl (by kernel_rfl) rfl (by kernel_rfl) (by kernel_rfl) fun G a w S => ?_
            refine sMove (.bool (decide (1000000000 < r9))) S (wN rfl) (.inl rfl) (by kernel_rfl) rfl (by decide) (fun a S => ?_)
            exact leafL ⟨rfl, S⟩
          · refine fI 18 undef [(1, .pointer (some ⟨b2, 0, none⟩)), (17, .bool (decide (1000000000 < r9)))] 15 [none, some 14] rfl rfl (by kernel_rfl) rfl (by kernel_rfl) (by kernel_rfl) fun G a w S => ?_
            refine sSkip (c := decide (1000000000 < r9)) 14 false 17 18 S rfl rfl (by kernel_rfl) hc11 rfl (by decide) (fun a S => ?_)
            exact leafL ⟨rfl, S⟩
          · refine fI 19 undef [(18, undef), (17, .bool (decide (1000000000 < r9)))] 16 [some 15, some 14] rfl rfl (by kernel_rfl) rfl (by kernel_rfl) (by kernel_rfl) fun G a w S => ?_
            refine sSkip (c := decide (1000000000 < r9)) 14 false 17 19 S rfl rfl (by kernel_rfl) hc11 rfl (by decide) (fun a S => ?_)
            exact leafL ⟨rfl, S⟩
          · refine fI 20 undef [(19, undef), (17, .bool (decide (1000000000 < r9)))] 17 [some 16, some 14] rfl rfl (by kernel_rfl) rfl (by kernel_rfl) (by kernel_rfl) fun G a w S => ?_
            refine sSkip (c := decide (1000000000 < r9)) 14 false 17 20 S rfl rfl (by kernel_rfl) hc11 rfl (by decide) (fun a S => ?_)
            exact leafL ⟨rfl, S⟩
          · refine fI 21 undef [(1, .pointer (some ⟨b2, 0, none⟩)), (17, .bool (decide (1000000000 < r9)))] 18 [none, some 14] rfl rfl (by kernel_rfl) rfl (by kernel_rfl) (by kernel_rfl) fun G a w S => ?_
            refine sSkip (c := decide (1000000000 < r9)) 14 false 17 21 S rfl rfl (by kernel_rfl) hc11 rfl (by decide) (fun a S => ?_)
            exact leafL ⟨rfl, S⟩
          · refine fI 22 undef [(21, undef), (17, .bool (decide (1000000000 < r9)))] 19 [some 18, some 14] rfl rfl (by kernel_rfl) rfl (by kernel_rfl) (by kernel_rfl) fun G a w S => ?_
            refine sSkip (c := decide (1000000000 < r9)) 14 false 17 22 S rfl rfl (by kernel_rfl) hc11 rfl (by decide) (fun a S => ?_)
            exact leafL ⟨rfl, S⟩
          · refine fI 23 undef [(22, undef), (17, .bool (decide (1000000000 < r9)))] 20 [some 19, some 14] rfl rfl (by kernel_rfl) rfl (by kernel_rfl) (by kernel_rfl) fun G a w S => ?_
            refine sSkip (c := decide (1000000000 < r9)) 14 false 17 23 S rfl rfl (by kernel_rfl) hc11 rfl (by decide) (fun a S => ?_)
            exact leafL ⟨rfl, S⟩
          · refine fI 24 undef [(20, undef), (23, undef), (17, .bool (decide (1000000000 < r9)))] 21 [some 17, some 20, some 14] rfl rfl (by kernel_rfl) rfl (by kernel_rfl) (by kernel_rfl) fun G a w S => ?_
            refine sSkip (c := decide (1000000000 < r9)) 14 false 17 24 S rfl rfl (by kernel_rfl) hc11 rfl (by decide) (fun a S => ?_)
            exact leafL ⟨rfl, S⟩
          · refine fI 25 undef [(24, undef), (17, .bool (decide (1000000000 < r9)))] 22 [some 21, some 14] rfl rfl (by kernel_rfl) rfl (by kernel_rfl) (by kernel_rfl) fun G a w S => ?_
            refine sSkip (c := decide (1000000000 < r9)) 14 false 17 25 S rfl rfl (by kernel_rfl) hc11 rfl (by decide) (fun a S => ?_)
            exact leafL ⟨rfl, S⟩
          · refine fI 26 (.bool true) [(17, .bool (decide (1000000000 < r9))), (25, undef)] 23 [some 14, some 22] rfl rfl (by kernel_rfl) rfl (by kernel_rfl) (by kernel_rfl) fun G a w S => ?_
            refine sPickT (b := decide (1000000000 < r9)) (.bool true) S (wN rfl) rfl (by kernel_rfl) hc11 (by kernel_rfl) rfl (by decide) (fun a S => ?_)
            exact leafL ⟨rfl, S⟩
          · exact leafT (⟨true, Option.some.inj h, S.fix [] [] (by decide) (by kernel_rfl) (by kernel_rfl) (by kernel_rfl)⟩)
        · obtain ⟨r12, hx13, h⟩ := bindSome h
          refine sDraw (nf := []) (W := [(0, 3, .pointer (some ⟨b2, 1, none⟩)), (1, 4, .int .i64 p0.Den), (2, 5, .bool (decide (p0.Den < 1))), (3, 6, .bool (decide (p0.Den < 1))), (4, 7, .pointer (some ⟨b2, 1, none⟩)), (5, 8, .int .i64 p0.Den), (6, 9, .bool (decide (1000000000 < p0.Den))), (7, 10, .bool (decide (1000000000 < p0.Den))), (8, 11, .bool (decide (1000000000 < p0.Den))), (9, 12, .pointer (some ⟨b2, 0, none⟩)), (10, 13, .int .i64 p0.Num), (11, 14, .int .u64 r9), (12, 15, .bool (decide (1000000000 < r9))), (13, 16, .bool (decide (1000000000 < r9))), (14, 17, .bool (decide (1000000000 < r9))), (15, 18, .pointer (some ⟨b2, 0, none⟩)), (16, 19, .int .i64 p0.Num), (17, 20, .int .u64 r9), (18, 21, .pointer (some ⟨b2, 1, none⟩)), (19, 22, .int .i64 p0.Den), (20, 23, .int .u64 (IntKind.u64.wrap p0.Den)), (21, 24, .int .u64 r12), (22, 25, .bool (r12 != 1)), (23, 26, .bool (r12 != 1))]) (by kernel_rfl) S ?_
          refine node_by (A := anc_yarn_Check_0) (nf := []) (Y := []) (W := [(0, 3, .pointer (some ⟨b2, 1, none⟩)), (1, 4, .int .i64 p0.Den), (2, 5, .bool (decide (p0.Den < 1))), (3, 6, .bool (decide (p0.Den < 1))), (4, 7, .pointer (some ⟨b2, 1, none⟩)), (5, 8, .int .i64 p0.Den), (6, 9, .bool (decide (1000000000 < p0.Den))), (7, 10, .bool (decide (1000000000 < p0.Den))), (8, 11, .bool (decide (1000000000 < p0.Den))), (9, 12, .pointer (some ⟨b2, 0, none⟩)), (10, 13, .int .i64 p0.Num), (11, 14, .int .u64 r9), (12, 15, .bool (decide (1000000000 < r9))), (13, 16, .bool (decide (1000000000 < r9))), (14, 17, .bool (decide (1000000000 < r9))), (15, 18, .pointer (some ⟨b2, 0, none⟩)), (16, 19, .int .i64 p0.Num), (17, 20, .int .u64 r9), (18, 21, .pointer (some ⟨b2, 1, none⟩)), (19, 22, .int .i64 p0.Den), (20, 23, .int .u64 (IntKind.u64.wrap p0.Den)), (21, 24, .int .u64 r12), (22, 25, .bool (r12 != 1)), (23, 26, .bool (r12 != 1))]) 24 (by kernel_rfl) (by kernel_rfl) (by kernel_rfl) (by kernel_rfl) (by kernel_rfl) [0, 1, 2, 3, 4, 5, 6, 7, 8, 9, 10, 11, 12, 13, 14, 15, 16, 17, 18, 19, 20, 21, 22, 23] (by kernel_rfl) (by decide) (by decide) (aF 0 23 (by decide) ?_ (aF 1 22 (by decide) ?_ (aF 2 21 (by decide) ?_ (aF 3 20 (by decide) ?_ (aF 4 19 (by decide) ?_ (aF 5 18 (by decide) ?_ (aF 6 17 (by decide) ?_ (aF 7 16 (by decide) ?_ (aF 8 15 (by decide) ?_ (aF 9 14 (by decide) ?_ (aF 10 13 (by decide) ?_ (aF 11 12 (by decide) ?_ (aF 12 11 (by decide) ?_ (aF 13 10 (by decide) ?_ (aF 14 9 (by decide) ?_ (aF 15 8 (by decide) ?_ (aF 16 7 (by decide) ?_ (aF 17 6 (by decide) ?_ (aF 18 5 (by decide) ?_ (aF 19 4 (by decide) ?_ (aF 20 3 (by decide) ?_ (aF 21 2 (by decide) ?_ (aF 22 1 (by decide) ?_ (aF 23 0 (by decide) ?_ (trivial))))))))))))))))))))))))) [(26, .bool (r12 != 1))] (fin_of [some 23] rfl (by kernel_rfl) (by kernel_rfl)) (fun _ a w S => ?_)
          · refine fI 3 (.pointer (some ⟨b2, 1, none⟩)) [(1, .pointer (some ⟨b2, 0, none⟩))] 0 [none] rfl rfl (by kernel_rfl) rfl (by kernel_rfl) (by kernel_rfl) fun G a w S => ?_
            refine sField (b := b2) (off := 0) 1 1 S (wN rfl) rfl (by kernel_rfl) (by kernel_rfl) rfl rfl (by decide) (fun a S => ?_)
            exact leafL ⟨rfl, S⟩
          · refine fI 4 (.int .i64 p0.Den) [(3, .pointer (some ⟨b2, 1, none⟩))] 1 [some 0] rfl rfl (by kernel_rfl) rfl (by kernel_rfl) (by kernel_rfl) fun G a w S => ?_
            refine sLoad1 (p := b2) (off := 1) (T := 23) (vs := [.int .i64 p0.Num, .int .i64 p0.Den]) 0 (.int .i64 p0.Den) S (wN rfl) rfl (by kernel_rfl) (by kernel_rfl) (by kernel_rfl) rfl rfl (by decide) (fun a S => ?_)
            exact leafL ⟨rfl, S⟩
          · refine fI 5 (.bool (decide (p0.Den < 1))) [(4, .int .i64 p0.Den)] 2 [some 1] rfl rfl (by kernel_rfl) rfl (by kernel_rfl) (by kernel_rfl) fun G a w S => ?_
            refine sBin (.bool (decide (p0.Den < 1))) S (wN rfl) rfl (by kernel_rfl) (by kernel_rfl) (bLt _ _ _ _ .i64 p0.Den 1) rfl (by decide) (fun a S => ?_)
            exact leafL ⟨rfl, S⟩
          · refine fI 6 (.bool (decide (p0.Den < 1))) [(5, .bool (decide (p0.Den < 1)))] 3 [some 2] rfl rfl (by kernel_rfl) rfl (by kernel_rfl) (by kernel_rfl) fun G a w S => ?_
            refine sMove (.bool (decide (p0.Den < 1))) S (wN rfl) (.inl rfl) (by kernel_rfl) rfl (by decide) (fun a S => ?_)
            exact leafL ⟨rfl, S⟩
          · refine fI 7 (.pointer (some ⟨b2, 1, none⟩)) [(1, .pointer (some ⟨b2, 0, none⟩)), (6, .bool (decide (p0.Den < 1)))] 4 [none, some 3] rfl rfl (by kernel_rfl) rfl (by kernel_rfl) (by kernel_rfl) fun G a w S => ?_
            refine sField (b := b2) (off := 0) 1 1 S (wG (c := decide (p0.Den < 1)) 3 false 6 rfl rfl (by kernel_rfl) hc7) rfl (by kernel_rfl) (by kernel_rfl) rfl rfl (by decide) (fun a S => ?_)
            exact leafL ⟨rfl, S⟩
          · refine fI 8 (.int .i64 p0.Den) [(7, .pointer (some ⟨b2, 1, none⟩)), (6, .bool (decide (p0.Den < 1)))] 5 [some 4, some 3] rfl rfl (by kernel_rfl) rfl (by kernel_rfl) (by kernel_rfl) fun G a w S => ?_
            refine sLoad1 (p := b2) (off := 1) (T := 23) (vs := [.int .i64 p0.Num, .int .i64 p0.Den]) 0 (.int .i64 p0.Den) S (wG (c := decide (p0.Den < 1)) 3 false 6 rfl rfl (by kernel_rfl) hc7) rfl (by kernel_rfl) (by kernel_rfl) (by kernel_rfl) rfl rfl (by decide) (fun a S => ?_)
            exact leafL ⟨rfl, S⟩
          · refine fI 9 (.bool (decide (1000000000 < p0.Den))) [(8, .int .i64 p0.Den), (6, .bool (decide (p0.Den < 1)))] 6 [some 5, some 3] rfl rfl (by kernel_rfl) rfl (by kernel_rfl) (by kernel_rfl) fun G a w S => ?_
            refine sBin (.bool (decide (1000000000 < p0.Den))) S (wG (c := decide (p0.Den < 1)) 3 false 6 rfl rfl (by kernel_rfl) hc7) rfl (by kernel_rfl) (by kernel_rfl) (bGt _ _ _ _ .i64 p0.Den 1000000000) rfl (by decide) (fun a S => ?_)
            exact leafL ⟨rfl, S⟩
          · refine fI 10 (.bool (decide (1000000000 < p0.Den))) [(6, .bool (decide (p0.Den < 1))), (9, .bool (decide (1000000000 < p0.Den)))] 7 [some 3, some 6] rfl rfl (by kernel_rfl) rfl (by kernel_rfl) (by kernel_rfl) fun G a w S => ?_
            refine sPickF (b := decide (p0.Den < 1)) (.bool (decide (1000000000 < p0.Den))) S (wN rfl) rfl (by kernel_rfl) hc7 (by kernel_rfl) rfl (by decide) (fun a S => ?_)
            exact leafL ⟨rfl, S⟩
          · refine fI 11 (.bool (decide (1000000000 < p0.Den))) [(10, .bool (decide (1000000000 < p0.Den)))] 8 [some 7] rfl rfl (by kernel_rfl) rfl (by kernel_rfl) (by kernel_rfl) fun G a w S => ?_
            refine sMove (.bool (decide (1000000000 < p0.Den))) S (wN rfl) (.inl rfl) (by kernel_rfl) rfl (by decide) (fun a S => ?_)
            exact leafL ⟨rfl, S⟩
          · refine fI 12 (.pointer (some ⟨b2, 0, none⟩)) [(1, .pointer (some ⟨b2, 0, none⟩)), (11, .bool (decide (1000000000 < p0.Den)))] 9 [none, some 8] rfl rfl (by kernel_rfl) rfl (by kernel_rfl) (by kernel_rfl) fun G a w S => ?_
            refine sField (b := b2) (off := 0) 0 0 S (wG (c := decide (1000000000 < p0.Den)) 8 false 11 rfl rfl (by kernel_rfl) hc8) rfl (by kernel_rfl) (by kernel_rfl) rfl rfl (by decide) (fun a S => ?_)
            exact leafL ⟨rfl, S⟩
          · refine fI 13 (.int .i64 p0.Num) [(12, .pointer (some ⟨b2, 0, none⟩)), (11, .bool (decide (1000000000 < p0.Den)))] 10 [some 9, some 8] rfl rfl (by kernel_rfl) rfl (by kernel_rfl) (by kernel_rfl) fun G a w S => ?_
            refine sLoad1 (p := b2) (off := 0) (T := 23) (vs := [.int .i64 p0.Num, .int .i64 p0.Den]) 0 (.int .i64 p0.Num) S (wG (c := decide (1000000000 < p0.Den)) 8 false 11 rfl rfl (by kernel_rfl) hc8) rfl (by kernel_rfl) (by kernel_rfl) (by kernel_rfl) rfl rfl (by decide) (fun a S => ?_)
            exact leafL ⟨rfl, S⟩
          · refine fI 14 (.int .u64 r9) [(13, .int .i64 p0.Num), (11, .bool (decide (1000000000 < p0.Den)))] 11 [some 10, some 8] rfl rfl (by kernel_rfl) rfl (by kernel_rfl) (by kernel_rfl) fun G a w S => ?_
            have S1 := S.mem
            refine sCallQ (X := Unit) (f := 37) (vs := [.int .i64 p0.Num]) (val := fun _ => .int .u64 r9) S (wG (c := decide (1000000000 < p0.Den)) 8 false 11 rfl rfl (by kernel_rfl) hc8) rfl callee37 (by kernel_rfl) (S1.quiet [] (by kernel_rfl)) (fun E1 w1 S1 => c_yarn_size E1 w1 p0.Num r9 hx10 S1) rfl (by decide) (fun _ a w S => ?_)
            exact leafL ⟨rfl, S⟩
          · refine fI 15 (.bool (decide (1000000000 < r9))) [(14, .int .u64 r9), (11, .bool (decide (1000000000 < p0.Den)))] 12 [some 11, some 8] rfl rfl (by kernel_rfl) rfl (by kernel_rfl) (by kernel_rfl) fun G a w S => ?_
            refine sBin (.bool (decide (1000000000 < r9))) S (wG (c := decide (1000000000 < p0.Den)) 8 false 11 rfl rfl (by kernel_rfl) hc8) rfl (by kernel_rfl) (by kernel_rfl) (bGt _ _ _ _ .u64 r9 1000000000) rfl (by decide) (fun a S => ?_)
            exact leafL ⟨rfl, S⟩
          · refine fI 16 (.bool (decide (1000000000 < r9))) [(11, .bool (decide (1000000000 < p0.Den))), (15, .bool (decide (1000000000 < r9)))] 13 [some 8, some 12] rfl rfl (by kernel_rfl) rfl (by kernel_rfl) (by kernel_rfl) fun G a w S => ?_
            refine sPickF (b := decide (1000000000 < p0.Den)) (.bool (decide (1000000000 < r9))) S (wN rfl) rfl (by kernel_rfl) hc8 (by kernel_rfl) rfl (by decide) (fun a S => ?_)
            exact leafL ⟨rfl, S⟩
          · refine fI 17 (.bool (decide (1000000000 < r9))) [(16, .bool (decide (1000000000 < r9)))] 14 [some 13] rfl rfl (by kernel_rfl) rfl (by kernel_rfl) (by kernel_rfl) fun G a w S => ?_
            refine sMove (.bool (decide (1000000000 < r9))) S (wN rfl) (.inl rfl) (by kernel_rfl) rfl (by decide) (fun a S => ?_)
            exact leafL ⟨rfl, S⟩
          · refine fI 18 (.pointer (some ⟨b2, 0, none⟩)) [(1, .pointer (some ⟨b2, 0, none⟩)), (17, .bool (decide (1000000000 < r9)))] 15 [none, some 14] rfl rfl (by kernel_rfl) rfl (by kernel_rfl) (by kernel_rfl) fun G a w S => ?_
            refine sField (b := b2) (off := 0) 0 0 S (wG (c := decide (1000000000 < r9)) 14 false 17 rfl rfl (by kernel_rfl) hc11) rfl (by kernel_rfl) (by kernel_rfl) rfl rfl (by decide) (fun a S => ?_)
            exact leafL ⟨rfl, S⟩
          · refine fI 19 (.int .i64 p0.Num) [(18, .pointer (some ⟨b2, 0, none⟩)), (17, .bool (decide (1000000000 < r9)))] 16 [some 15, some 14] rfl rfl (by kernel_rfl) rfl (by kernel_rfl) (by kernel_rfl) fun G a w S => ?_
            refine sLoad1 (p := b2) (off := 0) (T := 23) (vs := [.int .i64 p0.Num, .int .i64 p0.Den]) 0 (.int .i64 p0.Num) S (wG (c := decide (1000000000 < r9)) 14 false 17 rfl rfl (by kernel_rfl) hc11) rfl (by kernel_rfl) (by kernel_rfl) (by kernel_rfl) rfl rfl (by decide) (fun a S => ?_)
            exact leafL ⟨rfl, S⟩
          · refine fI 20 (.int .u64 r9) [(19, .int .i64 p0.Num), (17, .bool (decide (1000000000 < r9)))] 17 [some 16, some 14] rfl rfl (by kernel_rfl) rfl (by kernel_rfl) (by kernel_rfl) fun G a w S => ?_
            have S1 := S.mem
            refine sCallQ (X := Unit) (f := 37) (vs := [.int .i64 p0.Num]) (val := fun _ => .int .u64 r9) S (wG (c := decide (1000000000 < r9)) 14 false 17 rfl rfl (by kernel_rfl) hc11) rfl callee37 (by kernel_rfl) (S1.quiet [] (by kernel_rfl)) (fun E1 w1 S1 => c_yarn_size E1 w1 p0.Num r9 hx10 S1) rfl (by decide) (fun _ a w S => ?_)
            exact leafL ⟨rfl, S⟩
          · refine fI 21 (.pointer (some ⟨b2, 1, none⟩)) [(1, .pointer (some ⟨b2, 0, none⟩)), (17, .bool (decide (1000000000 < r9)))] 18 [none, some 14] rfl rfl (by kernel_rfl) rfl (by kernel_rfl) (by kernel_rfl) fun G a w S => ?_
            refine sField (b := b2) (off := 0) 1 1 S (wG (c := decide (1000000000 < r9)) 14 false 17 rfl rfl (by kernel_rfl) hc11) rfl (by kernel_rfl) (by kernel_rfl) rfl rfl (by decide) (fun a S => ?_)
            exact leafL ⟨rfl, S⟩
          · refine fI 22 (.int .i64 p0.Den) [(21, .pointer (some ⟨b2, 1, none⟩)), (17, .bool (decide (1000000000 < r9)))] 19 [some 18, some 14] rfl rfl (by kernel_rfl) rfl (by kernel_rfl) (by kernel_rfl) fun G a w S => ?_
            refine sLoad1 (p := b2) (off := 1) (T := 23) (vs := [.int .i64 p0.Num, .int .i64 p0.Den]) 0 (.int .i64 p0.Den) S (wG (c := decide (1000000000 < r9)) 14 false 17 rfl rfl (by kernel_rfl) hc11) rfl (by kernel_rfl) (by kernel_rfl) (by kernel_rfl) rfl rfl (by decide) (fun a S => ?_)
            exact leafL ⟨rfl, S⟩
          · refine fI 23 (.int .u64 (IntKind.u64.wrap p0.Den)) [(22, .int .i64 p0.Den), (17, .bool (decide (1000000000 < r9)))] 20 [some 19, some 14] rfl rfl (by kernel_rfl) rfl (by kernel_rfl) (by kernel_rfl) fun G a w S => ?_
            refine sConv (k := .i64) (k2 := .u64) (b := p0.Den) S (wG (c := decide (1000000000 < r9)) 14 false 17 rfl rfl (by kernel_rfl) hc11) rfl Try.underlying2 Try.underlying60 (by kernel_rfl) rfl (by decide) (fun a S => ?_)
            exact leafL ⟨rfl, S⟩
          · refine fI 24 (.int .u64 r12) [(20, .int .u64 r9), (23, .int .u64 (IntKind.u64.wrap p0.Den)), (17, .bool (decide (1000000000 < r9)))] 21 [some 17, some 20, some 14] rfl rfl (by kernel_rfl) rfl (by kernel_rfl) (by kernel_rfl) fun G a w S => ?_
            have S1 := S.mem
            refine sCallQ (X := Unit) (f := 38) (vs := [.int .u64 r9, .int .u64 (IntKind.u64.wrap p0.Den)]) (val := fun _ => .int .u64 r12) S (wG (c := decide (1000000000 < r9)) 14 false 17 rfl rfl (by kernel_rfl) hc11) rfl callee38 (by kernel_rfl) (S1.quiet [] (by kernel_rfl)) (fun E1 w1 S1 => c_yarn_gcd E1 w1 r9 (IntKind.u64.wrap p0.Den) r12 hx13 S1) rfl (by decide) (fun _ a w S => ?_)
            exact leafL ⟨rfl, S⟩
          · refine fI 25 (.bool (r12 != 1)) [(24, .int .u64 r12), (17, .bool (decide (1000000000 < r9)))] 22 [some 21, some 14] rfl rfl (by kernel_rfl) rfl (by kernel_rfl) (by kernel_rfl) fun G a w S => ?_
            refine sBin (.bool (r12 != 1)) S (wG (c := decide (1000000000 < r9)) 14 false 17 rfl rfl (by kernel_rfl) hc11) rfl (by kernel_rfl) (by kernel_rfl) (bNe _ _ _ _ .u64 r12 1) rfl (by decide) (fun a S => ?_)
            exact leafL ⟨rfl, S⟩
          · refine fI 26 (.bool (r12 != 1)) [(17, .bool (decide (1000000000 < r9))), (25, .bool (r12 != 1))] 23 [some 14, some 22] rfl rfl (by kernel_rfl) rfl (by kernel_rfl) (by kernel_rfl) fun G a w S => ?_
            refine sPickF (b := decide (1000000000 < r9)) (.bool (r12 != 1)) S (wN rfl) rfl (by kernel_rfl) hc11 (by kernel_rfl) rfl (by decide) (fun a S => ?_)
            exact leafL ⟨rfl, S⟩
          · exact leafT (⟨r12 != 1, Option.some.inj h, S.fix [] [] (by decide) (by kernel_rfl) (by kernel_rfl) (by kernel_rfl)⟩)
  · obtain ⟨o4, rfl, S⟩ := hI
    have h := g6
    clear g6
    try dsimp only at h
    rcases iteSome h with ⟨hc14, h⟩ | ⟨hc14, h⟩
    · refine sCondT (b := o4) S (by kernel_rfl) hc14 ?_
      refine sSeq (fun K15 hK15 => ?_)
      refine sRegion ?_
      refine sMove (.int .i64 8) S (wN rfl) (.inr rfl) (by kernel_rfl) rfl (by decide) (fun a S => ?_)
      refine leafL (leafT (hK15 _ _ ?_))
      obtain rfl := Option.some.inj h
      exact wp_ret (rThen (sRet (.int .i64 8) S (rsl1 rfl (rvT (t := 2) (v := .int .i64 8) S (by kernel_rfl))) ⟨(), rfl, S.mem.sel [] [] (by decide) (by kernel_rfl) (by kernel_rfl)⟩))
    · refine sCondF (b := o4) S (by kernel_rfl) hc14 ?_
      refine wp_skip (leafT (hK3 _ _ ?_))
      refine sSeq (fun K16 hK16 => ?_)
      refine sRegion ?_
      refine sMove (.int .i64 0) S (wN rfl) (.inr rfl) (by kernel_rfl) rfl (by decide) (fun a S => ?_)
      refine leafL (leafT (hK16 _ _ ?_))
      obtain rfl := Option.some.inj h
      exact wp_ret (sRet (.int .i64 0) S (rsl1 rfl (rvT (t := 2) (v := .int .i64 0) S (by kernel_rfl))) ⟨(), rfl, S.mem.sel [] [] (by decide) (by kernel_rfl) (by kernel_rfl)⟩)

end Go.Proofs.Ytdfjcpnflmgdoaa
namespace Go.Proofs.Ytdfjcpnflmgdoaa
open Go.RowKit
set_option linter.unusedVariables false

theorem gcd_any {B : Int × Int → Option ((Int × Int) ⊕ Int)} (hB : ∀ a b : Int, B (a, b) = if (b != 0) = true then Option.bind (remI a b) fun z => some (.inl (b, z)) else some (.inr a)) (a b : Int) : ∃ t, whileO B (a, b) = some t ∧ t.natAbs = Nat.gcd a.natAbs b.natAbs := by
  refine whileO_inv (fun s => Nat.gcd s.1.natAbs s.2.natAbs = Nat.gcd a.natAbs b.natAbs) (fun s => s.2.natAbs) _ rfl ?_
  rintro ⟨x, y⟩ hg
  dsimp only at hg
  rw [hB]
  by_cases hy : y = 0
  · subst hy
    refine .inr ⟨x, by simp, ?_⟩
    rw [← hg]; simp
  · have h1 : (y != 0) = true := nT hy
    have h2 : remI x y = some (x.tmod y) := by unfold remI; rw [if_neg hy]
    have h3 : (x.tmod y).natAbs = x.natAbs % y.natAbs := Int.natAbs_tmod x y
    refine .inl ⟨(y, x.tmod y), by rw [if_pos h1, h2]; rfl, ?_, ?_⟩
    · show Nat.gcd y.natAbs (x.tmod y).natAbs = _
      rw [← hg, h3, Nat.gcd_comm x.natAbs, Nat.gcd_rec y.natAbs x.natAbs, Nat.gcd_comm]
    · show (x.tmod y).natAbs < y.natAbs
      rw [h3]
      exact Nat.mod_lt _ (by omega)
theorem common_some (a b : Int) : ∃ t, F_raddleref23_common a b = some t := by
  obtain ⟨t, t1, _⟩ := gcd_any (B := raddleref23_common_l1) (fun a b => rfl) a b
  unfold F_raddleref23_common
  rw [t1]
  simp only [Option.bind_some]
  split
  · exact ⟨_, rfl⟩
  · exact ⟨_, rfl⟩
theorem rcheck_some (r : api_Ratio) : ∃ e, F_raddleref23_Check r = some e := by
  obtain ⟨t, ht⟩ := common_some r.Num r.Den
  unfold F_raddleref23_Check
  rw [ht]
  by_cases e1 : r.Den < 1
  · exact ⟨8, by simp [e1]⟩
  by_cases e2 : 1000000000 < r.Den
  · exact ⟨8, by simp [e1, e2]⟩
  by_cases e3 : r.Num < -1000000000
  · exact ⟨8, by simp [e1, e2, e3]⟩
  by_cases e4 : 1000000000 < r.Num
  · exact ⟨8, by simp [e1, e2, e3, e4]⟩
  by_cases e5 : t = 1
  · exact ⟨0, by simp [e1, e2, e3, e4, e5]⟩
  · exact ⟨8, by simp [e1, e2, e3, e4, e5]⟩
theorem ygcd_some (a b : Int) : ∃ t, F_yarn_gcd a b = some t := by
  obtain ⟨t, t1, _⟩ := gcd_any (B := yarn_gcd_l1) (fun a b => rfl) a b
  unfold F_yarn_gcd
  rw [t1]
  exact ⟨_, rfl⟩
theorem ycheck_some (r : api_Ratio) : ∃ e, F_yarn_Check r = some e := by
  have h1 : ∃ n, F_yarn_size r.Num = some n := by
    unfold F_yarn_size
    split
    · exact ⟨_, rfl⟩
    · exact ⟨_, rfl⟩
  obtain ⟨n, hn⟩ := h1
  obtain ⟨t, ht⟩ := ygcd_some n (IntKind.u64.wrap r.Den)
  unfold F_yarn_Check
  rw [hn]
  by_cases e1 : r.Den < 1
  · exact ⟨8, by simp [e1]⟩
  by_cases e2 : 1000000000 < r.Den
  · exact ⟨8, by simp [e1, e2]⟩
  by_cases e3 : 1000000000 < n
  · exact ⟨8, by simp [e1, e2, e3]⟩
  by_cases e5 : t = 1
  · exact ⟨0, by simp [e1, e2, e3, ht, e5]⟩
  · exact ⟨8, by simp [e1, e2, e3, ht, e5]⟩
theorem ycheck_pos (x y : Nat) (hx : x ≤ 9223372036854775807) (hy : y ≤ 9223372036854775807) : F_yarn_Check ⟨(x : Int), (y : Int)⟩ = some (if 1 ≤ y ∧ y ≤ 1000000000 ∧ x ≤ 1000000000 ∧ Nat.gcd x y = 1 then 0 else 8) := by
  unfold F_yarn_Check
  simp only [size_eq x hx, u64_of (show (0 : Int) ≤ y by omega) (by omega), ygcd_eq, Option.bind_some]
  by_cases e1 : 1 ≤ y
  case neg => simp only [dT (show (y : Int) < 1 by omega), if_true, Option.bind_some, e1, false_and, if_false]
  by_cases e2 : y ≤ 1000000000
  case neg => simp only [dF (show ¬ (y : Int) < 1 by omega), dT (show (1000000000 : Int) < y by omega), Bool.false_eq_true, if_true, if_false, Option.bind_some, e2, false_and, and_false]
  by_cases e3 : x ≤ 1000000000
  case neg => simp only [dF (show ¬ (y : Int) < 1 by omega), dF (show ¬ (1000000000 : Int) < y by omega), dT (show (1000000000 : Int) < x by omega), Bool.false_eq_true, if_true, if_false, Option.bind_some, e3, false_and, and_false]
  by_cases e4 : Nat.gcd x y = 1
  · simp only [dF (show ¬ (y : Int) < 1 by omega), dF (show ¬ (1000000000 : Int) < y by omega), dF (show ¬ (1000000000 : Int) < x by omega), e4, show (((1 : Nat) : Int) != 1) = false from rfl, Bool.false_eq_true, if_true, if_false, Option.bind_some, e1, e2, e3, and_self]
  · simp only [dF (show ¬ (y : Int) < 1 by omega), dF (show ¬ (1000000000 : Int) < y by omega), dF (show ¬ (1000000000 : Int) < x by omega), nT (show ¬ ((Nat.gcd x y : Nat) : Int) = 1 by omega), Bool.false_eq_true, if_true, if_false, Option.bind_some, e4, and_false]
/-- what Make answers: a ratio in lowest terms, or the error of its size -/
theorem mk_cases (X Y : Nat) (hY : 0 < Y) : (∃ a b q : Nat, mk X Y = (⟨(a : Int), (b : Int)⟩, 0) ∧ a * q = X ∧ b * q = Y ∧ 0 < q ∧ 0 < b ∧ a ≤ 1000000000 ∧ b ≤ 1000000000 ∧ Nat.gcd a b = 1) ∨ mk X Y = (⟨0, 0⟩, 16) := by
  unfold mk
  by_cases h : X / Nat.gcd X Y ≤ 1000000000 ∧ Y / Nat.gcd X Y ≤ 1000000000
  · rw [if_pos h]
    have hg : 0 < Nat.gcd X Y := Nat.gcd_pos_of_pos_right X hY
    exact .inl ⟨_, _, Nat.gcd X Y, rfl, Nat.div_mul_cancel (Nat.gcd_dvd_left X Y), Nat.div_mul_cancel (Nat.gcd_dvd_right X Y), hg, (Nat.le_div_iff_mul_le hg).2 (by rw [Nat.one_mul]; exact Nat.gcd_le_right X hY), h.1, h.2, Nat.gcd_div_gcd_div_gcd_of_pos_right hY⟩
  · rw [if_neg h]
    exact .inr rfl
theorem mk_low {x y : Nat} (hx : x ≤ 1000000000) (hy : y ≤ 1000000000) (hg : Nat.gcd x y = 1) : mk x y = (⟨(x : Int), (y : Int)⟩, 0) := by
  unfold mk
  rw [hg, Nat.div_one, Nat.div_one, if_pos ⟨hx, hy⟩]
/-- ratios of whatever sign -/
def okr (r : api_Ratio) : Prop := 1 ≤ r.Den ∧ r.Den ≤ 1000000000 ∧ r.Num.natAbs ≤ 1000000000 ∧ Nat.gcd r.Num.natAbs r.Den.natAbs = 1
instance (r : api_Ratio) : Decidable (okr r) := by unfold okr; exact inferInstance
theorem common_any (a b : Int) (ha : a.natAbs ≤ 9223372036854775807) (hb : b.natAbs ≤ 9223372036854775807) : F_raddleref23_common a b = some ((Nat.gcd a.natAbs b.natAbs : Nat) : Int) := by
  obtain ⟨t, t1, t2⟩ := gcd_any (B := raddleref23_common_l1) (fun a b => rfl) a b
  have hg : Nat.gcd a.natAbs b.natAbs ≤ 9223372036854775807 := by
    by_cases h : b.natAbs = 0
    · rw [h, Nat.gcd_zero_right]; exact ha
    · exact Nat.le_trans (Nat.gcd_le_right _ (Nat.pos_of_ne_zero h)) hb
  unfold F_raddleref23_common
  rw [t1]
  simp only [Option.bind_some]
  rw [← t2] at hg ⊢
  by_cases h : t < 0
  · simp only [dT h, if_true]
    rw [w64_of (by omega) (by omega)]
    congr 1
    omega
  · simp only [dF h, Bool.false_eq_true, if_false]
    congr 1
    omega
theorem size_any (x : Int) (h0 : -9223372036854775808 ≤ x) (h1 : x ≤ 9223372036854775807) : F_yarn_size x = some ((x.natAbs : Nat) : Int) := by
  unfold F_yarn_size
  by_cases h : x < 0
  · simp only [dT h, if_true]
    have : IntKind.u64.wrap (0 - IntKind.u64.wrap x) = ((x.natAbs : Nat) : Int) := by
      have e1 : IntKind.u64.wrap x = x + 18446744073709551616 := by
        unfold IntKind.wrap
        simp [IntKind.bits, IntKind.signed]
        omega
      rw [e1]
      unfold IntKind.wrap
      simp [IntKind.bits, IntKind.signed]
      omega
    rw [this]
  · simp only [dF h, Bool.false_eq_true, if_false]
    rw [u64_of (by omega) (by omega)]
    congr 1
    omega
theorem rcheck_any (r : api_Ratio) (h0 : -9223372036854775808 ≤ r.Num) (h1 : r.Num ≤ 9223372036854775807) (h2 : r.Den ≤ 9223372036854775807) : F_raddleref23_Check r = some (if okr r then 0 else 8) := by
  unfold F_raddleref23_Check
  by_cases e1 : r.Den < 1
  · rw [if_neg (fun h : okr r => by have a1 := h.1; have a2 := h.2.1; have a3 := h.2.2.1; omega)]; simp only [dT e1, if_true, Option.bind_some]
  by_cases e2 : 1000000000 < r.Den
  · rw [if_neg (fun h : okr r => by have a1 := h.1; have a2 := h.2.1; have a3 := h.2.2.1; omega)]; simp only [dF e1, dT e2, Bool.false_eq_true, if_true, if_false, Option.bind_some]
  by_cases e3 : r.Num < -1000000000
  · rw [if_neg (fun h : okr r => by have a1 := h.1; have a2 := h.2.1; have a3 := h.2.2.1; omega)]; simp only [dF e1, dF e2, dT e3, Bool.false_eq_true, if_true, if_false, Option.bind_some]
  by_cases e4 : 1000000000 < r.Num
  · rw [if_neg (fun h : okr r => by have a1 := h.1; have a2 := h.2.1; have a3 := h.2.2.1; omega)]; simp only [dF e1, dF e2, dF e3, dT e4, Bool.false_eq_true, if_true, if_false, Option.bind_some]
  simp only [dF e1, dF e2, dF e3, dF e4, Bool.false_eq_true, if_false, common_any r.Num r.Den (by omega) (by omega), Option.bind_some]
  by_cases e5 : Nat.gcd r.Num.natAbs r.Den.natAbs = 1
  · rw [if_pos (show okr r from ⟨by omega, by omega, by omega, e5⟩), e5]; rfl
  · rw [if_neg (fun h : okr r => e5 h.2.2.2)]
    simp only [nT (show ¬ ((Nat.gcd r.Num.natAbs r.Den.natAbs : Nat) : Int) = 1 by omega), if_true]
theorem ycheck_any (r : api_Ratio) (h0 : -9223372036854775808 ≤ r.Num) (h1 : r.Num ≤ 9223372036854775807) (h2 : r.Den ≤ 9223372036854775807) : F_yarn_Check r = some (if okr r then 0 else 8) := by
  unfold F_yarn_Check
  by_cases e1 : r.Den < 1
  · rw [if_neg (fun h : okr r => by have a1 := h.1; have a2 := h.2.1; have a3 := h.2.2.1; omega)]; simp only [dT e1, if_true, Option.bind_some]
  by_cases e2 : 1000000000 < r.Den
  · rw [if_neg (fun h : okr r => by have a1 := h.1; have a2 := h.2.1; have a3 := h.2.2.1; omega)]; simp only [dF e1, dT e2, Bool.false_eq_true, if_true, if_false, Option.bind_some]
  simp only [dF e1, dF e2, Bool.false_eq_true, if_false, size_any r.Num h0 h1, Option.bind_some]
  by_cases e3 : 1000000000 < ((r.Num.natAbs : Nat) : Int)
  · rw [if_neg (fun h : okr r => by have a1 := h.1; have a2 := h.2.1; have a3 := h.2.2.1; omega)]; simp only [dT e3, if_true, Option.bind_some]
  have e6 : IntKind.u64.wrap r.Den = ((r.Den.natAbs : Nat) : Int) := by rw [u64_of (by omega) (by omega)]; omega
  simp only [dF e3, Bool.false_eq_true, if_false, e6, ygcd_eq, Option.bind_some]
  by_cases e5 : Nat.gcd r.Num.natAbs r.Den.natAbs = 1
  · rw [if_pos (show okr r from ⟨by omega, by omega, by omega, e5⟩), e5]; rfl
  · rw [if_neg (fun h : okr r => e5 h.2.2.2)]
    simp only [nT (show ¬ ((Nat.gcd r.Num.natAbs r.Den.natAbs : Nat) : Int) = 1 by omega), if_true]
/-- Make, whatever the signs -/
def smk (x y : Int) : api_Ratio × Int := if y = 0 then (⟨0, 0⟩, 18) else if (mk x.natAbs y.natAbs).2 = 0 then (⟨if (decide (x < 0) != decide (y < 0)) = true then -(mk x.natAbs y.natAbs).1.Num else (mk x.natAbs y.natAbs).1.Num, (mk x.natAbs y.natAbs).1.Den⟩, 0) else (⟨0, 0⟩, 16)
theorem ymake_any (x y : Int) (hx : x.natAbs ≤ 9223372036854775807) (hy : y.natAbs ≤ 9223372036854775807) : F_yarn_Make x y = some (smk x y) := by
  unfold F_yarn_Make smk
  by_cases h0 : y = 0
  · rw [if_pos h0]; simp only [bT h0, if_true]
  rw [if_neg h0]
  have hb0 : 0 < y.natAbs := by omega
  have hg : 0 < Nat.gcd x.natAbs y.natAbs := Nat.gcd_pos_of_pos_right _ hb0
  simp only [bF h0, Bool.false_eq_true, if_false, size_any x (by omega) (by omega), size_any y (by omega) (by omega), ygcd_eq, Option.bind_some, quoK_nat hg hx, quoK_nat hg hy]
  unfold mk
  have h1 : x.natAbs / Nat.gcd x.natAbs y.natAbs ≤ x.natAbs := Nat.div_le_self _ _
  have h2 : y.natAbs / Nat.gcd x.natAbs y.natAbs ≤ y.natAbs := Nat.div_le_self _ _
  generalize x.natAbs / Nat.gcd x.natAbs y.natAbs = u at *
  generalize y.natAbs / Nat.gcd x.natAbs y.natAbs = v at *
  by_cases e1 : u ≤ 1000000000
  · by_cases e2 : v ≤ 1000000000
    · have hm : (if u ≤ 1000000000 ∧ v ≤ 1000000000 then ((⟨(u : Int), (v : Int)⟩ : api_Ratio), (0 : Int)) else (⟨0, 0⟩, 16)) = (⟨(u : Int), (v : Int)⟩, 0) := if_pos ⟨e1, e2⟩
      rw [hm]
      have k1 : IntKind.i64.wrap (u : Int) = u := i64_of (by omega) (by omega)
      have k2 : IntKind.i64.wrap (v : Int) = v := i64_of (by omega) (by omega)
      have k3 : w64 (0 - (u : Int)) = -(u : Int) := by rw [w64_of (by omega) (by omega)]; omega
      simp only [dF (show ¬ (1000000000 : Int) < u by omega), dF (show ¬ (1000000000 : Int) < v by omega), Bool.false_eq_true, if_false, Option.bind_some, k1, k2, k3, if_true]
      cases (decide (x < 0) != decide (y < 0)) <;> rfl
    · have hm : (if u ≤ 1000000000 ∧ v ≤ 1000000000 then ((⟨(u : Int), (v : Int)⟩ : api_Ratio), (0 : Int)) else (⟨0, 0⟩, 16)) = (⟨0, 0⟩, 16) := if_neg (by omega)
      rw [hm]
      simp only [dF (show ¬ (1000000000 : Int) < u by omega), dT (show (1000000000 : Int) < v by omega), Bool.false_eq_true, if_false, if_true, Option.bind_some, show ¬ (16 : Int) = 0 by omega]
  · have hm : (if u ≤ 1000000000 ∧ v ≤ 1000000000 then ((⟨(u : Int), (v : Int)⟩ : api_Ratio), (0 : Int)) else (⟨0, 0⟩, 16)) = (⟨0, 0⟩, 16) := if_neg (by omega)
    rw [hm]
    simp only [dT (show (1000000000 : Int) < u by omega), if_true, Option.bind_some, show ¬ (16 : Int) = 0 by omega, if_false]
theorem quo_any {x : Int} {g : Nat} (hg : 0 < g) (hx : x.natAbs ≤ 9223372036854775807) : quoI x (g : Int) = some (if x < 0 then -((x.natAbs / g : Nat) : Int) else ((x.natAbs / g : Nat) : Int)) := by
  have h1 : x.natAbs / g ≤ x.natAbs := Nat.div_le_self _ _
  unfold quoI
  rw [if_neg (by omega)]
  have ht : x.tdiv (g : Int) = if x < 0 then -((x.natAbs / g : Nat) : Int) else ((x.natAbs / g : Nat) : Int) := by
    by_cases h : x < 0
    · rw [if_pos h]
      have e : x = -((x.natAbs : Nat) : Int) := by omega
      rw [e, Int.neg_tdiv, Int.natAbs_neg, Int.natAbs_natCast]; rfl
    · rw [if_neg h]
      have e : x = ((x.natAbs : Nat) : Int) := by omega
      rw [e, Int.natAbs_natCast]; rfl
  rw [ht]
  generalize x.natAbs / g = q at *
  congr 1
  by_cases h : x < 0
  · rw [if_pos h]; exact w64_of (by omega) (by omega)
  · rw [if_neg h]; exact w64_of (by omega) (by omega)
theorem rmake_pos (x : Int) (b : Nat) (hx : x.natAbs ≤ 9223372036854775807) (hb : b ≤ 9223372036854775807) (hb0 : 0 < b) :
    (Option.bind (F_raddleref23_common x (b : Int)) fun r => Option.bind (quoI x r) fun z46 => Option.bind (quoI (b : Int) r) fun z48 => Option.bind (F_raddleref23_Check (api_Ratio.mk z46 z48)) fun r54 => if (r54 != 0) = true then some ((api_Ratio.mk 0 0), 16) else some ((api_Ratio.mk z46 z48), 0)) =
      some (if (mk x.natAbs b).2 = 0 then (⟨if x < 0 then -(mk x.natAbs b).1.Num else (mk x.natAbs b).1.Num, (mk x.natAbs b).1.Den⟩, 0) else (⟨0, 0⟩, (16 : Int))) := by
  have hg : 0 < Nat.gcd x.natAbs b := Nat.gcd_pos_of_pos_right _ hb0
  have h3 : Nat.gcd (x.natAbs / Nat.gcd x.natAbs b) (b / Nat.gcd x.natAbs b) = 1 := Nat.gcd_div_gcd_div_gcd_of_pos_right hb0
  have h4 : 1 ≤ b / Nat.gcd x.natAbs b := (Nat.le_div_iff_mul_le hg).2 (by rw [Nat.one_mul]; exact Nat.gcd_le_right _ hb0)
  rw [common_any x (b : Int) hx (by omega), Int.natAbs_natCast, Option.bind_some, quo_any hg hx, quo_nat hg hb]
  simp only [Option.bind_some]
  unfold mk
  have h1 : x.natAbs / Nat.gcd x.natAbs b ≤ x.natAbs := Nat.div_le_self _ _
  have h2 : b / Nat.gcd x.natAbs b ≤ b := Nat.div_le_self _ _
  generalize x.natAbs / Nat.gcd x.natAbs b = u at *
  generalize b / Nat.gcd x.natAbs b = v at *
  have hz : ∃ z : Int, (if x < 0 then -(u : Int) else (u : Int)) = z ∧ z.natAbs = u := by
    by_cases h : x < 0
    · exact ⟨-(u : Int), by rw [if_pos h], by omega⟩
    · exact ⟨(u : Int), by rw [if_neg h], by omega⟩
  obtain ⟨z, z1, z2⟩ := hz
  rw [z1, rcheck_any _ (by show -9223372036854775808 ≤ z; omega) (by show z ≤ _; omega) (by show (v : Int) ≤ _; omega)]
  simp only [Option.bind_some]
  by_cases e : u ≤ 1000000000 ∧ v ≤ 1000000000
  · have ho : okr (api_Ratio.mk z (v : Int)) := ⟨by show (1 : Int) ≤ v; omega, by show (v : Int) ≤ _; omega, by show z.natAbs ≤ _; omega, by show Nat.gcd z.natAbs (v : Int).natAbs = 1; rw [z2, Int.natAbs_natCast]; exact h3⟩
    rw [if_pos ho, if_pos e]
    simp only [bne_self_eq_false, Bool.false_eq_true, if_false, if_true]
    rw [z1]
  · have ho : ¬ okr (api_Ratio.mk z (v : Int)) := fun h => by
      have a1 : (v : Int) ≤ 1000000000 := h.2.1
      have a2 : z.natAbs ≤ 1000000000 := h.2.2.1
      exact e ⟨by omega, by omega⟩
    rw [if_neg ho, if_neg e]
    simp only [nT (show ¬ (8 : Int) = 0 by omega), if_true, show ¬ (16 : Int) = 0 by omega, if_false]
theorem rmake_any (x y : Int) (hx : x.natAbs ≤ 9223372036854775807) (hy : y.natAbs ≤ 9223372036854775807) : F_raddleref23_Make x y = some (smk x y) := by
  unfold F_raddleref23_Make smk
  by_cases h0 : y = 0
  · rw [if_pos h0]; simp only [bT h0, if_true]
  rw [if_neg h0]
  simp only [bF h0, bF (show ¬ x = -9223372036854775808 by omega), bF (show ¬ y = -9223372036854775808 by omega), Bool.false_eq_true, if_false, Option.bind_some]
  by_cases hn : y < 0
  · have k1 : w64 (0 - x) = -x := by rw [w64_of (by omega) (by omega)]; omega
    have k2 : w64 (0 - y) = ((y.natAbs : Nat) : Int) := by rw [w64_of (by omega) (by omega)]; omega
    simp only [dT hn, if_true, Option.bind_some, k1, k2]
    rw [rmake_pos (-x) y.natAbs (by omega) hy (by omega), Int.natAbs_neg]
    congr 1
    by_cases hm : (mk x.natAbs y.natAbs).2 = 0
    · rw [if_pos hm, if_pos hm]
      by_cases hxn : x < 0
      · rw [if_neg (by omega)]; simp [hxn]
      · by_cases hx0 : x = 0
        · subst hx0
          have : (mk 0 y.natAbs).1.Num = 0 := by
            unfold mk
            simp
            split <;> rfl
          simp [this]
        · rw [if_pos (by omega)]; simp [hxn]
    · rw [if_neg hm, if_neg hm]
  · have k2 : y = ((y.natAbs : Nat) : Int) := by omega
    simp only [dF hn, Bool.false_eq_true, if_false, Option.bind_some]
    have := rmake_pos x y.natAbs hx hy (by omega)
    rw [← k2] at this
    rw [this]
    congr 1
    by_cases hm : (mk x.natAbs y.natAbs).2 = 0
    · rw [if_pos hm, if_pos hm]
      by_cases hxn : x < 0
      · rw [if_pos hxn]; simp [hxn]
      · rw [if_neg hxn]; simp [hxn]
    · rw [if_neg hm, if_neg hm]

end Go.Proofs.Ytdfjcpnflmgdoaa
namespace Go.Proofs.Ytdfjcpnflmgdoaa
open Go.RowKit
set_option linter.unusedVariables false

def anc_yarn_Sub_1_0 : List (List Nat) := [[], [0], [], [2], [0, 1, 2, 3], [], [5], [], [7], [5, 6, 7, 8], [0, 1, 2, 3, 4, 5, 6, 7, 8, 9], [], [11], [], [13], [11, 12, 13, 14], [0, 1, 2, 3, 4, 5, 6, 7, 8, 9, 10], [0, 1, 2, 3, 4, 5, 6, 7, 8, 9, 10, 11, 12, 13, 14, 15, 16]]
noncomputable def F_yarn_Sub_1 (p0 : api_Ratio) (p1 : api_Ratio) : Option (Int × Int) :=
  some (w64 ((w64 (p0.Num * p1.Den)) - (w64 (p1.Num * p0.Den))), w64 (p0.Den * p1.Den))
set_option maxHeartbeats 4000000 in
set_option maxRecDepth 100000 in
theorem c_yarn_Sub_1 (E : Nat → Prop) (w0 : World) (p0 : api_Ratio) (v0 : Value) (p1 : api_Ratio) (v1 : Value) (r : (Int × Int)) (h : F_yarn_Sub_1 p0 p1 = some r) (S : St0 E [] w0 w0 [] [fRep r_api_Ratio (v0) p0, fRep r_api_Ratio (v1) p1]) :
    Calls Try.prog 40 #[v0, v1] w0 (Ret (X := Unit) E [] w0 (fun _ => .tuple #[.int .i64 r.1, .int .i64 r.2]) (fun _ => []) (fun _ => [])) := by
  unfold F_yarn_Sub_1 at h
  obtain rfl : v0 = .agg #[.int .i64 p0.Num, .int .i64 p0.Den] := S.know (i := 0) (e := fRep r_api_Ratio (v0) p0) (by kernel_rfl)
  obtain rfl : v1 = .agg #[.int .i64 p1.Num, .int .i64 p1.Den] := S.know (i := 1) (e := fRep r_api_Ratio (v1) p1) (by kernel_rfl)
  refine sEnter (args := [.agg #[.int .i64 p0.Num, .int .i64 p0.Den], .agg #[.int .i64 p1.Num, .int .i64 p1.Den]]) 22 Try.func40 rfl rfl (by simp) S (fun a S => ?_)
  refine sSeq (fun K1 hK1 => ?_)
  refine sRegion ?_
  refine sBox (v := .agg #[.int .i64 p0.Num, .int .i64 p0.Den]) S (wN rfl) rfl (by kernel_rfl) [.int .i64 p0.Num, .int .i64 p0.Den] rfl rfl (by decide) (fun a b2 w S => ?_)
  refine sBox (v := .agg #[.int .i64 p1.Num, .int .i64 p1.Den]) S (wN rfl) rfl (by kernel_rfl) [.int .i64 p1.Num, .int .i64 p1.Den] rfl rfl (by decide) (fun a b3 w S => ?_)
  refine sMove (.int .i64 0) S (wN rfl) (.inr rfl) (by kernel_rfl) rfl (by decide) (fun a S => ?_)
  refine sMove (.int .i64 0) S (wN rfl) (.inr rfl) (by kernel_rfl) rfl (by decide) (fun a S => ?_)
  refine leafL (leafT (hK1 _ _ ?_))
  refine sSeq (fun K4 hK4 => ?_)
  refine sDraw (nf := []) (W := [(0, 6, .pointer (some ⟨b2, 0, none⟩)), (1, 7, .int .i64 p0.Num), (2, 8, .pointer (some ⟨b3, 1, none⟩)), (3, 9, .int .i64 p1.Den), (4, 10, .int .i64 (w64 (p0.Num * p1.Den))), (5, 11, .pointer (some ⟨b3, 0, none⟩)), (6, 12, .int .i64 p1.Num), (7, 13, .pointer (some ⟨b2, 1, none⟩)), (8, 14, .int .i64 p0.Den), (9, 15, .int .i64 (w64 (p1.Num * p0.Den))), (10, 16, .int .i64 (w64 ((w64 (p0.Num * p1.Den)) - (w64 (p1.Num * p0.Den))))), (11, 17, .pointer (some ⟨b2, 1, none⟩)), (12, 18, .int .i64 p0.Den), (13, 19, .pointer (some ⟨b3, 1, none⟩)), (14, 20, .int .i64 p1.Den), (15, 21, .int .i64 (w64 (p0.Den * p1.Den))), (16, 4, .int .i64 (w64 ((w64 (p0.Num * p1.Den)) - (w64 (p1.Num * p0.Den))))), (17, 5, .int .i64 (w64 (p0.Den * p1.Den)))]) (by kernel_rfl) S ?_
  refine node_by (A := anc_yarn_Sub_1_0) (nf := []) (Y := []) (W := [(0, 6, .pointer (some ⟨b2, 0, none⟩)), (1, 7, .int .i64 p0.Num), (2, 8, .pointer (some ⟨b3, 1, none⟩)), (3, 9, .int .i64 p1.Den), (4, 10, .int .i64 (w64 (p0.Num * p1.Den))), (5, 11, .pointer (some ⟨b3, 0, none⟩)), (6, 12, .int .i64 p1.Num), (7, 13, .pointer (some ⟨b2, 1, none⟩)), (8, 14, .int .i64 p0.Den), (9, 15, .int .i64 (w64 (p1.Num * p0.Den))), (10, 16, .int .i64 (w64 ((w64 (p0.Num * p1.Den)) - (w64 (p1.Num * p0.Den))))), (11, 17, .pointer (some ⟨b2, 1, none⟩)), (12, 18, .int .i64 p0.Den), (13, 19, .pointer (some ⟨b3, 1, none⟩)), (14, 20, .int .i64 p1.Den), (15, 21, .int .i64 (w64 (p0.Den * p1.Den))), (16, 4, .int .i64 (w64 ((w64 (p0.Num * p1.Den)) - (w64 (p1.Num * p0.Den))))), (17, 5, .int .i64 (w64 (p0.Den * p1.Den)))]) 18 (by kernel_rfl) (by kernel_rfl) (by kernel_rfl) (by kernel_rfl) (by kernel_rfl) [0, 1, 2, 3, 4, 5, 6, 7, 8, 9, 10, 11, 12, 13, 14, 15, 16, 17] (by kernel_rfl) (by decide) (by decide) (aF 0 17 (by decide) ?_ (aF 1 16 (by decide) ?_ (aF 2 15 (by decide) ?_ (aF 3 14 (by decide) ?_ (aF 4 13 (by decide) ?_ (aF 5 12 (by decide) ?_ (aF 6 11 (by decide) ?_ (aF 7 10 (by decide) ?_ (aF 8 9 (by decide) ?_ (aF 9 8 (by decide) ?_ (aF 10 7 (by decide) ?_ (aF 11 6 (by decide) ?_ (aF 12 5 (by decide) ?_ (aF 13 4 (by decide) ?_ (aF 14 3 (by decide) ?_ (aF 15 2 (by decide) ?_ (aF 16 1 (by decide) ?_ (aF 17 0 (by decide) ?_ (trivial))))))))))))))))))) [(4, .int .i64 (w64 ((w64 (p0.Num * p1.Den)) - (w64 (p1.Num * p0.Den))))), (5, .int .i64 (w64 (p0.Den * p1.Den)))] (fin_of [some 16, some 17] rfl (by kernel_rfl) (by kernel_rfl)) (fun _ a w S => ?_)
  · refine fI 6 (.pointer (some ⟨b2, 0, none⟩)) [(2, .pointer (some ⟨b2, 0, none⟩))] 0 [none] rfl rfl (by kernel_rfl) rfl (by kernel_rfl) (by kernel_rfl) fun G a w S => ?_
    refine sField (b := b2) (off := 0) 0 0 S (wN rfl) rfl (by kernel_rfl) (by kernel_rfl) rfl rfl (by decide) (fun a S => ?_)
    exact leafL ⟨rfl, S⟩
  · refine fI 7 (.int .i64 p0.Num) [(6, .pointer (some ⟨b2, 0, none⟩))] 1 [some 0] rfl rfl (by kernel_rfl) rfl (by kernel_rfl) (by kernel_rfl) fun G a w S => ?_
    refine sLoad1 (p := b2) (off := 0) (T := 23) (vs := [.int .i64 p0.Num, .int .i64 p0.Den]) 1 (.int .i64 p0.Num) S (wN rfl) rfl (by kernel_rfl) (by kernel_rfl) (by kernel_rfl) rfl rfl (by decide) (fun a S => ?_)
    exact leafL ⟨rfl, S⟩
  · refine fI 8 (.pointer (some ⟨b3, 1, none⟩)) [(3, .pointer (some ⟨b3, 0, none⟩))] 2 [none] rfl rfl (by kernel_rfl) rfl (by kernel_rfl) (by kernel_rfl) fun G a w S => ?_
    refine sField (b := b3) (off := 0) 1 1 S (wN rfl) rfl (by kernel_rfl) (by kernel_rfl) rfl rfl (by decide) (fun a S => ?_)
    exact leafL ⟨rfl, S⟩
  · refine fI 9 (.int .i64 p1.Den) [(8, .pointer (some ⟨b3, 1, none⟩))] 3 [some 2] rfl rfl (by kernel_rfl) rfl (by kernel_rfl) (by kernel_rfl) fun G a w S => ?_
    refine sLoad1 (p := b3) (off := 1) (T := 23) (vs := [.int .i64 p1.Num, .int .i64 p1.Den]) 0 (.int .i64 p1.Den) S (wN rfl) rfl (by kernel_rfl) (by kernel_rfl) (by kernel_rfl) rfl rfl (by decide) (fun a S => ?_)
    exact leafL ⟨rfl, S⟩
  · refine fI 10 (.int .i64 (w64 (p0.Num * p1.Den))) [(7, .int .i64 p0.Num), (9, .int .i64 p1.Den)] 4 [some 1, some 3] rfl rfl (by kernel_rfl) rfl (by kernel_rfl) (by kernel_rfl) fun G a w S => ?_
    refine sBin (.int .i64 (w64 (p0.Num * p1.Den))) S (wN rfl) rfl (by kernel_rfl) (by kernel_rfl) (bMul _ _ _ _ p0.Num p1.Den) rfl (by decide) (fun a S => ?_)
    exact leafL ⟨rfl, S⟩
  · refine fI 11 (.pointer (some ⟨b3, 0, none⟩)) [(3, .pointer (some ⟨b3, 0, none⟩))] 5 [none] rfl rfl (by kernel_rfl) rfl (by kernel_rfl) (by kernel_rfl) fun G a w S => ?_
    refine sField (b := b3) (off := 0) 0 0 S (wN rfl) rfl (by kernel_rfl) (by kernel_rfl) rfl rfl (by decide) (fun a S => ?_)
    exact leafL ⟨rfl, S⟩
  · refine fI 12 (.int .i64 p1.Num) [(11, .pointer (some ⟨b3, 0, none⟩))] 6 [some 5] rfl rfl (by kernel_rfl) rfl (by kernel_rfl) (by kernel_rfl) fun G a w S => ?_
    refine sLoad1 (p := b3) (off := 0) (T := 23) (vs := [.int .i64 p1.Num, .int .i64 p1.Den]) 0 (.int .i64 p1.Num) S (wN rfl) rfl (by kernel_rfl) (by kernel_rfl) (by kernel_rfl) rfl rfl (by decide) (fun a S => ?_)
    exact leafL ⟨rfl, S⟩
  · refine fI 13 (.pointer (some ⟨b2, 1, none⟩)) [(2, .pointer (some ⟨b2, 0, none⟩))] 7 [none] rfl rfl (by kernel_rfl) rfl (by kernel_rfl) (by kernel_rfl) fun G a w S => ?_
    refine sField (b := b2) (off := 0) 1 1 S (wN rfl) rfl (by kernel_rfl) (by kernel_rfl) rfl rfl (by decide) (fun a S => ?_)
    exact leafL ⟨rfl, S⟩
  · refine fI 14 (.int .i64 p0.Den) [(13, .pointer (some ⟨b2, 1, none⟩))] 8 [some 7] rfl rfl (by kernel_rfl) rfl (by kernel_rfl) (by kernel_rfl) fun G a w S => ?_
    refine sLoad1 (p := b2) (off := 1) (T := 23) (vs := [.int .i64 p0.Num, .int .i64 p0.Den]) 1 (.int .i64 p0.Den) S (wN rfl) rfl (by kernel_rfl) (by kernel_rfl) (by kernel_rfl) rfl rfl (by decide) (fun a S => ?_)
    exact leafL ⟨rfl, S⟩
  · refine fI 15 (.int .i64 (w64 (p1.Num * p0.Den))) [(12, .int .i64 p1.Num), (14, .int .i64 p0.Den)] 9 [some 6, some 8] rfl rfl (by kernel_rfl) rfl (by kernel_rfl) (by kernel_rfl) fun G a w S => ?_
    refine sBin (.int .i64 (w64 (p1.Num * p0.Den))) S (wN rfl) rfl (by kernel_rfl) (by kernel_rfl) (bMul _ _ _ _ p1.Num p0.Den) rfl (by decide) (fun a S => ?_)
    exact leafL ⟨rfl, S⟩
  · refine fI 16 (.int .i64 (w64 ((w64 (p0.Num * p1.Den)) - (w64 (p1.Num * p0.Den))))) [(10, .int .i64 (w64 (p0.Num * p1.Den))), (15, .int .i64 (w64 (p1.Num * p0.Den)))] 10 [some 4, some 9] rfl rfl (by kernel_rfl) rfl (by kernel_rfl) (by kernel_rfl) fun G a w S => ?_
    refine sBin (.int .i64 (w64 ((w64 (p0.Num * p1.Den)) - (w64 (p1.Num * p0.Den))))) S (wN rfl) rfl (by kernel_rfl) (by kernel_rfl) (bSub _ _ _ _ (w64 (p0.Num * p1.Den)) (w64 (p1.Num * p0.Den))) rfl (by decide) (fun a S => ?_)
    exact leafL ⟨rfl, S⟩
  · refine fI 17 (.pointer (some ⟨b2, 1, none⟩)) [(2, .pointer (some ⟨b2, 0, none⟩))] 11 [none] rfl rfl (by kernel_rfl) rfl (by kernel_rfl) (by kernel_rfl) fun G a w S => ?_
    refine sField (b := b2) (off := 0) 1 1 S (wN rfl) rfl (by kernel_rfl) (by kernel_rfl) rfl rfl (by decide) (fun a S => ?_)
    exact leafL ⟨rfl, S⟩
  · refine fI 18 (.int .i64 p0.Den) [(17, .pointer (some ⟨b2, 1, none⟩))] 12 [some 11] rfl rfl (by kernel_rfl) rfl (by kernel_rfl) (by kernel_rfl) fun G a w S => ?_
    refine sLoad1 (p := b2) (off := 1) (T := 23) (vs := [.int .i64 p0.Num, .int .i64 p0.Den]) 1 (.int .i64 p0.Den) S (wN rfl) rfl (by kernel_rfl) (by kernel_rfl) (by kernel_rfl) rfl rfl (by decide) (fun a S => ?_)
    exact leafL ⟨rfl, S⟩
  · refine fI 19 (.pointer (some ⟨b3, 1, none⟩)) [(3, .pointer (some ⟨b3, 0, none⟩))] 13 [none] rfl rfl (by kernel_rfl) rfl (by kernel_rfl) (by kernel_rfl) fun G a w S => ?_
    refine sField (b := b3) (off := 0) 1 1 S (wN rfl) rfl (by kernel_rfl) (by kernel_rfl) rfl rfl (by decide) (fun a S => ?_)
    exact leafL ⟨rfl, S⟩
  · refine fI 20 (.int .i64 p1.Den) [(19, .pointer (some ⟨b3, 1, none⟩))] 14 [some 13] rfl rfl (by kernel_rfl) rfl (by kernel_rfl) (by kernel_rfl) fun G a w S => ?_
    refine sLoad1 (p := b3) (off := 1) (T := 23) (vs := [.int .i64 p1.Num, .int .i64 p1.Den]) 0 (.int .i64 p1.Den) S (wN rfl) rfl (by kernel_rfl) (by kernel_rfl) (by kernel_rfl) rfl rfl (by decide) (fun a S => ?_)
    exact leafL ⟨rfl, S⟩
  · refine fI 21 (.int .i64 (w64 (p0.Den * p1.Den))) [(18, .int .i64 p0.Den), (20, .int .i64 p1.Den)] 15 [some 12, some 14] rfl rfl (by kernel_rfl) rfl (by kernel_rfl) (by kernel_rfl) fun G a w S => ?_
    refine sBin (.int .i64 (w64 (p0.Den * p1.Den))) S (wN rfl) rfl (by kernel_rfl) (by kernel_rfl) (bMul _ _ _ _ p0.Den p1.Den) rfl (by decide) (fun a S => ?_)
    exact leafL ⟨rfl, S⟩
  · refine fI 4 (.int .i64 (w64 ((w64 (p0.Num * p1.Den)) - (w64 (p1.Num * p0.Den))))) [(16, .int .i64 (w64 ((w64 (p0.Num * p1.Den)) - (w64 (p1.Num * p0.Den)))))] 16 [some 10] rfl rfl (by kernel_rfl) rfl (by kernel_rfl) (by kernel_rfl) fun G a w S => ?_
    refine sMove (.int .i64 (w64 ((w64 (p0.Num * p1.Den)) - (w64 (p1.Num * p0.Den))))) S (wN rfl) (.inr rfl) (by kernel_rfl) rfl (by decide) (fun a S => ?_)
    exact leafL ⟨rfl, S⟩
  · refine fI 5 (.int .i64 (w64 (p0.Den * p1.Den))) [(21, .int .i64 (w64 (p0.Den * p1.Den)))] 17 [some 15] rfl rfl (by kernel_rfl) rfl (by kernel_rfl) (by kernel_rfl) fun G a w S => ?_
    refine sMove (.int .i64 (w64 (p0.Den * p1.Den))) S (wN rfl) (.inr rfl) (by kernel_rfl) rfl (by decide) (fun a S => ?_)
    exact leafL ⟨rfl, S⟩
  · refine leafT (hK4 _ _ ?_)
    obtain rfl := Option.some.inj h
    exact wp_ret (sRet (.tuple #[.int .i64 (w64 ((w64 (p0.Num * p1.Den)) - (w64 (p1.Num * p0.Den)))), .int .i64 (w64 (p0.Den * p1.Den))]) S (rsl2 rfl (rvT (t := 4) (v := .int .i64 (w64 ((w64 (p0.Num * p1.Den)) - (w64 (p1.Num * p0.Den))))) S (by kernel_rfl)) (rvT (t := 5) (v := .int .i64 (w64 (p0.Den * p1.Den))) S (by kernel_rfl))) ⟨(), rfl, S.mem.sel [] [] (by decide) (by kernel_rfl) (by kernel_rfl)⟩)

end Go.Proofs.Ytdfjcpnflmgdoaa
namespace Go.Proofs.Ytdfjcpnflmgdoaa
open Go.RowKit
set_option linter.unusedVariables false

noncomputable def cmp_Or_api_Errno__l1 (p0 : (List Int)) : Int → Option (Int ⊕ (Int ⊕ Unit)) := fun s0 => match s0 with
  | s8 =>
    if decide (s8 < (p0.length : Int)) then
      Option.bind (idxO p0 s8) fun x17 =>
      if x17 != 0 then
        some (.inr (.inl x17))
      else
        some (.inl (w64 (s8 + 1)))
    else
      some (.inr (.inr ()))
noncomputable def F_cmp_Or_api_Errno_ (p0 : (List Int)) : Option Int :=
  Option.bind (α := Unit ⊕ Int) (
    Option.bind (whileO (cmp_Or_api_Errno__l1 p0) 0) fun z0 => match z0 with
      | .inl z =>
        some (.inr z)
      | .inr _ =>
        some (.inl ())) fun z0 => match z0 with
    | .inl _ =>
      some 0
    | .inr z =>
      some z
set_option maxHeartbeats 4000000 in
set_option maxRecDepth 100000 in
theorem c_cmp_Or_api_Errno_ (E : Nat → Prop) (w0 : World) (p0 : (List Int)) (v0 : Value) (r : Int) (h : F_cmp_Or_api_Errno_ p0 = some r) (S : St0 E [] w0 w0 [] [fRep (rL (rI .i64)) (v0) p0]) :
    Calls Try.prog 55 #[v0] w0 (Ret (X := Unit) E [] w0 (fun _ => .int .i64 r) (fun _ => []) (fun _ => [])) := by
  unfold F_cmp_Or_api_Errno_ at h
  obtain ⟨ad1, cp2, _, rfl, _⟩ := S.know (i := 0) (e := fRep (rL (rI .i64)) (v0) p0) (by kernel_rfl)
  refine sEnter (args := [.slice ad1 p0.length cp2]) 18 Try.func55 rfl rfl (by simp) S (fun a S => ?_)
  refine sSeq (fun K3 hK3 => ?_)
  refine sRegion ?_
  refine sMove (.int .i64 0) S (wN rfl) (.inr rfl) (by kernel_rfl) rfl (by decide) (fun a S => ?_)
  refine leafL (leafT (hK3 _ _ ?_))
  refine sSeq (fun K4 hK4 => ?_)
  refine sRegion ?_
  refine sMove (.int .i64 0) S (wN rfl) (.inr rfl) (by kernel_rfl) rfl (by decide) (fun a S => ?_)
  refine leafL (leafT (hK4 _ _ ?_))
  obtain ⟨t5, h, g6⟩ := bindSome h
  refine sCut (fun a w => .inl () = t5 ∧ St [] E [] w0 18 a w [(3, .int .i64 0)] [] []) ?_ (fun a w hI => ?_)
  · refine sSeq (fun K7 hK7 => ?_)
    refine sRegion ?_
    refine sMove (.slice ad1 p0.length cp2) S (wN rfl) (.inl rfl) (by kernel_rfl) rfl (by decide) (fun a S => ?_)
    refine sLen (ad := ad1) (m := p0.length) (c := cp2) S (wN rfl) rfl Try.underlying82 (by kernel_rfl) rfl (by decide) (fun a S => ?_)
    refine sMove (.int .i64 0) S (wN rfl) (.inl rfl) (by kernel_rfl) rfl (by decide) (fun a S => ?_)
    refine leafL (leafT (hK7 _ _ ?_))
    refine wp_block ?_
    obtain ⟨t11, hl, g10⟩ := bindSome h
    refine sLoop hl (fun s0 a w => match s0 with | s8 => St [] E [] w0 18 a w [(3, .int .i64 0), (6, .slice ad1 p0.length cp2), (7, .int .i64 (p0.length : Int)), (8, .int .i64 s8)] [] [fRep (rL (rI .i64)) (.slice ad1 p0.length cp2) p0]) (S.fix [] [0] (by decide) (by kernel_rfl) (by kernel_rfl) (by kernel_rfl)) ?_
    clear hl h
    intro s8 a w c0 hI h hu9
    unfold cmp_Or_api_Errno__l1 at h
    dsimp only at h hI
    have S := hI
    refine sSeq (fun K12 hK12 => ?_)
    refine sRegion ?_
    refine sBin (.bool (decide (s8 < (p0.length : Int)))) S (wN rfl) rfl (by kernel_rfl) (by kernel_rfl) (bLt _ _ _ _ .i64 s8 (p0.length : Int)) rfl (by decide) (fun a S => ?_)
    refine leafL (leafT (hK12 _ _ ?_))
    refine sSeq (fun K13 hK13 => ?_)
    rcases iteSome h with ⟨hc14, h⟩ | ⟨hc14, h⟩
    · refine sCondT (b := decide (s8 < (p0.length : Int))) S (by kernel_rfl) hc14 ?_
      refine wp_skip (leafT (hK13 _ _ ?_))
      refine sSeq (fun K15 hK15 => ?_)
      refine wp_block ?_
      refine sSeq (fun K16 hK16 => ?_)
      refine sRegion ?_
      obtain ⟨x17, hx18, h⟩ := bindSome h
      obtain ⟨q19, hq20, S⟩ := pIdx (P := Try.prog) (r := (rI .i64)) (v := .slice ad1 p0.length cp2) (xs := p0) (j := s8) 82 24 0 S Try.underlying82 (by kernel_rfl) (by kernel_rfl) hx18
      refine sIdxV (v := .slice ad1 p0.length cp2) (k := .i64) (j := s8) S (wN rfl) rfl (by kernel_rfl) (by kernel_rfl) hq20 rfl (by decide) (fun a S => ?_)
      obtain ⟨u21, S⟩ := pLoad (r := (rI .i64)) (q := q19) (x := x17) 0 S (by kernel_rfl)
      obtain rfl : u21 = .int .i64 x17 := S.mem.know (i := 1) (e := fRep (rI .i64) (u21) x17) (by kernel_rfl)
      refine sLoadV1 (vq := q19) 0 (.int .i64 x17) S (wN rfl) rfl (by kernel_rfl) (by kernel_rfl) (by kernel_rfl) rfl (by decide) (fun a S => ?_)
      refine sMove (.int .i64 x17) S (wN rfl) (.inr rfl) (by kernel_rfl) rfl (by decide) (fun a S => ?_)
      refine leafL (leafT (hK16 _ _ ?_))
      refine sSeq (fun K22 hK22 => ?_)
      refine sRegion ?_
      refine sMove (.int .i64 x17) S (wN rfl) (.inl rfl) (by kernel_rfl) rfl (by decide) (fun a S => ?_)
      refine sMove (.int .i64 0) S (wN rfl) (.inl rfl) (by kernel_rfl) rfl (by decide) (fun a S => ?_)
      refine sBin (.bool (x17 != 0)) S (wN rfl) rfl (by kernel_rfl) (by kernel_rfl) (bNe _ _ _ _ .i64 x17 0) rfl (by decide) (fun a S => ?_)
      refine leafL (leafT (hK22 _ _ ?_))
      rcases iteSome h with ⟨hc23, h⟩ | ⟨hc23, h⟩
      · refine sCondT (b := x17 != 0) S (by kernel_rfl) hc23 ?_
        refine sSeq (fun K24 hK24 => ?_)
        refine sRegion ?_
        refine sMove (.int .i64 x17) S (wN rfl) (.inl rfl) (by kernel_rfl) rfl (by decide) (fun a S => ?_)
        refine sMove (.int .i64 x17) S (wN rfl) (.inr rfl) (by kernel_rfl) rfl (by decide) (fun a S => ?_)
        refine leafL (leafT (hK24 _ _ ?_))
        obtain rfl := Option.some.inj h
        obtain rfl := hu9 _ rfl
        have h := g10
        clear g10
        try dsimp only at h
        obtain rfl := Option.some.inj h
        have h := g6
        clear g6
        try dsimp only at h
        obtain rfl := Option.some.inj h
        exact wp_ret (rBlock (rThen (rThen (rBlock (rThen (sRet (.int .i64 x17) S (rsl1 rfl (rvT (t := 2) (v := .int .i64 x17) S (by kernel_rfl))) ⟨(), rfl, S.mem.sel [] [] (by decide) (by kernel_rfl) (by kernel_rfl)⟩))))))
      · refine sCondF (b := x17 != 0) S (by kernel_rfl) hc23 ?_
        refine wp_skip (leafB (leafT (hK15 _ _ ?_)))
        refine sRegion ?_
        refine sBin (.int .i64 (w64 (s8 + 1))) S (wN rfl) rfl (by kernel_rfl) (by kernel_rfl) (bAdd _ _ _ _ s8 1) rfl (by decide) (fun a S => ?_)
        refine sMove (.int .i64 (w64 (s8 + 1))) S (wN rfl) (.inl rfl) (by kernel_rfl) rfl (by decide) (fun a S => ?_)
        exact leafL (leafT (⟨w64 (s8 + 1), (Option.some.inj h).symm, (S.fix [] [3] (by decide) (by kernel_rfl) (by kernel_rfl) (by kernel_rfl))⟩))
    · refine sCondF (b := decide (s8 < (p0.length : Int))) S (by kernel_rfl) hc14 ?_
      obtain rfl := Option.some.inj h
      obtain rfl := hu9 _ rfl
      have h := g10
      clear g10
      try dsimp only at h
      exact wp_exit (xThen (xThen (xHit (leafT (⟨Option.some.inj h, S.fix [] [] (by decide) (by kernel_rfl) (by kernel_rfl) (by kernel_rfl)⟩)))))
  · obtain ⟨rfl, S⟩ := hI
    have h := g6
    clear g6
    try dsimp only at h
    refine sSeq (fun K25 hK25 => ?_)
    refine sRegion ?_
    refine sMove (.int .i64 0) S (wN rfl) (.inl rfl) (by kernel_rfl) rfl (by decide) (fun a S => ?_)
    refine sMove (.int .i64 0) S (wN rfl) (.inr rfl) (by kernel_rfl) rfl (by decide) (fun a S => ?_)
    refine leafL (leafT (hK25 _ _ ?_))
    obtain rfl := Option.some.inj h
    exact wp_ret (sRet (.int .i64 0) S (rsl1 rfl (rvT (t := 2) (v := .int .i64 0) S (by kernel_rfl))) ⟨(), rfl, S.mem.sel [] [] (by decide) (by kernel_rfl) (by kernel_rfl)⟩)

end Go.Proofs.Ytdfjcpnflmgdoaa
namespace Go.Proofs.Ytdfjcpnflmgdoaa
open Go.RowKit
set_option linter.unusedVariables false

def anc_yarn_with_0 : List (List Nat) := [[], [], [], [2], [], [2, 3, 4], [2, 3, 4, 5], [2, 3, 4, 5, 6], [0, 1, 2, 3, 4, 5, 6, 7], [0, 1, 2, 3, 4, 5, 6, 7, 8]]
noncomputable def F_yarn_with (p0 : api_Ratio) (p1 : api_Ratio) : Option yarn_calc :=
  Option.bind (F_yarn_Check p0) fun r6 =>
  Option.bind (F_yarn_Check p1) fun r8 =>
  Option.bind (F_cmp_Or_api_Errno_ ([r6, r8] : List Int)) fun r12 =>
  some (yarn_calc.mk p0 p1 (api_Ratio.mk 0 0) r12)
def c_yarn_with_val (r : yarn_calc) (x : Value) : Value := x
def c_yarn_with_D (r : yarn_calc) (x : Value) : List Fact := [fRep r_yarn_calc x r]
set_option maxHeartbeats 4000000 in
set_option maxRecDepth 100000 in
theorem c_yarn_with (E : Nat → Prop) (w0 : World) (p0 : api_Ratio) (v0 : Value) (p1 : api_Ratio) (v1 : Value) (r : yarn_calc) (h : F_yarn_with p0 p1 = some r) (S : St0 E [] w0 w0 [] [fRep r_api_Ratio (v0) p0, fRep r_api_Ratio (v1) p1]) :
    Calls Try.prog 43 #[v0, v1] w0 (Ret (X := Value) E [] w0 (c_yarn_with_val r) (fun _ => []) (c_yarn_with_D r)) := by
  unfold F_yarn_with at h
  obtain rfl : v0 = .agg #[.int .i64 p0.Num, .int .i64 p0.Den] := S.know (i := 0) (e := fRep r_api_Ratio (v0) p0) (by kernel_rfl)
  obtain rfl : v1 = .agg #[.int .i64 p1.Num, .int .i64 p1.Den] := S.know (i := 1) (e := fRep r_api_Ratio (v1) p1) (by kernel_rfl)
  refine sEnter (args := [.agg #[.int .i64 p0.Num, .int .i64 p0.Den], .agg #[.int .i64 p1.Num, .int .i64 p1.Den]]) 14 Try.func43 rfl rfl (by simp) S (fun a S => ?_)
  refine sSeq (fun K1 hK1 => ?_)
  refine sRegion ?_
  refine sBox (v := .agg #[.int .i64 p0.Num, .int .i64 p0.Den]) S (wN rfl) rfl (by kernel_rfl) [.int .i64 p0.Num, .int .i64 p0.Den] rfl rfl (by decide) (fun a b2 w S => ?_)
  refine sBox (v := .agg #[.int .i64 p1.Num, .int .i64 p1.Den]) S (wN rfl) rfl (by kernel_rfl) [.int .i64 p1.Num, .int .i64 p1.Den] rfl rfl (by decide) (fun a b3 w S => ?_)
  refine sAlloc (.agg #[.int .i64 0, .int .i64 0, .int .i64 0, .int .i64 0, .int .i64 0, .int .i64 0, .int .i64 0]) S (wN rfl) rfl (by kernel_rfl) [.int .i64 0, .int .i64 0, .int .i64 0, .int .i64 0, .int .i64 0, .int .i64 0, .int .i64 0] rfl rfl (by decide) (fun a b4 w S => ?_)
  refine leafL (leafT (hK1 _ _ ?_))
  refine sSeq (fun K5 hK5 => ?_)
  obtain ⟨r6, hx7, h⟩ := bindSome h
  obtain ⟨r8, hx9, h⟩ := bindSome h
  obtain ⟨r12, hx13, h⟩ := bindSome h
  refine sDraw (nf := [6, 9]) (W := [(0, 5, .agg #[.int .i64 p0.Num, .int .i64 p0.Den]), (1, 6, .agg #[.int .i64 p1.Num, .int .i64 p1.Den]), (2, 7, .agg #[.int .i64 p0.Num, .int .i64 p0.Den]), (3, 8, .int .i64 r6), (4, 9, .agg #[.int .i64 p1.Num, .int .i64 p1.Den]), (5, 10, .int .i64 r8)]) (by kernel_rfl) S ?_
  refine node_by (A := anc_yarn_with_0) (nf := [6, 9]) (Y := []) (W := [(0, 5, .agg #[.int .i64 p0.Num, .int .i64 p0.Den]), (1, 6, .agg #[.int .i64 p1.Num, .int .i64 p1.Den]), (2, 7, .agg #[.int .i64 p0.Num, .int .i64 p0.Den]), (3, 8, .int .i64 r6), (4, 9, .agg #[.int .i64 p1.Num, .int .i64 p1.Den]), (5, 10, .int .i64 r8)]) 10 (by kernel_rfl) (by kernel_rfl) (by kernel_rfl) (by kernel_rfl) (by kernel_rfl) [0, 1, 2, 3, 4, 5] (by kernel_rfl) (by decide) (by decide) (aF 0 9 (by decide) ?_ (aF 1 8 (by decide) ?_ (aF 2 7 (by decide) ?_ (aF 3 6 (by decide) ?_ (aF 4 5 (by decide) ?_ (aF 5 4 (by decide) ?_ (aN 6 3 (by decide) ?_ (aE 7 2 6 (by decide) (aE 8 1 6 (by decide) (aB 9 0 6 (by decide) (trivial))))))))))) [] (fun q hq => by cases hq) (fun hY => absurd (hY 6 (by decide)) (by decide))
  · refine fI 5 (.agg #[.int .i64 p0.Num, .int .i64 p0.Den]) [(2, .pointer (some ⟨b2, 0, none⟩))] 0 [none] rfl rfl (by kernel_rfl) rfl (by kernel_rfl) (by kernel_rfl) fun G a w S => ?_
    refine sLoadN (p := b2) (off := 0) (T := 23) (vs := [.int .i64 p0.Num, .int .i64 p0.Den]) 2 [.int .i64 p0.Num, .int .i64 p0.Den] S (wN rfl) rfl (by kernel_rfl) (by kernel_rfl) (by kernel_rfl) (by kernel_rfl) rfl rfl (by decide) (fun a S => ?_)
    exact leafL ⟨rfl, S⟩
  · refine fI 6 (.agg #[.int .i64 p1.Num, .int .i64 p1.Den]) [(3, .pointer (some ⟨b3, 0, none⟩))] 1 [none] rfl rfl (by kernel_rfl) rfl (by kernel_rfl) (by kernel_rfl) fun G a w S => ?_
    refine sLoadN (p := b3) (off := 0) (T := 23) (vs := [.int .i64 p1.Num, .int .i64 p1.Den]) 1 [.int .i64 p1.Num, .int .i64 p1.Den] S (wN rfl) rfl (by kernel_rfl) (by kernel_rfl) (by kernel_rfl) (by kernel_rfl) rfl rfl (by decide) (fun a S => ?_)
    exact leafL ⟨rfl, S⟩
  · refine fI 7 (.agg #[.int .i64 p0.Num, .int .i64 p0.Den]) [(2, .pointer (some ⟨b2, 0, none⟩))] 2 [none] rfl rfl (by kernel_rfl) rfl (by kernel_rfl) (by kernel_rfl) fun G a w S => ?_
    refine sLoadN (p := b2) (off := 0) (T := 23) (vs := [.int .i64 p0.Num, .int .i64 p0.Den]) 2 [.int .i64 p0.Num, .int .i64 p0.Den] S (wN rfl) rfl (by kernel_rfl) (by kernel_rfl) (by kernel_rfl) (by kernel_rfl) rfl rfl (by decide) (fun a S => ?_)
    exact leafL ⟨rfl, S⟩
  · refine fI 8 (.int .i64 r6) [(7, .agg #[.int .i64 p0.Num, .int .i64 p0.Den])] 3 [some 2] rfl rfl (by kernel_rfl) rfl (by kernel_rfl) (by kernel_rfl) fun G a w S => ?_
    have S1 := S.mem
    refine sCallQ (X := Unit) (f := 8) (vs := [.agg #[.int .i64 p0.Num, .int .i64 p0.Den]]) (val := fun _ => .int .i64 r6) S (wN rfl) rfl callee8 (by kernel_rfl) (S1.quiet [0] (by kernel_rfl)) (fun E1 w1 S1 => c_yarn_Check E1 w1 p0 (.agg #[.int .i64 p0.Num, .int .i64 p0.Den]) r6 hx7 S1) rfl (by decide) (fun _ a w S => ?_)
    exact leafL ⟨rfl, S⟩
  · refine fI 9 (.agg #[.int .i64 p1.Num, .int .i64 p1.Den]) [(3, .pointer (some ⟨b3, 0, none⟩))] 4 [none] rfl rfl (by kernel_rfl) rfl (by kernel_rfl) (by kernel_rfl) fun G a w S => ?_
    refine sLoadN (p := b3) (off := 0) (T := 23) (vs := [.int .i64 p1.Num, .int .i64 p1.Den]) 1 [.int .i64 p1.Num, .int .i64 p1.Den] S (wN rfl) rfl (by kernel_rfl) (by kernel_rfl) (by kernel_rfl) (by kernel_rfl) rfl rfl (by decide) (fun a S => ?_)
    exact leafL ⟨rfl, S⟩
  · refine fI 10 (.int .i64 r8) [(9, .agg #[.int .i64 p1.Num, .int .i64 p1.Den])] 5 [some 4] rfl rfl (by kernel_rfl) rfl (by kernel_rfl) (by kernel_rfl) fun G a w S => ?_
    have S1 := S.mem
    refine sCallQ (X := Unit) (f := 8) (vs := [.agg #[.int .i64 p1.Num, .int .i64 p1.Den]]) (val := fun _ => .int .i64 r8) S (wN rfl) rfl callee8 (by kernel_rfl) (S1.quiet [1] (by kernel_rfl)) (fun E1 w1 S1 => c_yarn_Check E1 w1 p1 (.agg #[.int .i64 p1.Num, .int .i64 p1.Den]) r8 hx9 S1) rfl (by decide) (fun _ a w S => ?_)
    exact leafL ⟨rfl, S⟩
  · refine ⟨_, [(8, .int .i64 r6), (10, .int .i64 r8)], rfl, (srcs_of [some 3, some 5] rfl (by kernel_rfl) (by kernel_rfl)), fun G a w S => ?_⟩
    refine sLit (r := (rI .i64)) (T := 24) (xs := ([r6, r8] : List Int)) [(0, .int .i64 r6), (1, .int .i64 r8)] 2 [.int .i64 r6, .int .i64 r8] [.int .i64 r6, .int .i64 r8] (.int .i64 0) 8 S (wN rfl) rfl (by kernel_rfl) Try.underlying82 (by kernel_rfl) (by decide) (by decide) (by kernel_rfl) rfl (fun E1 w1 hE => All.cons rfl (All.cons rfl (All.nil _ _ _))) rfl rfl (by decide) (fun a w ad14 cp15 S => ?_)
    refine leafL ⟨rfl, _, _, .inl ⟨11, (.slice ad14 ([r6, r8] : List Int).length cp15), [(7, 12, .int .i64 r12), (8, 13, .agg #[.int .i64 p0.Num, .int .i64 p0.Den, .int .i64 p1.Num, .int .i64 p1.Den, .int .i64 0, .int .i64 0, .int .i64 r12])], rfl, S, hz_of (by kernel_rfl), ?_⟩⟩
    refine node_by (A := anc_yarn_with_0) (nf := [6, 9]) (Y := [6]) 10 (by kernel_rfl) (by kernel_rfl) (by kernel_rfl) (by kernel_rfl) (by kernel_rfl) [7, 8, 6, 0, 1, 2, 3, 4, 5] (by kernel_rfl) (by decide) (by decide) (aF 0 9 (by decide) ?_ (aF 1 8 (by decide) ?_ (aD 2 7 6 (by decide) (aD 3 6 6 (by decide) (aD 4 5 6 (by decide) (aD 5 4 6 (by decide) (aY 6 3 (by decide) (aF 7 2 (by decide) ?_ (aF 8 1 (by decide) ?_ (aN 9 0 (by decide) ?_ (trivial))))))))))) [] (fun q hq => by cases hq) (fun hY => absurd (hY 9 (by decide)) (by decide))
    · refine fI 5 (.agg #[.int .i64 p0.Num, .int .i64 p0.Den]) [(2, .pointer (some ⟨b2, 0, none⟩))] 3 [none] rfl rfl (by kernel_rfl) rfl (by kernel_rfl) (by kernel_rfl) fun G a w S => ?_
      refine sLoadN (p := b2) (off := 0) (T := 23) (vs := [.int .i64 p0.Num, .int .i64 p0.Den]) 3 [.int .i64 p0.Num, .int .i64 p0.Den] S (wN rfl) rfl (by kernel_rfl) (by kernel_rfl) (by kernel_rfl) (by kernel_rfl) rfl rfl (by decide) (fun a S => ?_)
      exact leafL ⟨rfl, S⟩
    · refine fI 6 (.agg #[.int .i64 p1.Num, .int .i64 p1.Den]) [(3, .pointer (some ⟨b3, 0, none⟩))] 4 [none] rfl rfl (by kernel_rfl) rfl (by kernel_rfl) (by kernel_rfl) fun G a w S => ?_
      refine sLoadN (p := b3) (off := 0) (T := 23) (vs := [.int .i64 p1.Num, .int .i64 p1.Den]) 2 [.int .i64 p1.Num, .int .i64 p1.Den] S (wN rfl) rfl (by kernel_rfl) (by kernel_rfl) (by kernel_rfl) (by kernel_rfl) rfl rfl (by decide) (fun a S => ?_)
      exact leafL ⟨rfl, S⟩
    · refine fI 12 (.int .i64 r12) [(11, .slice ad14 ([r6, r8] : List Int).length cp15)] 0 [some 2] rfl rfl (by kernel_rfl) rfl (by kernel_rfl) (by kernel_rfl) fun G a w S => ?_
      have S1 := S.mem
      have S1 := S1.shutR (r := (rI .i64)) (T := 24) (v := .slice ad14 ([r6, r8] : List Int).length cp15) (xs := ([r6, r8] : List Int)) 0 (by kernel_rfl)
      refine sCallQ (X := Unit) (f := 55) (vs := [.slice ad14 ([r6, r8] : List Int).length cp15]) (val := fun _ => .int .i64 r12) S (wN rfl) rfl callee55 (by kernel_rfl) (S1.quiet [0] (by kernel_rfl)) (fun E1 w1 S1 => c_cmp_Or_api_Errno_ E1 w1 ([r6, r8] : List Int) (.slice ad14 ([r6, r8] : List Int).length cp15) r12 hx13 S1) rfl (by decide) (fun _ a w S => ?_)
      exact leafL ⟨rfl, S⟩
    · refine fI 13 (.agg #[.int .i64 p0.Num, .int .i64 p0.Den, .int .i64 p1.Num, .int .i64 p1.Den, .int .i64 0, .int .i64 0, .int .i64 r12]) [(5, .agg #[.int .i64 p0.Num, .int .i64 p0.Den]), (6, .agg #[.int .i64 p1.Num, .int .i64 p1.Den]), (12, .int .i64 r12)] 1 [some 3, some 4, some 0] rfl rfl (by kernel_rfl) rfl (by kernel_rfl) (by kernel_rfl) fun G a w S => ?_
      refine sBuild [(0, .agg #[.int .i64 p0.Num, .int .i64 p0.Den]), (1, .agg #[.int .i64 p1.Num, .int .i64 p1.Den]), (3, .int .i64 r12)] [.int .i64 p0.Num, .int .i64 p0.Den, .int .i64 p1.Num, .int .i64 p1.Den, .int .i64 0, .int .i64 0, .int .i64 r12] S (wN rfl) rfl (by kernel_rfl) (by kernel_rfl) rfl (by decide) (fun a S => ?_)
      exact leafL ⟨rfl, S⟩
    · refine ⟨_, [(4, .pointer (some ⟨b4, 0, none⟩)), (13, .agg #[.int .i64 p0.Num, .int .i64 p0.Den, .int .i64 p1.Num, .int .i64 p1.Den, .int .i64 0, .int .i64 0, .int .i64 r12])], rfl, (srcs_of [none, some 1] rfl (by kernel_rfl) (by kernel_rfl)), fun G a w S => ?_⟩
      refine sStore (p := b4) (off := 0) (T := 65) (vs := [.int .i64 0, .int .i64 0, .int .i64 0, .int .i64 0, .int .i64 0, .int .i64 0, .int .i64 0]) (v := .agg #[.int .i64 p0.Num, .int .i64 p0.Den, .int .i64 p1.Num, .int .i64 p1.Den, .int .i64 0, .int .i64 0, .int .i64 r12]) 1 [.int .i64 p0.Num, .int .i64 p0.Den, .int .i64 p1.Num, .int .i64 p1.Den, .int .i64 0, .int .i64 0, .int .i64 r12] S (wN rfl) rfl (by kernel_rfl) (by kernel_rfl) rfl (by kernel_rfl) (by kernel_rfl) rfl (by simp) rfl (fun a w S => ?_)
      refine leafL ⟨rfl, _, _, .inr ⟨[], rfl, S, hz_of (by kernel_rfl), ?_⟩⟩
      refine node_by (A := anc_yarn_with_0) (nf := [6, 9]) (Y := [9, 6]) 10 (by kernel_rfl) (by kernel_rfl) (by kernel_rfl) (by kernel_rfl) (by kernel_rfl) [7, 8, 6, 0, 1, 2, 3, 4, 5] (by kernel_rfl) (by decide) (by decide) (aD 0 9 9 (by decide) (aD 1 8 9 (by decide) (aD 2 7 9 (by decide) (aD 3 6 9 (by decide) (aD 4 5 9 (by decide) (aD 5 4 9 (by decide) (aY 6 3 (by decide) (aD 7 2 9 (by decide) (aD 8 1 9 (by decide) (aY 9 0 (by decide) (trivial))))))))))) [(4, .pointer (some ⟨b4, 0, none⟩))] (fin_of [none] rfl (by kernel_rfl) (by kernel_rfl)) (fun _ a w S => ?_)
      · refine leafT (hK5 _ _ ?_)
        obtain rfl := Option.some.inj h
        have S := S.learn (fRep r_yarn_calc (.agg #[.int .i64 p0.Num, .int .i64 p0.Den, .int .i64 p1.Num, .int .i64 p1.Den, .int .i64 0, .int .i64 0, .int .i64 r12]) (yarn_calc.mk p0 p1 (api_Ratio.mk 0 0) r12)) rfl
        exact wp_ret (sRet (.agg #[.int .i64 p0.Num, .int .i64 p0.Den, .int .i64 p1.Num, .int .i64 p1.Den, .int .i64 0, .int .i64 0, .int .i64 r12]) S (rsl1 rfl (rvN (c := 4) (t := 65) (T := 65) (p := b4) 0 [.int .i64 p0.Num, .int .i64 p0.Den, .int .i64 p1.Num, .int .i64 p1.Den, .int .i64 0, .int .i64 0, .int .i64 r12] S (by kernel_rfl) (by kernel_rfl) (by kernel_rfl) (by kernel_rfl))) ⟨(.agg #[.int .i64 p0.Num, .int .i64 p0.Den, .int .i64 p1.Num, .int .i64 p1.Den, .int .i64 0, .int .i64 0, .int .i64 r12]), rfl, S.mem.sel [] [0] (by decide) (by kernel_rfl) (by kernel_rfl)⟩)

end Go.Proofs.Ytdfjcpnflmgdoaa
namespace Go.Proofs.Ytdfjcpnflmgdoaa
open Go.RowKit
set_option linter.unusedVariables false

noncomputable def F_yarn_run_1_s0 (p0 : yarn_calc) (p1 : api_Ratio) (p2 : Int) : Option (yarn_calc × api_Ratio × Int) :=
  some (p0, p0.out, p0.e)
set_option maxHeartbeats 4000000 in
set_option maxRecDepth 100000 in
theorem c_yarn_run_1_s0 (E : Nat → Prop) (w0 : World) (p0 : yarn_calc) (bb0 : Nat) (p1 : api_Ratio) (bb1 : Nat) (p2 : Int) (bb2 : Nat) (r : (yarn_calc × api_Ratio × Int)) (h : F_yarn_run_1_s0 p0 p1 p2 = some r) (S : St0 E (keysL [eBox bb0 65 [.int .i64 p0.a.Num, .int .i64 p0.a.Den, .int .i64 p0.b.Num, .int .i64 p0.b.Den, .int .i64 p0.out.Num, .int .i64 p0.out.Den, .int .i64 p0.e], eBox bb1 23 [.int .i64 p1.Num, .int .i64 p1.Den], eBox bb2 24 [.int .i64 p2]]) w0 w0 [eBox bb0 65 [.int .i64 p0.a.Num, .int .i64 p0.a.Den, .int .i64 p0.b.Num, .int .i64 p0.b.Den, .int .i64 p0.out.Num, .int .i64 p0.out.Den, .int .i64 p0.e], eBox bb1 23 [.int .i64 p1.Num, .int .i64 p1.Den], eBox bb2 24 [.int .i64 p2]] []) :
    Calls Try.prog 53 #[.pointer (some ⟨bb0, 0, none⟩), .pointer (some ⟨bb1, 0, none⟩), .pointer (some ⟨bb2, 0, none⟩)] w0 (Ret (X := Unit) E (keysL [eBox bb0 65 [.int .i64 p0.a.Num, .int .i64 p0.a.Den, .int .i64 p0.b.Num, .int .i64 p0.b.Den, .int .i64 p0.out.Num, .int .i64 p0.out.Den, .int .i64 p0.e], eBox bb1 23 [.int .i64 p1.Num, .int .i64 p1.Den], eBox bb2 24 [.int .i64 p2]]) w0 (fun _ => .tuple #[]) (fun _ => [eBox bb0 65 [.int .i64 r.1.a.Num, .int .i64 r.1.a.Den, .int .i64 r.1.b.Num, .int .i64 r.1.b.Den, .int .i64 r.1.out.Num, .int .i64 r.1.out.Den, .int .i64 r.1.e], eBox bb1 23 [.int .i64 r.2.1.Num, .int .i64 r.2.1.Den], eBox bb2 24 [.int .i64 r.2.2]]) (fun _ => [])) := by
  unfold F_yarn_run_1_s0 at h
  refine sEnter (args := [.pointer (some ⟨bb0, 0, none⟩), .pointer (some ⟨bb1, 0, none⟩), .pointer (some ⟨bb2, 0, none⟩)]) 7 Try.func53 rfl rfl (by simp) S (fun a S => ?_)
  refine sRegion ?_
  refine sField (b := bb0) (off := 0) 4 4 S (wN rfl) rfl (by kernel_rfl) (by kernel_rfl) rfl rfl (by decide) (fun a S => ?_)
  refine sLoadN (p := bb0) (off := 4) (T := 65) (vs := [.int .i64 p0.a.Num, .int .i64 p0.a.Den, .int .i64 p0.b.Num, .int .i64 p0.b.Den, .int .i64 p0.out.Num, .int .i64 p0.out.Den, .int .i64 p0.e]) 0 [.int .i64 p0.out.Num, .int .i64 p0.out.Den] S (wN rfl) rfl (by kernel_rfl) (by kernel_rfl) (by kernel_rfl) (by kernel_rfl) rfl rfl (by decide) (fun a S => ?_)
  refine sField (b := bb0) (off := 0) 6 6 S (wN rfl) rfl (by kernel_rfl) (by kernel_rfl) rfl rfl (by decide) (fun a S => ?_)
  refine sLoad1 (p := bb0) (off := 6) (T := 65) (vs := [.int .i64 p0.a.Num, .int .i64 p0.a.Den, .int .i64 p0.b.Num, .int .i64 p0.b.Den, .int .i64 p0.out.Num, .int .i64 p0.out.Den, .int .i64 p0.e]) 0 (.int .i64 p0.e) S (wN rfl) rfl (by kernel_rfl) (by kernel_rfl) (by kernel_rfl) rfl rfl (by decide) (fun a S => ?_)
  refine sStore (p := bb1) (off := 0) (T := 23) (vs := [.int .i64 p1.Num, .int .i64 p1.Den]) (v := .agg #[.int .i64 p0.out.Num, .int .i64 p0.out.Den]) 1 [.int .i64 p0.out.Num, .int .i64 p0.out.Den] S (wN rfl) rfl (by kernel_rfl) (by kernel_rfl) rfl (by kernel_rfl) (by kernel_rfl) rfl (by simp) rfl (fun a w S => ?_)
  refine sStore (p := bb2) (off := 0) (T := 24) (vs := [.int .i64 p2]) (v := .int .i64 p0.e) 2 [.int .i64 p0.e] S (wN rfl) rfl (by kernel_rfl) (by kernel_rfl) rfl (by kernel_rfl) (by kernel_rfl) rfl (by simp) rfl (fun a w S => ?_)
  obtain rfl := Option.some.inj h
  exact leafL (sEnd (.tuple #[]) S (rsl0 rfl ) ⟨(), rfl, S.mem.sel [2, 1, 0] [] (by decide) (by kernel_rfl) (by kernel_rfl)⟩)
set_option maxHeartbeats 4000000 in
set_option maxRecDepth 100000 in
theorem d_yarn_run_1_s0 (E : Nat → Prop) (w0 : World) (p0 : yarn_calc) (bb0 : Nat) (p1 : api_Ratio) (bb1 : Nat) (p2 : Int) (bb2 : Nat) (r : (yarn_calc × api_Ratio × Int)) (h : F_yarn_run_1_s0 p0 p1 p2 = some r) (S : St0 E (keysL [eBox bb0 65 [.int .i64 p0.a.Num, .int .i64 p0.a.Den, .int .i64 p0.b.Num, .int .i64 p0.b.Den, .int .i64 p0.out.Num, .int .i64 p0.out.Den, .int .i64 p0.e], eBox bb1 23 [.int .i64 p1.Num, .int .i64 p1.Den], eBox bb2 24 [.int .i64 p2]]) w0 w0 [eBox bb0 65 [.int .i64 p0.a.Num, .int .i64 p0.a.Den, .int .i64 p0.b.Num, .int .i64 p0.b.Den, .int .i64 p0.out.Num, .int .i64 p0.out.Den, .int .i64 p0.e], eBox bb1 23 [.int .i64 p1.Num, .int .i64 p1.Den], eBox bb2 24 [.int .i64 p2]] []) :
    CallsD Try.prog 53 #[.pointer (some ⟨bb0, 0, none⟩), .pointer (some ⟨bb1, 0, none⟩), .pointer (some ⟨bb2, 0, none⟩)] .returning w0 (fun e u' w' => u' = .returning ∧ Ret (X := Unit) E (keysL [eBox bb0 65 [.int .i64 p0.a.Num, .int .i64 p0.a.Den, .int .i64 p0.b.Num, .int .i64 p0.b.Den, .int .i64 p0.out.Num, .int .i64 p0.out.Den, .int .i64 p0.e], eBox bb1 23 [.int .i64 p1.Num, .int .i64 p1.Den], eBox bb2 24 [.int .i64 p2]]) w0 (fun _ => .tuple #[]) (fun _ => [eBox bb0 65 [.int .i64 r.1.a.Num, .int .i64 r.1.a.Den, .int .i64 r.1.b.Num, .int .i64 r.1.b.Den, .int .i64 r.1.out.Num, .int .i64 r.1.out.Den, .int .i64 r.1.e], eBox bb1 23 [.int .i64 r.2.1.Num, .int .i64 r.2.1.Den], eBox bb2 24 [.int .i64 r.2.2]]) (fun _ => []) e w') := by
  unfold F_yarn_run_1_s0 at h
  refine sEnterC (args := [.pointer (some ⟨bb0, 0, none⟩), .pointer (some ⟨bb1, 0, none⟩), .pointer (some ⟨bb2, 0, none⟩)]) 7 Try.func53 rfl rfl (by simp) S (fun a S => ?_)
  refine sRegion ?_
  refine sField (b := bb0) (off := 0) 4 4 S (wN rfl) rfl (by kernel_rfl) (by kernel_rfl) rfl rfl (by decide) (fun a S => ?_)
  refine sLoadN (p := bb0) (off := 4) (T := 65) (vs := [.int .i64 p0.a.Num, .int .i64 p0.a.Den, .int .i64 p0.b.Num, .int .i64 p0.b.Den, .int .i64 p0.out.Num, .int .i64 p0.out.Den, .int .i64 p0.e]) 0 [.int .i64 p0.out.Num, .int .i64 p0.out.Den] S (wN rfl) rfl (by kernel_rfl) (by kernel_rfl) (by kernel_rfl) (by kernel_rfl) rfl rfl (by decide) (fun a S => ?_)
  refine sField (b := bb0) (off := 0) 6 6 S (wN rfl) rfl (by kernel_rfl) (by kernel_rfl) rfl rfl (by decide) (fun a S => ?_)
  refine sLoad1 (p := bb0) (off := 6) (T := 65) (vs := [.int .i64 p0.a.Num, .int .i64 p0.a.Den, .int .i64 p0.b.Num, .int .i64 p0.b.Den, .int .i64 p0.out.Num, .int .i64 p0.out.Den, .int .i64 p0.e]) 0 (.int .i64 p0.e) S (wN rfl) rfl (by kernel_rfl) (by kernel_rfl) (by kernel_rfl) rfl rfl (by decide) (fun a S => ?_)
  refine sStore (p := bb1) (off := 0) (T := 23) (vs := [.int .i64 p1.Num, .int .i64 p1.Den]) (v := .agg #[.int .i64 p0.out.Num, .int .i64 p0.out.Den]) 1 [.int .i64 p0.out.Num, .int .i64 p0.out.Den] S (wN rfl) rfl (by kernel_rfl) (by kernel_rfl) rfl (by kernel_rfl) (by kernel_rfl) rfl (by simp) rfl (fun a w S => ?_)
  refine sStore (p := bb2) (off := 0) (T := 24) (vs := [.int .i64 p2]) (v := .int .i64 p0.e) 2 [.int .i64 p0.e] S (wN rfl) rfl (by kernel_rfl) (by kernel_rfl) rfl (by kernel_rfl) (by kernel_rfl) rfl (by simp) rfl (fun a w S => ?_)
  obtain rfl := Option.some.inj h
  exact leafL (sEnd (.tuple #[]) S (rsl0 rfl ) ⟨(), rfl, S.mem.sel [2, 1, 0] [] (by decide) (by kernel_rfl) (by kernel_rfl)⟩)

end Go.Proofs.Ytdfjcpnflmgdoaa
namespace Go.Proofs.Ytdfjcpnflmgdoaa
open Go.RowKit
set_option linter.unusedVariables false

noncomputable def F_yarn_calc_set_s1 (p0 : yarn_calc) (p1 : Int) (p2 : Int) : Option yarn_calc :=
  if p0.e == 0 then
    Option.bind (F_yarn_Make p1 p2) fun r3 =>
    some (yarn_calc.mk p0.a p0.b r3.1 r3.2)
  else
    some p0
set_option maxHeartbeats 4000000 in
set_option maxRecDepth 100000 in
theorem c_yarn_calc_set_s1 (E : Nat → Prop) (w0 : World) (p0 : yarn_calc) (bb0 : Nat) (p1 : Int) (p2 : Int) (r : yarn_calc) (h : F_yarn_calc_set_s1 p0 p1 p2 = some r) (S : St0 E (keysL [eBox bb0 65 [.int .i64 p0.a.Num, .int .i64 p0.a.Den, .int .i64 p0.b.Num, .int .i64 p0.b.Den, .int .i64 p0.out.Num, .int .i64 p0.out.Den, .int .i64 p0.e]]) w0 w0 [eBox bb0 65 [.int .i64 p0.a.Num, .int .i64 p0.a.Den, .int .i64 p0.b.Num, .int .i64 p0.b.Den, .int .i64 p0.out.Num, .int .i64 p0.out.Den, .int .i64 p0.e]] []) :
    Calls Try.prog 54 #[.pointer (some ⟨bb0, 0, none⟩), .int .i64 p1, .int .i64 p2] w0 (Ret (X := Unit) E (keysL [eBox bb0 65 [.int .i64 p0.a.Num, .int .i64 p0.a.Den, .int .i64 p0.b.Num, .int .i64 p0.b.Den, .int .i64 p0.out.Num, .int .i64 p0.out.Den, .int .i64 p0.e]]) w0 (fun _ => .tuple #[]) (fun _ => [eBox bb0 65 [.int .i64 r.a.Num, .int .i64 r.a.Den, .int .i64 r.b.Num, .int .i64 r.b.Den, .int .i64 r.out.Num, .int .i64 r.out.Den, .int .i64 r.e]]) (fun _ => [])) := by
  unfold F_yarn_calc_set_s1 at h
  refine sEnter (args := [.pointer (some ⟨bb0, 0, none⟩), .int .i64 p1, .int .i64 p2]) 23 Try.func54 rfl rfl (by simp) S (fun a S => ?_)
  refine sSeq (fun K1 hK1 => ?_)
  refine sRegion ?_
  refine sMove (.pointer (some ⟨bb0, 0, none⟩)) S (wN rfl) (.inl rfl) (by kernel_rfl) rfl (by decide) (fun a S => ?_)
  refine nilCheck_ok (q := ⟨bb0, 0, none⟩) S (wN rfl) rfl (by kernel_rfl) rfl (by decide) (fun a S => ?_)
  refine sField (b := bb0) (off := 0) 6 6 S (wN rfl) rfl (by kernel_rfl) (by kernel_rfl) rfl rfl (by decide) (fun a S => ?_)
  refine sLoad1 (p := bb0) (off := 6) (T := 65) (vs := [.int .i64 p0.a.Num, .int .i64 p0.a.Den, .int .i64 p0.b.Num, .int .i64 p0.b.Den, .int .i64 p0.out.Num, .int .i64 p0.out.Den, .int .i64 p0.e]) 0 (.int .i64 p0.e) S (wN rfl) rfl (by kernel_rfl) (by kernel_rfl) (by kernel_rfl) rfl rfl (by decide) (fun a S => ?_)
  refine sBin (.bool (p0.e == 0)) S (wN rfl) rfl (by kernel_rfl) (by kernel_rfl) (bEq _ _ _ _ .i64 p0.e 0) rfl (by decide) (fun a S => ?_)
  refine leafL (leafT (hK1 _ _ ?_))
  rcases iteSome h with ⟨hc2, h⟩ | ⟨hc2, h⟩
  · refine sCondT (b := p0.e == 0) S (by kernel_rfl) hc2 ?_
    refine sRegion ?_
    refine sMove (.pointer (some ⟨bb0, 0, none⟩)) S (wN rfl) (.inl rfl) (by kernel_rfl) rfl (by decide) (fun a S => ?_)
    refine sMove (.pointer (some ⟨bb0, 0, none⟩)) S (wN rfl) (.inl rfl) (by kernel_rfl) rfl (by decide) (fun a S => ?_)
    refine sMove (.int .i64 p1) S (wN rfl) (.inl rfl) (by kernel_rfl) rfl (by decide) (fun a S => ?_)
    refine sMove (.int .i64 p2) S (wN rfl) (.inl rfl) (by kernel_rfl) rfl (by decide) (fun a S => ?_)
    obtain ⟨r3, hx4, h⟩ := bindSome h
    refine sCall (X := Value) (f := 48) (vs := [.int .i64 p1, .int .i64 p2]) (val := c_yarn_Make_val r3) (B' := fun _ => []) (D' := c_yarn_Make_D r3) [] [eBox bb0 65 [.int .i64 p0.a.Num, .int .i64 p0.a.Den, .int .i64 p0.b.Num, .int .i64 p0.b.Den, .int .i64 p0.out.Num, .int .i64 p0.out.Den, .int .i64 p0.e]] [] [0] [] S (wN rfl) rfl callee48 (by kernel_rfl) (by decide) (by kernel_rfl) (by kernel_rfl) (fun E1 w1 S1 => c_yarn_Make E1 w1 p1 p2 r3 hx4 S1) rfl (by decide) (fun u5 a w S => ?_)
    obtain rfl : u5 = .agg #[.int .i64 r3.1.Num, .int .i64 r3.1.Den] := S.mem.know (i := 0) (e := fRep r_api_Ratio (u5) r3.1) (by kernel_rfl)
    refine sMove (.tuple #[.agg #[.int .i64 r3.1.Num, .int .i64 r3.1.Den], .int .i64 r3.2]) S (wN rfl) (.inl rfl) (by kernel_rfl) rfl (by decide) (fun a S => ?_)
    refine sExtract (vs := [.agg #[.int .i64 r3.1.Num, .int .i64 r3.1.Den], .int .i64 r3.2]) (.agg #[.int .i64 r3.1.Num, .int .i64 r3.1.Den]) S (wN rfl) rfl (by kernel_rfl) rfl rfl (by decide) (fun a S => ?_)
    refine sExtract (vs := [.agg #[.int .i64 r3.1.Num, .int .i64 r3.1.Den], .int .i64 r3.2]) (.int .i64 r3.2) S (wN rfl) rfl (by kernel_rfl) rfl rfl (by decide) (fun a S => ?_)
    refine nilCheck_ok (q := ⟨bb0, 0, none⟩) S (wN rfl) rfl (by kernel_rfl) rfl (by decide) (fun a S => ?_)
    refine sField (b := bb0) (off := 0) 4 4 S (wN rfl) rfl (by kernel_rfl) (by kernel_rfl) rfl rfl (by decide) (fun a S => ?_)
    refine sStore (p := bb0) (off := 4) (T := 65) (vs := [.int .i64 p0.a.Num, .int .i64 p0.a.Den, .int .i64 p0.b.Num, .int .i64 p0.b.Den, .int .i64 p0.out.Num, .int .i64 p0.out.Den, .int .i64 p0.e]) (v := .agg #[.int .i64 r3.1.Num, .int .i64 r3.1.Den]) 0 [.int .i64 r3.1.Num, .int .i64 r3.1.Den] S (wN rfl) rfl (by kernel_rfl) (by kernel_rfl) rfl (by kernel_rfl) (by kernel_rfl) rfl (by simp) rfl (fun a w S => ?_)
    refine nilCheck_ok (q := ⟨bb0, 0, none⟩) S (wN rfl) rfl (by kernel_rfl) rfl (by decide) (fun a S => ?_)
    refine sField (b := bb0) (off := 0) 6 6 S (wN rfl) rfl (by kernel_rfl) (by kernel_rfl) rfl rfl (by decide) (fun a S => ?_)
    refine sStore (p := bb0) (off := 6) (T := 65) (vs := [.int .i64 p0.a.Num, .int .i64 p0.a.Den, .int .i64 p0.b.Num, .int .i64 p0.b.Den, .int .i64 r3.1.Num, .int .i64 r3.1.Den, .int .i64 p0.e]) (v := .int .i64 r3.2) 0 [.int .i64 r3.2] S (wN rfl) rfl (by kernel_rfl) (by kernel_rfl) rfl (by kernel_rfl) (by kernel_rfl) rfl (by simp) rfl (fun a w S => ?_)
    obtain rfl := Option.some.inj h
    exact leafL (sEnd (.tuple #[]) S (rsl0 rfl ) ⟨(), rfl, S.mem.sel [0] [] (by decide) (by kernel_rfl) (by kernel_rfl)⟩)
  · refine sCondF (b := p0.e == 0) S (by kernel_rfl) hc2 ?_
    obtain rfl := Option.some.inj h
    exact wp_skip (sEnd (.tuple #[]) S (rsl0 rfl ) ⟨(), rfl, S.mem.sel [0] [] (by decide) (by kernel_rfl) (by kernel_rfl)⟩)

end Go.Proofs.Ytdfjcpnflmgdoaa
namespace Go.Proofs.Ytdfjcpnflmgdoaa
open Go.RowKit
set_option linter.unusedVariables false

noncomputable def F_yarn_run_s1 (p0 : api_Ratio) (p1 : api_Ratio) : Option (api_Ratio × Int) :=
  Option.bind (F_yarn_with p0 p1) fun r7 =>
  Option.bind (α := (Int × Int × Int × Int × Int × Int × Int)) (
    if r7.e == 0 then
      Option.bind (F_yarn_Sub_1 r7.a r7.b) fun r23 =>
      Option.bind (F_yarn_calc_set_s1 r7 r23.1 r23.2) fun r25 =>
      some (r25.a.Num, r25.a.Den, r25.b.Num, r25.b.Den, r25.out.Num, r25.out.Den, r25.e)
    else
      some (r7.a.Num, r7.a.Den, r7.b.Num, r7.b.Den, r7.out.Num, r7.out.Den, r7.e)) fun (o12, o13, o14, o15, o16, o17, o18) =>
  Option.bind (F_yarn_run_1_s0 (yarn_calc.mk (api_Ratio.mk o12 o13) (api_Ratio.mk o14 o15) (api_Ratio.mk o16 o17) o18) (api_Ratio.mk 0 0) 0) fun r28 =>
  some (r28.2.1, r28.2.2)
def c_yarn_run_s1_val (r : (api_Ratio × Int)) (x : Value) : Value := .tuple #[x, .int .i64 r.2]
def c_yarn_run_s1_D (r : (api_Ratio × Int)) (x : Value) : List Fact := [fRep r_api_Ratio x r.1]
set_option maxHeartbeats 4000000 in
set_option maxRecDepth 100000 in
theorem c_yarn_run_s1 (E : Nat → Prop) (w0 : World) (p0 : api_Ratio) (v0 : Value) (p1 : api_Ratio) (v1 : Value) (r : (api_Ratio × Int)) (h : F_yarn_run_s1 p0 p1 = some r) (S : St0 E [] w0 w0 [] [fRep r_api_Ratio (v0) p0, fRep r_api_Ratio (v1) p1]) :
    Calls Try.prog 33 #[v0, v1, .func (.func 40) #[] #[]] w0 (Ret (X := Value) E [] w0 (c_yarn_run_s1_val r) (fun _ => []) (c_yarn_run_s1_D r)) := by
  unfold F_yarn_run_s1 at h
  obtain rfl : v0 = .agg #[.int .i64 p0.Num, .int .i64 p0.Den] := S.know (i := 0) (e := fRep r_api_Ratio (v0) p0) (by kernel_rfl)
  obtain rfl : v1 = .agg #[.int .i64 p1.Num, .int .i64 p1.Den] := S.know (i := 1) (e := fRep r_api_Ratio (v1) p1) (by kernel_rfl)
  refine sEnterD (args := [.agg #[.int .i64 p0.Num, .int .i64 p0.Den], .agg #[.int .i64 p1.Num, .int .i64 p1.Den], .func (.func 40) #[] #[]]) 27 Try.func33 rfl rfl (by simp) S (fun a S => ?_)
  refine sSeq (fun K1 hK1 => ?_)
  refine sRegion ?_
  refine sBox (v := .agg #[.int .i64 p0.Num, .int .i64 p0.Den]) S (wN rfl) rfl (by kernel_rfl) [.int .i64 p0.Num, .int .i64 p0.Den] rfl rfl (by decide) (fun a b2 w S => ?_)
  refine sBox (v := .agg #[.int .i64 p1.Num, .int .i64 p1.Den]) S (wN rfl) rfl (by kernel_rfl) [.int .i64 p1.Num, .int .i64 p1.Den] rfl rfl (by decide) (fun a b3 w S => ?_)
  refine sAlloc (.agg #[.int .i64 0, .int .i64 0]) S (wN rfl) rfl (by kernel_rfl) [.int .i64 0, .int .i64 0] rfl rfl (by decide) (fun a b4 w S => ?_)
  refine sAlloc (.int .i64 0) S (wN rfl) rfl (by kernel_rfl) [.int .i64 0] rfl rfl (by decide) (fun a b5 w S => ?_)
  refine leafL (leafT (hK1 _ _ ?_))
  refine sSeq (fun K6 hK6 => ?_)
  refine sRegion ?_
  refine sLoadN (p := b2) (off := 0) (T := 23) (vs := [.int .i64 p0.Num, .int .i64 p0.Den]) 3 [.int .i64 p0.Num, .int .i64 p0.Den] S (wN rfl) rfl (by kernel_rfl) (by kernel_rfl) (by kernel_rfl) (by kernel_rfl) rfl rfl (by decide) (fun a S => ?_)
  refine sLoadN (p := b3) (off := 0) (T := 23) (vs := [.int .i64 p1.Num, .int .i64 p1.Den]) 2 [.int .i64 p1.Num, .int .i64 p1.Den] S (wN rfl) rfl (by kernel_rfl) (by kernel_rfl) (by kernel_rfl) (by kernel_rfl) rfl rfl (by decide) (fun a S => ?_)
  obtain ⟨r7, hx8, h⟩ := bindSome h
  refine sCall (X := Value) (f := 43) (vs := [.agg #[.int .i64 p0.Num, .int .i64 p0.Den], .agg #[.int .i64 p1.Num, .int .i64 p1.Den]]) (val := c_yarn_with_val r7) (B' := fun _ => []) (D' := c_yarn_with_D r7) [] [eBox b5 24 [.int .i64 0], eBox b4 23 [.int .i64 0, .int .i64 0], eBox b3 23 [.int .i64 p1.Num, .int .i64 p1.Den], eBox b2 23 [.int .i64 p0.Num, .int .i64 p0.Den]] [fRep r_api_Ratio (.agg #[.int .i64 p0.Num, .int .i64 p0.Den]) p0, fRep r_api_Ratio (.agg #[.int .i64 p1.Num, .int .i64 p1.Den]) p1] [0, 1, 2, 3] [0, 1] S (wN rfl) rfl callee43 (by kernel_rfl) (by decide) (by kernel_rfl) (by kernel_rfl) (fun E1 w1 S1 => c_yarn_with E1 w1 p0 (.agg #[.int .i64 p0.Num, .int .i64 p0.Den]) p1 (.agg #[.int .i64 p1.Num, .int .i64 p1.Den]) r7 hx8 S1) rfl (by decide) (fun u9 a w S => ?_)
  obtain rfl : u9 = .agg #[.int .i64 r7.a.Num, .int .i64 r7.a.Den, .int .i64 r7.b.Num, .int .i64 r7.b.Den, .int .i64 r7.out.Num, .int .i64 r7.out.Den, .int .i64 r7.e] := S.mem.know (i := 0) (e := fRep r_yarn_calc (u9) r7) (by kernel_rfl)
  refine sAlloc (.agg #[.int .i64 0, .int .i64 0, .int .i64 0, .int .i64 0, .int .i64 0, .int .i64 0, .int .i64 0]) S (wN rfl) rfl (by kernel_rfl) [.int .i64 0, .int .i64 0, .int .i64 0, .int .i64 0, .int .i64 0, .int .i64 0, .int .i64 0] rfl rfl (by decide) (fun a b10 w S => ?_)
  refine sStore (p := b10) (off := 0) (T := 65) (vs := [.int .i64 0, .int .i64 0, .int .i64 0, .int .i64 0, .int .i64 0, .int .i64 0, .int .i64 0]) (v := .agg #[.int .i64 r7.a.Num, .int .i64 r7.a.Den, .int .i64 r7.b.Num, .int .i64 r7.b.Den, .int .i64 r7.out.Num, .int .i64 r7.out.Den, .int .i64 r7.e]) 0 [.int .i64 r7.a.Num, .int .i64 r7.a.Den, .int .i64 r7.b.Num, .int .i64 r7.b.Den, .int .i64 r7.out.Num, .int .i64 r7.out.Den, .int .i64 r7.e] S (wN rfl) rfl (by kernel_rfl) (by kernel_rfl) rfl (by kernel_rfl) (by kernel_rfl) rfl (by simp) rfl (fun a w S => ?_)
  refine leafL (leafT (hK6 _ _ ?_))
  refine sSeq (fun K11 hK11 => ?_)
  refine sRegion ?_
  refine sFunc (g := 53) (vs := [.pointer (some ⟨b10, 0, none⟩), .pointer (some ⟨b4, 0, none⟩), .pointer (some ⟨b5, 0, none⟩)]) S (wN rfl) rfl (by kernel_rfl) rfl (by decide) (fun a S => ?_)
  refine sDefer (g := 53) (caps := [.pointer (some ⟨b10, 0, none⟩), .pointer (some ⟨b4, 0, none⟩), .pointer (some ⟨b5, 0, none⟩)]) S (wN rfl) rfl (by kernel_rfl) rfl (fun a S => ?_)
  refine leafL (leafT (hK11 _ _ ?_))
  obtain ⟨t19, h, g20⟩ := bindSome h
  refine sCut (fun a w => ∃ o12, ∃ o13, ∃ o14, ∃ o15, ∃ o16, ∃ o17, ∃ o18, (o12, o13, o14, o15, o16, o17, o18) = t19 ∧ St [{ target := .fn (.func 53) #[.pointer (some ⟨b10, 0, none⟩), .pointer (some ⟨b4, 0, none⟩), .pointer (some ⟨b5, 0, none⟩)], args := #[] }] E [] w0 27 a w [(6, .pointer (some ⟨b4, 0, none⟩)), (7, .pointer (some ⟨b5, 0, none⟩))] [eBox b4 23 [.int .i64 0, .int .i64 0], eBox b5 24 [.int .i64 0], eBox b10 65 [.int .i64 o12, .int .i64 o13, .int .i64 o14, .int .i64 o15, .int .i64 o16, .int .i64 o17, .int .i64 o18]] []) ?_ (fun a w hI => ?_)
  · refine sSeq (fun K21 hK21 => ?_)
    refine sRegion ?_
    refine sField (b := b10) (off := 0) 6 6 S (wN rfl) rfl (by kernel_rfl) (by kernel_rfl) rfl rfl (by decide) (fun a S => ?_)
    refine sLoad1 (p := b10) (off := 6) (T := 65) (vs := [.int .i64 r7.a.Num, .int .i64 r7.a.Den, .int .i64 r7.b.Num, .int .i64 r7.b.Den, .int .i64 r7.out.Num, .int .i64 r7.out.Den, .int .i64 r7.e]) 0 (.int .i64 r7.e) S (wN rfl) rfl (by kernel_rfl) (by kernel_rfl) (by kernel_rfl) rfl rfl (by decide) (fun a S => ?_)
    refine sBin (.bool (r7.e == 0)) S (wN rfl) rfl (by kernel_rfl) (by kernel_rfl) (bEq _ _ _ _ .i64 r7.e 0) rfl (by decide) (fun a S => ?_)
    refine leafL (leafT (hK21 _ _ ?_))
    rcases iteSome h with ⟨hc22, h⟩ | ⟨hc22, h⟩
    · refine sCondT (b := r7.e == 0) S (by kernel_rfl) hc22 ?_
      refine sRegion ?_
      refine sMove (.func (.func 40) #[] #[]) S (wN rfl) (.inl rfl) (by kernel_rfl) rfl (by decide) (fun a S => ?_)
      refine sField (b := b10) (off := 0) 0 0 S (wN rfl) rfl (by kernel_rfl) (by kernel_rfl) rfl rfl (by decide) (fun a S => ?_)
      refine sLoadN (p := b10) (off := 0) (T := 65) (vs := [.int .i64 r7.a.Num, .int .i64 r7.a.Den, .int .i64 r7.b.Num, .int .i64 r7.b.Den, .int .i64 r7.out.Num, .int .i64 r7.out.Den, .int .i64 r7.e]) 0 [.int .i64 r7.a.Num, .int .i64 r7.a.Den] S (wN rfl) rfl (by kernel_rfl) (by kernel_rfl) (by kernel_rfl) (by kernel_rfl) rfl rfl (by decide) (fun a S => ?_)
      refine sField (b := b10) (off := 0) 2 2 S (wN rfl) rfl (by kernel_rfl) (by kernel_rfl) rfl rfl (by decide) (fun a S => ?_)
      refine sLoadN (p := b10) (off := 2) (T := 65) (vs := [.int .i64 r7.a.Num, .int .i64 r7.a.Den, .int .i64 r7.b.Num, .int .i64 r7.b.Den, .int .i64 r7.out.Num, .int .i64 r7.out.Den, .int .i64 r7.e]) 0 [.int .i64 r7.b.Num, .int .i64 r7.b.Den] S (wN rfl) rfl (by kernel_rfl) (by kernel_rfl) (by kernel_rfl) (by kernel_rfl) rfl rfl (by decide) (fun a S => ?_)
      obtain ⟨r23, hx24, h⟩ := bindSome h
      have S1 := S.mem
      have S1 := S1.learn (fRep r_api_Ratio (.agg #[.int .i64 r7.a.Num, .int .i64 r7.a.Den]) r7.a) rfl
      have S1 := S1.learn (fRep r_api_Ratio (.agg #[.int .i64 r7.b.Num, .int .i64 r7.b.Den]) r7.b) rfl
      refine sCallVQ (X := Unit) (g := 40) (vs := [.agg #[.int .i64 r7.a.Num, .int .i64 r7.a.Den], .agg #[.int .i64 r7.b.Num, .int .i64 r7.b.Den]]) (caps := []) (val := fun _ => .tuple #[.int .i64 r23.1, .int .i64 r23.2]) S (wN rfl) rfl (by kernel_rfl) callee40 (by kernel_rfl) (S1.quiet [1, 0] (by kernel_rfl)) (fun E1 w1 S1 => c_yarn_Sub_1 E1 w1 r7.a (.agg #[.int .i64 r7.a.Num, .int .i64 r7.a.Den]) r7.b (.agg #[.int .i64 r7.b.Num, .int .i64 r7.b.Den]) r23 hx24 S1) rfl (by decide) (fun _ a w S => ?_)
      refine sExtract (vs := [.int .i64 r23.1, .int .i64 r23.2]) (.int .i64 r23.1) S (wN rfl) rfl (by kernel_rfl) rfl rfl (by decide) (fun a S => ?_)
      refine sExtract (vs := [.int .i64 r23.1, .int .i64 r23.2]) (.int .i64 r23.2) S (wN rfl) rfl (by kernel_rfl) rfl rfl (by decide) (fun a S => ?_)
      obtain ⟨r25, hx26, h⟩ := bindSome h
      refine sCall (X := Unit) (f := 54) (vs := [.pointer (some ⟨b10, 0, none⟩), .int .i64 r23.1, .int .i64 r23.2]) (val := fun _ => .tuple #[]) (B' := fun _ => [eBox b10 65 [.int .i64 r25.a.Num, .int .i64 r25.a.Den, .int .i64 r25.b.Num, .int .i64 r25.b.Den, .int .i64 r25.out.Num, .int .i64 r25.out.Den, .int .i64 r25.e]]) (D' := fun _ => []) [eBox b10 65 [.int .i64 r7.a.Num, .int .i64 r7.a.Den, .int .i64 r7.b.Num, .int .i64 r7.b.Den, .int .i64 r7.out.Num, .int .i64 r7.out.Den, .int .i64 r7.e]] [eBox b5 24 [.int .i64 0], eBox b4 23 [.int .i64 0, .int .i64 0], eBox b3 23 [.int .i64 p1.Num, .int .i64 p1.Den], eBox b2 23 [.int .i64 p0.Num, .int .i64 p0.Den]] [] [0, 1, 2, 3, 4] [] S (wN rfl) rfl callee54 (by kernel_rfl) (by decide) (by kernel_rfl) (by kernel_rfl) (fun E1 w1 S1 => c_yarn_calc_set_s1 E1 w1 r7 b10 r23.1 r23.2 r25 hx26 S1) rfl (by decide) (fun _ a w S => ?_)
      exact leafL (leafT (⟨r25.a.Num, r25.a.Den, r25.b.Num, r25.b.Den, r25.out.Num, r25.out.Den, r25.e, Option.some.inj h, S.fix [2, 1, 0] [] (by decide) (by kernel_rfl) (by kernel_rfl) (by kernel_rfl)⟩))
    · refine sCondF (b := r7.e == 0) S (by kernel_rfl) hc22 ?_
      exact wp_skip (leafT (⟨r7.a.Num, r7.a.Den, r7.b.Num, r7.b.Den, r7.out.Num, r7.out.Den, r7.e, Option.some.inj h, S.fix [2, 1, 0] [] (by decide) (by kernel_rfl) (by kernel_rfl) (by kernel_rfl)⟩))
  · obtain ⟨o12, o13, o14, o15, o16, o17, o18, rfl, S⟩ := hI
    have h := g20
    clear g20
    try dsimp only at h
    refine sSeq (fun K27 hK27 => ?_)
    refine sDraw (nf := [2, 3]) (W := [(0, 25, .agg #[.int .i64 0, .int .i64 0]), (1, 26, .int .i64 0)]) (by kernel_rfl) S ?_
    refine node_by (A := [[], [], [0], [0, 1, 2]]) (nf := [2, 3]) (Y := []) (W := [(0, 25, .agg #[.int .i64 0, .int .i64 0]), (1, 26, .int .i64 0)]) 4 (by kernel_rfl) (by kernel_rfl) (by kernel_rfl) (by kernel_rfl) (by kernel_rfl) [0, 1] (by kernel_rfl) (by decide) (by decide) (aF 0 3 (by decide) ?_ (aF 1 2 (by decide) ?_ (aN 2 1 (by decide) ?_ (aB 3 0 2 (by decide) (trivial))))) [] (fun q hq => by cases hq) (fun hY => absurd (hY 2 (by decide)) (by decide))
    · refine fI 25 (.agg #[.int .i64 0, .int .i64 0]) [(6, .pointer (some ⟨b4, 0, none⟩))] 0 [none] rfl rfl (by kernel_rfl) rfl (by kernel_rfl) (by kernel_rfl) fun G a w S => ?_
      refine sLoadN (p := b4) (off := 0) (T := 23) (vs := [.int .i64 0, .int .i64 0]) 0 [.int .i64 0, .int .i64 0] S (wN rfl) rfl (by kernel_rfl) (by kernel_rfl) (by kernel_rfl) (by kernel_rfl) rfl rfl (by decide) (fun a S => ?_)
      exact leafL ⟨rfl, S⟩
    · refine fI 26 (.int .i64 0) [(7, .pointer (some ⟨b5, 0, none⟩))] 1 [none] rfl rfl (by kernel_rfl) rfl (by kernel_rfl) (by kernel_rfl) fun G a w S => ?_
      refine sLoad1 (p := b5) (off := 0) (T := 24) (vs := [.int .i64 0]) 1 (.int .i64 0) S (wN rfl) rfl (by kernel_rfl) (by kernel_rfl) (by kernel_rfl) rfl rfl (by decide) (fun a S => ?_)
      exact leafL ⟨rfl, S⟩
    · refine ⟨_, [(6, .pointer (some ⟨b4, 0, none⟩)), (25, .agg #[.int .i64 0, .int .i64 0])], rfl, (srcs_of [none, some 0] rfl (by kernel_rfl) (by kernel_rfl)), fun G a w S => ?_⟩
      refine sStore (p := b4) (off := 0) (T := 23) (vs := [.int .i64 0, .int .i64 0]) (v := .agg #[.int .i64 0, .int .i64 0]) 0 [.int .i64 0, .int .i64 0] S (wN rfl) rfl (by kernel_rfl) (by kernel_rfl) rfl (by kernel_rfl) (by kernel_rfl) rfl (by simp) rfl (fun a w S => ?_)
      refine leafL ⟨rfl, _, _, .inr ⟨[], rfl, S, hz_of (by kernel_rfl), ?_⟩⟩
      refine node_by (A := [[], [], [0], [0, 1, 2]]) (nf := [2, 3]) (Y := [2]) 4 (by kernel_rfl) (by kernel_rfl) (by kernel_rfl) (by kernel_rfl) (by kernel_rfl) [0, 1] (by kernel_rfl) (by decide) (by decide) (aD 0 3 2 (by decide) (aF 1 2 (by decide) ?_ (aY 2 1 (by decide) (aN 3 0 (by decide) ?_ (trivial))))) [] (fun q hq => by cases hq) (fun hY => absurd (hY 3 (by decide)) (by decide))
      · refine fI 26 (.int .i64 0) [(7, .pointer (some ⟨b5, 0, none⟩))] 1 [none] rfl rfl (by kernel_rfl) rfl (by kernel_rfl) (by kernel_rfl) fun G a w S => ?_
        refine sLoad1 (p := b5) (off := 0) (T := 24) (vs := [.int .i64 0]) 1 (.int .i64 0) S (wN rfl) rfl (by kernel_rfl) (by kernel_rfl) (by kernel_rfl) rfl rfl (by decide) (fun a S => ?_)
        exact leafL ⟨rfl, S⟩
      · refine ⟨_, [(7, .pointer (some ⟨b5, 0, none⟩)), (26, .int .i64 0)], rfl, (srcs_of [none, some 1] rfl (by kernel_rfl) (by kernel_rfl)), fun G a w S => ?_⟩
        refine sStore (p := b5) (off := 0) (T := 24) (vs := [.int .i64 0]) (v := .int .i64 0) 1 [.int .i64 0] S (wN rfl) rfl (by kernel_rfl) (by kernel_rfl) rfl (by kernel_rfl) (by kernel_rfl) rfl (by simp) rfl (fun a w S => ?_)
        refine leafL ⟨rfl, _, _, .inr ⟨[], rfl, S, hz_of (by kernel_rfl), ?_⟩⟩
        refine node_by (A := [[], [], [0], [0, 1, 2]]) (nf := [2, 3]) (Y := [3, 2]) 4 (by kernel_rfl) (by kernel_rfl) (by kernel_rfl) (by kernel_rfl) (by kernel_rfl) [0, 1] (by kernel_rfl) (by decide) (by decide) (aD 0 3 3 (by decide) (aD 1 2 3 (by decide) (aY 2 1 (by decide) (aY 3 0 (by decide) (trivial))))) [(6, .pointer (some ⟨b4, 0, none⟩)), (7, .pointer (some ⟨b5, 0, none⟩))] (fin_of [none, none] rfl (by kernel_rfl) (by kernel_rfl)) (fun _ a w S => ?_)
        · refine leafT (hK27 _ _ ?_)
          obtain ⟨r28, hx29, h⟩ := bindSome h
          refine wp_ret (sLeave (X := Unit) (val := fun _ => .tuple #[]) (B' := fun _ => [eBox b10 65 [.int .i64 r28.1.a.Num, .int .i64 r28.1.a.Den, .int .i64 r28.1.b.Num, .int .i64 r28.1.b.Den, .int .i64 r28.1.out.Num, .int .i64 r28.1.out.Den, .int .i64 r28.1.e], eBox b4 23 [.int .i64 r28.2.1.Num, .int .i64 r28.2.1.Den], eBox b5 24 [.int .i64 r28.2.2]]) (D' := fun _ => []) [eBox b10 65 [.int .i64 o12, .int .i64 o13, .int .i64 o14, .int .i64 o15, .int .i64 o16, .int .i64 o17, .int .i64 o18], eBox b4 23 [.int .i64 0, .int .i64 0], eBox b5 24 [.int .i64 0]] [] [] [2, 1, 0] [] S callee53 (by decide) (by kernel_rfl) rfl (fun E1 w1 S1 => d_yarn_run_1_s0 E1 w1 (yarn_calc.mk (api_Ratio.mk o12 o13) (api_Ratio.mk o14 o15) (api_Ratio.mk o16 o17) o18) b10 (api_Ratio.mk 0 0) b4 0 b5 r28 hx29 S1) (fun _ a w S => ?_))
          obtain rfl := Option.some.inj h
          have S := S.learn (fRep r_api_Ratio (.agg #[.int .i64 r28.2.1.Num, .int .i64 r28.2.1.Den]) r28.2.1) rfl
          exact sFin (.tuple #[.agg #[.int .i64 r28.2.1.Num, .int .i64 r28.2.1.Den], .int .i64 r28.2.2]) S (rsl2 rfl (rvN (c := 6) (t := 23) (T := 23) (p := b4) 1 [.int .i64 r28.2.1.Num, .int .i64 r28.2.1.Den] S (by kernel_rfl) (by kernel_rfl) (by kernel_rfl) (by kernel_rfl)) (rv1 (c := 7) (t := 24) (T := 24) (p := b5) 2 (.int .i64 r28.2.2) S (by kernel_rfl) (by kernel_rfl) (by kernel_rfl))) ⟨(.agg #[.int .i64 r28.2.1.Num, .int .i64 r28.2.1.Den]), rfl, S.mem.sel [] [0] (by decide) (by kernel_rfl) (by kernel_rfl)⟩

end Go.Proofs.Ytdfjcpnflmgdoaa
namespace Go.Proofs.Ytdfjcpnflmgdoaa
open Go.RowKit
set_option linter.unusedVariables false

noncomputable def F_yarn_Sub (p0 : api_Ratio) (p1 : api_Ratio) : Option (api_Ratio × Int) :=
  Option.bind (F_yarn_run_s1 p0 p1) fun r6 =>
  some (r6.1, r6.2)
def c_yarn_Sub_val (r : (api_Ratio × Int)) (x : Value) : Value := .tuple #[x, .int .i64 r.2]
def c_yarn_Sub_D (r : (api_Ratio × Int)) (x : Value) : List Fact := [fRep r_api_Ratio x r.1]
set_option maxHeartbeats 4000000 in
set_option maxRecDepth 100000 in
theorem c_yarn_Sub (E : Nat → Prop) (w0 : World) (p0 : api_Ratio) (v0 : Value) (p1 : api_Ratio) (v1 : Value) (r : (api_Ratio × Int)) (h : F_yarn_Sub p0 p1 = some r) (S : St0 E [] w0 w0 [] [fRep r_api_Ratio (v0) p0, fRep r_api_Ratio (v1) p1]) :
    Calls Try.prog 10 #[v0, v1] w0 (Ret (X := Value) E [] w0 (c_yarn_Sub_val r) (fun _ => []) (c_yarn_Sub_D r)) := by
  unfold F_yarn_Sub at h
  obtain rfl : v0 = .agg #[.int .i64 p0.Num, .int .i64 p0.Den] := S.know (i := 0) (e := fRep r_api_Ratio (v0) p0) (by kernel_rfl)
  obtain rfl : v1 = .agg #[.int .i64 p1.Num, .int .i64 p1.Den] := S.know (i := 1) (e := fRep r_api_Ratio (v1) p1) (by kernel_rfl)
  refine sEnter (args := [.agg #[.int .i64 p0.Num, .int .i64 p0.Den], .agg #[.int .i64 p1.Num, .int .i64 p1.Den]]) 11 Try.func10 rfl rfl (by simp) S (fun a S => ?_)
  refine sSeq (fun K1 hK1 => ?_)
  refine sRegion ?_
  refine sBox (v := .agg #[.int .i64 p0.Num, .int .i64 p0.Den]) S (wN rfl) rfl (by kernel_rfl) [.int .i64 p0.Num, .int .i64 p0.Den] rfl rfl (by decide) (fun a b2 w S => ?_)
  refine sBox (v := .agg #[.int .i64 p1.Num, .int .i64 p1.Den]) S (wN rfl) rfl (by kernel_rfl) [.int .i64 p1.Num, .int .i64 p1.Den] rfl rfl (by decide) (fun a b3 w S => ?_)
  refine sAlloc (.agg #[.int .i64 0, .int .i64 0]) S (wN rfl) rfl (by kernel_rfl) [.int .i64 0, .int .i64 0] rfl rfl (by decide) (fun a b4 w S => ?_)
  refine sMove (.int .i64 0) S (wN rfl) (.inr rfl) (by kernel_rfl) rfl (by decide) (fun a S => ?_)
  refine leafL (leafT (hK1 _ _ ?_))
  refine sSeq (fun K5 hK5 => ?_)
  refine sRegion ?_
  refine sLoadN (p := b2) (off := 0) (T := 23) (vs := [.int .i64 p0.Num, .int .i64 p0.Den]) 2 [.int .i64 p0.Num, .int .i64 p0.Den] S (wN rfl) rfl (by kernel_rfl) (by kernel_rfl) (by kernel_rfl) (by kernel_rfl) rfl rfl (by decide) (fun a S => ?_)
  refine sLoadN (p := b3) (off := 0) (T := 23) (vs := [.int .i64 p1.Num, .int .i64 p1.Den]) 1 [.int .i64 p1.Num, .int .i64 p1.Den] S (wN rfl) rfl (by kernel_rfl) (by kernel_rfl) (by kernel_rfl) (by kernel_rfl) rfl rfl (by decide) (fun a S => ?_)
  obtain ⟨r6, hx7, h⟩ := bindSome h
  refine sCall (X := Value) (f := 33) (vs := [.agg #[.int .i64 p0.Num, .int .i64 p0.Den], .agg #[.int .i64 p1.Num, .int .i64 p1.Den], .func (.func 40) #[] #[]]) (val := c_yarn_run_s1_val r6) (B' := fun _ => []) (D' := c_yarn_run_s1_D r6) [] [eBox b4 23 [.int .i64 0, .int .i64 0], eBox b3 23 [.int .i64 p1.Num, .int .i64 p1.Den], eBox b2 23 [.int .i64 p0.Num, .int .i64 p0.Den]] [fRep r_api_Ratio (.agg #[.int .i64 p0.Num, .int .i64 p0.Den]) p0, fRep r_api_Ratio (.agg #[.int .i64 p1.Num, .int .i64 p1.Den]) p1] [0, 1, 2] [0, 1] S (wN rfl) rfl callee33 (by kernel_rfl) (by decide) (by kernel_rfl) (by kernel_rfl) (fun E1 w1 S1 => c_yarn_run_s1 E1 w1 p0 (.agg #[.int .i64 p0.Num, .int .i64 p0.Den]) p1 (.agg #[.int .i64 p1.Num, .int .i64 p1.Den]) r6 hx7 S1) rfl (by decide) (fun u8 a w S => ?_)
  obtain rfl : u8 = .agg #[.int .i64 r6.1.Num, .int .i64 r6.1.Den] := S.mem.know (i := 0) (e := fRep r_api_Ratio (u8) r6.1) (by kernel_rfl)
  refine sExtract (vs := [.agg #[.int .i64 r6.1.Num, .int .i64 r6.1.Den], .int .i64 r6.2]) (.agg #[.int .i64 r6.1.Num, .int .i64 r6.1.Den]) S (wN rfl) rfl (by kernel_rfl) rfl rfl (by decide) (fun a S => ?_)
  refine sExtract (vs := [.agg #[.int .i64 r6.1.Num, .int .i64 r6.1.Den], .int .i64 r6.2]) (.int .i64 r6.2) S (wN rfl) rfl (by kernel_rfl) rfl rfl (by decide) (fun a S => ?_)
  refine sStore (p := b4) (off := 0) (T := 23) (vs := [.int .i64 0, .int .i64 0]) (v := .agg #[.int .i64 r6.1.Num, .int .i64 r6.1.Den]) 0 [.int .i64 r6.1.Num, .int .i64 r6.1.Den] S (wN rfl) rfl (by kernel_rfl) (by kernel_rfl) rfl (by kernel_rfl) (by kernel_rfl) rfl (by simp) rfl (fun a w S => ?_)
  refine sMove (.int .i64 r6.2) S (wN rfl) (.inr rfl) (by kernel_rfl) rfl (by decide) (fun a S => ?_)
  refine leafL (leafT (hK5 _ _ ?_))
  obtain rfl := Option.some.inj h
  exact wp_ret (sRet (.tuple #[.agg #[.int .i64 r6.1.Num, .int .i64 r6.1.Den], .int .i64 r6.2]) S (rsl2 rfl (rvN (c := 4) (t := 23) (T := 23) (p := b4) 0 [.int .i64 r6.1.Num, .int .i64 r6.1.Den] S (by kernel_rfl) (by kernel_rfl) (by kernel_rfl) (by kernel_rfl)) (rvT (t := 5) (v := .int .i64 r6.2) S (by kernel_rfl))) ⟨(.agg #[.int .i64 r6.1.Num, .int .i64 r6.1.Den]), rfl, S.mem.sel [] [0] (by decide) (by kernel_rfl) (by kernel_rfl)⟩)

end Go.Proofs.Ytdfjcpnflmgdoaa
namespace Go.Proofs.Ytdfjcpnflmgdoaa
open Go.RowKit
set_option linter.unusedVariables false

noncomputable def F_raddleref23_Both (p0 : api_Ratio) (p1 : api_Ratio) : Option Int :=
  Option.bind (F_raddleref23_Check p0) fun r6 =>
  if r6 != 0 then
    some r6
  else
    Option.bind (F_raddleref23_Check p1) fun r11 =>
    some r11
set_option maxHeartbeats 4000000 in
set_option maxRecDepth 100000 in
theorem c_raddleref23_Both (E : Nat → Prop) (w0 : World) (p0 : api_Ratio) (v0 : Value) (p1 : api_Ratio) (v1 : Value) (r : Int) (h : F_raddleref23_Both p0 p1 = some r) (S : St0 E [] w0 w0 [] [fRep r_api_Ratio (v0) p0, fRep r_api_Ratio (v1) p1]) :
    Calls Try.prog 35 #[v0, v1] w0 (Ret (X := Unit) E [] w0 (fun _ => .int .i64 r) (fun _ => []) (fun _ => [])) := by
  unfold F_raddleref23_Both at h
  obtain rfl : v0 = .agg #[.int .i64 p0.Num, .int .i64 p0.Den] := S.know (i := 0) (e := fRep r_api_Ratio (v0) p0) (by kernel_rfl)
  obtain rfl : v1 = .agg #[.int .i64 p1.Num, .int .i64 p1.Den] := S.know (i := 1) (e := fRep r_api_Ratio (v1) p1) (by kernel_rfl)
  refine sEnter (args := [.agg #[.int .i64 p0.Num, .int .i64 p0.Den], .agg #[.int .i64 p1.Num, .int .i64 p1.Den]]) 12 Try.func35 rfl rfl (by simp) S (fun a S => ?_)
  refine sSeq (fun K1 hK1 => ?_)
  refine sRegion ?_
  refine sBox (v := .agg #[.int .i64 p0.Num, .int .i64 p0.Den]) S (wN rfl) rfl (by kernel_rfl) [.int .i64 p0.Num, .int .i64 p0.Den] rfl rfl (by decide) (fun a b2 w S => ?_)
  refine sBox (v := .agg #[.int .i64 p1.Num, .int .i64 p1.Den]) S (wN rfl) rfl (by kernel_rfl) [.int .i64 p1.Num, .int .i64 p1.Den] rfl rfl (by decide) (fun a b3 w S => ?_)
  refine sMove (.int .i64 0) S (wN rfl) (.inr rfl) (by kernel_rfl) rfl (by decide) (fun a S => ?_)
  refine leafL (leafT (hK1 _ _ ?_))
  refine sSeq (fun K4 hK4 => ?_)
  refine sSeq (fun K5 hK5 => ?_)
  refine sRegion ?_
  refine sLoadN (p := b2) (off := 0) (T := 23) (vs := [.int .i64 p0.Num, .int .i64 p0.Den]) 1 [.int .i64 p0.Num, .int .i64 p0.Den] S (wN rfl) rfl (by kernel_rfl) (by kernel_rfl) (by kernel_rfl) (by kernel_rfl) rfl rfl (by decide) (fun a S => ?_)
  obtain ⟨r6, hx7, h⟩ := bindSome h
  have S1 := S.mem
  refine sCallQ (X := Unit) (f := 9) (vs := [.agg #[.int .i64 p0.Num, .int .i64 p0.Den]]) (val := fun _ => .int .i64 r6) S (wN rfl) rfl callee9 (by kernel_rfl) (S1.quiet [0] (by kernel_rfl)) (fun E1 w1 S1 => c_raddleref23_Check E1 w1 p0 (.agg #[.int .i64 p0.Num, .int .i64 p0.Den]) r6 hx7 S1) rfl (by decide) (fun _ a w S => ?_)
  refine sBin (.bool (r6 != 0)) S (wN rfl) rfl (by kernel_rfl) (by kernel_rfl) (bNe _ _ _ _ .i64 r6 0) rfl (by decide) (fun a S => ?_)
  refine leafL (leafT (hK5 _ _ ?_))
  rcases iteSome h with ⟨hc8, h⟩ | ⟨hc8, h⟩
  · refine sCondT (b := r6 != 0) S (by kernel_rfl) hc8 ?_
    refine sSeq (fun K9 hK9 => ?_)
    refine sRegion ?_
    refine sLoadN (p := b2) (off := 0) (T := 23) (vs := [.int .i64 p0.Num, .int .i64 p0.Den]) 1 [.int .i64 p0.Num, .int .i64 p0.Den] S (wN rfl) rfl (by kernel_rfl) (by kernel_rfl) (by kernel_rfl) (by kernel_rfl) rfl rfl (by decide) (fun a S => ?_)
    have S1 := S.mem
    refine sCallQ (X := Unit) (f := 9) (vs := [.agg #[.int .i64 p0.Num, .int .i64 p0.Den]]) (val := fun _ => .int .i64 r6) S (wN rfl) rfl callee9 (by kernel_rfl) (S1.quiet [0] (by kernel_rfl)) (fun E1 w1 S1 => c_raddleref23_Check E1 w1 p0 (.agg #[.int .i64 p0.Num, .int .i64 p0.Den]) r6 hx7 S1) rfl (by decide) (fun _ a w S => ?_)
    refine sMove (.int .i64 r6) S (wN rfl) (.inr rfl) (by kernel_rfl) rfl (by decide) (fun a S => ?_)
    refine leafL (leafT (hK9 _ _ ?_))
    obtain rfl := Option.some.inj h
    exact wp_ret (rThen (sRet (.int .i64 r6) S (rsl1 rfl (rvT (t := 4) (v := .int .i64 r6) S (by kernel_rfl))) ⟨(), rfl, S.mem.sel [] [] (by decide) (by kernel_rfl) (by kernel_rfl)⟩))
  · refine sCondF (b := r6 != 0) S (by kernel_rfl) hc8 ?_
    refine wp_skip (leafT (hK4 _ _ ?_))
    refine sSeq (fun K10 hK10 => ?_)
    refine sRegion ?_
    refine sLoadN (p := b3) (off := 0) (T := 23) (vs := [.int .i64 p1.Num, .int .i64 p1.Den]) 0 [.int .i64 p1.Num, .int .i64 p1.Den] S (wN rfl) rfl (by kernel_rfl) (by kernel_rfl) (by kernel_rfl) (by kernel_rfl) rfl rfl (by decide) (fun a S => ?_)
    obtain ⟨r11, hx12, h⟩ := bindSome h
    have S1 := S.mem
    refine sCallQ (X := Unit) (f := 9) (vs := [.agg #[.int .i64 p1.Num, .int .i64 p1.Den]]) (val := fun _ => .int .i64 r11) S (wN rfl) rfl callee9 (by kernel_rfl) (S1.quiet [1] (by kernel_rfl)) (fun E1 w1 S1 => c_raddleref23_Check E1 w1 p1 (.agg #[.int .i64 p1.Num, .int .i64 p1.Den]) r11 hx12 S1) rfl (by decide) (fun _ a w S => ?_)
    refine sMove (.int .i64 r11) S (wN rfl) (.inr rfl) (by kernel_rfl) rfl (by decide) (fun a S => ?_)
    refine leafL (leafT (hK10 _ _ ?_))
    obtain rfl := Option.some.inj h
    exact wp_ret (sRet (.int .i64 r11) S (rsl1 rfl (rvT (t := 4) (v := .int .i64 r11) S (by kernel_rfl))) ⟨(), rfl, S.mem.sel [] [] (by decide) (by kernel_rfl) (by kernel_rfl)⟩)

end Go.Proofs.Ytdfjcpnflmgdoaa
namespace Go.Proofs.Ytdfjcpnflmgdoaa
open Go.RowKit
set_option linter.unusedVariables false

noncomputable def F_raddleref23_Sub (p0 : api_Ratio) (p1 : api_Ratio) : Option (api_Ratio × Int) :=
  Option.bind (F_raddleref23_Both p0 p1) fun r7 =>
  if r7 != 0 then
    some ((api_Ratio.mk 0 0), r7)
  else
    Option.bind (F_raddleref23_Make (w64 ((w64 (p0.Num * p1.Den)) - (w64 (p1.Num * p0.Den)))) (w64 (p0.Den * p1.Den))) fun r12 =>
    some (r12.1, r12.2)
def c_raddleref23_Sub_val (r : (api_Ratio × Int)) (x : Value) : Value := .tuple #[x, .int .i64 r.2]
def c_raddleref23_Sub_D (r : (api_Ratio × Int)) (x : Value) : List Fact := [fRep r_api_Ratio x r.1]
set_option maxHeartbeats 4000000 in
set_option maxRecDepth 100000 in
theorem c_raddleref23_Sub (E : Nat → Prop) (w0 : World) (p0 : api_Ratio) (v0 : Value) (p1 : api_Ratio) (v1 : Value) (r : (api_Ratio × Int)) (h : F_raddleref23_Sub p0 p1 = some r) (S : St0 E [] w0 w0 [] [fRep r_api_Ratio (v0) p0, fRep r_api_Ratio (v1) p1]) :
    Calls Try.prog 11 #[v0, v1] w0 (Ret (X := Value) E [] w0 (c_raddleref23_Sub_val r) (fun _ => []) (c_raddleref23_Sub_D r)) := by
  unfold F_raddleref23_Sub at h
  obtain rfl : v0 = .agg #[.int .i64 p0.Num, .int .i64 p0.Den] := S.know (i := 0) (e := fRep r_api_Ratio (v0) p0) (by kernel_rfl)
  obtain rfl : v1 = .agg #[.int .i64 p1.Num, .int .i64 p1.Den] := S.know (i := 1) (e := fRep r_api_Ratio (v1) p1) (by kernel_rfl)
  refine sEnter (args := [.agg #[.int .i64 p0.Num, .int .i64 p0.Den], .agg #[.int .i64 p1.Num, .int .i64 p1.Den]]) 33 Try.func11 rfl rfl (by simp) S (fun a S => ?_)
  refine sSeq (fun K1 hK1 => ?_)
  refine sRegion ?_
  refine sBox (v := .agg #[.int .i64 p0.Num, .int .i64 p0.Den]) S (wN rfl) rfl (by kernel_rfl) [.int .i64 p0.Num, .int .i64 p0.Den] rfl rfl (by decide) (fun a b2 w S => ?_)
  refine sBox (v := .agg #[.int .i64 p1.Num, .int .i64 p1.Den]) S (wN rfl) rfl (by kernel_rfl) [.int .i64 p1.Num, .int .i64 p1.Den] rfl rfl (by decide) (fun a b3 w S => ?_)
  refine sAlloc (.agg #[.int .i64 0, .int .i64 0]) S (wN rfl) rfl (by kernel_rfl) [.int .i64 0, .int .i64 0] rfl rfl (by decide) (fun a b4 w S => ?_)
  refine sMove (.int .i64 0) S (wN rfl) (.inr rfl) (by kernel_rfl) rfl (by decide) (fun a S => ?_)
  refine leafL (leafT (hK1 _ _ ?_))
  refine sSeq (fun K5 hK5 => ?_)
  refine sSeq (fun K6 hK6 => ?_)
  refine sRegion ?_
  refine sLoadN (p := b2) (off := 0) (T := 23) (vs := [.int .i64 p0.Num, .int .i64 p0.Den]) 2 [.int .i64 p0.Num, .int .i64 p0.Den] S (wN rfl) rfl (by kernel_rfl) (by kernel_rfl) (by kernel_rfl) (by kernel_rfl) rfl rfl (by decide) (fun a S => ?_)
  refine sLoadN (p := b3) (off := 0) (T := 23) (vs := [.int .i64 p1.Num, .int .i64 p1.Den]) 1 [.int .i64 p1.Num, .int .i64 p1.Den] S (wN rfl) rfl (by kernel_rfl) (by kernel_rfl) (by kernel_rfl) (by kernel_rfl) rfl rfl (by decide) (fun a S => ?_)
  obtain ⟨r7, hx8, h⟩ := bindSome h
  have S1 := S.mem
  refine sCallQ (X := Unit) (f := 35) (vs := [.agg #[.int .i64 p0.Num, .int .i64 p0.Den], .agg #[.int .i64 p1.Num, .int .i64 p1.Den]]) (val := fun _ => .int .i64 r7) S (wN rfl) rfl callee35 (by kernel_rfl) (S1.quiet [0, 1] (by kernel_rfl)) (fun E1 w1 S1 => c_raddleref23_Both E1 w1 p0 (.agg #[.int .i64 p0.Num, .int .i64 p0.Den]) p1 (.agg #[.int .i64 p1.Num, .int .i64 p1.Den]) r7 hx8 S1) rfl (by decide) (fun _ a w S => ?_)
  refine sBin (.bool (r7 != 0)) S (wN rfl) rfl (by kernel_rfl) (by kernel_rfl) (bNe _ _ _ _ .i64 r7 0) rfl (by decide) (fun a S => ?_)
  refine leafL (leafT (hK6 _ _ ?_))
  rcases iteSome h with ⟨hc9, h⟩ | ⟨hc9, h⟩
  · refine sCondT (b := r7 != 0) S (by kernel_rfl) hc9 ?_
    refine sSeq (fun K10 hK10 => ?_)
    refine sRegion ?_
    refine sBuild [] [.int .i64 0, .int .i64 0] S (wN rfl) rfl (by kernel_rfl) (by kernel_rfl) rfl (by decide) (fun a S => ?_)
    refine sLoadN (p := b2) (off := 0) (T := 23) (vs := [.int .i64 p0.Num, .int .i64 p0.Den]) 2 [.int .i64 p0.Num, .int .i64 p0.Den] S (wN rfl) rfl (by kernel_rfl) (by kernel_rfl) (by kernel_rfl) (by kernel_rfl) rfl rfl (by decide) (fun a S => ?_)
    refine sLoadN (p := b3) (off := 0) (T := 23) (vs := [.int .i64 p1.Num, .int .i64 p1.Den]) 1 [.int .i64 p1.Num, .int .i64 p1.Den] S (wN rfl) rfl (by kernel_rfl) (by kernel_rfl) (by kernel_rfl) (by kernel_rfl) rfl rfl (by decide) (fun a S => ?_)
    have S1 := S.mem
    refine sCallQ (X := Unit) (f := 35) (vs := [.agg #[.int .i64 p0.Num, .int .i64 p0.Den], .agg #[.int .i64 p1.Num, .int .i64 p1.Den]]) (val := fun _ => .int .i64 r7) S (wN rfl) rfl callee35 (by kernel_rfl) (S1.quiet [0, 1] (by kernel_rfl)) (fun E1 w1 S1 => c_raddleref23_Both E1 w1 p0 (.agg #[.int .i64 p0.Num, .int .i64 p0.Den]) p1 (.agg #[.int .i64 p1.Num, .int .i64 p1.Den]) r7 hx8 S1) rfl (by decide) (fun _ a w S => ?_)
    refine sStore (p := b4) (off := 0) (T := 23) (vs := [.int .i64 0, .int .i64 0]) (v := .agg #[.int .i64 0, .int .i64 0]) 0 [.int .i64 0, .int .i64 0] S (wN rfl) rfl (by kernel_rfl) (by kernel_rfl) rfl (by kernel_rfl) (by kernel_rfl) rfl (by simp) rfl (fun a w S => ?_)
    refine sMove (.int .i64 r7) S (wN rfl) (.inr rfl) (by kernel_rfl) rfl (by decide) (fun a S => ?_)
    refine leafL (leafT (hK10 _ _ ?_))
    obtain rfl := Option.some.inj h
    have S := S.learn (fRep r_api_Ratio (.agg #[.int .i64 0, .int .i64 0]) (api_Ratio.mk 0 0)) rfl
    exact wp_ret (rThen (sRet (.tuple #[.agg #[.int .i64 0, .int .i64 0], .int .i64 r7]) S (rsl2 rfl (rvN (c := 4) (t := 23) (T := 23) (p := b4) 0 [.int .i64 0, .int .i64 0] S (by kernel_rfl) (by kernel_rfl) (by kernel_rfl) (by kernel_rfl)) (rvT (t := 5) (v := .int .i64 r7) S (by kernel_rfl))) ⟨(.agg #[.int .i64 0, .int .i64 0]), rfl, S.mem.sel [] [0] (by decide) (by kernel_rfl) (by kernel_rfl)⟩))
  · refine sCondF (b := r7 != 0) S (by kernel_rfl) hc9 ?_
    refine wp_skip (leafT (hK5 _ _ ?_))
    refine sSeq (fun K11 hK11 => ?_)
    refine sRegion ?_
    refine sField (b := b2) (off := 0) 0 0 S (wN rfl) rfl (by kernel_rfl) (by kernel_rfl) rfl rfl (by decide) (fun a S => ?_)
    refine sLoad1 (p := b2) (off := 0) (T := 23) (vs := [.int .i64 p0.Num, .int .i64 p0.Den]) 2 (.int .i64 p0.Num) S (wN rfl) rfl (by kernel_rfl) (by kernel_rfl) (by kernel_rfl) rfl rfl (by decide) (fun a S => ?_)
    refine sField (b := b3) (off := 0) 1 1 S (wN rfl) rfl (by kernel_rfl) (by kernel_rfl) rfl rfl (by decide) (fun a S => ?_)
    refine sLoad1 (p := b3) (off := 1) (T := 23) (vs := [.int .i64 p1.Num, .int .i64 p1.Den]) 1 (.int .i64 p1.Den) S (wN rfl) rfl (by kernel_rfl) (by kernel_rfl) (by kernel_rfl) rfl rfl (by decide) (fun a S => ?_)
    refine sBin (.int .i64 (w64 (p0.Num * p1.Den))) S (wN rfl) rfl (by kernel_rfl) (by kernel_rfl) (bMul _ _ _ _ p0.Num p1.Den) rfl (by decide) (fun a S => ?_)
    refine sField (b := b3) (off := 0) 0 0 S (wN rfl) rfl (by kernel_rfl) (by kernel_rfl) rfl rfl (by decide) (fun a S => ?_)
    refine sLoad1 (p := b3) (off := 0) (T := 23) (vs := [.int .i64 p1.Num, .int .i64 p1.Den]) 1 (.int .i64 p1.Num) S (wN rfl) rfl (by kernel_rfl) (by kernel_rfl) (by kernel_rfl) rfl rfl (by decide) (fun a S => ?_)
    refine sField (b := b2) (off := 0) 1 1 S (wN rfl) rfl (by kernel_rfl) (by kernel_rfl) rfl rfl (by decide) (fun a S => ?_)
    refine sLoad1 (p := b2) (off := 1) (T := 23) (vs := [.int .i64 p0.Num, .int .i64 p0.Den]) 2 (.int .i64 p0.Den) S (wN rfl) rfl (by kernel_rfl) (by kernel_rfl) (by kernel_rfl) rfl rfl (by decide) (fun a S => ?_)
    refine sBin (.int .i64 (w64 (p1.Num * p0.Den))) S (wN rfl) rfl (by kernel_rfl) (by kernel_rfl) (bMul _ _ _ _ p1.Num p0.Den) rfl (by decide) (fun a S => ?_)
    refine sBin (.int .i64 (w64 ((w64 (p0.Num * p1.Den)) - (w64 (p1.Num * p0.Den))))) S (wN rfl) rfl (by kernel_rfl) (by kernel_rfl) (bSub _ _ _ _ (w64 (p0.Num * p1.Den)) (w64 (p1.Num * p0.Den))) rfl (by decide) (fun a S => ?_)
    refine sField (b := b2) (off := 0) 1 1 S (wN rfl) rfl (by kernel_rfl) (by kernel_rfl) rfl rfl (by decide) (fun a S => ?_)
    refine sLoad1 (p := b2) (off := 1) (T := 23) (vs := [.int .i64 p0.Num, .int .i64 p0.Den]) 2 (.int .i64 p0.Den) S (wN rfl) rfl (by kernel_rfl) (by kernel_rfl) (by kernel_rfl) rfl rfl (by decide) (fun a S => ?_)
    refine sField (b := b3) (off := 0) 1 1 S (wN rfl) rfl (by kernel_rfl) (by kernel_rfl) rfl rfl (by decide) (fun a S => ?_)
    refine sLoad1 (p := b3) (off := 1) (T := 23) (vs := [.int .i64 p1.Num, .int .i64 p1.Den]) 1 (.int .i64 p1.Den) S (wN rfl) rfl (by kernel_rfl) (by kernel_rfl) (by kernel_rfl) rfl rfl (by decide) (fun a S => ?_)
    refine sBin (.int .i64 (w64 (p0.Den * p1.Den))) S (wN rfl) rfl (by kernel_rfl) (by kernel_rfl) (bMul _ _ _ _ p0.Den p1.Den) rfl (by decide) (fun a S => ?_)
    obtain ⟨r12, hx13, h⟩ := bindSome h
    refine sCall (X := Value) (f := 36) (vs := [.int .i64 (w64 ((w64 (p0.Num * p1.Den)) - (w64 (p1.Num * p0.Den)))), .int .i64 (w64 (p0.Den * p1.Den))]) (val := c_raddleref23_Make_val r12) (B' := fun _ => []) (D' := c_raddleref23_Make_D r12) [] [eBox b4 23 [.int .i64 0, .int .i64 0], eBox b3 23 [.int .i64 p1.Num, .int .i64 p1.Den], eBox b2 23 [.int .i64 p0.Num, .int .i64 p0.Den]] [] [0, 1, 2] [] S (wN rfl) rfl callee36 (by kernel_rfl) (by decide) (by kernel_rfl) (by kernel_rfl) (fun E1 w1 S1 => c_raddleref23_Make E1 w1 (w64 ((w64 (p0.Num * p1.Den)) - (w64 (p1.Num * p0.Den)))) (w64 (p0.Den * p1.Den)) r12 hx13 S1) rfl (by decide) (fun u14 a w S => ?_)
    obtain rfl : u14 = .agg #[.int .i64 r12.1.Num, .int .i64 r12.1.Den] := S.mem.know (i := 0) (e := fRep r_api_Ratio (u14) r12.1) (by kernel_rfl)
    refine sExtract (vs := [.agg #[.int .i64 r12.1.Num, .int .i64 r12.1.Den], .int .i64 r12.2]) (.agg #[.int .i64 r12.1.Num, .int .i64 r12.1.Den]) S (wN rfl) rfl (by kernel_rfl) rfl rfl (by decide) (fun a S => ?_)
    refine sExtract (vs := [.agg #[.int .i64 r12.1.Num, .int .i64 r12.1.Den], .int .i64 r12.2]) (.int .i64 r12.2) S (wN rfl) rfl (by kernel_rfl) rfl rfl (by decide) (fun a S => ?_)
    refine sStore (p := b4) (off := 0) (T := 23) (vs := [.int .i64 0, .int .i64 0]) (v := .agg #[.int .i64 r12.1.Num, .int .i64 r12.1.Den]) 0 [.int .i64 r12.1.Num, .int .i64 r12.1.Den] S (wN rfl) rfl (by kernel_rfl) (by kernel_rfl) rfl (by kernel_rfl) (by kernel_rfl) rfl (by simp) rfl (fun a w S => ?_)
    refine sMove (.int .i64 r12.2) S (wN rfl) (.inr rfl) (by kernel_rfl) rfl (by decide) (fun a S => ?_)
    refine leafL (leafT (hK11 _ _ ?_))
    obtain rfl := Option.some.inj h
    exact wp_ret (sRet (.tuple #[.agg #[.int .i64 r12.1.Num, .int .i64 r12.1.Den], .int .i64 r12.2]) S (rsl2 rfl (rvN (c := 4) (t := 23) (T := 23) (p := b4) 0 [.int .i64 r12.1.Num, .int .i64 r12.1.Den] S (by kernel_rfl) (by kernel_rfl) (by kernel_rfl) (by kernel_rfl)) (rvT (t := 5) (v := .int .i64 r12.2) S (by kernel_rfl))) ⟨(.agg #[.int .i64 r12.1.Num, .int .i64 r12.1.Den]), rfl, S.mem.sel [] [0] (by decide) (by kernel_rfl) (by kernel_rfl)⟩)

end Go.Proofs.Ytdfjcpnflmgdoaa
namespace Go.Proofs.Ytdfjcpnflmgdoaa
open Go.RowKit
set_option linter.unusedVariables false

def anc_yarn_Mul_1_0 : List (List Nat) := [[], [0], [], [2], [0, 1, 2, 3], [], [5], [], [7], [5, 6, 7, 8], [0, 1, 2, 3, 4], [0, 1, 2, 3, 4, 5, 6, 7, 8, 9, 10]]
noncomputable def F_yarn_Mul_1 (p0 : api_Ratio) (p1 : api_Ratio) : Option (Int × Int) :=
  some (w64 (p0.Num * p1.Num), w64 (p0.Den * p1.Den))
set_option maxHeartbeats 4000000 in
set_option maxRecDepth 100000 in
theorem c_yarn_Mul_1 (E : Nat → Prop) (w0 : World) (p0 : api_Ratio) (v0 : Value) (p1 : api_Ratio) (v1 : Value) (r : (Int × Int)) (h : F_yarn_Mul_1 p0 p1 = some r) (S : St0 E [] w0 w0 [] [fRep r_api_Ratio (v0) p0, fRep r_api_Ratio (v1) p1]) :
    Calls Try.prog 41 #[v0, v1] w0 (Ret (X := Unit) E [] w0 (fun _ => .tuple #[.int .i64 r.1, .int .i64 r.2]) (fun _ => []) (fun _ => [])) := by
  unfold F_yarn_Mul_1 at h
  obtain rfl : v0 = .agg #[.int .i64 p0.Num, .int .i64 p0.Den] := S.know (i := 0) (e := fRep r_api_Ratio (v0) p0) (by kernel_rfl)
  obtain rfl : v1 = .agg #[.int .i64 p1.Num, .int .i64 p1.Den] := S.know (i := 1) (e := fRep r_api_Ratio (v1) p1) (by kernel_rfl)
  refine sEnter (args := [.agg #[.int .i64 p0.Num, .int .i64 p0.Den], .agg #[.int .i64 p1.Num, .int .i64 p1.Den]]) 16 Try.func41 rfl rfl (by simp) S (fun a S => ?_)
  refine sSeq (fun K1 hK1 => ?_)
  refine sRegion ?_
  refine sBox (v := .agg #[.int .i64 p0.Num, .int .i64 p0.Den]) S (wN rfl) rfl (by kernel_rfl) [.int .i64 p0.Num, .int .i64 p0.Den] rfl rfl (by decide) (fun a b2 w S => ?_)
  refine sBox (v := .agg #[.int .i64 p1.Num, .int .i64 p1.Den]) S (wN rfl) rfl (by kernel_rfl) [.int .i64 p1.Num, .int .i64 p1.Den] rfl rfl (by decide) (fun a b3 w S => ?_)
  refine sMove (.int .i64 0) S (wN rfl) (.inr rfl) (by kernel_rfl) rfl (by decide) (fun a S => ?_)
  refine sMove (.int .i64 0) S (wN rfl) (.inr rfl) (by kernel_rfl) rfl (by decide) (fun a S => ?_)
  refine leafL (leafT (hK1 _ _ ?_))
  refine sSeq (fun K4 hK4 => ?_)
  refine sDraw (nf := []) (W := [(0, 6, .pointer (some ⟨b2, 0, none⟩)), (1, 7, .int .i64 p0.Num), (2, 8, .pointer (some ⟨b3, 0, none⟩)), (3, 9, .int .i64 p1.Num), (4, 10, .int .i64 (w64 (p0.Num * p1.Num))), (5, 11, .pointer (some ⟨b2, 1, none⟩)), (6, 12, .int .i64 p0.Den), (7, 13, .pointer (some ⟨b3, 1, none⟩)), (8, 14, .int .i64 p1.Den), (9, 15, .int .i64 (w64 (p0.Den * p1.Den))), (10, 4, .int .i64 (w64 (p0.Num * p1.Num))), (11, 5, .int .i64 (w64 (p0.Den * p1.Den)))]) (by kernel_rfl) S ?_
  refine node_by (A := anc_yarn_Mul_1_0) (nf := []) (Y := []) (W := [(0, 6, .pointer (some ⟨b2, 0, none⟩)), (1, 7, .int .i64 p0.Num), (2, 8, .pointer (some ⟨b3, 0, none⟩)), (3, 9, .int .i64 p1.Num), (4, 10, .int .i64 (w64 (p0.Num * p1.Num))), (5, 11, .pointer (some ⟨b2, 1, none⟩)), (6, 12, .int .i64 p0.Den), (7, 13, .pointer (some ⟨b3, 1, none⟩)), (8, 14, .int .i64 p1.Den), (9, 15, .int .i64 (w64 (p0.Den * p1.Den))), (10, 4, .int .i64 (w64 (p0.Num * p1.Num))), (11, 5, .int .i64 (w64 (p0.Den * p1.Den)))]) 12 (by kernel_rfl) (by kernel_rfl) (by kernel_rfl) (by kernel_rfl) (by kernel_rfl) [0, 1, 2, 3, 4, 5, 6, 7, 8, 9, 10, 11] (by kernel_rfl) (by decide) (by decide) (aF 0 11 (by decide) ?_ (aF 1 10 (by decide) ?_ (aF 2 9 (by decide) ?_ (aF 3 8 (by decide) ?_ (aF 4 7 (by decide) ?_ (aF 5 6 (by decide) ?_ (aF 6 5 (by decide) ?_ (aF 7 4 (by decide) ?_ (aF 8 3 (by decide) ?_ (aF 9 2 (by decide) ?_ (aF 10 1 (by decide) ?_ (aF 11 0 (by decide) ?_ (trivial))))))))))))) [(4, .int .i64 (w64 (p0.Num * p1.Num))), (5, .int .i64 (w64 (p0.Den * p1.Den)))] (fin_of [some 10, some 11] rfl (by kernel_rfl) (by kernel_rfl)) (fun _ a w S => ?_)
  · refine fI 6 (.pointer (some ⟨b2, 0, none⟩)) [(2, .pointer (some ⟨b2, 0, none⟩))] 0 [none] rfl rfl (by kernel_rfl) rfl (by kernel_rfl) (by kernel_rfl) fun G a w S => ?_
    refine sField (b := b2) (off := 0) 0 0 S (wN rfl) rfl (by kernel_rfl) (by kernel_rfl) rfl rfl (by decide) (fun a S => ?_)
    exact leafL ⟨rfl, S⟩
  · refine fI 7 (.int .i64 p0.Num) [(6, .pointer (some ⟨b2, 0, none⟩))] 1 [some 0] rfl rfl (by kernel_rfl) rfl (by kernel_rfl) (by kernel_rfl) fun G a w S => ?_
    refine sLoad1 (p := b2) (off := 0) (T := 23) (vs := [.int .i64 p0.Num, .int .i64 p0.Den]) 1 (.int .i64 p0.Num) S (wN rfl) rfl (by kernel_rfl) (by kernel_rfl) (by kernel_rfl) rfl rfl (by decide) (fun a S => ?_)
    exact leafL ⟨rfl, S⟩
  · refine fI 8 (.pointer (some ⟨b3, 0, none⟩)) [(3, .pointer (some ⟨b3, 0, none⟩))] 2 [none] rfl rfl (by kernel_rfl) rfl (by kernel_rfl) (by kernel_rfl) fun G a w S => ?_
    refine sField (b := b3) (off := 0) 0 0 S (wN rfl) rfl (by kernel_rfl) (by kernel_rfl) rfl rfl (by decide) (fun a S => ?_)
    exact leafL ⟨rfl, S⟩
  · refine fI 9 (.int .i64 p1.Num) [(8, .pointer (some ⟨b3, 0, none⟩))] 3 [some 2] rfl rfl (by kernel_rfl) rfl (by kernel_rfl) (by kernel_rfl) fun G a w S => ?_
    refine sLoad1 (p := b3) (off := 0) (T := 23) (vs := [.int .i64 p1.Num, .int .i64 p1.Den]) 0 (.int .i64 p1.Num) S (wN rfl) rfl (by kernel_rfl) (by kernel_rfl) (by kernel_rfl) rfl rfl (by decide) (fun a S => ?_)
    exact leafL ⟨rfl, S⟩
  · refine fI 10 (.int .i64 (w64 (p0.Num * p1.Num))) [(7, .int .i64 p0.Num), (9, .int .i64 p1.Num)] 4 [some 1, some 3] rfl rfl (by kernel_rfl) rfl (by kernel_rfl) (by kernel_rfl) fun G a w S => ?_
    refine sBin (.int .i64 (w64 (p0.Num * p1.Num))) S (wN rfl) rfl (by kernel_rfl) (by kernel_rfl) (bMul _ _ _ _ p0.Num p1.Num) rfl (by decide) (fun a S => ?_)
    exact leafL ⟨rfl, S⟩
  · refine fI 11 (.pointer (some ⟨b2, 1, none⟩)) [(2, .pointer (some ⟨b2, 0, none⟩))] 5 [none] rfl rfl (by kernel_rfl) rfl (by kernel_rfl) (by kernel_rfl) fun G a w S => ?_
    refine sField (b := b2) (off := 0) 1 1 S (wN rfl) rfl (by kernel_rfl) (by kernel_rfl) rfl rfl (by decide) (fun a S => ?_)
    exact leafL ⟨rfl, S⟩
  · refine fI 12 (.int .i64 p0.Den) [(11, .pointer (some ⟨b2, 1, none⟩))] 6 [some 5] rfl rfl (by kernel_rfl) rfl (by kernel_rfl) (by kernel_rfl) fun G a w S => ?_
    refine sLoad1 (p := b2) (off := 1) (T := 23) (vs := [.int .i64 p0.Num, .int .i64 p0.Den]) 1 (.int .i64 p0.Den) S (wN rfl) rfl (by kernel_rfl) (by kernel_rfl) (by kernel_rfl) rfl rfl (by decide) (fun a S => ?_)
    exact leafL ⟨rfl, S⟩
  · refine fI 13 (.pointer (some ⟨b3, 1, none⟩)) [(3, .pointer (some ⟨b3, 0, none⟩))] 7 [none] rfl rfl (by kernel_rfl) rfl (by kernel_rfl) (by kernel_rfl) fun G a w S => ?_
    refine sField (b := b3) (off := 0) 1 1 S (wN rfl) rfl (by kernel_rfl) (by kernel_rfl) rfl rfl (by decide) (fun a S => ?_)
    exact leafL ⟨rfl, S⟩
  · refine fI 14 (.int .i64 p1.Den) [(13, .pointer (some ⟨b3, 1, none⟩))] 8 [some 7] rfl rfl (by kernel_rfl) rfl (by kernel_rfl) (by kernel_rfl) fun G a w S => ?_
    refine sLoad1 (p := b3) (off := 1) (T := 23) (vs := [.int .i64 p1.Num, .int .i64 p1.Den]) 0 (.int .i64 p1.Den) S (wN rfl) rfl (by kernel_rfl) (by kernel_rfl) (by kernel_rfl) rfl rfl (by decide) (fun a S => ?_)
    exact leafL ⟨rfl, S⟩
  · refine fI 15 (.int .i64 (w64 (p0.Den * p1.Den))) [(12, .int .i64 p0.Den), (14, .int .i64 p1.Den)] 9 [some 6, some 8] rfl rfl (by kernel_rfl) rfl (by kernel_rfl) (by kernel_rfl) fun G a w S => ?_
    refine sBin (.int .i64 (w64 (p0.Den * p1.Den))) S (wN rfl) rfl (by kernel_rfl) (by kernel_rfl) (bMul _ _ _ _ p0.Den p1.Den) rfl (by decide) (fun a S => ?_)
    exact leafL ⟨rfl, S⟩
  · refine fI 4 (.int .i64 (w64 (p0.Num * p1.Num))) [(10, .int .i64 (w64 (p0.Num * p1.Num)))] 10 [some 4] rfl rfl (by kernel_rfl) rfl (by kernel_rfl) (by kernel_rfl) fun G a w S => ?_
    refine sMove (.int .i64 (w64 (p0.Num * p1.Num))) S (wN rfl) (.inr rfl) (by kernel_rfl) rfl (by decide) (fun a S => ?_)
    exact leafL ⟨rfl, S⟩
  · refine fI 5 (.int .i64 (w64 (p0.Den * p1.Den))) [(15, .int .i64 (w64 (p0.Den * p1.Den)))] 11 [some 9] rfl rfl (by kernel_rfl) rfl (by kernel_rfl) (by kernel_rfl) fun G a w S => ?_
    refine sMove (.int .i64 (w64 (p0.Den * p1.Den))) S (wN rfl) (.inr rfl) (by kernel_rfl) rfl (by decide) (fun a S => ?_)
    exact leafL ⟨rfl, S⟩
  · refine leafT (hK4 _ _ ?_)
    obtain rfl := Option.some.inj h
    exact wp_ret (sRet (.tuple #[.int .i64 (w64 (p0.Num * p1.Num)), .int .i64 (w64 (p0.Den * p1.Den))]) S (rsl2 rfl (rvT (t := 4) (v := .int .i64 (w64 (p0.Num * p1.Num))) S (by kernel_rfl)) (rvT (t := 5) (v := .int .i64 (w64 (p0.Den * p1.Den))) S (by kernel_rfl))) ⟨(), rfl, S.mem.sel [] [] (by decide) (by kernel_rfl) (by kernel_rfl)⟩)

end Go.Proofs.Ytdfjcpnflmgdoaa
namespace Go.Proofs.Ytdfjcpnflmgdoaa
open Go.RowKit
set_option linter.unusedVariables false

noncomputable def F_yarn_run_s2 (p0 : api_Ratio) (p1 : api_Ratio) : Option (api_Ratio × Int) :=
  Option.bind (F_yarn_with p0 p1) fun r7 =>
  Option.bind (α := (Int × Int × Int × Int × Int × Int × Int)) (
    if r7.e == 0 then
      Option.bind (F_yarn_Mul_1 r7.a r7.b) fun r23 =>
      Option.bind (F_yarn_calc_set_s1 r7 r23.1 r23.2) fun r25 =>
      some (r25.a.Num, r25.a.Den, r25.b.Num, r25.b.Den, r25.out.Num, r25.out.Den, r25.e)
    else
      some (r7.a.Num, r7.a.Den, r7.b.Num, r7.b.Den, r7.out.Num, r7.out.Den, r7.e)) fun (o12, o13, o14, o15, o16, o17, o18) =>
  Option.bind (F_yarn_run_1_s0 (yarn_calc.mk (api_Ratio.mk o12 o13) (api_Ratio.mk o14 o15) (api_Ratio.mk o16 o17) o18) (api_Ratio.mk 0 0) 0) fun r28 =>
  some (r28.2.1, r28.2.2)
def c_yarn_run_s2_val (r : (api_Ratio × Int)) (x : Value) : Value := .tuple #[x, .int .i64 r.2]
def c_yarn_run_s2_D (r : (api_Ratio × Int)) (x : Value) : List Fact := [fRep r_api_Ratio x r.1]
set_option maxHeartbeats 4000000 in
set_option maxRecDepth 100000 in
theorem c_yarn_run_s2 (E : Nat → Prop) (w0 : World) (p0 : api_Ratio) (v0 : Value) (p1 : api_Ratio) (v1 : Value) (r : (api_Ratio × Int)) (h : F_yarn_run_s2 p0 p1 = some r) (S : St0 E [] w0 w0 [] [fRep r_api_Ratio (v0) p0, fRep r_api_Ratio (v1) p1]) :
    Calls Try.prog 33 #[v0, v1, .func (.func 41) #[] #[]] w0 (Ret (X := Value) E [] w0 (c_yarn_run_s2_val r) (fun _ => []) (c_yarn_run_s2_D r)) := by
  unfold F_yarn_run_s2 at h
  obtain rfl : v0 = .agg #[.int .i64 p0.Num, .int .i64 p0.Den] := S.know (i := 0) (e := fRep r_api_Ratio (v0) p0) (by kernel_rfl)
  obtain rfl : v1 = .agg #[.int .i64 p1.Num, .int .i64 p1.Den] := S.know (i := 1) (e := fRep r_api_Ratio (v1) p1) (by kernel_rfl)
  refine sEnterD (args := [.agg #[.int .i64 p0.Num, .int .i64 p0.Den], .agg #[.int .i64 p1.Num, .int .i64 p1.Den], .func (.func 41) #[] #[]]) 27 Try.func33 rfl rfl (by simp) S (fun a S => ?_)
  refine sSeq (fun K1 hK1 => ?_)
  refine sRegion ?_
  refine sBox (v := .agg #[.int .i64 p0.Num, .int .i64 p0.Den]) S (wN rfl) rfl (by kernel_rfl) [.int .i64 p0.Num, .int .i64 p0.Den] rfl rfl (by decide) (fun a b2 w S => ?_)
  refine sBox (v := .agg #[.int .i64 p1.Num, .int .i64 p1.Den]) S (wN rfl) rfl (by kernel_rfl) [.int .i64 p1.Num, .int .i64 p1.Den] rfl rfl (by decide) (fun a b3 w S => ?_)
  refine sAlloc (.agg #[.int .i64 0, .int .i64 0]) S (wN rfl) rfl (by kernel_rfl) [.int .i64 0, .int .i64 0] rfl rfl (by decide) (fun a b4 w S => ?_)
  refine sAlloc (.int .i64 0) S (wN rfl) rfl (by kernel_rfl) [.int .i64 0] rfl rfl (by decide) (fun a b5 w S => ?_)
  refine leafL (leafT (hK1 _ _ ?_))
  refine sSeq (fun K6 hK6 => ?_)
  refine sRegion ?_
  refine sLoadN (p := b2) (off := 0) (T := 23) (vs := [.int .i64 p0.Num, .int .i64 p0.Den]) 3 [.int .i64 p0.Num, .int .i64 p0.Den] S (wN rfl) rfl (by kernel_rfl) (by kernel_rfl) (by kernel_rfl) (by kernel_rfl) rfl rfl (by decide) (fun a S => ?_)
  refine sLoadN (p := b3) (off := 0) (T := 23) (vs := [.int .i64 p1.Num, .int .i64 p1.Den]) 2 [.int .i64 p1.Num, .int .i64 p1.Den] S (wN rfl) rfl (by kernel_rfl) (by kernel_rfl) (by kernel_rfl) (by kernel_rfl) rfl rfl (by decide) (fun a S => ?_)
  obtain ⟨r7, hx8, h⟩ := bindSome h
  refine sCall (X := Value) (f := 43) (vs := [.agg #[.int .i64 p0.Num, .int .i64 p0.Den], .agg #[.int .i64 p1.Num, .int .i64 p1.Den]]) (val := c_yarn_with_val r7) (B' := fun _ => []) (D' := c_yarn_with_D r7) [] [eBox b5 24 [.int .i64 0], eBox b4 23 [.int .i64 0, .int .i64 0], eBox b3 23 [.int .i64 p1.Num, .int .i64 p1.Den], eBox b2 23 [.int .i64 p0.Num, .int .i64 p0.Den]] [fRep r_api_Ratio (.agg #[.int .i64 p0.Num, .int .i64 p0.Den]) p0, fRep r_api_Ratio (.agg #[.int .i64 p1.Num, .int .i64 p1.Den]) p1] [0, 1, 2, 3] [0, 1] S (wN rfl) rfl callee43 (by kernel_rfl) (by decide) (by kernel_rfl) (by kernel_rfl) (fun E1 w1 S1 => c_yarn_with E1 w1 p0 (.agg #[.int .i64 p0.Num, .int .i64 p0.Den]) p1 (.agg #[.int .i64 p1.Num, .int .i64 p1.Den]) r7 hx8 S1) rfl (by decide) (fun u9 a w S => ?_)
  obtain rfl : u9 = .agg #[.int .i64 r7.a.Num, .int .i64 r7.a.Den, .int .i64 r7.b.Num, .int .i64 r7.b.Den, .int .i64 r7.out.Num, .int .i64 r7.out.Den, .int .i64 r7.e] := S.mem.know (i := 0) (e := fRep r_yarn_calc (u9) r7) (by kernel_rfl)
  refine sAlloc (.agg #[.int .i64 0, .int .i64 0, .int .i64 0, .int .i64 0, .int .i64 0, .int .i64 0, .int .i64 0]) S (wN rfl) rfl (by kernel_rfl) [.int .i64 0, .int .i64 0, .int .i64 0, .int .i64 0, .int .i64 0, .int .i64 0, .int .i64 0] rfl rfl (by decide) (fun a b10 w S => ?_)
  refine sStore (p := b10) (off := 0) (T := 65) (vs := [.int .i64 0, .int .i64 0, .int .i64 0, .int .i64 0, .int .i64 0, .int .i64 0, .int .i64 0]) (v := .agg #[.int .i64 r7.a.Num, .int .i64 r7.a.Den, .int .i64 r7.b.Num, .int .i64 r7.b.Den, .int .i64 r7.out.Num, .int .i64 r7.out.Den, .int .i64 r7.e]) 0 [.int .i64 r7.a.Num, .int .i64 r7.a.Den, .int .i64 r7.b.Num, .int .i64 r7.b.Den, .int .i64 r7.out.Num, .int .i64 r7.out.Den, .int .i64 r7.e] S (wN rfl) rfl (by kernel_rfl) (by kernel_rfl) rfl (by kernel_rfl) (by kernel_rfl) rfl (by simp) rfl (fun a w S => ?_)
  refine leafL (leafT (hK6 _ _ ?_))
  refine sSeq (fun K11 hK11 => ?_)
  refine sRegion ?_
  refine sFunc (g := 53) (vs := [.pointer (some ⟨b10, 0, none⟩), .pointer (some ⟨b4, 0, none⟩), .pointer (some ⟨b5, 0, none⟩)]) S (wN rfl) rfl (by kernel_rfl) rfl (by decide) (fun a S => ?_)
  refine sDefer (g := 53) (caps := [.pointer (some ⟨b10, 0, none⟩), .pointer (some ⟨b4, 0, none⟩), .pointer (some ⟨b5, 0, none⟩)]) S (wN rfl) rfl (by kernel_rfl) rfl (fun a S => ?_)
  refine leafL (leafT (hK11 _ _ ?_))
  obtain ⟨t19, h, g20⟩ := bindSome h
  refine sCut (fun a w => ∃ o12, ∃ o13, ∃ o14, ∃ o15, ∃ o16, ∃ o17, ∃ o18, (o12, o13, o14, o15, o16, o17, o18) = t19 ∧ St [{ target := .fn (.func 53) #[.pointer (some ⟨b10, 0, none⟩), .pointer (some ⟨b4, 0, none⟩), .pointer (some ⟨b5, 0, none⟩)], args := #[] }] E [] w0 27 a w [(6, .pointer (some ⟨b4, 0, none⟩)), (7, .pointer (some ⟨b5, 0, none⟩))] [eBox b4 23 [.int .i64 0, .int .i64 0], eBox b5 24 [.int .i64 0], eBox b10 65 [.int .i64 o12, .int .i64 o13, .int .i64 o14, .int .i64 o15, .int .i64 o16, .int .i64 o17, .int .i64 o18]] []) ?_ (fun a w hI => ?_)
  · refine sSeq (fun K21 hK21 => ?_)
    refine sRegion ?_
    refine sField (b := b10) (off := 0) 6 6 S (wN rfl) rfl (by kernel_rfl) (by kernel_rfl) rfl rfl (by decide) (fun a S => ?_)
    refine sLoad1 (p := b10) (off := 6) (T := 65) (vs := [.int .i64 r7.a.Num, .int .i64 r7.a.Den, .int .i64 r7.b.Num, .int .i64 r7.b.Den, .int .i64 r7.out.Num, .int .i64 r7.out.Den, .int .i64 r7.e]) 0 (.int .i64 r7.e) S (wN rfl) rfl (by kernel_rfl) (by kernel_rfl) (by kernel_rfl) rfl rfl (by decide) (fun a S => ?_)
    refine sBin (.bool (r7.e == 0)) S (wN rfl) rfl (by kernel_rfl) (by kernel_rfl) (bEq _ _ _ _ .i64 r7.e 0) rfl (by decide) (fun a S => ?_)
    refine leafL (leafT (hK21 _ _ ?_))
    rcases iteSome h with ⟨hc22, h⟩ | ⟨hc22, h⟩
    · refine sCondT (b := r7.e == 0) S (by kernel_rfl) hc22 ?_
      refine sRegion ?_
      refine sMove (.func (.func 41) #[] #[]) S (wN rfl) (.inl rfl) (by kernel_rfl) rfl (by decide) (fun a S => ?_)
      refine sField (b := b10) (off := 0) 0 0 S (wN rfl) rfl (by kernel_rfl) (by kernel_rfl) rfl rfl (by decide) (fun a S => ?_)
      refine sLoadN (p := b10) (off := 0) (T := 65) (vs := [.int .i64 r7.a.Num, .int .i64 r7.a.Den, .int .i64 r7.b.Num, .int .i64 r7.b.Den, .int .i64 r7.out.Num, .int .i64 r7.out.Den, .int .i64 r7.e]) 0 [.int .i64 r7.a.Num, .int .i64 r7.a.Den] S (wN rfl) rfl (by kernel_rfl) (by kernel_rfl) (by kernel_rfl) (by kernel_rfl) rfl rfl (by decide) (fun a S => ?_)
      refine sField (b := b10) (off := 0) 2 2 S (wN rfl) rfl (by kernel_rfl) (by kernel_rfl) rfl rfl (by decide) (fun a S => ?_)
      refine sLoadN (p := b10) (off := 2) (T := 65) (vs := [.int .i64 r7.a.Num, .int .i64 r7.a.Den, .int .i64 r7.b.Num, .int .i64 r7.b.Den, .int .i64 r7.out.Num, .int .i64 r7.out.Den, .int .i64 r7.e]) 0 [.int .i64 r7.b.Num, .int .i64 r7.b.Den] S (wN rfl) rfl (by kernel_rfl) (by kernel_rfl) (by kernel_rfl) (by kernel_rfl) rfl rfl (by decide) (fun a S => ?_)
      obtain ⟨r23, hx24, h⟩ := bindSome h
      have S1 := S.mem
      have S1 := S1.learn (fRep r_api_Ratio (.agg #[.int .i64 r7.a.Num, .int .i64 r7.a.Den]) r7.a) rfl
      have S1 := S1.learn (fRep r_api_Ratio (.agg #[.int .i64 r7.b.Num, .int .i64 r7.b.Den]) r7.b) rfl
      refine sCallVQ (X := Unit) (g := 41) (vs := [.agg #[.int .i64 r7.a.Num, .int .i64 r7.a.Den], .agg #[.int .i64 r7.b.Num, .int .i64 r7.b.Den]]) (caps := []) (val := fun _ => .tuple #[.int .i64 r23.1, .int .i64 r23.2]) S (wN rfl) rfl (by kernel_rfl) callee41 (by kernel_rfl) (S1.quiet [1, 0] (by kernel_rfl)) (fun E1 w1 S1 => c_yarn_Mul_1 E1 w1 r7.a (.agg #[.int .i64 r7.a.Num, .int .i64 r7.a.Den]) r7.b (.agg #[.int .i64 r7.b.Num, .int .i64 r7.b.Den]) r23 hx24 S1) rfl (by decide) (fun _ a w S => ?_)
      refine sExtract (vs := [.int .i64 r23.1, .int .i64 r23.2]) (.int .i64 r23.1) S (wN rfl) rfl (by kernel_rfl) rfl rfl (by decide) (fun a S => ?_)
      refine sExtract (vs := [.int .i64 r23.1, .int .i64 r23.2]) (.int .i64 r23.2) S (wN rfl) rfl (by kernel_rfl) rfl rfl (by decide) (fun a S => ?_)
      obtain ⟨r25, hx26, h⟩ := bindSome h
      refine sCall (X := Unit) (f := 54) (vs := [.pointer (some ⟨b10, 0, none⟩), .int .i64 r23.1, .int .i64 r23.2]) (val := fun _ => .tuple #[]) (B' := fun _ => [eBox b10 65 [.int .i64 r25.a.Num, .int .i64 r25.a.Den, .int .i64 r25.b.Num, .int .i64 r25.b.Den, .int .i64 r25.out.Num, .int .i64 r25.out.Den, .int .i64 r25.e]]) (D' := fun _ => []) [eBox b10 65 [.int .i64 r7.a.Num, .int .i64 r7.a.Den, .int .i64 r7.b.Num, .int .i64 r7.b.Den, .int .i64 r7.out.Num, .int .i64 r7.out.Den, .int .i64 r7.e]] [eBox b5 24 [.int .i64 0], eBox b4 23 [.int .i64 0, .int .i64 0], eBox b3 23 [.int .i64 p1.Num, .int .i64 p1.Den], eBox b2 23 [.int .i64 p0.Num, .int .i64 p0.Den]] [] [0, 1, 2, 3, 4] [] S (wN rfl) rfl callee54 (by kernel_rfl) (by decide) (by kernel_rfl) (by kernel_rfl) (fun E1 w1 S1 => c_yarn_calc_set_s1 E1 w1 r7 b10 r23.1 r23.2 r25 hx26 S1) rfl (by decide) (fun _ a w S => ?_)
      exact leafL (leafT (⟨r25.a.Num, r25.a.Den, r25.b.Num, r25.b.Den, r25.out.Num, r25.out.Den, r25.e, Option.some.inj h, S.fix [2, 1, 0] [] (by decide) (by kernel_rfl) (by kernel_rfl) (by kernel_rfl)⟩))
    · refine sCondF (b := r7.e == 0) S (by kernel_rfl) hc22 ?_
      exact wp_skip (leafT (⟨r7.a.Num, r7.a.Den, r7.b.Num, r7.b.Den, r7.out.Num, r7.out.Den, r7.e, Option.some.inj h, S.fix [2, 1, 0] [] (by decide) (by kernel_rfl) (by kernel_rfl) (by kernel_rfl)⟩))
  · obtain ⟨o12, o13, o14, o15, o16, o17, o18, rfl, S⟩ := hI
    have h := g20
    clear g20
    try dsimp only at h
    refine sSeq (fun K27 hK27 => ?_)
    refine sDraw (nf := [2, 3]) (W := [(0, 25, .agg #[.int .i64 0, .int .i64 0]), (1, 26, .int .i64 0)]) (by kernel_rfl) S ?_
    refine node_by (A := [[], [], [0], [0, 1, 2]]) (nf := [2, 3]) (Y := []) (W := [(0, 25, .agg #[.int .i64 0, .int .i64 0]), (1, 26, .int .i64 0)]) 4 (by kernel_rfl) (by kernel_rfl) (by kernel_rfl) (by kernel_rfl) (by kernel_rfl) [0, 1] (by kernel_rfl) (by decide) (by decide) (aF 0 3 (by decide) ?_ (aF 1 2 (by decide) ?_ (aN 2 1 (by decide) ?_ (aB 3 0 2 (by decide) (trivial))))) [] (fun q hq => by cases hq) (fun hY => absurd (hY 2 (by decide)) (by decide))
    · refine fI 25 (.agg #[.int .i64 0, .int .i64 0]) [(6, .pointer (some ⟨b4, 0, none⟩))] 0 [none] rfl rfl (by kernel_rfl) rfl (by kernel_rfl) (by kernel_rfl) fun G a w S => ?_
      refine sLoadN (p := b4) (off := 0) (T := 23) (vs := [.int .i64 0, .int .i64 0]) 0 [.int .i64 0, .int .i64 0] S (wN rfl) rfl (by kernel_rfl) (by kernel_rfl) (by kernel_rfl) (by kernel_rfl) rfl rfl (by decide) (fun a S => ?_)
      exact leafL ⟨rfl, S⟩
    · refine fI 26 (.int .i64 0) [(7, .pointer (some ⟨b5, 0, none⟩))] 1 [none] rfl rfl (by kernel_rfl) rfl (by kernel_rfl) (by kernel_rfl) fun G a w S => ?_
      refine sLoad1 (p := b5) (off := 0) (T := 24) (vs := [.int .i64 0]) 1 (.int .i64 0) S (wN rfl) rfl (by kernel_rfl) (by kernel_rfl) (by kernel_rfl) rfl rfl (by decide) (fun a S => ?_)
      exact leafL ⟨rfl, S⟩
    · refine ⟨_, [(6, .pointer (some ⟨b4, 0, none⟩)), (25, .agg #[.int .i64 0, .int .i64 0])], rfl, (srcs_of [none, some 0] rfl (by kernel_rfl) (by kernel_rfl)), fun G a w S => ?_⟩
      refine sStore (p := b4) (off := 0) (T := 23) (vs := [.int .i64 0, .int .i64 0]) (v := .agg #[.int .i64 0, .int .i64 0]) 0 [.int .i64 0, .int .i64 0] S (wN rfl) rfl (by kernel_rfl) (by kernel_rfl) rfl (by kernel_rfl) (by kernel_rfl) rfl (by simp) rfl (fun a w S => ?_)
      refine leafL ⟨rfl, _, _, .inr ⟨[], rfl, S, hz_of (by kernel_rfl), ?_⟩⟩
      refine node_by (A := [[], [], [0], [0, 1, 2]]) (nf := [2, 3]) (Y := [2]) 4 (by kernel_rfl) (by kernel_rfl) (by kernel_rfl) (by kernel_rfl) (by kernel_rfl) [0, 1] (by kernel_rfl) (by decide) (by decide) (aD 0 3 2 (by decide) (aF 1 2 (by decide) ?_ (aY 2 1 (by decide) (aN 3 0 (by decide) ?_ (trivial))))) [] (fun q hq => by cases hq) (fun hY => absurd (hY 3 (by decide)) (by decide))
      · refine fI 26 (.int .i64 0) [(7, .pointer (some ⟨b5, 0, none⟩))] 1 [none] rfl rfl (by kernel_rfl) rfl (by kernel_rfl) (by kernel_rfl) fun G a w S => ?_
        refine sLoad1 (p := b5) (off := 0) (T := 24) (vs := [.int .i64 0]) 1 (.int .i64 0) S (wN rfl) rfl (by kernel_rfl) (by kernel_rfl) (by kernel_rfl) rfl rfl (by decide) (fun a S => ?_)
        exact leafL ⟨rfl, S⟩
      · refine ⟨_, [(7, .pointer (some ⟨b5, 0, none⟩)), (26, .int .i64 0)], rfl, (srcs_of [none, some 1] rfl (by kernel_rfl) (by kernel_rfl)), fun G a w S => ?_⟩
        refine sStore (p := b5) (off := 0) (T := 24) (vs := [.int .i64 0]) (v := .int .i64 0) 1 [.int .i64 0] S (wN rfl) rfl (by kernel_rfl) (by kernel_rfl) rfl (by kernel_rfl) (by kernel_rfl) rfl (by simp) rfl (fun a w S => ?_)
        refine leafL ⟨rfl, _, _, .inr ⟨[], rfl, S, hz_of (by kernel_rfl), ?_⟩⟩
        refine node_by (A := [[], [], [0], [0, 1, 2]]) (nf := [2, 3]) (Y := [3, 2]) 4 (by kernel_rfl) (by kernel_rfl) (by kernel_rfl) (by kernel_rfl) (by kernel_rfl) [0, 1] (by kernel_rfl) (by decide) (by decide) (aD 0 3 3 (by decide) (aD 1 2 3 (by decide) (aY 2 1 (by decide) (aY 3 0 (by decide) (trivial))))) [(6, .pointer (some ⟨b4, 0, none⟩)), (7, .pointer (some ⟨b5, 0, none⟩))] (fin_of [none, none] rfl (by kernel_rfl) (by kernel_rfl)) (fun _ a w S => ?_)
        · refine leafT (hK27 _ _ ?_)
          obtain ⟨r28, hx29, h⟩ := bindSome h
          refine wp_ret (sLeave (X := Unit) (val := fun _ => .tuple #[]) (B' := fun _ => [eBox b10 65 [.int .i64 r28.1.a.Num, .int .i64 r28.1.a.Den, .int .i64 r28.1.b.Num, .int .i64 r28.1.b.Den, .int .i64 r28.1.out.Num, .int .i64 r28.1.out.Den, .int .i64 r28.1.e], eBox b4 23 [.int .i64 r28.2.1.Num, .int .i64 r28.2.1.Den], eBox b5 24 [.int .i64 r28.2.2]]) (D' := fun _ => []) [eBox b10 65 [.int .i64 o12, .int .i64 o13, .int .i64 o14, .int .i64 o15, .int .i64 o16, .int .i64 o17, .int .i64 o18], eBox b4 23 [.int .i64 0, .int .i64 0], eBox b5 24 [.int .i64 0]] [] [] [2, 1, 0] [] S callee53 (by decide) (by kernel_rfl) rfl (fun E1 w1 S1 => d_yarn_run_1_s0 E1 w1 (yarn_calc.mk (api_Ratio.mk o12 o13) (api_Ratio.mk o14 o15) (api_Ratio.mk o16 o17) o18) b10 (api_Ratio.mk 0 0) b4 0 b5 r28 hx29 S1) (fun _ a w S => ?_))
          obtain rfl := Option.some.inj h
          have S := S.learn (fRep r_api_Ratio (.agg #[.int .i64 r28.2.1.Num, .int .i64 r28.2.1.Den]) r28.2.1) rfl
          exact sFin (.tuple #[.agg #[.int .i64 r28.2.1.Num, .int .i64 r28.2.1.Den], .int .i64 r28.2.2]) S (rsl2 rfl (rvN (c := 6) (t := 23) (T := 23) (p := b4) 1 [.int .i64 r28.2.1.Num, .int .i64 r28.2.1.Den] S (by kernel_rfl) (by kernel_rfl) (by kernel_rfl) (by kernel_rfl)) (rv1 (c := 7) (t := 24) (T := 24) (p := b5) 2 (.int .i64 r28.2.2) S (by kernel_rfl) (by kernel_rfl) (by kernel_rfl))) ⟨(.agg #[.int .i64 r28.2.1.Num, .int .i64 r28.2.1.Den]), rfl, S.mem.sel [] [0] (by decide) (by kernel_rfl) (by kernel_rfl)⟩

end Go.Proofs.Ytdfjcpnflmgdoaa
namespace Go.Proofs.Ytdfjcpnflmgdoaa
open Go.RowKit
set_option linter.unusedVariables false

noncomputable def F_yarn_Mul (p0 : api_Ratio) (p1 : api_Ratio) : Option (api_Ratio × Int) :=
  Option.bind (F_yarn_run_s2 p0 p1) fun r6 =>
  some (r6.1, r6.2)
def c_yarn_Mul_val (r : (api_Ratio × Int)) (x : Value) : Value := .tuple #[x, .int .i64 r.2]
def c_yarn_Mul_D (r : (api_Ratio × Int)) (x : Value) : List Fact := [fRep r_api_Ratio x r.1]
set_option maxHeartbeats 4000000 in
set_option maxRecDepth 100000 in
theorem c_yarn_Mul (E : Nat → Prop) (w0 : World) (p0 : api_Ratio) (v0 : Value) (p1 : api_Ratio) (v1 : Value) (r : (api_Ratio × Int)) (h : F_yarn_Mul p0 p1 = some r) (S : St0 E [] w0 w0 [] [fRep r_api_Ratio (v0) p0, fRep r_api_Ratio (v1) p1]) :
    Calls Try.prog 12 #[v0, v1] w0 (Ret (X := Value) E [] w0 (c_yarn_Mul_val r) (fun _ => []) (c_yarn_Mul_D r)) := by
  unfold F_yarn_Mul at h
  obtain rfl : v0 = .agg #[.int .i64 p0.Num, .int .i64 p0.Den] := S.know (i := 0) (e := fRep r_api_Ratio (v0) p0) (by kernel_rfl)
  obtain rfl : v1 = .agg #[.int .i64 p1.Num, .int .i64 p1.Den] := S.know (i := 1) (e := fRep r_api_Ratio (v1) p1) (by kernel_rfl)
  refine sEnter (args := [.agg #[.int .i64 p0.Num, .int .i64 p0.Den], .agg #[.int .i64 p1.Num, .int .i64 p1.Den]]) 11 Try.func12 rfl rfl (by simp) S (fun a S => ?_)
  refine sSeq (fun K1 hK1 => ?_)
  refine sRegion ?_
  refine sBox (v := .agg #[.int .i64 p0.Num, .int .i64 p0.Den]) S (wN rfl) rfl (by kernel_rfl) [.int .i64 p0.Num, .int .i64 p0.Den] rfl rfl (by decide) (fun a b2 w S => ?_)
  refine sBox (v := .agg #[.int .i64 p1.Num, .int .i64 p1.Den]) S (wN rfl) rfl (by kernel_rfl) [.int .i64 p1.Num, .int .i64 p1.Den] rfl rfl (by decide) (fun a b3 w S => ?_)
  refine sAlloc (.agg #[.int .i64 0, .int .i64 0]) S (wN rfl) rfl (by kernel_rfl) [.int .i64 0, .int .i64 0] rfl rfl (by decide) (fun a b4 w S => ?_)
  refine sMove (.int .i64 0) S (wN rfl) (.inr rfl) (by kernel_rfl) rfl (by decide) (fun a S => ?_)
  refine leafL (leafT (hK1 _ _ ?_))
  refine sSeq (fun K5 hK5 => ?_)
  refine sRegion ?_
  refine sLoadN (p := b2) (off := 0) (T := 23) (vs := [.int .i64 p0.Num, .int .i64 p0.Den]) 2 [.int .i64 p0.Num, .int .i64 p0.Den] S (wN rfl) rfl (by kernel_rfl) (by kernel_rfl) (by kernel_rfl) (by kernel_rfl) rfl rfl (by decide) (fun a S => ?_)
  refine sLoadN (p := b3) (off := 0) (T := 23) (vs := [.int .i64 p1.Num, .int .i64 p1.Den]) 1 [.int .i64 p1.Num, .int .i64 p1.Den] S (wN rfl) rfl (by kernel_rfl) (by kernel_rfl) (by kernel_rfl) (by kernel_rfl) rfl rfl (by decide) (fun a S => ?_)
  obtain ⟨r6, hx7, h⟩ := bindSome h
  refine sCall (X := Value) (f := 33) (vs := [.agg #[.int .i64 p0.Num, .int .i64 p0.Den], .agg #[.int .i64 p1.Num, .int .i64 p1.Den], .func (.func 41) #[] #[]]) (val := c_yarn_run_s2_val r6) (B' := fun _ => []) (D' := c_yarn_run_s2_D r6) [] [eBox b4 23 [.int .i64 0, .int .i64 0], eBox b3 23 [.int .i64 p1.Num, .int .i64 p1.Den], eBox b2 23 [.int .i64 p0.Num, .int .i64 p0.Den]] [fRep r_api_Ratio (.agg #[.int .i64 p0.Num, .int .i64 p0.Den]) p0, fRep r_api_Ratio (.agg #[.int .i64 p1.Num, .int .i64 p1.Den]) p1] [0, 1, 2] [0, 1] S (wN rfl) rfl callee33 (by kernel_rfl) (by decide) (by kernel_rfl) (by kernel_rfl) (fun E1 w1 S1 => c_yarn_run_s2 E1 w1 p0 (.agg #[.int .i64 p0.Num, .int .i64 p0.Den]) p1 (.agg #[.int .i64 p1.Num, .int .i64 p1.Den]) r6 hx7 S1) rfl (by decide) (fun u8 a w S => ?_)
  obtain rfl : u8 = .agg #[.int .i64 r6.1.Num, .int .i64 r6.1.Den] := S.mem.know (i := 0) (e := fRep r_api_Ratio (u8) r6.1) (by kernel_rfl)
  refine sExtract (vs := [.agg #[.int .i64 r6.1.Num, .int .i64 r6.1.Den], .int .i64 r6.2]) (.agg #[.int .i64 r6.1.Num, .int .i64 r6.1.Den]) S (wN rfl) rfl (by kernel_rfl) rfl rfl (by decide) (fun a S => ?_)
  refine sExtract (vs := [.agg #[.int .i64 r6.1.Num, .int .i64 r6.1.Den], .int .i64 r6.2]) (.int .i64 r6.2) S (wN rfl) rfl (by kernel_rfl) rfl rfl (by decide) (fun a S => ?_)
  refine sStore (p := b4) (off := 0) (T := 23) (vs := [.int .i64 0, .int .i64 0]) (v := .agg #[.int .i64 r6.1.Num, .int .i64 r6.1.Den]) 0 [.int .i64 r6.1.Num, .int .i64 r6.1.Den] S (wN rfl) rfl (by kernel_rfl) (by kernel_rfl) rfl (by kernel_rfl) (by kernel_rfl) rfl (by simp) rfl (fun a w S => ?_)
  refine sMove (.int .i64 r6.2) S (wN rfl) (.inr rfl) (by kernel_rfl) rfl (by decide) (fun a S => ?_)
  refine leafL (leafT (hK5 _ _ ?_))
  obtain rfl := Option.some.inj h
  exact wp_ret (sRet (.tuple #[.agg #[.int .i64 r6.1.Num, .int .i64 r6.1.Den], .int .i64 r6.2]) S (rsl2 rfl (rvN (c := 4) (t := 23) (T := 23) (p := b4) 0 [.int .i64 r6.1.Num, .int .i64 r6.1.Den] S (by kernel_rfl) (by kernel_rfl) (by kernel_rfl) (by kernel_rfl)) (rvT (t := 5) (v := .int .i64 r6.2) S (by kernel_rfl))) ⟨(.agg #[.int .i64 r6.1.Num, .int .i64 r6.1.Den]), rfl, S.mem.sel [] [0] (by decide) (by kernel_rfl) (by kernel_rfl)⟩)

end Go.Proofs.Ytdfjcpnflmgdoaa
namespace Go.Proofs.Ytdfjcpnflmgdoaa
open Go.RowKit
set_option linter.unusedVariables false

noncomputable def F_raddleref23_Mul (p0 : api_Ratio) (p1 : api_Ratio) : Option (api_Ratio × Int) :=
  Option.bind (F_raddleref23_Both p0 p1) fun r7 =>
  if r7 != 0 then
    some ((api_Ratio.mk 0 0), r7)
  else
    Option.bind (F_raddleref23_Make (w64 (p0.Num * p1.Num)) (w64 (p0.Den * p1.Den))) fun r12 =>
    some (r12.1, r12.2)
def c_raddleref23_Mul_val (r : (api_Ratio × Int)) (x : Value) : Value := .tuple #[x, .int .i64 r.2]
def c_raddleref23_Mul_D (r : (api_Ratio × Int)) (x : Value) : List Fact := [fRep r_api_Ratio x r.1]
set_option maxHeartbeats 4000000 in
set_option maxRecDepth 100000 in
theorem c_raddleref23_Mul (E : Nat → Prop) (w0 : World) (p0 : api_Ratio) (v0 : Value) (p1 : api_Ratio) (v1 : Value) (r : (api_Ratio × Int)) (h : F_raddleref23_Mul p0 p1 = some r) (S : St0 E [] w0 w0 [] [fRep r_api_Ratio (v0) p0, fRep r_api_Ratio (v1) p1]) :
    Calls Try.prog 13 #[v0, v1] w0 (Ret (X := Value) E [] w0 (c_raddleref23_Mul_val r) (fun _ => []) (c_raddleref23_Mul_D r)) := by
  unfold F_raddleref23_Mul at h
  obtain rfl : v0 = .agg #[.int .i64 p0.Num, .int .i64 p0.Den] := S.know (i := 0) (e := fRep r_api_Ratio (v0) p0) (by kernel_rfl)
  obtain rfl : v1 = .agg #[.int .i64 p1.Num, .int .i64 p1.Den] := S.know (i := 1) (e := fRep r_api_Ratio (v1) p1) (by kernel_rfl)
  refine sEnter (args := [.agg #[.int .i64 p0.Num, .int .i64 p0.Den], .agg #[.int .i64 p1.Num, .int .i64 p1.Den]]) 27 Try.func13 rfl rfl (by simp) S (fun a S => ?_)
  refine sSeq (fun K1 hK1 => ?_)
  refine sRegion ?_
  refine sBox (v := .agg #[.int .i64 p0.Num, .int .i64 p0.Den]) S (wN rfl) rfl (by kernel_rfl) [.int .i64 p0.Num, .int .i64 p0.Den] rfl rfl (by decide) (fun a b2 w S => ?_)
  refine sBox (v := .agg #[.int .i64 p1.Num, .int .i64 p1.Den]) S (wN rfl) rfl (by kernel_rfl) [.int .i64 p1.Num, .int .i64 p1.Den] rfl rfl (by decide) (fun a b3 w S => ?_)
  refine sAlloc (.agg #[.int .i64 0, .int .i64 0]) S (wN rfl) rfl (by kernel_rfl) [.int .i64 0, .int .i64 0] rfl rfl (by decide) (fun a b4 w S => ?_)
  refine sMove (.int .i64 0) S (wN rfl) (.inr rfl) (by kernel_rfl) rfl (by decide) (fun a S => ?_)
  refine leafL (leafT (hK1 _ _ ?_))
  refine sSeq (fun K5 hK5 => ?_)
  refine sSeq (fun K6 hK6 => ?_)
  refine sRegion ?_
  refine sLoadN (p := b2) (off := 0) (T := 23) (vs := [.int .i64 p0.Num, .int .i64 p0.Den]) 2 [.int .i64 p0.Num, .int .i64 p0.Den] S (wN rfl) rfl (by kernel_rfl) (by kernel_rfl) (by kernel_rfl) (by kernel_rfl) rfl rfl (by decide) (fun a S => ?_)
  refine sLoadN (p := b3) (off := 0) (T := 23) (vs := [.int .i64 p1.Num, .int .i64 p1.Den]) 1 [.int .i64 p1.Num, .int .i64 p1.Den] S (wN rfl) rfl (by kernel_rfl) (by kernel_rfl) (by kernel_rfl) (by kernel_rfl) rfl rfl (by decide) (fun a S => ?_)
  obtain ⟨r7, hx8, h⟩ := bindSome h
  have S1 := S.mem
  refine sCallQ (X := Unit) (f := 35) (vs := [.agg #[.int .i64 p0.Num, .int .i64 p0.Den], .agg #[.int .i64 p1.Num, .int .i64 p1.Den]]) (val := fun _ => .int .i64 r7) S (wN rfl) rfl callee35 (by kernel_rfl) (S1.quiet [0, 1] (by kernel_rfl)) (fun E1 w1 S1 => c_raddleref23_Both E1 w1 p0 (.agg #[.int .i64 p0.Num, .int .i64 p0.Den]) p1 (.agg #[.int .i64 p1.Num, .int .i64 p1.Den]) r7 hx8 S1) rfl (by decide) (fun _ a w S => ?_)
  refine sBin (.bool (r7 != 0)) S (wN rfl) rfl (by kernel_rfl) (by kernel_rfl) (bNe _ _ _ _ .i64 r7 0) rfl (by decide) (fun a S => ?_)
  refine leafL (leafT (hK6 _ _ ?_))
  rcases iteSome h with ⟨hc9, h⟩ | ⟨hc9, h⟩
  · refine sCondT (b := r7 != 0) S (by kernel_rfl) hc9 ?_
    refine sSeq (fun K10 hK10 => ?_)
    refine sRegion ?_
    refine sBuild [] [.int .i64 0, .int .i64 0] S (wN rfl) rfl (by kernel_rfl) (by kernel_rfl) rfl (by decide) (fun a S => ?_)
    refine sLoadN (p := b2) (off := 0) (T := 23) (vs := [.int .i64 p0.Num, .int .i64 p0.Den]) 2 [.int .i64 p0.Num, .int .i64 p0.Den] S (wN rfl) rfl (by kernel_rfl) (by kernel_rfl) (by kernel_rfl) (by kernel_rfl) rfl rfl (by decide) (fun a S => ?_)
    refine sLoadN (p := b3) (off := 0) (T := 23) (vs := [.int .i64 p1.Num, .int .i64 p1.Den]) 1 [.int .i64 p1.Num, .int .i64 p1.Den] S (wN rfl) rfl (by kernel_rfl) (by kernel_rfl) (by kernel_rfl) (by kernel_rfl) rfl rfl (by decide) (fun a S => ?_)
    have S1 := S.mem
    refine sCallQ (X := Unit) (f := 35) (vs := [.agg #[.int .i64 p0.Num, .int .i64 p0.Den], .agg #[.int .i64 p1.Num, .int .i64 p1.Den]]) (val := fun _ => .int .i64 r7) S (wN rfl) rfl callee35 (by kernel_rfl) (S1.quiet [0, 1] (by kernel_rfl)) (fun E1 w1 S1 => c_raddleref23_Both E1 w1 p0 (.agg #[.int .i64 p0.Num, .int .i64 p0.Den]) p1 (.agg #[.int .i64 p1.Num, .int .i64 p1.Den]) r7 hx8 S1) rfl (by decide) (fun _ a w S => ?_)
    refine sStore (p := b4) (off := 0) (T := 23) (vs := [.int .i64 0, .int .i64 0]) (v := .agg #[.int .i64 0, .int .i64 0]) 0 [.int .i64 0, .int .i64 0] S (wN rfl) rfl (by kernel_rfl) (by kernel_rfl) rfl (by kernel_rfl) (by kernel_rfl) rfl (by simp) rfl (fun a w S => ?_)
    refine sMove (.int .i64 r7) S (wN rfl) (.inr rfl) (by kernel_rfl) rfl (by decide) (fun a S => ?_)
    refine leafL (leafT (hK10 _ _ ?_))
    obtain rfl := Option.some.inj h
    have S := S.learn (fRep r_api_Ratio (.agg #[.int .i64 0, .int .i64 0]) (api_Ratio.mk 0 0)) rfl
    exact wp_ret (rThen (sRet (.tuple #[.agg #[.int .i64 0, .int .i64 0], .int .i64 r7]) S (rsl2 rfl (rvN (c := 4) (t := 23) (T := 23) (p := b4) 0 [.int .i64 0, .int .i64 0] S (by kernel_rfl) (by kernel_rfl) (by kernel_rfl) (by kernel_rfl)) (rvT (t := 5) (v := .int .i64 r7) S (by kernel_rfl))) ⟨(.agg #[.int .i64 0, .int .i64 0]), rfl, S.mem.sel [] [0] (by decide) (by kernel_rfl) (by kernel_rfl)⟩))
  · refine sCondF (b := r7 != 0) S (by kernel_rfl) hc9 ?_
    refine wp_skip (leafT (hK5 _ _ ?_))
    refine sSeq (fun K11 hK11 => ?_)
    refine sRegion ?_
    refine sField (b := b2) (off := 0) 0 0 S (wN rfl) rfl (by kernel_rfl) (by kernel_rfl) rfl rfl (by decide) (fun a S => ?_)
    refine sLoad1 (p := b2) (off := 0) (T := 23) (vs := [.int .i64 p0.Num, .int .i64 p0.Den]) 2 (.int .i64 p0.Num) S (wN rfl) rfl (by kernel_rfl) (by kernel_rfl) (by kernel_rfl) rfl rfl (by decide) (fun a S => ?_)
    refine sField (b := b3) (off := 0) 0 0 S (wN rfl) rfl (by kernel_rfl) (by kernel_rfl) rfl rfl (by decide) (fun a S => ?_)
    refine sLoad1 (p := b3) (off := 0) (T := 23) (vs := [.int .i64 p1.Num, .int .i64 p1.Den]) 1 (.int .i64 p1.Num) S (wN rfl) rfl (by kernel_rfl) (by kernel_rfl) (by kernel_rfl) rfl rfl (by decide) (fun a S => ?_)
    refine sBin (.int .i64 (w64 (p0.Num * p1.Num))) S (wN rfl) rfl (by kernel_rfl) (by kernel_rfl) (bMul _ _ _ _ p0.Num p1.Num) rfl (by decide) (fun a S => ?_)
    refine sField (b := b2) (off := 0) 1 1 S (wN rfl) rfl (by kernel_rfl) (by kernel_rfl) rfl rfl (by decide) (fun a S => ?_)
    refine sLoad1 (p := b2) (off := 1) (T := 23) (vs := [.int .i64 p0.Num, .int .i64 p0.Den]) 2 (.int .i64 p0.Den) S (wN rfl) rfl (by kernel_rfl) (by kernel_rfl) (by kernel_rfl) rfl rfl (by decide) (fun a S => ?_)
    refine sField (b := b3) (off := 0) 1 1 S (wN rfl) rfl (by kernel_rfl) (by kernel_rfl) rfl rfl (by decide) (fun a S => ?_)
    refine sLoad1 (p := b3) (off := 1) (T := 23) (vs := [.int .i64 p1.Num, .int .i64 p1.Den]) 1 (.int .i64 p1.Den) S (wN rfl) rfl (by kernel_rfl) (by kernel_rfl) (by kernel_rfl) rfl rfl (by decide) (fun a S => ?_)
    refine sBin (.int .i64 (w64 (p0.Den * p1.Den))) S (wN rfl) rfl (by kernel_rfl) (by kernel_rfl) (bMul _ _ _ _ p0.Den p1.Den) rfl (by decide) (fun a S => ?_)
    obtain ⟨r12, hx13, h⟩ := bindSome h
    refine sCall (X := Value) (f := 36) (vs := [.int .i64 (w64 (p0.Num * p1.Num)), .int .i64 (w64 (p0.Den * p1.Den))]) (val := c_raddleref23_Make_val r12) (B' := fun _ => []) (D' := c_raddleref23_Make_D r12) [] [eBox b4 23 [.int .i64 0, .int .i64 0], eBox b3 23 [.int .i64 p1.Num, .int .i64 p1.Den], eBox b2 23 [.int .i64 p0.Num, .int .i64 p0.Den]] [] [0, 1, 2] [] S (wN rfl) rfl callee36 (by kernel_rfl) (by decide) (by kernel_rfl) (by kernel_rfl) (fun E1 w1 S1 => c_raddleref23_Make E1 w1 (w64 (p0.Num * p1.Num)) (w64 (p0.Den * p1.Den)) r12 hx13 S1) rfl (by decide) (fun u14 a w S => ?_)
    obtain rfl : u14 = .agg #[.int .i64 r12.1.Num, .int .i64 r12.1.Den] := S.mem.know (i := 0) (e := fRep r_api_Ratio (u14) r12.1) (by kernel_rfl)
    refine sExtract (vs := [.agg #[.int .i64 r12.1.Num, .int .i64 r12.1.Den], .int .i64 r12.2]) (.agg #[.int .i64 r12.1.Num, .int .i64 r12.1.Den]) S (wN rfl) rfl (by kernel_rfl) rfl rfl (by decide) (fun a S => ?_)
    refine sExtract (vs := [.agg #[.int .i64 r12.1.Num, .int .i64 r12.1.Den], .int .i64 r12.2]) (.int .i64 r12.2) S (wN rfl) rfl (by kernel_rfl) rfl rfl (by decide) (fun a S => ?_)
    refine sStore (p := b4) (off := 0) (T := 23) (vs := [.int .i64 0, .int .i64 0]) (v := .agg #[.int .i64 r12.1.Num, .int .i64 r12.1.Den]) 0 [.int .i64 r12.1.Num, .int .i64 r12.1.Den] S (wN rfl) rfl (by kernel_rfl) (by kernel_rfl) rfl (by kernel_rfl) (by kernel_rfl) rfl (by simp) rfl (fun a w S => ?_)
    refine sMove (.int .i64 r12.2) S (wN rfl) (.inr rfl) (by kernel_rfl) rfl (by decide) (fun a S => ?_)
    refine leafL (leafT (hK11 _ _ ?_))
    obtain rfl := Option.some.inj h
    exact wp_ret (sRet (.tuple #[.agg #[.int .i64 r12.1.Num, .int .i64 r12.1.Den], .int .i64 r12.2]) S (rsl2 rfl (rvN (c := 4) (t := 23) (T := 23) (p := b4) 0 [.int .i64 r12.1.Num, .int .i64 r12.1.Den] S (by kernel_rfl) (by kernel_rfl) (by kernel_rfl) (by kernel_rfl)) (rvT (t := 5) (v := .int .i64 r12.2) S (by kernel_rfl))) ⟨(.agg #[.int .i64 r12.1.Num, .int .i64 r12.1.Den]), rfl, S.mem.sel [] [0] (by decide) (by kernel_rfl) (by kernel_rfl)⟩)

end Go.Proofs.Ytdfjcpnflmgdoaa
namespace Go.Proofs.Ytdfjcpnflmgdoaa
open Go.RowKit
set_option linter.unusedVariables false

def anc_yarn_Div_1_0 : List (List Nat) := [[], [0], [], [2], [0, 1, 2, 3], [], [5], [], [7], [5, 6, 7, 8], [0, 1, 2, 3, 4], [0, 1, 2, 3, 4, 5, 6, 7, 8, 9, 10]]
noncomputable def F_yarn_Div_1 (p0 : api_Ratio) (p1 : api_Ratio) : Option (Int × Int) :=
  some (w64 (p0.Num * p1.Den), w64 (p0.Den * p1.Num))
set_option maxHeartbeats 4000000 in
set_option maxRecDepth 100000 in
theorem c_yarn_Div_1 (E : Nat → Prop) (w0 : World) (p0 : api_Ratio) (v0 : Value) (p1 : api_Ratio) (v1 : Value) (r : (Int × Int)) (h : F_yarn_Div_1 p0 p1 = some r) (S : St0 E [] w0 w0 [] [fRep r_api_Ratio (v0) p0, fRep r_api_Ratio (v1) p1]) :
    Calls Try.prog 42 #[v0, v1] w0 (Ret (X := Unit) E [] w0 (fun _ => .tuple #[.int .i64 r.1, .int .i64 r.2]) (fun _ => []) (fun _ => [])) := by
  unfold F_yarn_Div_1 at h
  obtain rfl : v0 = .agg #[.int .i64 p0.Num, .int .i64 p0.Den] := S.know (i := 0) (e := fRep r_api_Ratio (v0) p0) (by kernel_rfl)
  obtain rfl : v1 = .agg #[.int .i64 p1.Num, .int .i64 p1.Den] := S.know (i := 1) (e := fRep r_api_Ratio (v1) p1) (by kernel_rfl)
  refine sEnter (args := [.agg #[.int .i64 p0.Num, .int .i64 p0.Den], .agg #[.int .i64 p1.Num, .int .i64 p1.Den]]) 16 Try.func42 rfl rfl (by simp) S (fun a S => ?_)
  refine sSeq (fun K1 hK1 => ?_)
  refine sRegion ?_
  refine sBox (v := .agg #[.int .i64 p0.Num, .int .i64 p0.Den]) S (wN rfl) rfl (by kernel_rfl) [.int .i64 p0.Num, .int .i64 p0.Den] rfl rfl (by decide) (fun a b2 w S => ?_)
  refine sBox (v := .agg #[.int .i64 p1.Num, .int .i64 p1.Den]) S (wN rfl) rfl (by kernel_rfl) [.int .i64 p1.Num, .int .i64 p1.Den] rfl rfl (by decide) (fun a b3 w S => ?_)
  refine sMove (.int .i64 0) S (wN rfl) (.inr rfl) (by kernel_rfl) rfl (by decide) (fun a S => ?_)
  refine sMove (.int .i64 0) S (wN rfl) (.inr rfl) (by kernel_rfl) rfl (by decide) (fun a S => ?_)
  refine leafL (leafT (hK1 _ _ ?_))
  refine sSeq (fun K4 hK4 => ?_)
  refine sDraw (nf := []) (W := [(0, 6, .pointer (some ⟨b2, 0, none⟩)), (1, 7, .int .i64 p0.Num), (2, 8, .pointer (some ⟨b3, 1, none⟩)), (3, 9, .int .i64 p1.Den), (4, 10, .int .i64 (w64 (p0.Num * p1.Den))), (5, 11, .pointer (some ⟨b2, 1, none⟩)), (6, 12, .int .i64 p0.Den), (7, 13, .pointer (some ⟨b3, 0, none⟩)), (8, 14, .int .i64 p1.Num), (9, 15, .int .i64 (w64 (p0.Den * p1.Num))), (10, 4, .int .i64 (w64 (p0.Num * p1.Den))), (11, 5, .int .i64 (w64 (p0.Den * p1.Num)))]) (by kernel_rfl) S ?_
  refine node_by (A := anc_yarn_Div_1_0) (nf := []) (Y := []) (W := [(0, 6, .pointer (some ⟨b2, 0, none⟩)), (1, 7, .int .i64 p0.Num), (2, 8, .pointer (some ⟨b3, 1, none⟩)), (3, 9, .int .i64 p1.Den), (4, 10, .int .i64 (w64 (p0.Num * p1.Den))), (5, 11, .pointer (some ⟨b2, 1, none⟩)), (6, 12, .int .i64 p0.Den), (7, 13, .pointer (some ⟨b3, 0, none⟩)), (8, 14, .int .i64 p1.Num), (9, 15, .int .i64 (w64 (p0.Den * p1.Num))), (10, 4, .int .i64 (w64 (p0.Num * p1.Den))), (11, 5, .int .i64 (w64 (p0.Den * p1.Num)))]) 12 (by kernel_rfl) (by kernel_rfl) (by kernel_rfl) (by kernel_rfl) (by kernel_rfl) [0, 1, 2, 3, 4, 5, 6, 7, 8, 9, 10, 11] (by kernel_rfl) (by decide) (by decide) (aF 0 11 (by decide) ?_ (aF 1 10 (by decide) ?_ (aF 2 9 (by decide) ?_ (aF 3 8 (by decide) ?_ (aF 4 7 (by decide) ?_ (aF 5 6 (by decide) ?_ (aF 6 5 (by decide) ?_ (aF 7 4 (by decide) ?_ (aF 8 3 (by decide) ?_ (aF 9 2 (by decide) ?_ (aF 10 1 (by decide) ?_ (aF 11 0 (by decide) ?_ (trivial))))))))))))) [(4, .int .i64 (w64 (p0.Num * p1.Den))), (5, .int .i64 (w64 (p0.Den * p1.Num)))] (fin_of [some 10, some 11] rfl (by kernel_rfl) (by kernel_rfl)) (fun _ a w S => ?_)
  · refine fI 6 (.pointer (some ⟨b2, 0, none⟩)) [(2, .pointer (some ⟨b2, 0, none⟩))] 0 [none] rfl rfl (by kernel_rfl) rfl (by kernel_rfl) (by kernel_rfl) fun G a w S => ?_
    refine sField (b := b2) (off := 0) 0 0 S (wN rfl) rfl (by kernel_rfl) (by kernel_rfl) rfl rfl (by decide) (fun a S => ?_)
    exact leafL ⟨rfl, S⟩
  · refine fI 7 (.int .i64 p0.Num) [(6, .pointer (some ⟨b2, 0, none⟩))] 1 [some 0] rfl rfl (by kernel_rfl) rfl (by kernel_rfl) (by kernel_rfl) fun G a w S => ?_
    refine sLoad1 (p := b2) (off := 0) (T := 23) (vs := [.int .i64 p0.Num, .int .i64 p0.Den]) 1 (.int .i64 p0.Num) S (wN rfl) rfl (by kernel_rfl) (by kernel_rfl) (by kernel_rfl) rfl rfl (by decide) (fun a S => ?_)
    exact leafL ⟨rfl, S⟩
  · refine fI 8 (.pointer (some ⟨b3, 1, none⟩)) [(3, .pointer (some ⟨b3, 0, none⟩))] 2 [none] rfl rfl (by kernel_rfl) rfl (by kernel_rfl) (by kernel_rfl) fun G a w S => ?_
    refine sField (b := b3) (off := 0) 1 1 S (wN rfl) rfl (by kernel_rfl) (by kernel_rfl) rfl rfl (by decide) (fun a S => ?_)
    exact leafL ⟨rfl, S⟩
  · refine fI 9 (.int .i64 p1.Den) [(8, .pointer (some ⟨b3, 1, none⟩))] 3 [some 2] rfl rfl (by kernel_rfl) rfl (by kernel_rfl) (by kernel_rfl) fun G a w S => ?_
    refine sLoad1 (p := b3) (off := 1) (T := 23) (vs := [.int .i64 p1.Num, .int .i64 p1.Den]) 0 (.int .i64 p1.Den) S (wN rfl) rfl (by kernel_rfl) (by kernel_rfl) (by kernel_rfl) rfl rfl (by decide) (fun a S => ?_)
    exact leafL ⟨rfl, S⟩
  · refine fI 10 (.int .i64 (w64 (p0.Num * p1.Den))) [(7, .int .i64 p0.Num), (9, .int .i64 p1.Den)] 4 [some 1, some 3] rfl rfl (by kernel_rfl) rfl (by kernel_rfl) (by kernel_rfl) fun G a w S => ?_
    refine sBin (.int .i64 (w64 (p0.Num * p1.Den))) S (wN rfl) rfl (by kernel_rfl) (by kernel_rfl) (bMul _ _ _ _ p0.Num p1.Den) rfl (by decide) (fun a S => ?_)
    exact leafL ⟨rfl, S⟩
  · refine fI 11 (.pointer (some ⟨b2, 1, none⟩)) [(2, .pointer (some ⟨b2, 0, none⟩))] 5 [none] rfl rfl (by kernel_rfl) rfl (by kernel_rfl) (by kernel_rfl) fun G a w S => ?_
    refine sField (b := b2) (off := 0) 1 1 S (wN rfl) rfl (by kernel_rfl) (by kernel_rfl) rfl rfl (by decide) (fun a S => ?_)
    exact leafL ⟨rfl, S⟩
  · refine fI 12 (.int .i64 p0.Den) [(11, .pointer (some ⟨b2, 1, none⟩))] 6 [some 5] rfl rfl (by kernel_rfl) rfl (by kernel_rfl) (by kernel_rfl) fun G a w S => ?_
    refine sLoad1 (p := b2) (off := 1) (T := 23) (vs := [.int .i64 p0.Num, .int .i64 p0.Den]) 1 (.int .i64 p0.Den) S (wN rfl) rfl (by kernel_rfl) (by kernel_rfl) (by kernel_rfl) rfl rfl (by decide) (fun a S => ?_)
    exact leafL ⟨rfl, S⟩
  · refine fI 13 (.pointer (some ⟨b3, 0, none⟩)) [(3, .pointer (some ⟨b3, 0, none⟩))] 7 [none] rfl rfl (by kernel_rfl) rfl (by kernel_rfl) (by kernel_rfl) fun G a w S => ?_
    refine sField (b := b3) (off := 0) 0 0 S (wN rfl) rfl (by kernel_rfl) (by kernel_rfl) rfl rfl (by decide) (fun a S => ?_)
    exact leafL ⟨rfl, S⟩
  · refine fI 14 (.int .i64 p1.Num) [(13, .pointer (some ⟨b3, 0, none⟩))] 8 [some 7] rfl rfl (by kernel_rfl) rfl (by kernel_rfl) (by kernel_rfl) fun G a w S => ?_
    refine sLoad1 (p := b3) (off := 0) (T := 23) (vs := [.int .i64 p1.Num, .int .i64 p1.Den]) 0 (.int .i64 p1.Num) S (wN rfl) rfl (by kernel_rfl) (by kernel_rfl) (by kernel_rfl) rfl rfl (by decide) (fun a S => ?_)
    exact leafL ⟨rfl, S⟩
  · refine fI 15 (.int .i64 (w64 (p0.Den * p1.Num))) [(12, .int .i64 p0.Den), (14, .int .i64 p1.Num)] 9 [some 6, some 8] rfl rfl (by kernel_rfl) rfl (by kernel_rfl) (by kernel_rfl) fun G a w S => ?_
    refine sBin (.int .i64 (w64 (p0.Den * p1.Num))) S (wN rfl) rfl (by kernel_rfl) (by kernel_rfl) (bMul _ _ _ _ p0.Den p1.Num) rfl (by decide) (fun a S => ?_)
    exact leafL ⟨rfl, S⟩
  · refine fI 4 (.int .i64 (w64 (p0.Num * p1.Den))) [(10, .int .i64 (w64 (p0.Num * p1.Den)))] 10 [some 4] rfl rfl (by kernel_rfl) rfl (by kernel_rfl) (by kernel_rfl) fun G a w S => ?_
    refine sMove (.int .i64 (w64 (p0.Num * p1.Den))) S (wN rfl) (.inr rfl) (by kernel_rfl) rfl (by decide) (fun a S => ?_)
    exact leafL ⟨rfl, S⟩
  · refine fI 5 (.int .i64 (w64 (p0.Den * p1.Num))) [(15, .int .i64 (w64 (p0.Den * p1.Num)))] 11 [some 9] rfl rfl (by kernel_rfl) rfl (by kernel_rfl) (by kernel_rfl) fun G a w S => ?_
    refine sMove (.int .i64 (w64 (p0.Den * p1.Num))) S (wN rfl) (.inr rfl) (by kernel_rfl) rfl (by decide) (fun a S => ?_)
    exact leafL ⟨rfl, S⟩
  · refine leafT (hK4 _ _ ?_)
    obtain rfl := Option.some.inj h
    exact wp_ret (sRet (.tuple #[.int .i64 (w64 (p0.Num * p1.Den)), .int .i64 (w64 (p0.Den * p1.Num))]) S (rsl2 rfl (rvT (t := 4) (v := .int .i64 (w64 (p0.Num * p1.Den))) S (by kernel_rfl)) (rvT (t := 5) (v := .int .i64 (w64 (p0.Den * p1.Num))) S (by kernel_rfl))) ⟨(), rfl, S.mem.sel [] [] (by decide) (by kernel_rfl) (by kernel_rfl)⟩)

end Go.Proofs.Ytdfjcpnflmgdoaa
namespace Go.Proofs.Ytdfjcpnflmgdoaa
open Go.RowKit
set_option linter.unusedVariables false

noncomputable def F_yarn_run_s3 (p0 : api_Ratio) (p1 : api_Ratio) : Option (api_Ratio × Int) :=
  Option.bind (F_yarn_with p0 p1) fun r7 =>
  Option.bind (α := (Int × Int × Int × Int × Int × Int × Int)) (
    if r7.e == 0 then
      Option.bind (F_yarn_Div_1 r7.a r7.b) fun r23 =>
      Option.bind (F_yarn_calc_set_s1 r7 r23.1 r23.2) fun r25 =>
      some (r25.a.Num, r25.a.Den, r25.b.Num, r25.b.Den, r25.out.Num, r25.out.Den, r25.e)
    else
      some (r7.a.Num, r7.a.Den, r7.b.Num, r7.b.Den, r7.out.Num, r7.out.Den, r7.e)) fun (o12, o13, o14, o15, o16, o17, o18) =>
  Option.bind (F_yarn_run_1_s0 (yarn_calc.mk (api_Ratio.mk o12 o13) (api_Ratio.mk o14 o15) (api_Ratio.mk o16 o17) o18) (api_Ratio.mk 0 0) 0) fun r28 =>
  some (r28.2.1, r28.2.2)
def c_yarn_run_s3_val (r : (api_Ratio × Int)) (x : Value) : Value := .tuple #[x, .int .i64 r.2]
def c_yarn_run_s3_D (r : (api_Ratio × Int)) (x : Value) : List Fact := [fRep r_api_Ratio x r.1]
set_option maxHeartbeats 4000000 in
set_option maxRecDepth 100000 in
theorem c_yarn_run_s3 (E : Nat → Prop) (w0 : World) (p0 : api_Ratio) (v0 : Value) (p1 : api_Ratio) (v1 : Value) (r : (api_Ratio × Int)) (h : F_yarn_run_s3 p0 p1 = some r) (S : St0 E [] w0 w0 [] [fRep r_api_Ratio (v0) p0, fRep r_api_Ratio (v1) p1]) :
    Calls Try.prog 33 #[v0, v1, .func (.func 42) #[] #[]] w0 (Ret (X := Value) E [] w0 (c_yarn_run_s3_val r) (fun _ => []) (c_yarn_run_s3_D r)) := by
  unfold F_yarn_run_s3 at h
  obtain rfl : v0 = .agg #[.int .i64 p0.Num, .int .i64 p0.Den] := S.know (i := 0) (e := fRep r_api_Ratio (v0) p0) (by kernel_rfl)
  obtain rfl : v1 = .agg #[.int .i64 p1.Num, .int .i64 p1.Den] := S.know (i := 1) (e := fRep r_api_Ratio (v1) p1) (by kernel_rfl)
  refine sEnterD (args := [.agg #[.int .i64 p0.Num, .int .i64 p0.Den], .agg #[.int .i64 p1.Num, .int .i64 p1.Den], .func (.func 42) #[] #[]]) 27 Try.func33 rfl rfl (by simp) S (fun a S => ?_)
  refine sSeq (fun K1 hK1 => ?_)
  refine sRegion ?_
  refine sBox (v := .agg #[.int .i64 p0.Num, .int .i64 p0.Den]) S (wN rfl) rfl (by kernel_rfl) [.int .i64 p0.Num, .int .i64 p0.Den] rfl rfl (by decide) (fun a b2 w S => ?_)
  refine sBox (v := .agg #[.int .i64 p1.Num, .int .i64 p1.Den]) S (wN rfl) rfl (by kernel_rfl) [.int .i64 p1.Num, .int .i64 p1.Den] rfl rfl (by decide) (fun a b3 w S => ?_)
  refine sAlloc (.agg #[.int .i64 0, .int .i64 0]) S (wN rfl) rfl (by kernel_rfl) [.int .i64 0, .int .i64 0] rfl rfl (by decide) (fun a b4 w S => ?_)
  refine sAlloc (.int .i64 0) S (wN rfl) rfl (by kernel_rfl) [.int .i64 0] rfl rfl (by decide) (fun a b5 w S => ?_)
  refine leafL (leafT (hK1 _ _ ?_))
  refine sSeq (fun K6 hK6 => ?_)
  refine sRegion ?_
  refine sLoadN (p := b2) (off := 0) (T := 23) (vs := [.int .i64 p0.Num, .int .i64 p0.Den]) 3 [.int .i64 p0.Num, .int .i64 p0.Den] S (wN rfl) rfl (by kernel_rfl) (by kernel_rfl) (by kernel_rfl) (by kernel_rfl) rfl rfl (by decide) (fun a S => ?_)
  refine sLoadN (p := b3) (off := 0) (T := 23) (vs := [.int .i64 p1.Num, .int .i64 p1.Den]) 2 [.int .i64 p1.Num, .int .i64 p1.Den] S (wN rfl) rfl (by kernel_rfl) (by kernel_rfl) (by kernel_rfl) (by kernel_rfl) rfl rfl (by decide) (fun a S => ?_)
  obtain ⟨r7, hx8, h⟩ := bindSome h
  refine sCall (X := Value) (f := 43) (vs := [.agg #[.int .i64 p0.Num, .int .i64 p0.Den], .agg #[.int .i64 p1.Num, .int .i64 p1.Den]]) (val := c_yarn_with_val r7) (B' := fun _ => []) (D' := c_yarn_with_D r7) [] [eBox b5 24 [.int .i64 0], eBox b4 23 [.int .i64 0, .int .i64 0], eBox b3 23 [.int .i64 p1.Num, .int .i64 p1.Den], eBox b2 23 [.int .i64 p0.Num, .int .i64 p0.Den]] [fRep r_api_Ratio (.agg #[.int .i64 p0.Num, .int .i64 p0.Den]) p0, fRep r_api_Ratio (.agg #[.int .i64 p1.Num, .int .i64 p1.Den]) p1] [0, 1, 2, 3] [0, 1] S (wN rfl) rfl callee43 (by kernel_rfl) (by decide) (by kernel_rfl) (by kernel_rfl) (fun E1 w1 S1 => c_yarn_with E1 w1 p0 (.agg #[.int .i64 p0.Num, .int .i64 p0.Den]) p1 (.agg #[.int .i64 p1.Num, .int .i64 p1.Den]) r7 hx8 S1) rfl (by decide) (fun u9 a w S => ?_)
  obtain rfl : u9 = .agg #[.int .i64 r7.a.Num, .int .i64 r7.a.Den, .int .i64 r7.b.Num, .int .i64 r7.b.Den, .int .i64 r7.out.Num, .int .i64 r7.out.Den, .int .i64 r7.e] := S.mem.know (i := 0) (e := fRep r_yarn_calc (u9) r7) (by kernel_rfl)
  refine sAlloc (.agg #[.int .i64 0, .int .i64 0, .int .i64 0, .int .i64 0, .int .i64 0, .int .i64 0, .int .i64 0]) S (wN rfl) rfl (by kernel_rfl) [.int .i64 0, .int .i64 0, .int .i64 0, .int .i64 0, .int .i64 0, .int .i64 0, .int .i64 0] rfl rfl (by decide) (fun a b10 w S => ?_)
  refine sStore (p := b10) (off := 0) (T := 65) (vs := [.int .i64 0, .int .i64 0, .int .i64 0, .int .i64 0, .int .i64 0, .int .i64 0, .int .i64 0]) (v := .agg #[.int .i64 r7.a.Num, .int .i64 r7.a.Den, .int .i64 r7.b.Num, .int .i64 r7.b.Den, .int .i64 r7.out.Num, .int .i64 r7.out.Den, .int .i64 r7.e]) 0 [.int .i64 r7.a.Num, .int .i64 r7.a.Den, .int .i64 r7.b.Num, .int .i64 r7.b.Den, .int .i64 r7.out.Num, .int .i64 r7.out.Den, .int .i64 r7.e] S (wN rfl) rfl (by kernel_rfl) (by kernel_rfl) rfl (by kernel_rfl) (by kernel_rfl) rfl (by simp) rfl (fun a w S => ?_)
  refine leafL (leafT (hK6 _ _ ?_))
  refine sSeq (fun K11 hK11 => ?_)
  refine sRegion ?_
  refine sFunc (g := 53) (vs := [.pointer (some ⟨b10, 0, none⟩), .pointer (some ⟨b4, 0, none⟩), .pointer (some ⟨b5, 0, none⟩)]) S (wN rfl) rfl (by kernel_rfl) rfl (by decide) (fun a S => ?_)
  refine sDefer (g := 53) (caps := [.pointer (some ⟨b10, 0, none⟩), .pointer (some ⟨b4, 0, none⟩), .pointer (some ⟨b5, 0, none⟩)]) S (wN rfl) rfl (by kernel_rfl) rfl (fun a S => ?_)
  refine leafL (leafT (hK11 _ _ ?_))
  obtain ⟨t19, h, g20⟩ := bindSome h
  refine sCut (fun a w => ∃ o12, ∃ o13, ∃ o14, ∃ o15, ∃ o16, ∃ o17, ∃ o18, (o12, o13, o14, o15, o16, o17, o18) = t19 ∧ St [{ target := .fn (.func 53) #[.pointer (some ⟨b10, 0, none⟩), .pointer (some ⟨b4, 0, none⟩), .pointer (some ⟨b5, 0, none⟩)], args := #[] }] E [] w0 27 a w [(6, .pointer (some ⟨b4, 0, none⟩)), (7, .pointer (some ⟨b5, 0, none⟩))] [eBox b4 23 [.int .i64 0, .int .i64 0], eBox b5 24 [.int .i64 0], eBox b10 65 [.int .i64 o12, .int .i64 o13, .int .i64 o14, .int .i64 o15, .int .i64 o16, .int .i64 o17, .int .i64 o18]] []) ?_ (fun a w hI => ?_)
  · refine sSeq (fun K21 hK21 => ?_)
    refine sRegion ?_
    refine sField (b := b10) (off := 0) 6 6 S (wN rfl) rfl (by kernel_rfl) (by kernel_rfl) rfl rfl (by decide) (fun a S => ?_)
    refine sLoad1 (p := b10) (off := 6) (T := 65) (vs := [.int .i64 r7.a.Num, .int .i64 r7.a.Den, .int .i64 r7.b.Num, .int .i64 r7.b.Den, .int .i64 r7.out.Num, .int .i64 r7.out.Den, .int .i64 r7.e]) 0 (.int .i64 r7.e) S (wN rfl) rfl (by kernel_rfl) (by kernel_rfl) (by kernel_rfl) rfl rfl (by decide) (fun a S => ?_)
    refine sBin (.bool (r7.e == 0)) S (wN rfl) rfl (by kernel_rfl) (by kernel_rfl) (bEq _ _ _ _ .i64 r7.e 0) rfl (by decide) (fun a S => ?_)
    refine leafL (leafT (hK21 _ _ ?_))
    rcases iteSome h with ⟨hc22, h⟩ | ⟨hc22, h⟩
    · refine sCondT (b := r7.e == 0) S (by kernel_rfl) hc22 ?_
      refine sRegion ?_
      refine sMove (.func (.func 42) #[] #[]) S (wN rfl) (.inl rfl) (by kernel_rfl) rfl (by decide) (fun a S => ?_)
      refine sField (b := b10) (off := 0) 0 0 S (wN rfl) rfl (by kernel_rfl) (by kernel_rfl) rfl rfl (by decide) (fun a S => ?_)
      refine sLoadN (p := b10) (off := 0) (T := 65) (vs := [.int .i64 r7.a.Num, .int .i64 r7.a.Den, .int .i64 r7.b.Num, .int .i64 r7.b.Den, .int .i64 r7.out.Num, .int .i64 r7.out.Den, .int .i64 r7.e]) 0 [.int .i64 r7.a.Num, .int .i64 r7.a.Den] S (wN rfl) rfl (by kernel_rfl) (by kernel_rfl) (by kernel_rfl) (by kernel_rfl) rfl rfl (by decide) (fun a S => ?_)
      refine sField (b := b10) (off := 0) 2 2 S (wN rfl) rfl (by kernel_rfl) (by kernel_rfl) rfl rfl (by decide) (fun a S => ?_)
      refine sLoadN (p := b10) (off := 2) (T := 65) (vs := [.int .i64 r7.a.Num, .int .i64 r7.a.Den, .int .i64 r7.b.Num, .int .i64 r7.b.Den, .int .i64 r7.out.Num, .int .i64 r7.out.Den, .int .i64 r7.e]) 0 [.int .i64 r7.b.Num, .int .i64 r7.b.Den] S (wN rfl) rfl (by kernel_rfl) (by kernel_rfl) (by kernel_rfl) (by kernel_rfl) rfl rfl (by decide) (fun a S => ?_)
      obtain ⟨r23, hx24, h⟩ := bindSome h
      have S1 := S.mem
      have S1 := S1.learn (fRep r_api_Ratio (.agg #[.int .i64 r7.a.Num, .int .i64 r7.a.Den]) r7.a) rfl
      have S1 := S1.learn (fRep r_api_Ratio (.agg #[.int .i64 r7.b.Num, .int .i64 r7.b.Den]) r7.b) rfl
      refine sCallVQ (X := Unit) (g := 42) (vs := [.agg #[.int .i64 r7.a.Num, .int .i64 r7.a.Den], .agg #[.int .i64 r7.b.Num, .int .i64 r7.b.Den]]) (caps := []) (val := fun _ => .tuple #[.int .i64 r23.1, .int .i64 r23.2]) S (wN rfl) rfl (by kernel_rfl) callee42 (by kernel_rfl) (S1.quiet [1, 0] (by kernel_rfl)) (fun E1 w1 S1 => c_yarn_Div_1 E1 w1 r7.a (.agg #[.int .i64 r7.a.Num, .int .i64 r7.a.Den]) r7.b (.agg #[.int .i64 r7.b.Num, .int .i64 r7.b.Den]) r23 hx24 S1) rfl (by decide) (fun _ a w S => ?_)
      refine sExtract (vs := [.int .i64 r23.1, .int .i64 r23.2]) (.int .i64 r23.1) S (wN rfl) rfl (by kernel_rfl) rfl rfl (by decide) (fun a S => ?_)
      refine sExtract (vs := [.int .i64 r23.1, .int .i64 r23.2]) (.int .i64 r23.2) S (wN rfl) rfl (by kernel_rfl) rfl rfl (by decide) (fun a S => ?_)
      obtain ⟨r25, hx26, h⟩ := bindSome h
      refine sCall (X := Unit) (f := 54) (vs := [.pointer (some ⟨b10, 0, none⟩), .int .i64 r23.1, .int .i64 r23.2]) (val := fun _ => .tuple #[]) (B' := fun _ => [eBox b10 65 [.int .i64 r25.a.Num, .int .i64 r25.a.Den, .int .i64 r25.b.Num, .int .i64 r25.b.Den, .int .i64 r25.out.Num, .int .i64 r25.out.Den, .int .i64 r25.e]]) (D' := fun _ => []) [eBox b10 65 [.int .i64 r7.a.Num, .int .i64 r7.a.Den, .int .i64 r7.b.Num, .int .i64 r7.b.Den, .int .i64 r7.out.Num, .int .i64 r7.out.Den, .int .i64 r7.e]] [eBox b5 24 [.int .i64 0], eBox b4 23 [.int .i64 0, .int .i64 0], eBox b3 23 [.int .i64 p1.Num, .int .i64 p1.Den], eBox b2 23 [.int .i64 p0.Num, .int .i64 p0.Den]] [] [0, 1, 2, 3, 4] [] S (wN rfl) rfl callee54 (by kernel_rfl) (by decide) (by kernel_rfl) (by kernel_rfl) (fun E1 w1 S1 => c_yarn_calc_set_s1 E1 w1 r7 b10 r23.1 r23.2 r25 hx26 S1) rfl (by decide) (fun _ a w S => ?_)
      exact leafL (leafT (⟨r25.a.Num, r25.a.Den, r25.b.Num, r25.b.Den, r25.out.Num, r25.out.Den, r25.e, Option.some.inj h, S.fix [2, 1, 0] [] (by decide) (by kernel_rfl) (by kernel_rfl) (by kernel_rfl)⟩))
    · refine sCondF (b := r7.e == 0) S (by kernel_rfl) hc22 ?_
      exact wp_skip (leafT (⟨r7.a.Num, r7.a.Den, r7.b.Num, r7.b.Den, r7.out.Num, r7.out.Den, r7.e, Option.some.inj h, S.fix [2, 1, 0] [] (by decide) (by kernel_rfl) (by kernel_rfl) (by kernel_rfl)⟩))
  · obtain ⟨o12, o13, o14, o15, o16, o17, o18, rfl, S⟩ := hI
    have h := g20
    clear g20
    try dsimp only at h
    refine sSeq (fun K27 hK27 => ?_)
    refine sDraw (nf := [2, 3]) (W := [(0, 25, .agg #[.int .i64 0, .int .i64 0]), (1, 26, .int .i64 0)]) (by kernel_rfl) S ?_
    refine node_by (A := [[], [], [0], [0, 1, 2]]) (nf := [2, 3]) (Y := []) (W := [(0, 25, .agg #[.int .i64 0, .int .i64 0]), (1, 26, .int .i64 0)]) 4 (by kernel_rfl) (by kernel_rfl) (by kernel_rfl) (by kernel_rfl) (by kernel_rfl) [0, 1] (by kernel_rfl) (by decide) (by decide) (aF 0 3 (by decide) ?_ (aF 1 2 (by decide) ?_ (aN 2 1 (by decide) ?_ (aB 3 0 2 (by decide) (trivial))))) [] (fun q hq => by cases hq) (fun hY => absurd (hY 2 (by decide)) (by decide))
    · refine fI 25 (.agg #[.int .i64 0, .int .i64 0]) [(6, .pointer (some ⟨b4, 0, none⟩))] 0 [none] rfl rfl (by kernel_rfl) rfl (by kernel_rfl) (by kernel_rfl) fun G a w S => ?_
      refine sLoadN (p := b4) (off := 0) (T := 23) (vs := [.int .i64 0, .int .i64 0]) 0 [.int .i64 0, .int .i64 0] S (wN rfl) rfl (by kernel_rfl) (by kernel_rfl) (by kernel_rfl) (by kernel_rfl) rfl rfl (by decide) (fun a S => ?_)
      exact leafL ⟨rfl, S⟩
    · refine fI 26 (.int .i64 0) [(7, .pointer (some ⟨b5, 0, none⟩))] 1 [none] rfl rfl (by kernel_rfl) rfl (by kernel_rfl) (by kernel_rfl) fun G a w S => ?_
      refine sLoad1 (p := b5) (off := 0) (T := 24) (vs := [.int .i64 0]) 1 (.int .i64 0) S (wN rfl) rfl (by kernel_rfl) (by kernel_rfl) (by kernel_rfl) rfl rfl (by decide) (fun a S => ?_)
      exact leafL ⟨rfl, S⟩
    · refine ⟨_, [(6, .pointer (some ⟨b4, 0, none⟩)), (25, .agg #[.int .i64 0, .int .i64 0])], rfl, (srcs_of [none, some 0] rfl (by kernel_rfl) (by kernel_rfl)), fun G a w S => ?_⟩
      refine sStore (p := b4) (off := 0) (T := 23) (vs := [.int .i64 0, .int .i64 0]) (v := .agg #[.int .i64 0, .int .i64 0]) 0 [.int .i64 0, .int .i64 0] S (wN rfl) rfl (by kernel_rfl) (by kernel_rfl) rfl (by kernel_rfl) (by kernel_rfl) rfl (by simp) rfl (fun a w S => ?_)
      refine leafL ⟨rfl, _, _, .inr ⟨[], rfl, S, hz_of (by kernel_rfl), ?_⟩⟩
      refine node_by (A := [[], [], [0], [0, 1, 2]]) (nf := [2, 3]) (Y := [2]) 4 (by kernel_rfl) (by kernel_rfl) (by kernel_rfl) (by kernel_rfl) (by kernel_rfl) [0, 1] (by kernel_rfl) (by decide) (by decide) (aD 0 3 2 (by decide) (aF 1 2 (by decide) ?_ (aY 2 1 (by decide) (aN 3 0 (by decide) ?_ (trivial))))) [] (fun q hq => by cases hq) (fun hY => absurd (hY 3 (by decide)) (by decide))
      · refine fI 26 (.int .i64 0) [(7, .pointer (some ⟨b5, 0, none⟩))] 1 [none] rfl rfl (by kernel_rfl) rfl (by kernel_rfl) (by kernel_rfl) fun G a w S => ?_
        refine sLoad1 (p := b5) (off := 0) (T := 24) (vs := [.int .i64 0]) 1 (.int .i64 0) S (wN rfl) rfl (by kernel_rfl) (by kernel_rfl) (by kernel_rfl) rfl rfl (by decide) (fun a S => ?_)
        exact leafL ⟨rfl, S⟩
      · refine ⟨_, [(7, .pointer (some ⟨b5, 0, none⟩)), (26, .int .i64 0)], rfl, (srcs_of [none, some 1] rfl (by kernel_rfl) (by kernel_rfl)), fun G a w S => ?_⟩
        refine sStore (p := b5) (off := 0) (T := 24) (vs := [.int .i64 0]) (v := .int .i64 0) 1 [.int .i64 0] S (wN rfl) rfl (by kernel_rfl) (by kernel_rfl) rfl (by kernel_rfl) (by kernel_rfl) rfl (by simp) rfl (fun a w S => ?_)
        refine leafL ⟨rfl, _, _, .inr ⟨[], rfl, S, hz_of (by kernel_rfl), ?_⟩⟩
        refine node_by (A := [[], [], [0], [0, 1, 2]]) (nf := [2, 3]) (Y := [3, 2]) 4 (by kernel_rfl) (by kernel_rfl) (by kernel_rfl) (by kernel_rfl) (by kernel_rfl) [0, 1] (by kernel_rfl) (by decide) (by decide) (aD 0 3 3 (by decide) (aD 1 2 3 (by decide) (aY 2 1 (by decide) (aY 3 0 (by decide) (trivial))))) [(6, .pointer (some ⟨b4, 0, none⟩)), (7, .pointer (some ⟨b5, 0, none⟩))] (fin_of [none, none] rfl (by kernel_rfl) (by kernel_rfl)) (fun _ a w S => ?_)
        · refine leafT (hK27 _ _ ?_)
          obtain ⟨r28, hx29, h⟩ := bindSome h
          refine wp_ret (sLeave (X := Unit) (val := fun _ => .tuple #[]) (B' := fun _ => [eBox b10 65 [.int .i64 r28.1.a.Num, .int .i64 r28.1.a.Den, .int .i64 r28.1.b.Num, .int .i64 r28.1.b.Den, .int .i64 r28.1.out.Num, .int .i64 r28.1.out.Den, .int .i64 r28.1.e], eBox b4 23 [.int .i64 r28.2.1.Num, .int .i64 r28.2.1.Den], eBox b5 24 [.int .i64 r28.2.2]]) (D' := fun _ => []) [eBox b10 65 [.int .i64 o12, .int .i64 o13, .int .i64 o14, .int .i64 o15, .int .i64 o16, .int .i64 o17, .int .i64 o18], eBox b4 23 [.int .i64 0, .int .i64 0], eBox b5 24 [.int .i64 0]] [] [] [2, 1, 0] [] S callee53 (by decide) (by kernel_rfl) rfl (fun E1 w1 S1 => d_yarn_run_1_s0 E1 w1 (yarn_calc.mk (api_Ratio.mk o12 o13) (api_Ratio.mk o14 o15) (api_Ratio.mk o16 o17) o18) b10 (api_Ratio.mk 0 0) b4 0 b5 r28 hx29 S1) (fun _ a w S => ?_))
          obtain rfl := Option.some.inj h
          have S := S.learn (fRep r_api_Ratio (.agg #[.int .i64 r28.2.1.Num, .int .i64 r28.2.1.Den]) r28.2.1) rfl
          exact sFin (.tuple #[.agg #[.int .i64 r28.2.1.Num, .int .i64 r28.2.1.Den], .int .i64 r28.2.2]) S (rsl2 rfl (rvN (c := 6) (t := 23) (T := 23) (p := b4) 1 [.int .i64 r28.2.1.Num, .int .i64 r28.2.1.Den] S (by kernel_rfl) (by kernel_rfl) (by kernel_rfl) (by kernel_rfl)) (rv1 (c := 7) (t := 24) (T := 24) (p := b5) 2 (.int .i64 r28.2.2) S (by kernel_rfl) (by kernel_rfl) (by kernel_rfl))) ⟨(.agg #[.int .i64 r28.2.1.Num, .int .i64 r28.2.1.Den]), rfl, S.mem.sel [] [0] (by decide) (by kernel_rfl) (by kernel_rfl)⟩

end Go.Proofs.Ytdfjcpnflmgdoaa
namespace Go.Proofs.Ytdfjcpnflmgdoaa
open Go.RowKit
set_option linter.unusedVariables false

noncomputable def F_yarn_Div (p0 : api_Ratio) (p1 : api_Ratio) : Option (api_Ratio × Int) :=
  Option.bind (F_yarn_run_s3 p0 p1) fun r6 =>
  some (r6.1, r6.2)
def c_yarn_Div_val (r : (api_Ratio × Int)) (x : Value) : Value := .tuple #[x, .int .i64 r.2]
def c_yarn_Div_D (r : (api_Ratio × Int)) (x : Value) : List Fact := [fRep r_api_Ratio x r.1]
set_option maxHeartbeats 4000000 in
set_option maxRecDepth 100000 in
theorem c_yarn_Div (E : Nat → Prop) (w0 : World) (p0 : api_Ratio) (v0 : Value) (p1 : api_Ratio) (v1 : Value) (r : (api_Ratio × Int)) (h : F_yarn_Div p0 p1 = some r) (S : St0 E [] w0 w0 [] [fRep r_api_Ratio (v0) p0, fRep r_api_Ratio (v1) p1]) :
    Calls Try.prog 14 #[v0, v1] w0 (Ret (X := Value) E [] w0 (c_yarn_Div_val r) (fun _ => []) (c_yarn_Div_D r)) := by
  unfold F_yarn_Div at h
  obtain rfl : v0 = .agg #[.int .i64 p0.Num, .int .i64 p0.Den] := S.know (i := 0) (e := fRep r_api_Ratio (v0) p0) (by kernel_rfl)
  obtain rfl : v1 = .agg #[.int .i64 p1.Num, .int .i64 p1.Den] := S.know (i := 1) (e := fRep r_api_Ratio (v1) p1) (by kernel_rfl)
  refine sEnter (args := [.agg #[.int .i64 p0.Num, .int .i64 p0.Den], .agg #[.int .i64 p1.Num, .int .i64 p1.Den]]) 11 Try.func14 rfl rfl (by simp) S (fun a S => ?_)
  refine sSeq (fun K1 hK1 => ?_)
  refine sRegion ?_
  refine sBox (v := .agg #[.int .i64 p0.Num, .int .i64 p0.Den]) S (wN rfl) rfl (by kernel_rfl) [.int .i64 p0.Num, .int .i64 p0.Den] rfl rfl (by decide) (fun a b2 w S => ?_)
  refine sBox (v := .agg #[.int .i64 p1.Num, .int .i64 p1.Den]) S (wN rfl) rfl (by kernel_rfl) [.int .i64 p1.Num, .int .i64 p1.Den] rfl rfl (by decide) (fun a b3 w S => ?_)
  refine sAlloc (.agg #[.int .i64 0, .int .i64 0]) S (wN rfl) rfl (by kernel_rfl) [.int .i64 0, .int .i64 0] rfl rfl (by decide) (fun a b4 w S => ?_)
  refine sMove (.int .i64 0) S (wN rfl) (.inr rfl) (by kernel_rfl) rfl (by decide) (fun a S => ?_)
  refine leafL (leafT (hK1 _ _ ?_))
  refine sSeq (fun K5 hK5 => ?_)
  refine sRegion ?_
  refine sLoadN (p := b2) (off := 0) (T := 23) (vs := [.int .i64 p0.Num, .int .i64 p0.Den]) 2 [.int .i64 p0.Num, .int .i64 p0.Den] S (wN rfl) rfl (by kernel_rfl) (by kernel_rfl) (by kernel_rfl) (by kernel_rfl) rfl rfl (by decide) (fun a S => ?_)
  refine sLoadN (p := b3) (off := 0) (T := 23) (vs := [.int .i64 p1.Num, .int .i64 p1.Den]) 1 [.int .i64 p1.Num, .int .i64 p1.Den] S (wN rfl) rfl (by kernel_rfl) (by kernel_rfl) (by kernel_rfl) (by kernel_rfl) rfl rfl (by decide) (fun a S => ?_)
  obtain ⟨r6, hx7, h⟩ := bindSome h
  refine sCall (X := Value) (f := 33) (vs := [.agg #[.int .i64 p0.Num, .int .i64 p0.Den], .agg #[.int .i64 p1.Num, .int .i64 p1.Den], .func (.func 42) #[] #[]]) (val := c_yarn_run_s3_val r6) (B' := fun _ => []) (D' := c_yarn_run_s3_D r6) [] [eBox b4 23 [.int .i64 0, .int .i64 0], eBox b3 23 [.int .i64 p1.Num, .int .i64 p1.Den], eBox b2 23 [.int .i64 p0.Num, .int .i64 p0.Den]] [fRep r_api_Ratio (.agg #[.int .i64 p0.Num, .int .i64 p0.Den]) p0, fRep r_api_Ratio (.agg #[.int .i64 p1.Num, .int .i64 p1.Den]) p1] [0, 1, 2] [0, 1] S (wN rfl) rfl callee33 (by kernel_rfl) (by decide) (by kernel_rfl) (by kernel_rfl) (fun E1 w1 S1 => c_yarn_run_s3 E1 w1 p0 (.agg #[.int .i64 p0.Num, .int .i64 p0.Den]) p1 (.agg #[.int .i64 p1.Num, .int .i64 p1.Den]) r6 hx7 S1) rfl (by decide) (fun u8 a w S => ?_)
  obtain rfl : u8 = .agg #[.int .i64 r6.1.Num, .int .i64 r6.1.Den] := S.mem.know (i := 0) (e := fRep r_api_Ratio (u8) r6.1) (by kernel_rfl)
  refine sExtract (vs := [.agg #[.int .i64 r6.1.Num, .int .i64 r6.1.Den], .int .i64 r6.2]) (.agg #[.int .i64 r6.1.Num, .int .i64 r6.1.Den]) S (wN rfl) rfl (by kernel_rfl) rfl rfl (by decide) (fun a S => ?_)
  refine sExtract (vs := [.agg #[.int .i64 r6.1.Num, .int .i64 r6.1.Den], .int .i64 r6.2]) (.int .i64 r6.2) S (wN rfl) rfl (by kernel_rfl) rfl rfl (by decide) (fun a S => ?_)
  refine sStore (p := b4) (off := 0) (T := 23) (vs := [.int .i64 0, .int .i64 0]) (v := .agg #[.int .i64 r6.1.Num, .int .i64 r6.1.Den]) 0 [.int .i64 r6.1.Num, .int .i64 r6.1.Den] S (wN rfl) rfl (by kernel_rfl) (by kernel_rfl) rfl (by kernel_rfl) (by kernel_rfl) rfl (by simp) rfl (fun a w S => ?_)
  refine sMove (.int .i64 r6.2) S (wN rfl) (.inr rfl) (by kernel_rfl) rfl (by decide) (fun a S => ?_)
  refine leafL (leafT (hK5 _ _ ?_))
  obtain rfl := Option.some.inj h
  exact wp_ret (sRet (.tuple #[.agg #[.int .i64 r6.1.Num, .int .i64 r6.1.Den], .int .i64 r6.2]) S (rsl2 rfl (rvN (c := 4) (t := 23) (T := 23) (p := b4) 0 [.int .i64 r6.1.Num, .int .i64 r6.1.Den] S (by kernel_rfl) (by kernel_rfl) (by kernel_rfl) (by kernel_rfl)) (rvT (t := 5) (v := .int .i64 r6.2) S (by kernel_rfl))) ⟨(.agg #[.int .i64 r6.1.Num, .int .i64 r6.1.Den]), rfl, S.mem.sel [] [0] (by decide) (by kernel_rfl) (by kernel_rfl)⟩)

end Go.Proofs.Ytdfjcpnflmgdoaa
