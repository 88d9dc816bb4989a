/- Several texts in one: G3 PlGd PlBk PlBp LBF FrBlockFills -/
import Derived.WalkKit
import Derived.Maps.AppendAt
import Derived.Deep.AppendLies
import Derived.KernelRfl
import Derived.Laws.OwnMore
import Derived.Great.BuildSlice
import Derived.Orders
import Derived.Laws.StructEq
import Derived.ChangeKeysEq
import Derived.Defers
import Derived.Laws.BytesString
import Derived.RangeFuncNested
import Derived.RangeFuncBound
import Derived.RangeFuncCalls
import Derived.RangeFuncLeaves
import Derived.OrdersIn
import Derived.LoopNIn
import Derived.ArgAppend
import Derived.Test.YthfifeabomdlpaaProg
import Derived.ProofKit
import Derived.OpenShut
import Derived.ChangeOld
import Derived.Deep.Slices
import Derived.Lib.SmallJoins
import Derived.JoinedOf
import Derived.JoinedAt
import Derived.Below
import Derived.Test.YthfifeabomdlpaaRows
import Derived.Test.YthfifeabomdlpaaMBlockFills3
namespace Go.Proofs.Ythfifeabomdlpaa
open Go.RowKit
set_option linter.unusedVariables false

def anc_raddlelaw13_BlockFills_0 : List (List Nat) := [[], [0], [], [0, 1, 2], [], [0, 1, 2, 3, 4], [], [], [], [0, 1, 2, 3, 4, 5, 6, 7, 8], [0, 1, 2, 3, 4, 5, 6, 7, 8, 9], [0, 1, 2, 3, 4, 5, 6, 7, 8, 9, 10]]
noncomputable def F_raddlelaw13_BlockFills (p0 : api_Grid) (p1 : api_Grid) (p2 : api_Grid) : Option Bool :=
  Option.bind (α := Bool) (
    Option.bind (F_raddleref01_Great p0) fun r21 =>
    if r21 then
      some true
    else
      Option.bind (F_raddleref01_Great p1) fun r24 =>
      if r24 then
        some true
      else
        Option.bind (F_raddleref01_Great p2) fun r27 =>
        some r27) fun o18 =>
  if o18 then
    some true
  else
    Option.bind (F_raddleref01_Twin p0) fun r32 =>
    Option.bind (F_raddleref01_Twin p1) fun r39 =>
    Option.bind (F_raddleref01_Twin p2) fun r46 =>
    Option.bind (F_block_Fill r32 r39 r46) fun r75 =>
    Option.bind (F_raddleref13_Fill p0 p1 p2) fun r84 =>
    Option.bind (F_block_Profile r32 r39 r46) fun r93 =>
    Option.bind (F_raddleref13_Profile p0 p1 p2) fun r102 =>
    Option.bind (α := Bool) (
      Option.bind (F_raddleref01_Same r75.1 r84.1) fun r113 =>
      if r113 then
        if r75.2 == r84.2 then
          Option.bind (F_raddleref01_Same r93.1 r102.1) fun r117 =>
          if r117 then
            if r93.2 == r102.2 then
              Option.bind (F_raddleref01_Same r32 p0) fun r121 =>
              if r121 then
                Option.bind (F_raddleref01_Same r39 p1) fun r124 =>
                if r124 then
                  Option.bind (F_raddleref01_Same r46 p2) fun r127 =>
                  some r127
                else
                  some false
              else
                some false
            else
              some false
          else
            some false
        else
          some false
      else
        some false) fun o110 =>
    some o110
set_option maxHeartbeats 4000000 in
set_option maxRecDepth 100000 in
theorem c_raddlelaw13_BlockFills (E : Nat → Prop) (w0 : World) (p0 : api_Grid) (v0 : Value) (p1 : api_Grid) (v1 : Value) (p2 : api_Grid) (v2 : Value) (r : Bool) (h : F_raddlelaw13_BlockFills p0 p1 p2 = some r) (S : St0 E [] w0 w0 [] [fRep r_api_Grid (v0) p0, fRep r_api_Grid (v1) p1, fRep r_api_Grid (v2) p2]) :
    Calls Try.prog 3 #[v0, v1, v2] w0 (Ret (X := Unit) E [] w0 (fun _ => .bool r) (fun _ => []) (fun _ => [])) := by
  unfold F_raddlelaw13_BlockFills at h
  obtain ⟨u1, rfl, hu2⟩ := S.know (i := 0) (e := fRep r_api_Grid (v0) p0) rfl
  have S := S.learn (fRep (rL rB) u1 p0.Bits) hu2
  obtain ⟨ad3, cp4, _, rfl, _⟩ := hu2
  obtain ⟨u5, rfl, hu6⟩ := S.know (i := 2) (e := fRep r_api_Grid (v1) p1) rfl
  have S := S.learn (fRep (rL rB) u5 p1.Bits) hu6
  obtain ⟨ad7, cp8, _, rfl, _⟩ := hu6
  obtain ⟨u9, rfl, hu10⟩ := S.know (i := 4) (e := fRep r_api_Grid (v2) p2) rfl
  have S := S.learn (fRep (rL rB) u9 p2.Bits) hu10
  obtain ⟨ad11, cp12, _, rfl, _⟩ := hu10
  refine sEnter (args := [.agg #[iv p0.W, iv p0.H, .slice ad3 p0.Bits.length cp4], .agg #[iv p1.W, iv p1.H, .slice ad7 p1.Bits.length cp8], .agg #[iv p2.W, iv p2.H, .slice ad11 p2.Bits.length cp12]]) 95 Try.func3 rfl rfl (by simp) S (fun a S => ?_)
  refine sSeq (fun K13 hK13 => ?_)
  refine sRegion ?_
  refine sBox (v := .agg #[iv p0.W, iv p0.H, .slice ad3 p0.Bits.length cp4]) S (wN rfl) rfl rfl [iv p0.W, iv p0.H, .slice ad3 p0.Bits.length cp4] rfl rfl (lb rfl) fun a b14 w S => ?_
  refine sBox (v := .agg #[iv p1.W, iv p1.H, .slice ad7 p1.Bits.length cp8]) S (wN rfl) rfl rfl [iv p1.W, iv p1.H, .slice ad7 p1.Bits.length cp8] rfl rfl (lb rfl) fun a b15 w S => ?_
  refine sBox (v := .agg #[iv p2.W, iv p2.H, .slice ad11 p2.Bits.length cp12]) S (wN rfl) rfl rfl [iv p2.W, iv p2.H, .slice ad11 p2.Bits.length cp12] rfl rfl (lb rfl) fun a b16 w S => ?_
  refine sMove (.bool false) S (wN rfl) (.inr rfl) rfl rfl (lb rfl) fun a S => ?_
  refine leafL (leafT (hK13 _ _ ?_))
  refine sSeq (fun K17 hK17 => ?_)
  obtain ⟨t19, h, g20⟩ := bindSome h
  refine sCut (fun a w => ∃ o18, o18 = t19 ∧ St [] E [] w0 95 a w [(3, .pointer (some ⟨b14, 0, none⟩)), (4, .pointer (some ⟨b15, 0, none⟩)), (5, .pointer (some ⟨b16, 0, none⟩)), (27, .bool o18)] [eBox b14 24 [iv p0.W, iv p0.H, .slice ad3 p0.Bits.length cp4], eBox b15 24 [iv p1.W, iv p1.H, .slice ad7 p1.Bits.length cp8], eBox b16 24 [iv p2.W, iv p2.H, .slice ad11 p2.Bits.length cp12]] [fRep (rL rB) (.slice ad3 p0.Bits.length cp4) p0.Bits, fRep (rL rB) (.slice ad7 p1.Bits.length cp8) p1.Bits, fRep (rL rB) (.slice ad11 p2.Bits.length cp12) p2.Bits]) ?_ (fun a w hI => ?_)
  · refine sRegion ?_
    refine sLoadN (p := b14) (off := 0) (T := 24) (vs := [iv p0.W, iv p0.H, .slice ad3 p0.Bits.length cp4]) 2 [iv p0.W, iv p0.H, .slice ad3 p0.Bits.length cp4] S (wN rfl) rfl rfl rfl rfl rfl rfl rfl (lb rfl) fun a S => ?_
    obtain ⟨r21, hx22, h⟩ := bindSome h
    have S1 := S.mem
    refine sCallQ (X := Unit) (f := 11) (vs := [.agg #[iv p0.W, iv p0.H, .slice ad3 p0.Bits.length cp4]]) (val := fun _ => .bool r21) S (wN rfl) rfl callee11 rfl (S1.quiet [3] rfl) (fun E1 w1 S1 => c_raddleref01_Great E1 w1 p0 (.agg #[iv p0.W, iv p0.H, .slice ad3 p0.Bits.length cp4]) r21 hx22 S1) rfl (lb rfl) fun _ a w S => ?_
    refine sMove (.bool r21) S (wN rfl) (.inl rfl) rfl rfl (lb rfl) fun a S => ?_
    rcases iteSome h with ⟨hc23, h⟩ | ⟨hc23, h⟩
    · refine sSkip 2 false 20 21 S rfl rfl rfl hc23 rfl (lb rfl) fun a S => ?_
      refine sSkip 2 false 20 22 S rfl rfl rfl hc23 rfl (lb rfl) fun a S => ?_
      refine sPickT (.bool true) S (wN rfl) rfl rfl hc23 rfl rfl (lb rfl) fun a S => ?_
      refine sMove (.bool true) S (wN rfl) (.inl rfl) rfl rfl (lb rfl) fun a S => ?_
      refine sSkip 6 false 24 25 S rfl rfl rfl rfl rfl (lb rfl) fun a S => ?_
      refine sSkip 6 false 24 26 S rfl rfl rfl rfl rfl (lb rfl) fun a S => ?_
      refine sPickT (.bool true) S (wN rfl) rfl rfl rfl rfl rfl (lb rfl) fun a S => ?_
      exact leafL (leafT (⟨true, Option.some.inj h, S.fix [2, 1, 0] [2, 1, 0] (by decide) rfl rfl rfl⟩))
    refine sLoadN (p := b15) (off := 0) (T := 24) (vs := [iv p1.W, iv p1.H, .slice ad7 p1.Bits.length cp8]) 1 [iv p1.W, iv p1.H, .slice ad7 p1.Bits.length cp8] S (wG 2 false 20 rfl rfl rfl hc23) rfl rfl rfl rfl rfl rfl rfl (lb rfl) fun a S => ?_
    obtain ⟨r24, hx25, h⟩ := bindSome h
    have S1 := S.mem
    refine sCallQ (X := Unit) (f := 11) (vs := [.agg #[iv p1.W, iv p1.H, .slice ad7 p1.Bits.length cp8]]) (val := fun _ => .bool r24) S (wG 2 false 20 rfl rfl rfl hc23) rfl callee11 rfl (S1.quiet [4] rfl) (fun E1 w1 S1 => c_raddleref01_Great E1 w1 p1 (.agg #[iv p1.W, iv p1.H, .slice ad7 p1.Bits.length cp8]) r24 hx25 S1) rfl (lb rfl) fun _ a w S => ?_
    refine sPickF (.bool r24) S (wN rfl) rfl rfl hc23 rfl rfl (lb rfl) fun a S => ?_
    refine sMove (.bool r24) S (wN rfl) (.inl rfl) rfl rfl (lb rfl) fun a S => ?_
    rcases iteSome h with ⟨hc26, h⟩ | ⟨hc26, h⟩
    · refine sSkip 6 false 24 25 S rfl rfl rfl hc26 rfl (lb rfl) fun a S => ?_
      refine sSkip 6 false 24 26 S rfl rfl rfl hc26 rfl (lb rfl) fun a S => ?_
      refine sPickT (.bool true) S (wN rfl) rfl rfl hc26 rfl rfl (lb rfl) fun a S => ?_
      exact leafL (leafT (⟨true, Option.some.inj h, S.fix [2, 1, 0] [2, 1, 0] (by decide) rfl rfl rfl⟩))
    refine sLoadN (p := b16) (off := 0) (T := 24) (vs := [iv p2.W, iv p2.H, .slice ad11 p2.Bits.length cp12]) 0 [iv p2.W, iv p2.H, .slice ad11 p2.Bits.length cp12] S (wG 6 false 24 rfl rfl rfl hc26) rfl rfl rfl rfl rfl rfl rfl (lb rfl) fun a S => ?_
    obtain ⟨r27, hx28, h⟩ := bindSome h
    have S1 := S.mem
    refine sCallQ (X := Unit) (f := 11) (vs := [.agg #[iv p2.W, iv p2.H, .slice ad11 p2.Bits.length cp12]]) (val := fun _ => .bool r27) S (wG 6 false 24 rfl rfl rfl hc26) rfl callee11 rfl (S1.quiet [5] rfl) (fun E1 w1 S1 => c_raddleref01_Great E1 w1 p2 (.agg #[iv p2.W, iv p2.H, .slice ad11 p2.Bits.length cp12]) r27 hx28 S1) rfl (lb rfl) fun _ a w S => ?_
    refine sPickF (.bool r27) S (wN rfl) rfl rfl hc26 rfl rfl (lb rfl) fun a S => ?_
    exact leafL (leafT (⟨r27, Option.some.inj h, S.fix [2, 1, 0] [2, 1, 0] (by decide) rfl rfl rfl⟩))
  obtain ⟨o18, rfl, S⟩ := hI
  have h := g20
  clear g20
  try dsimp only at h
  rcases iteSome h with ⟨hc29, h⟩ | ⟨hc29, h⟩
  · refine sCondT S rfl hc29 ?_
    refine sSeq (fun K30 hK30 => ?_)
    refine sRegion ?_
    refine sMove (.bool true) S (wN rfl) (.inr rfl) rfl rfl (lb rfl) fun a S => ?_
    refine leafL (leafT (hK30 _ _ ?_))
    obtain rfl := Option.some.inj h
    exact wp_ret (rThen (sRet (.bool true) S (rsl1 rfl (rvT (t := 6) (v := .bool true) S rfl)) ⟨(), rfl, S.mem.sel [] [] (by decide) rfl rfl⟩))
  refine sCondF S rfl hc29 ?_
  refine wp_skip (leafT (hK17 _ _ ?_))
  refine sSeq (fun K31 hK31 => ?_)
  obtain ⟨r32, hx33, h⟩ := bindSome h
  obtain ⟨r39, hx40, h⟩ := bindSome h
  obtain ⟨r46, hx47, h⟩ := bindSome h
  refine sDraw (nf := [1, 3, 5, 6, 7, 8, 9, 10, 11]) (W := [(0, 28, .agg #[iv p0.W, iv p0.H, .slice ad3 p0.Bits.length cp4]), (2, 30, .agg #[iv p1.W, iv p1.H, .slice ad7 p1.Bits.length cp8]), (4, 32, .agg #[iv p2.W, iv p2.H, .slice ad11 p2.Bits.length cp12])]) rfl S ?_
  refine nodeCut (fun N W L D => ∀ b73 b72 b71 ad69 cp70 ad64 cp65 ad59 cp60, N [8, 7, 6, 5, 3, 1] ((8, 9, .pointer (some ⟨b73, 0, none⟩)) :: (7, 8, .pointer (some ⟨b72, 0, none⟩)) :: (6, 7, .pointer (some ⟨b71, 0, none⟩)) :: (5, 33, .agg #[iv r46.W, iv r46.H, .slice ad69 r46.Bits.length cp70]) :: (3, 31, .agg #[iv r39.W, iv r39.H, .slice ad64 r39.Bits.length cp65]) :: (1, 29, .agg #[iv r32.W, iv r32.H, .slice ad59 r32.Bits.length cp60]) :: W) ((eBox b73 24 [iv 0, iv 0, .slice none 0 0]) :: (eBox b72 24 [iv 0, iv 0, .slice none 0 0]) :: (eBox b71 24 [iv 0, iv 0, .slice none 0 0]) :: L) ((fRep (rL rB) (.slice ad69 r46.Bits.length cp70) r46.Bits) :: (fRep r_api_Grid (.agg #[iv r46.W, iv r46.H, .slice ad69 r46.Bits.length cp70]) r46) :: (fRep r_api_Grid (.agg #[iv p2.W, iv p2.H, .slice ad11 p2.Bits.length cp12]) p2) :: (fRep (rL rB) (.slice ad64 r39.Bits.length cp65) r39.Bits) :: (fRep r_api_Grid (.agg #[iv r39.W, iv r39.H, .slice ad64 r39.Bits.length cp65]) r39) :: (fRep r_api_Grid (.agg #[iv p1.W, iv p1.H, .slice ad7 p1.Bits.length cp8]) p1) :: (fRep (rL rB) (.slice ad59 r32.Bits.length cp60) r32.Bits) :: (fRep r_api_Grid (.agg #[iv r32.W, iv r32.H, .slice ad59 r32.Bits.length cp60]) r32) :: (fRep r_api_Grid (.agg #[iv p0.W, iv p0.H, .slice ad3 p0.Bits.length cp4]) p0) :: D)) (fun b73 b72 b71 ad69 cp70 ad64 cp65 ad59 cp60 => ?_) fun nd3 => ?_
  · refine node_by (A := anc_raddlelaw13_BlockFills_0) (nf := [1, 3, 5, 6, 7, 8, 9, 10, 11]) (Y := [8, 7, 6, 5, 3, 1]) 12 (by kernel_rfl) (by kernel_rfl) (by kernel_rfl) (by kernel_rfl) (by kernel_rfl) [8, 7, 6, 5, 3, 1, 0, 2, 4] (by kernel_rfl) (by decide) (by decide) (aD 0 11 5 (by decide) (aY 1 10 (by decide) (aD 2 9 5 (by decide) (aY 3 8 (by decide) (aD 4 7 5 (by decide) (aY 5 6 (by decide) (aY 6 5 (by decide) (aY 7 4 (by decide) (aY 8 3 (by decide) (aN 9 2 (by decide) ?_ (aB 10 1 9 (by decide) (aB 11 0 9 (by decide) (trivial))))))))))))) [] (fun q hq => by cases hq) (fun hY => absurd (hY 9 (by decide)) (by decide))
    refine ⟨_, [(7, .pointer (some ⟨b71, 0, none⟩)), (29, .agg #[iv r32.W, iv r32.H, .slice ad59 r32.Bits.length cp60])], rfl, (srcs_of [some 2, some 5] rfl rfl rfl), fun G a w S => ?_⟩
    refine sStore (p := b71) (off := 0) (T := 24) (vs := [iv 0, iv 0, .slice none 0 0]) (v := .agg #[iv r32.W, iv r32.H, .slice ad59 r32.Bits.length cp60]) 2 [iv r32.W, iv r32.H, .slice ad59 r32.Bits.length cp60] S (wN rfl) rfl rfl rfl rfl rfl rfl rfl (by simp) rfl fun a w S => ?_
    refine leafL ⟨rfl, _, _, .inr ⟨[], rfl, S, hz_of rfl, ?_⟩⟩
    refine node_by (A := anc_raddlelaw13_BlockFills_0) (nf := [1, 3, 5, 6, 7, 8, 9, 10, 11]) (Y := [9, 8, 7, 6, 5, 3, 1]) 12 (by kernel_rfl) (by kernel_rfl) (by kernel_rfl) (by kernel_rfl) (by kernel_rfl) [8, 7, 6, 5, 3, 1, 0, 2, 4] (by kernel_rfl) (by decide) (by decide) (aD 0 11 9 (by decide) (aY 1 10 (by decide) (aD 2 9 9 (by decide) (aY 3 8 (by decide) (aD 4 7 9 (by decide) (aY 5 6 (by decide) (aY 6 5 (by decide) (aY 7 4 (by decide) (aY 8 3 (by decide) (aY 9 2 (by decide) (aN 10 1 (by decide) ?_ (aB 11 0 10 (by decide) (trivial))))))))))))) [] (fun q hq => by cases hq) (fun hY => absurd (hY 10 (by decide)) (by decide))
    refine ⟨_, [(8, .pointer (some ⟨b72, 0, none⟩)), (31, .agg #[iv r39.W, iv r39.H, .slice ad64 r39.Bits.length cp65])], rfl, (srcs_of [some 1, some 4] rfl rfl rfl), fun G a w S => ?_⟩
    refine sStore (p := b72) (off := 0) (T := 24) (vs := [iv 0, iv 0, .slice none 0 0]) (v := .agg #[iv r39.W, iv r39.H, .slice ad64 r39.Bits.length cp65]) 2 [iv r39.W, iv r39.H, .slice ad64 r39.Bits.length cp65] S (wN rfl) rfl rfl rfl rfl rfl rfl rfl (by simp) rfl fun a w S => ?_
    refine leafL ⟨rfl, _, _, .inr ⟨[], rfl, S, hz_of rfl, ?_⟩⟩
    refine node_by (A := anc_raddlelaw13_BlockFills_0) (nf := [1, 3, 5, 6, 7, 8, 9, 10, 11]) (Y := [10, 9, 8, 7, 6, 5, 3, 1]) 12 (by kernel_rfl) (by kernel_rfl) (by kernel_rfl) (by kernel_rfl) (by kernel_rfl) [8, 7, 6, 5, 3, 1, 0, 2, 4] (by kernel_rfl) (by decide) (by decide) (aD 0 11 10 (by decide) (aY 1 10 (by decide) (aD 2 9 10 (by decide) (aY 3 8 (by decide) (aD 4 7 10 (by decide) (aY 5 6 (by decide) (aY 6 5 (by decide) (aY 7 4 (by decide) (aY 8 3 (by decide) (aY 9 2 (by decide) (aY 10 1 (by decide) (aN 11 0 (by decide) ?_ (trivial))))))))))))) [] (fun q hq => by cases hq) (fun hY => absurd (hY 11 (by decide)) (by decide))
    refine ⟨_, [(9, .pointer (some ⟨b73, 0, none⟩)), (33, .agg #[iv r46.W, iv r46.H, .slice ad69 r46.Bits.length cp70])], rfl, (srcs_of [some 0, some 3] rfl rfl rfl), fun G a w S => ?_⟩
    refine sStore (p := b73) (off := 0) (T := 24) (vs := [iv 0, iv 0, .slice none 0 0]) (v := .agg #[iv r46.W, iv r46.H, .slice ad69 r46.Bits.length cp70]) 2 [iv r46.W, iv r46.H, .slice ad69 r46.Bits.length cp70] S (wN rfl) rfl rfl rfl rfl rfl rfl rfl (by simp) rfl fun a w S => ?_
    refine leafL ⟨rfl, _, _, .inr ⟨[], rfl, S, hz_of rfl, ?_⟩⟩
    refine node_by (A := anc_raddlelaw13_BlockFills_0) (nf := [1, 3, 5, 6, 7, 8, 9, 10, 11]) (Y := [11, 10, 9, 8, 7, 6, 5, 3, 1]) 12 (by kernel_rfl) (by kernel_rfl) (by kernel_rfl) (by kernel_rfl) (by kernel_rfl) [8, 7, 6, 5, 3, 1, 0, 2, 4] (by kernel_rfl) (by decide) (by decide) (aD 0 11 11 (by decide) (aY 1 10 (by decide) (aD 2 9 11 (by decide) (aY 3 8 (by decide) (aD 4 7 11 (by decide) (aY 5 6 (by decide) (aY 6 5 (by decide) (aY 7 4 (by decide) (aY 8 3 (by decide) (aY 9 2 (by decide) (aY 10 1 (by decide) (aY 11 0 (by decide) (trivial))))))))))))) [(3, .pointer (some ⟨b14, 0, none⟩)), (4, .pointer (some ⟨b15, 0, none⟩)), (5, .pointer (some ⟨b16, 0, none⟩)), (7, .pointer (some ⟨b71, 0, none⟩)), (8, .pointer (some ⟨b72, 0, none⟩)), (9, .pointer (some ⟨b73, 0, none⟩))] (fin_of [none, none, none, some 2, some 1, some 0] rfl (by kernel_rfl) (by kernel_rfl)) (fun _ a w S => ?_)
    refine leafT (hK31 _ _ ?_)
    refine sSeq (fun K74 hK74 => ?_)
    refine sRegion ?_
    refine sLoadN (p := b71) (off := 0) (T := 24) (vs := [iv r32.W, iv r32.H, .slice ad59 r32.Bits.length cp60]) 2 [iv r32.W, iv r32.H, .slice ad59 r32.Bits.length cp60] S (wN rfl) rfl rfl rfl rfl rfl rfl rfl (lb rfl) fun a S => ?_
    refine sLoadN (p := b72) (off := 0) (T := 24) (vs := [iv r39.W, iv r39.H, .slice ad64 r39.Bits.length cp65]) 1 [iv r39.W, iv r39.H, .slice ad64 r39.Bits.length cp65] S (wN rfl) rfl rfl rfl rfl rfl rfl rfl (lb rfl) fun a S => ?_
    refine sLoadN (p := b73) (off := 0) (T := 24) (vs := [iv r46.W, iv r46.H, .slice ad69 r46.Bits.length cp70]) 0 [iv r46.W, iv r46.H, .slice ad69 r46.Bits.length cp70] S (wN rfl) rfl rfl rfl rfl rfl rfl rfl (lb rfl) fun a S => ?_
    obtain ⟨r75, hx76, h⟩ := bindSome h
    refine sCall (X := Value) (f := 13) (vs := [.agg #[iv r32.W, iv r32.H, .slice ad59 r32.Bits.length cp60], .agg #[iv r39.W, iv r39.H, .slice ad64 r39.Bits.length cp65], .agg #[iv r46.W, iv r46.H, .slice ad69 r46.Bits.length cp70]]) (val := c_block_Fill_val r75) (B' := fun _ => []) (D' := c_block_Fill_D r75) [] [eBox b73 24 [iv r46.W, iv r46.H, .slice ad69 r46.Bits.length cp70], eBox b72 24 [iv r39.W, iv r39.H, .slice ad64 r39.Bits.length cp65], eBox b71 24 [iv r32.W, iv r32.H, .slice ad59 r32.Bits.length cp60], eBox b14 24 [iv p0.W, iv p0.H, .slice ad3 p0.Bits.length cp4], eBox b15 24 [iv p1.W, iv p1.H, .slice ad7 p1.Bits.length cp8], eBox b16 24 [iv p2.W, iv p2.H, .slice ad11 p2.Bits.length cp12]] [fRep r_api_Grid (.agg #[iv r32.W, iv r32.H, .slice ad59 r32.Bits.length cp60]) r32, fRep r_api_Grid (.agg #[iv r39.W, iv r39.H, .slice ad64 r39.Bits.length cp65]) r39, fRep r_api_Grid (.agg #[iv r46.W, iv r46.H, .slice ad69 r46.Bits.length cp70]) r46] [0, 1, 2, 3, 4, 5] [7, 4, 1] S (wN rfl) rfl callee13 rfl (by decide) rfl rfl (fun E1 w1 S1 => c_block_Fill E1 w1 r32 (.agg #[iv r32.W, iv r32.H, .slice ad59 r32.Bits.length cp60]) r39 (.agg #[iv r39.W, iv r39.H, .slice ad64 r39.Bits.length cp65]) r46 (.agg #[iv r46.W, iv r46.H, .slice ad69 r46.Bits.length cp70]) r75 hx76 S1) rfl (lb rfl) fun u77 a w S => ?_
    obtain ⟨u78, rfl, hu79⟩ := S.mem.know (i := 0) (e := fRep r_api_Grid (u77) r75.1) rfl
    have S := S.learn (fRep (rL rB) u78 r75.1.Bits) hu79
    obtain ⟨ad80, cp81, _, rfl, _⟩ := hu79
    refine sMove (.tuple #[.agg #[iv r75.1.W, iv r75.1.H, .slice ad80 r75.1.Bits.length cp81], iv r75.2]) S (wN rfl) (.inl rfl) rfl rfl (lb rfl) fun a S => ?_
    refine sExtract (vs := [.agg #[iv r75.1.W, iv r75.1.H, .slice ad80 r75.1.Bits.length cp81], iv r75.2]) (.agg #[iv r75.1.W, iv r75.1.H, .slice ad80 r75.1.Bits.length cp81]) S (wN rfl) rfl rfl rfl rfl (lb rfl) fun a S => ?_
    refine sExtract (vs := [.agg #[iv r75.1.W, iv r75.1.H, .slice ad80 r75.1.Bits.length cp81], iv r75.2]) (iv r75.2) S (wN rfl) rfl rfl rfl rfl (lb rfl) fun a S => ?_
    refine sAlloc (.agg #[iv 0, iv 0, .slice none 0 0]) S (wN rfl) rfl rfl [iv 0, iv 0, .slice none 0 0] rfl rfl (lb rfl) fun a b82 w S => ?_
    refine sStore (p := b82) (off := 0) (T := 24) (vs := [iv 0, iv 0, .slice none 0 0]) (v := .agg #[iv r75.1.W, iv r75.1.H, .slice ad80 r75.1.Bits.length cp81]) 0 [iv r75.1.W, iv r75.1.H, .slice ad80 r75.1.Bits.length cp81] S (wN rfl) rfl rfl rfl rfl rfl rfl rfl (by simp) rfl fun a w S => ?_
    refine sMove (iv r75.2) S (wN rfl) (.inr rfl) rfl rfl (lb rfl) fun a S => ?_
    refine leafL (leafT (hK74 _ _ ?_))
    refine sSeq (fun K83 hK83 => ?_)
    refine sRegion ?_
    refine sLoadN (p := b14) (off := 0) (T := 24) (vs := [iv p0.W, iv p0.H, .slice ad3 p0.Bits.length cp4]) 4 [iv p0.W, iv p0.H, .slice ad3 p0.Bits.length cp4] S (wN rfl) rfl rfl rfl rfl rfl rfl rfl (lb rfl) fun a S => ?_
    refine sLoadN (p := b15) (off := 0) (T := 24) (vs := [iv p1.W, iv p1.H, .slice ad7 p1.Bits.length cp8]) 5 [iv p1.W, iv p1.H, .slice ad7 p1.Bits.length cp8] S (wN rfl) rfl rfl rfl rfl rfl rfl rfl (lb rfl) fun a S => ?_
    refine sLoadN (p := b16) (off := 0) (T := 24) (vs := [iv p2.W, iv p2.H, .slice ad11 p2.Bits.length cp12]) 6 [iv p2.W, iv p2.H, .slice ad11 p2.Bits.length cp12] S (wN rfl) rfl rfl rfl rfl rfl rfl rfl (lb rfl) fun a S => ?_
    obtain ⟨r84, hx85, h⟩ := bindSome h
    refine sCall (X := Value) (f := 14) (vs := [.agg #[iv p0.W, iv p0.H, .slice ad3 p0.Bits.length cp4], .agg #[iv p1.W, iv p1.H, .slice ad7 p1.Bits.length cp8], .agg #[iv p2.W, iv p2.H, .slice ad11 p2.Bits.length cp12]]) (val := c_raddleref13_Fill_val r84) (B' := fun _ => []) (D' := c_raddleref13_Fill_D r84) [] [eBox b82 24 [iv r75.1.W, iv r75.1.H, .slice ad80 r75.1.Bits.length cp81], eBox b73 24 [iv r46.W, iv r46.H, .slice ad69 r46.Bits.length cp70], eBox b72 24 [iv r39.W, iv r39.H, .slice ad64 r39.Bits.length cp65], eBox b71 24 [iv r32.W, iv r32.H, .slice ad59 r32.Bits.length cp60], eBox b14 24 [iv p0.W, iv p0.H, .slice ad3 p0.Bits.length cp4], eBox b15 24 [iv p1.W, iv p1.H, .slice ad7 p1.Bits.length cp8], eBox b16 24 [iv p2.W, iv p2.H, .slice ad11 p2.Bits.length cp12]] [fRep r_api_Grid (.agg #[iv p0.W, iv p0.H, .slice ad3 p0.Bits.length cp4]) p0, fRep r_api_Grid (.agg #[iv p1.W, iv p1.H, .slice ad7 p1.Bits.length cp8]) p1, fRep r_api_Grid (.agg #[iv p2.W, iv p2.H, .slice ad11 p2.Bits.length cp12]) p2] [0, 1, 2, 3, 4, 5, 6] [10, 7, 4] S (wN rfl) rfl callee14 rfl (by decide) rfl rfl (fun E1 w1 S1 => c_raddleref13_Fill E1 w1 p0 (.agg #[iv p0.W, iv p0.H, .slice ad3 p0.Bits.length cp4]) p1 (.agg #[iv p1.W, iv p1.H, .slice ad7 p1.Bits.length cp8]) p2 (.agg #[iv p2.W, iv p2.H, .slice ad11 p2.Bits.length cp12]) r84 hx85 S1) rfl (lb rfl) fun u86 a w S => ?_
    obtain ⟨u87, rfl, hu88⟩ := S.mem.know (i := 0) (e := fRep r_api_Grid (u86) r84.1) rfl
    have S := S.learn (fRep (rL rB) u87 r84.1.Bits) hu88
    obtain ⟨ad89, cp90, _, rfl, _⟩ := hu88
    refine sMove (.tuple #[.agg #[iv r84.1.W, iv r84.1.H, .slice ad89 r84.1.Bits.length cp90], iv r84.2]) S (wN rfl) (.inl rfl) rfl rfl (lb rfl) fun a S => ?_
    refine sExtract (vs := [.agg #[iv r84.1.W, iv r84.1.H, .slice ad89 r84.1.Bits.length cp90], iv r84.2]) (.agg #[iv r84.1.W, iv r84.1.H, .slice ad89 r84.1.Bits.length cp90]) S (wN rfl) rfl rfl rfl rfl (lb rfl) fun a S => ?_
    refine sExtract (vs := [.agg #[iv r84.1.W, iv r84.1.H, .slice ad89 r84.1.Bits.length cp90], iv r84.2]) (iv r84.2) S (wN rfl) rfl rfl rfl rfl (lb rfl) fun a S => ?_
    refine sAlloc (.agg #[iv 0, iv 0, .slice none 0 0]) S (wN rfl) rfl rfl [iv 0, iv 0, .slice none 0 0] rfl rfl (lb rfl) fun a b91 w S => ?_
    refine sStore (p := b91) (off := 0) (T := 24) (vs := [iv 0, iv 0, .slice none 0 0]) (v := .agg #[iv r84.1.W, iv r84.1.H, .slice ad89 r84.1.Bits.length cp90]) 0 [iv r84.1.W, iv r84.1.H, .slice ad89 r84.1.Bits.length cp90] S (wN rfl) rfl rfl rfl rfl rfl rfl rfl (by simp) rfl fun a w S => ?_
    refine sMove (iv r84.2) S (wN rfl) (.inr rfl) rfl rfl (lb rfl) fun a S => ?_
    refine leafL (leafT (hK83 _ _ ?_))
    refine sSeq (fun K92 hK92 => ?_)
    refine sRegion ?_
    refine sLoadN (p := b71) (off := 0) (T := 24) (vs := [iv r32.W, iv r32.H, .slice ad59 r32.Bits.length cp60]) 4 [iv r32.W, iv r32.H, .slice ad59 r32.Bits.length cp60] S (wN rfl) rfl rfl rfl rfl rfl rfl rfl (lb rfl) fun a S => ?_
    refine sLoadN (p := b72) (off := 0) (T := 24) (vs := [iv r39.W, iv r39.H, .slice ad64 r39.Bits.length cp65]) 3 [iv r39.W, iv r39.H, .slice ad64 r39.Bits.length cp65] S (wN rfl) rfl rfl rfl rfl rfl rfl rfl (lb rfl) fun a S => ?_
    refine sLoadN (p := b73) (off := 0) (T := 24) (vs := [iv r46.W, iv r46.H, .slice ad69 r46.Bits.length cp70]) 2 [iv r46.W, iv r46.H, .slice ad69 r46.Bits.length cp70] S (wN rfl) rfl rfl rfl rfl rfl rfl rfl (lb rfl) fun a S => ?_
    obtain ⟨r93, hx94, h⟩ := bindSome h
    refine sCall (X := Value) (f := 15) (vs := [.agg #[iv r32.W, iv r32.H, .slice ad59 r32.Bits.length cp60], .agg #[iv r39.W, iv r39.H, .slice ad64 r39.Bits.length cp65], .agg #[iv r46.W, iv r46.H, .slice ad69 r46.Bits.length cp70]]) (val := c_block_Profile_val r93) (B' := fun _ => []) (D' := c_block_Profile_D r93) [] [eBox b91 24 [iv r84.1.W, iv r84.1.H, .slice ad89 r84.1.Bits.length cp90], eBox b82 24 [iv r75.1.W, iv r75.1.H, .slice ad80 r75.1.Bits.length cp81], eBox b73 24 [iv r46.W, iv r46.H, .slice ad69 r46.Bits.length cp70], eBox b72 24 [iv r39.W, iv r39.H, .slice ad64 r39.Bits.length cp65], eBox b71 24 [iv r32.W, iv r32.H, .slice ad59 r32.Bits.length cp60], eBox b14 24 [iv p0.W, iv p0.H, .slice ad3 p0.Bits.length cp4], eBox b15 24 [iv p1.W, iv p1.H, .slice ad7 p1.Bits.length cp8], eBox b16 24 [iv p2.W, iv p2.H, .slice ad11 p2.Bits.length cp12]] [fRep r_api_Grid (.agg #[iv r32.W, iv r32.H, .slice ad59 r32.Bits.length cp60]) r32, fRep r_api_Grid (.agg #[iv r39.W, iv r39.H, .slice ad64 r39.Bits.length cp65]) r39, fRep r_api_Grid (.agg #[iv r46.W, iv r46.H, .slice ad69 r46.Bits.length cp70]) r46] [0, 1, 2, 3, 4, 5, 6, 7] [11, 8, 5] S (wN rfl) rfl callee15 rfl (by decide) rfl rfl (fun E1 w1 S1 => c_block_Profile E1 w1 r32 (.agg #[iv r32.W, iv r32.H, .slice ad59 r32.Bits.length cp60]) r39 (.agg #[iv r39.W, iv r39.H, .slice ad64 r39.Bits.length cp65]) r46 (.agg #[iv r46.W, iv r46.H, .slice ad69 r46.Bits.length cp70]) r93 hx94 S1) rfl (lb rfl) fun u95 a w S => ?_
    obtain ⟨u96, rfl, hu97⟩ := S.mem.know (i := 0) (e := fRep r_api_Grid (u95) r93.1) rfl
    have S := S.learn (fRep (rL rB) u96 r93.1.Bits) hu97
    obtain ⟨ad98, cp99, _, rfl, _⟩ := hu97
    refine sMove (.tuple #[.agg #[iv r93.1.W, iv r93.1.H, .slice ad98 r93.1.Bits.length cp99], iv r93.2]) S (wN rfl) (.inl rfl) rfl rfl (lb rfl) fun a S => ?_
    refine sExtract (vs := [.agg #[iv r93.1.W, iv r93.1.H, .slice ad98 r93.1.Bits.length cp99], iv r93.2]) (.agg #[iv r93.1.W, iv r93.1.H, .slice ad98 r93.1.Bits.length cp99]) S (wN rfl) rfl rfl rfl rfl (lb rfl) fun a S => ?_
    refine sExtract (vs := [.agg #[iv r93.1.W, iv r93.1.H, .slice ad98 r93.1.Bits.length cp99], iv r93.2]) (iv r93.2) S (wN rfl) rfl rfl rfl rfl (lb rfl) fun a S => ?_
    refine sAlloc (.agg #[iv 0, iv 0, .slice none 0 0]) S (wN rfl) rfl rfl [iv 0, iv 0, .slice none 0 0] rfl rfl (lb rfl) fun a b100 w S => ?_
    refine sStore (p := b100) (off := 0) (T := 24) (vs := [iv 0, iv 0, .slice none 0 0]) (v := .agg #[iv r93.1.W, iv r93.1.H, .slice ad98 r93.1.Bits.length cp99]) 0 [iv r93.1.W, iv r93.1.H, .slice ad98 r93.1.Bits.length cp99] S (wN rfl) rfl rfl rfl rfl rfl rfl rfl (by simp) rfl fun a w S => ?_
    refine sMove (iv r93.2) S (wN rfl) (.inr rfl) rfl rfl (lb rfl) fun a S => ?_
    refine leafL (leafT (hK92 _ _ ?_))
    refine sSeq (fun K101 hK101 => ?_)
    refine sRegion ?_
    refine sLoadN (p := b14) (off := 0) (T := 24) (vs := [iv p0.W, iv p0.H, .slice ad3 p0.Bits.length cp4]) 6 [iv p0.W, iv p0.H, .slice ad3 p0.Bits.length cp4] S (wN rfl) rfl rfl rfl rfl rfl rfl rfl (lb rfl) fun a S => ?_
    refine sLoadN (p := b15) (off := 0) (T := 24) (vs := [iv p1.W, iv p1.H, .slice ad7 p1.Bits.length cp8]) 7 [iv p1.W, iv p1.H, .slice ad7 p1.Bits.length cp8] S (wN rfl) rfl rfl rfl rfl rfl rfl rfl (lb rfl) fun a S => ?_
    refine sLoadN (p := b16) (off := 0) (T := 24) (vs := [iv p2.W, iv p2.H, .slice ad11 p2.Bits.length cp12]) 8 [iv p2.W, iv p2.H, .slice ad11 p2.Bits.length cp12] S (wN rfl) rfl rfl rfl rfl rfl rfl rfl (lb rfl) fun a S => ?_
    obtain ⟨r102, hx103, h⟩ := bindSome h
    refine sCall (X := Value) (f := 16) (vs := [.agg #[iv p0.W, iv p0.H, .slice ad3 p0.Bits.length cp4], .agg #[iv p1.W, iv p1.H, .slice ad7 p1.Bits.length cp8], .agg #[iv p2.W, iv p2.H, .slice ad11 p2.Bits.length cp12]]) (val := c_raddleref13_Profile_val r102) (B' := fun _ => []) (D' := c_raddleref13_Profile_D r102) [] [eBox b100 24 [iv r93.1.W, iv r93.1.H, .slice ad98 r93.1.Bits.length cp99], eBox b91 24 [iv r84.1.W, iv r84.1.H, .slice ad89 r84.1.Bits.length cp90], eBox b82 24 [iv r75.1.W, iv r75.1.H, .slice ad80 r75.1.Bits.length cp81], eBox b73 24 [iv r46.W, iv r46.H, .slice ad69 r46.Bits.length cp70], eBox b72 24 [iv r39.W, iv r39.H, .slice ad64 r39.Bits.length cp65], eBox b71 24 [iv r32.W, iv r32.H, .slice ad59 r32.Bits.length cp60], eBox b14 24 [iv p0.W, iv p0.H, .slice ad3 p0.Bits.length cp4], eBox b15 24 [iv p1.W, iv p1.H, .slice ad7 p1.Bits.length cp8], eBox b16 24 [iv p2.W, iv p2.H, .slice ad11 p2.Bits.length cp12]] [fRep r_api_Grid (.agg #[iv p0.W, iv p0.H, .slice ad3 p0.Bits.length cp4]) p0, fRep r_api_Grid (.agg #[iv p1.W, iv p1.H, .slice ad7 p1.Bits.length cp8]) p1, fRep r_api_Grid (.agg #[iv p2.W, iv p2.H, .slice ad11 p2.Bits.length cp12]) p2] [0, 1, 2, 3, 4, 5, 6, 7, 8] [14, 11, 8] S (wN rfl) rfl callee16 rfl (by decide) rfl rfl (fun E1 w1 S1 => c_raddleref13_Profile E1 w1 p0 (.agg #[iv p0.W, iv p0.H, .slice ad3 p0.Bits.length cp4]) p1 (.agg #[iv p1.W, iv p1.H, .slice ad7 p1.Bits.length cp8]) p2 (.agg #[iv p2.W, iv p2.H, .slice ad11 p2.Bits.length cp12]) r102 hx103 S1) rfl (lb rfl) fun u104 a w S => ?_
    obtain ⟨u105, rfl, hu106⟩ := S.mem.know (i := 0) (e := fRep r_api_Grid (u104) r102.1) rfl
    have S := S.learn (fRep (rL rB) u105 r102.1.Bits) hu106
    obtain ⟨ad107, cp108, _, rfl, _⟩ := hu106
    refine sMove (.tuple #[.agg #[iv r102.1.W, iv r102.1.H, .slice ad107 r102.1.Bits.length cp108], iv r102.2]) S (wN rfl) (.inl rfl) rfl rfl (lb rfl) fun a S => ?_
    refine sExtract (vs := [.agg #[iv r102.1.W, iv r102.1.H, .slice ad107 r102.1.Bits.length cp108], iv r102.2]) (.agg #[iv r102.1.W, iv r102.1.H, .slice ad107 r102.1.Bits.length cp108]) S (wN rfl) rfl rfl rfl rfl (lb rfl) fun a S => ?_
    refine sExtract (vs := [.agg #[iv r102.1.W, iv r102.1.H, .slice ad107 r102.1.Bits.length cp108], iv r102.2]) (iv r102.2) S (wN rfl) rfl rfl rfl rfl (lb rfl) fun a S => ?_
    refine sAlloc (.agg #[iv 0, iv 0, .slice none 0 0]) S (wN rfl) rfl rfl [iv 0, iv 0, .slice none 0 0] rfl rfl (lb rfl) fun a b109 w S => ?_
    refine sStore (p := b109) (off := 0) (T := 24) (vs := [iv 0, iv 0, .slice none 0 0]) (v := .agg #[iv r102.1.W, iv r102.1.H, .slice ad107 r102.1.Bits.length cp108]) 0 [iv r102.1.W, iv r102.1.H, .slice ad107 r102.1.Bits.length cp108] S (wN rfl) rfl rfl rfl rfl rfl rfl rfl (by simp) rfl fun a w S => ?_
    refine sMove (iv r102.2) S (wN rfl) (.inr rfl) rfl rfl (lb rfl) fun a S => ?_
    refine leafL (leafT (hK101 _ _ ?_))
    obtain ⟨t111, h, g112⟩ := bindSome h
    refine sCut (fun a w => ∃ o110, o110 = t111 ∧ St [] E [] w0 95 a w [(6, .bool o110)] [] []) ?_ (fun a w hI => ?_)
    rotate_left
    · obtain ⟨o110, rfl, S⟩ := hI
      have h := g112
      clear g112
      try dsimp only at h
      obtain rfl := Option.some.inj h
      exact wp_ret (sRet (.bool o110) S (rsl1 rfl (rvT (t := 6) (v := .bool o110) S rfl)) ⟨(), rfl, S.mem.sel [] [] (by decide) rfl rfl⟩)
    refine sRegion ?_
    refine sLoadN (p := b82) (off := 0) (T := 24) (vs := [iv r75.1.W, iv r75.1.H, .slice ad80 r75.1.Bits.length cp81]) 3 [iv r75.1.W, iv r75.1.H, .slice ad80 r75.1.Bits.length cp81] S (wN rfl) rfl rfl rfl rfl rfl rfl rfl (lb rfl) fun a S => ?_
    refine sLoadN (p := b91) (off := 0) (T := 24) (vs := [iv r84.1.W, iv r84.1.H, .slice ad89 r84.1.Bits.length cp90]) 2 [iv r84.1.W, iv r84.1.H, .slice ad89 r84.1.Bits.length cp90] S (wN rfl) rfl rfl rfl rfl rfl rfl rfl (lb rfl) fun a S => ?_
    obtain ⟨r113, hx114, h⟩ := bindSome h
    have S1 := S.mem
    refine sCallQ (X := Unit) (f := 17) (vs := [.agg #[iv r75.1.W, iv r75.1.H, .slice ad80 r75.1.Bits.length cp81], .agg #[iv r84.1.W, iv r84.1.H, .slice ad89 r84.1.Bits.length cp90]]) (val := fun _ => .bool r113) S (wN rfl) rfl callee17 rfl (S1.quiet [7, 5] rfl) (fun E1 w1 S1 => c_raddleref01_Same E1 w1 r75.1 (.agg #[iv r75.1.W, iv r75.1.H, .slice ad80 r75.1.Bits.length cp81]) r84.1 (.agg #[iv r84.1.W, iv r84.1.H, .slice ad89 r84.1.Bits.length cp90]) r113 hx114 S1) rfl (lb rfl) fun _ a w S => ?_
    refine sMove (.bool r113) S (wN rfl) (.inl rfl) rfl rfl (lb rfl) fun a S => ?_
    rcases iteSome h with ⟨hc115, h⟩ | ⟨hc115, h⟩
    rotate_left
    · refine sSkip 3 true 65 66 S rfl rfl rfl hc115 rfl (lb rfl) fun a S => ?_
      refine sSkip 3 true 65 67 S rfl rfl rfl hc115 rfl (lb rfl) fun a S => ?_
      refine sSkip 3 true 65 68 S rfl rfl rfl hc115 rfl (lb rfl) fun a S => ?_
      refine sPickF (.bool false) S (wN rfl) rfl rfl hc115 rfl rfl (lb rfl) fun a S => ?_
      refine sMove (.bool false) S (wN rfl) (.inl rfl) rfl rfl (lb rfl) fun a S => ?_
      refine sSkip 8 true 70 71 S rfl rfl rfl rfl rfl (lb rfl) fun a S => ?_
      refine sSkip 8 true 70 72 S rfl rfl rfl rfl rfl (lb rfl) fun a S => ?_
      refine sSkip 8 true 70 73 S rfl rfl rfl rfl rfl (lb rfl) fun a S => ?_
      refine sPickF (.bool false) S (wN rfl) rfl rfl rfl rfl rfl (lb rfl) fun a S => ?_
      refine sMove (.bool false) S (wN rfl) (.inl rfl) rfl rfl (lb rfl) fun a S => ?_
      refine sSkip 13 true 75 76 S rfl rfl rfl rfl rfl (lb rfl) fun a S => ?_
      refine sSkip 13 true 75 77 S rfl rfl rfl rfl rfl (lb rfl) fun a S => ?_
      refine sSkip 13 true 75 78 S rfl rfl rfl rfl rfl (lb rfl) fun a S => ?_
      refine sPickF (.bool false) S (wN rfl) rfl rfl rfl rfl rfl (lb rfl) fun a S => ?_
      refine sMove (.bool false) S (wN rfl) (.inl rfl) rfl rfl (lb rfl) fun a S => ?_
      refine sSkip 18 true 80 81 S rfl rfl rfl rfl rfl (lb rfl) fun a S => ?_
      refine sSkip 18 true 80 82 S rfl rfl rfl rfl rfl (lb rfl) fun a S => ?_
      refine sSkip 18 true 80 83 S rfl rfl rfl rfl rfl (lb rfl) fun a S => ?_
      refine sPickF (.bool false) S (wN rfl) rfl rfl rfl rfl rfl (lb rfl) fun a S => ?_
      refine sMove (.bool false) S (wN rfl) (.inl rfl) rfl rfl (lb rfl) fun a S => ?_
      refine sSkip 23 true 85 86 S rfl rfl rfl rfl rfl (lb rfl) fun a S => ?_
      refine sSkip 23 true 85 87 S rfl rfl rfl rfl rfl (lb rfl) fun a S => ?_
      refine sSkip 23 true 85 88 S rfl rfl rfl rfl rfl (lb rfl) fun a S => ?_
      refine sPickF (.bool false) S (wN rfl) rfl rfl rfl rfl rfl (lb rfl) fun a S => ?_
      refine sMove (.bool false) S (wN rfl) (.inl rfl) rfl rfl (lb rfl) fun a S => ?_
      refine sSkip 28 true 90 91 S rfl rfl rfl rfl rfl (lb rfl) fun a S => ?_
      refine sSkip 28 true 90 92 S rfl rfl rfl rfl rfl (lb rfl) fun a S => ?_
      refine sSkip 28 true 90 93 S rfl rfl rfl rfl rfl (lb rfl) fun a S => ?_
      refine sPickF (.bool false) S (wN rfl) rfl rfl rfl rfl rfl (lb rfl) fun a S => ?_
      refine sMove (.bool false) S (wN rfl) (.inr rfl) rfl rfl (lb rfl) fun a S => ?_
      exact leafL (leafT (⟨false, Option.some.inj h, S.fix [] [] (by decide) rfl rfl rfl⟩))
    refine sMove (iv r75.2) S (wG 3 true 65 rfl rfl rfl hc115) (.inl rfl) rfl rfl (lb rfl) fun a S => ?_
    refine sMove (iv r84.2) S (wG 3 true 65 rfl rfl rfl hc115) (.inl rfl) rfl rfl (lb rfl) fun a S => ?_
    refine sBin (.bool (r75.2 == r84.2)) S (wG 3 true 65 rfl rfl rfl hc115) rfl rfl rfl (bEq _ _ _ _ .i64 r75.2 r84.2) rfl (lb rfl) fun a S => ?_
    refine sPickT (.bool (r75.2 == r84.2)) S (wN rfl) rfl rfl hc115 rfl rfl (lb rfl) fun a S => ?_
    refine sMove (.bool (r75.2 == r84.2)) S (wN rfl) (.inl rfl) rfl rfl (lb rfl) fun a S => ?_
    rcases iteSome h with ⟨hc116, h⟩ | ⟨hc116, h⟩
    rotate_left
    · refine sSkip 8 true 70 71 S rfl rfl rfl hc116 rfl (lb rfl) fun a S => ?_
      refine sSkip 8 true 70 72 S rfl rfl rfl hc116 rfl (lb rfl) fun a S => ?_
      refine sSkip 8 true 70 73 S rfl rfl rfl hc116 rfl (lb rfl) fun a S => ?_
      refine sPickF (.bool false) S (wN rfl) rfl rfl hc116 rfl rfl (lb rfl) fun a S => ?_
      refine sMove (.bool false) S (wN rfl) (.inl rfl) rfl rfl (lb rfl) fun a S => ?_
      refine sSkip 13 true 75 76 S rfl rfl rfl rfl rfl (lb rfl) fun a S => ?_
      refine sSkip 13 true 75 77 S rfl rfl rfl rfl rfl (lb rfl) fun a S => ?_
      refine sSkip 13 true 75 78 S rfl rfl rfl rfl rfl (lb rfl) fun a S => ?_
      refine sPickF (.bool false) S (wN rfl) rfl rfl rfl rfl rfl (lb rfl) fun a S => ?_
      refine sMove (.bool false) S (wN rfl) (.inl rfl) rfl rfl (lb rfl) fun a S => ?_
      refine sSkip 18 true 80 81 S rfl rfl rfl rfl rfl (lb rfl) fun a S => ?_
      refine sSkip 18 true 80 82 S rfl rfl rfl rfl rfl (lb rfl) fun a S => ?_
      refine sSkip 18 true 80 83 S rfl rfl rfl rfl rfl (lb rfl) fun a S => ?_
      refine sPickF (.bool false) S (wN rfl) rfl rfl rfl rfl rfl (lb rfl) fun a S => ?_
      refine sMove (.bool false) S (wN rfl) (.inl rfl) rfl rfl (lb rfl) fun a S => ?_
      refine sSkip 23 true 85 86 S rfl rfl rfl rfl rfl (lb rfl) fun a S => ?_
      refine sSkip 23 true 85 87 S rfl rfl rfl rfl rfl (lb rfl) fun a S => ?_
      refine sSkip 23 true 85 88 S rfl rfl rfl rfl rfl (lb rfl) fun a S => ?_
      refine sPickF (.bool false) S (wN rfl) rfl rfl rfl rfl rfl (lb rfl) fun a S => ?_
      refine sMove (.bool false) S (wN rfl) (.inl rfl) rfl rfl (lb rfl) fun a S => ?_
      refine sSkip 28 true 90 91 S rfl rfl rfl rfl rfl (lb rfl) fun a S => ?_
      refine sSkip 28 true 90 92 S rfl rfl rfl rfl rfl (lb rfl) fun a S => ?_
      refine sSkip 28 true 90 93 S rfl rfl rfl rfl rfl (lb rfl) fun a S => ?_
      refine sPickF (.bool false) S (wN rfl) rfl rfl rfl rfl rfl (lb rfl) fun a S => ?_
      refine sMove (.bool false) S (wN rfl) (.inr rfl) rfl rfl (lb rfl) fun a S => ?_
      exact leafL (leafT (⟨false, Option.some.inj h, S.fix [] [] (by decide) rfl rfl rfl⟩))
    refine sLoadN (p := b100) (off := 0) (T := 24) (vs := [iv r93.1.W, iv r93.1.H, .slice ad98 r93.1.Bits.length cp99]) 1 [iv r93.1.W, iv r93.1.H, .slice ad98 r93.1.Bits.length cp99] S (wG 8 true 70 rfl rfl rfl hc116) rfl rfl rfl rfl rfl rfl rfl (lb rfl) fun a S => ?_
    refine sLoadN (p := b109) (off := 0) (T := 24) (vs := [iv r102.1.W, iv r102.1.H, .slice ad107 r102.1.Bits.length cp108]) 0 [iv r102.1.W, iv r102.1.H, .slice ad107 r102.1.Bits.length cp108] S (wG 8 true 70 rfl rfl rfl hc116) rfl rfl rfl rfl rfl rfl rfl (lb rfl) fun a S => ?_
    obtain ⟨r117, hx118, h⟩ := bindSome h
    have S1 := S.mem
    refine sCallQ (X := Unit) (f := 17) (vs := [.agg #[iv r93.1.W, iv r93.1.H, .slice ad98 r93.1.Bits.length cp99], .agg #[iv r102.1.W, iv r102.1.H, .slice ad107 r102.1.Bits.length cp108]]) (val := fun _ => .bool r117) S (wG 8 true 70 rfl rfl rfl hc116) rfl callee17 rfl (S1.quiet [3, 1] rfl) (fun E1 w1 S1 => c_raddleref01_Same E1 w1 r93.1 (.agg #[iv r93.1.W, iv r93.1.H, .slice ad98 r93.1.Bits.length cp99]) r102.1 (.agg #[iv r102.1.W, iv r102.1.H, .slice ad107 r102.1.Bits.length cp108]) r117 hx118 S1) rfl (lb rfl) fun _ a w S => ?_
    refine sPickT (.bool r117) S (wN rfl) rfl rfl hc116 rfl rfl (lb rfl) fun a S => ?_
    refine sMove (.bool r117) S (wN rfl) (.inl rfl) rfl rfl (lb rfl) fun a S => ?_
    rcases iteSome h with ⟨hc119, h⟩ | ⟨hc119, h⟩
    rotate_left
    · refine sSkip 13 true 75 76 S rfl rfl rfl hc119 rfl (lb rfl) fun a S => ?_
      refine sSkip 13 true 75 77 S rfl rfl rfl hc119 rfl (lb rfl) fun a S => ?_
      refine sSkip 13 true 75 78 S rfl rfl rfl hc119 rfl (lb rfl) fun a S => ?_
      refine sPickF (.bool false) S (wN rfl) rfl rfl hc119 rfl rfl (lb rfl) fun a S => ?_
      refine sMove (.bool false) S (wN rfl) (.inl rfl) rfl rfl (lb rfl) fun a S => ?_
      refine sSkip 18 true 80 81 S rfl rfl rfl rfl rfl (lb rfl) fun a S => ?_
      refine sSkip 18 true 80 82 S rfl rfl rfl rfl rfl (lb rfl) fun a S => ?_
      refine sSkip 18 true 80 83 S rfl rfl rfl rfl rfl (lb rfl) fun a S => ?_
      refine sPickF (.bool false) S (wN rfl) rfl rfl rfl rfl rfl (lb rfl) fun a S => ?_
      refine sMove (.bool false) S (wN rfl) (.inl rfl) rfl rfl (lb rfl) fun a S => ?_
      refine sSkip 23 true 85 86 S rfl rfl rfl rfl rfl (lb rfl) fun a S => ?_
      refine sSkip 23 true 85 87 S rfl rfl rfl rfl rfl (lb rfl) fun a S => ?_
      refine sSkip 23 true 85 88 S rfl rfl rfl rfl rfl (lb rfl) fun a S => ?_
      refine sPickF (.bool false) S (wN rfl) rfl rfl rfl rfl rfl (lb rfl) fun a S => ?_
      refine sMove (.bool false) S (wN rfl) (.inl rfl) rfl rfl (lb rfl) fun a S => ?_
      refine sSkip 28 true 90 91 S rfl rfl rfl rfl rfl (lb rfl) fun a S => ?_
      refine sSkip 28 true 90 92 S rfl rfl rfl rfl rfl (lb rfl) fun a S => ?_
      refine sSkip 28 true 90 93 S rfl rfl rfl rfl rfl (lb rfl) fun a S => ?_
      refine sPickF (.bool false) S (wN rfl) rfl rfl rfl rfl rfl (lb rfl) fun a S => ?_
      refine sMove (.bool false) S (wN rfl) (.inr rfl) rfl rfl (lb rfl) fun a S => ?_
      exact leafL (leafT (⟨false, Option.some.inj h, S.fix [] [] (by decide) rfl rfl rfl⟩))
    refine sMove (iv r93.2) S (wG 13 true 75 rfl rfl rfl hc119) (.inl rfl) rfl rfl (lb rfl) fun a S => ?_
    refine sMove (iv r102.2) S (wG 13 true 75 rfl rfl rfl hc119) (.inl rfl) rfl rfl (lb rfl) fun a S => ?_
    refine sBin (.bool (r93.2 == r102.2)) S (wG 13 true 75 rfl rfl rfl hc119) rfl rfl rfl (bEq _ _ _ _ .i64 r93.2 r102.2) rfl (lb rfl) fun a S => ?_
    refine sPickT (.bool (r93.2 == r102.2)) S (wN rfl) rfl rfl hc119 rfl rfl (lb rfl) fun a S => ?_
    refine sMove (.bool (r93.2 == r102.2)) S (wN rfl) (.inl rfl) rfl rfl (lb rfl) fun a S => ?_
    rcases iteSome h with ⟨hc120, h⟩ | ⟨hc120, h⟩
    rotate_left
    · refine sSkip 18 true 80 81 S rfl rfl rfl hc120 rfl (lb rfl) fun a S => ?_
      refine sSkip 18 true 80 82 S rfl rfl rfl hc120 rfl (lb rfl) fun a S => ?_
      refine sSkip 18 true 80 83 S rfl rfl rfl hc120 rfl (lb rfl) fun a S => ?_
      refine sPickF (.bool false) S (wN rfl) rfl rfl hc120 rfl rfl (lb rfl) fun a S => ?_
      refine sMove (.bool false) S (wN rfl) (.inl rfl) rfl rfl (lb rfl) fun a S => ?_
      refine sSkip 23 true 85 86 S rfl rfl rfl rfl rfl (lb rfl) fun a S => ?_
      refine sSkip 23 true 85 87 S rfl rfl rfl rfl rfl (lb rfl) fun a S => ?_
      refine sSkip 23 true 85 88 S rfl rfl rfl rfl rfl (lb rfl) fun a S => ?_
      refine sPickF (.bool false) S (wN rfl) rfl rfl rfl rfl rfl (lb rfl) fun a S => ?_
      refine sMove (.bool false) S (wN rfl) (.inl rfl) rfl rfl (lb rfl) fun a S => ?_
      refine sSkip 28 true 90 91 S rfl rfl rfl rfl rfl (lb rfl) fun a S => ?_
      refine sSkip 28 true 90 92 S rfl rfl rfl rfl rfl (lb rfl) fun a S => ?_
      refine sSkip 28 true 90 93 S rfl rfl rfl rfl rfl (lb rfl) fun a S => ?_
      refine sPickF (.bool false) S (wN rfl) rfl rfl rfl rfl rfl (lb rfl) fun a S => ?_
      refine sMove (.bool false) S (wN rfl) (.inr rfl) rfl rfl (lb rfl) fun a S => ?_
      exact leafL (leafT (⟨false, Option.some.inj h, S.fix [] [] (by decide) rfl rfl rfl⟩))
    refine sLoadN (p := b71) (off := 0) (T := 24) (vs := [iv r32.W, iv r32.H, .slice ad59 r32.Bits.length cp60]) 6 [iv r32.W, iv r32.H, .slice ad59 r32.Bits.length cp60] S (wG 18 true 80 rfl rfl rfl hc120) rfl rfl rfl rfl rfl rfl rfl (lb rfl) fun a S => ?_
    refine sLoadN (p := b14) (off := 0) (T := 24) (vs := [iv p0.W, iv p0.H, .slice ad3 p0.Bits.length cp4]) 7 [iv p0.W, iv p0.H, .slice ad3 p0.Bits.length cp4] S (wG 18 true 80 rfl rfl rfl hc120) rfl rfl rfl rfl rfl rfl rfl (lb rfl) fun a S => ?_
    obtain ⟨r121, hx122, h⟩ := bindSome h
    have S1 := S.mem
    refine sCallQ (X := Unit) (f := 17) (vs := [.agg #[iv r32.W, iv r32.H, .slice ad59 r32.Bits.length cp60], .agg #[iv p0.W, iv p0.H, .slice ad3 p0.Bits.length cp4]]) (val := fun _ => .bool r121) S (wG 18 true 80 rfl rfl rfl hc120) rfl callee17 rfl (S1.quiet [15, 16] rfl) (fun E1 w1 S1 => c_raddleref01_Same E1 w1 r32 (.agg #[iv r32.W, iv r32.H, .slice ad59 r32.Bits.length cp60]) p0 (.agg #[iv p0.W, iv p0.H, .slice ad3 p0.Bits.length cp4]) r121 hx122 S1) rfl (lb rfl) fun _ a w S => ?_
    refine sPickT (.bool r121) S (wN rfl) rfl rfl hc120 rfl rfl (lb rfl) fun a S => ?_
    refine sMove (.bool r121) S (wN rfl) (.inl rfl) rfl rfl (lb rfl) fun a S => ?_
    rcases iteSome h with ⟨hc123, h⟩ | ⟨hc123, h⟩
    rotate_left
    · refine sSkip 23 true 85 86 S rfl rfl rfl hc123 rfl (lb rfl) fun a S => ?_
      refine sSkip 23 true 85 87 S rfl rfl rfl hc123 rfl (lb rfl) fun a S => ?_
      refine sSkip 23 true 85 88 S rfl rfl rfl hc123 rfl (lb rfl) fun a S => ?_
      refine sPickF (.bool false) S (wN rfl) rfl rfl hc123 rfl rfl (lb rfl) fun a S => ?_
      refine sMove (.bool false) S (wN rfl) (.inl rfl) rfl rfl (lb rfl) fun a S => ?_
      refine sSkip 28 true 90 91 S rfl rfl rfl rfl rfl (lb rfl) fun a S => ?_
      refine sSkip 28 true 90 92 S rfl rfl rfl rfl rfl (lb rfl) fun a S => ?_
      refine sSkip 28 true 90 93 S rfl rfl rfl rfl rfl (lb rfl) fun a S => ?_
      refine sPickF (.bool false) S (wN rfl) rfl rfl rfl rfl rfl (lb rfl) fun a S => ?_
      refine sMove (.bool false) S (wN rfl) (.inr rfl) rfl rfl (lb rfl) fun a S => ?_
      exact leafL (leafT (⟨false, Option.some.inj h, S.fix [] [] (by decide) rfl rfl rfl⟩))
    refine sLoadN (p := b72) (off := 0) (T := 24) (vs := [iv r39.W, iv r39.H, .slice ad64 r39.Bits.length cp65]) 5 [iv r39.W, iv r39.H, .slice ad64 r39.Bits.length cp65] S (wG 23 true 85 rfl rfl rfl hc123) rfl rfl rfl rfl rfl rfl rfl (lb rfl) fun a S => ?_
    refine sLoadN (p := b15) (off := 0) (T := 24) (vs := [iv p1.W, iv p1.H, .slice ad7 p1.Bits.length cp8]) 8 [iv p1.W, iv p1.H, .slice ad7 p1.Bits.length cp8] S (wG 23 true 85 rfl rfl rfl hc123) rfl rfl rfl rfl rfl rfl rfl (lb rfl) fun a S => ?_
    obtain ⟨r124, hx125, h⟩ := bindSome h
    have S1 := S.mem
    refine sCallQ (X := Unit) (f := 17) (vs := [.agg #[iv r39.W, iv r39.H, .slice ad64 r39.Bits.length cp65], .agg #[iv p1.W, iv p1.H, .slice ad7 p1.Bits.length cp8]]) (val := fun _ => .bool r124) S (wG 23 true 85 rfl rfl rfl hc123) rfl callee17 rfl (S1.quiet [12, 13] rfl) (fun E1 w1 S1 => c_raddleref01_Same E1 w1 r39 (.agg #[iv r39.W, iv r39.H, .slice ad64 r39.Bits.length cp65]) p1 (.agg #[iv p1.W, iv p1.H, .slice ad7 p1.Bits.length cp8]) r124 hx125 S1) rfl (lb rfl) fun _ a w S => ?_
    refine sPickT (.bool r124) S (wN rfl) rfl rfl hc123 rfl rfl (lb rfl) fun a S => ?_
    refine sMove (.bool r124) S (wN rfl) (.inl rfl) rfl rfl (lb rfl) fun a S => ?_
    rcases iteSome h with ⟨hc126, h⟩ | ⟨hc126, h⟩
    rotate_left
    · refine sSkip 28 true 90 91 S rfl rfl rfl hc126 rfl (lb rfl) fun a S => ?_
      refine sSkip 28 true 90 92 S rfl rfl rfl hc126 rfl (lb rfl) fun a S => ?_
      refine sSkip 28 true 90 93 S rfl rfl rfl hc126 rfl (lb rfl) fun a S => ?_
      refine sPickF (.bool false) S (wN rfl) rfl rfl hc126 rfl rfl (lb rfl) fun a S => ?_
      refine sMove (.bool false) S (wN rfl) (.inr rfl) rfl rfl (lb rfl) fun a S => ?_
      exact leafL (leafT (⟨false, Option.some.inj h, S.fix [] [] (by decide) rfl rfl rfl⟩))
    refine sLoadN (p := b73) (off := 0) (T := 24) (vs := [iv r46.W, iv r46.H, .slice ad69 r46.Bits.length cp70]) 4 [iv r46.W, iv r46.H, .slice ad69 r46.Bits.length cp70] S (wG 28 true 90 rfl rfl rfl hc126) rfl rfl rfl rfl rfl rfl rfl (lb rfl) fun a S => ?_
    refine sLoadN (p := b16) (off := 0) (T := 24) (vs := [iv p2.W, iv p2.H, .slice ad11 p2.Bits.length cp12]) 9 [iv p2.W, iv p2.H, .slice ad11 p2.Bits.length cp12] S (wG 28 true 90 rfl rfl rfl hc126) rfl rfl rfl rfl rfl rfl rfl (lb rfl) fun a S => ?_
    obtain ⟨r127, hx128, h⟩ := bindSome h
    have S1 := S.mem
    refine sCallQ (X := Unit) (f := 17) (vs := [.agg #[iv r46.W, iv r46.H, .slice ad69 r46.Bits.length cp70], .agg #[iv p2.W, iv p2.H, .slice ad11 p2.Bits.length cp12]]) (val := fun _ => .bool r127) S (wG 28 true 90 rfl rfl rfl hc126) rfl callee17 rfl (S1.quiet [9, 10] rfl) (fun E1 w1 S1 => c_raddleref01_Same E1 w1 r46 (.agg #[iv r46.W, iv r46.H, .slice ad69 r46.Bits.length cp70]) p2 (.agg #[iv p2.W, iv p2.H, .slice ad11 p2.Bits.length cp12]) r127 hx128 S1) rfl (lb rfl) fun _ a w S => ?_
    refine sPickT (.bool r127) S (wN rfl) rfl rfl hc126 rfl rfl (lb rfl) fun a S => ?_
    refine sMove (.bool r127) S (wN rfl) (.inr rfl) rfl rfl (lb rfl) fun a S => ?_
    exact leafL (leafT (⟨r127, Option.some.inj h, S.fix [] [] (by decide) rfl rfl rfl⟩))
  refine nodeCut (fun N W L D => ∀ b72 b71 ad69 cp70 ad64 cp65 ad59 cp60, N [7, 6, 5, 3, 1] ((7, 8, .pointer (some ⟨b72, 0, none⟩)) :: (6, 7, .pointer (some ⟨b71, 0, none⟩)) :: (5, 33, .agg #[iv r46.W, iv r46.H, .slice ad69 r46.Bits.length cp70]) :: (3, 31, .agg #[iv r39.W, iv r39.H, .slice ad64 r39.Bits.length cp65]) :: (1, 29, .agg #[iv r32.W, iv r32.H, .slice ad59 r32.Bits.length cp60]) :: W) ((eBox b72 24 [iv 0, iv 0, .slice none 0 0]) :: (eBox b71 24 [iv 0, iv 0, .slice none 0 0]) :: L) ((fRep (rL rB) (.slice ad69 r46.Bits.length cp70) r46.Bits) :: (fRep r_api_Grid (.agg #[iv r46.W, iv r46.H, .slice ad69 r46.Bits.length cp70]) r46) :: (fRep r_api_Grid (.agg #[iv p2.W, iv p2.H, .slice ad11 p2.Bits.length cp12]) p2) :: (fRep (rL rB) (.slice ad64 r39.Bits.length cp65) r39.Bits) :: (fRep r_api_Grid (.agg #[iv r39.W, iv r39.H, .slice ad64 r39.Bits.length cp65]) r39) :: (fRep r_api_Grid (.agg #[iv p1.W, iv p1.H, .slice ad7 p1.Bits.length cp8]) p1) :: (fRep (rL rB) (.slice ad59 r32.Bits.length cp60) r32.Bits) :: (fRep r_api_Grid (.agg #[iv r32.W, iv r32.H, .slice ad59 r32.Bits.length cp60]) r32) :: (fRep r_api_Grid (.agg #[iv p0.W, iv p0.H, .slice ad3 p0.Bits.length cp4]) p0) :: D)) (fun b72 b71 ad69 cp70 ad64 cp65 ad59 cp60 => ?_) fun nd2 => ?_
  · refine node_by (A := anc_raddlelaw13_BlockFills_0) (nf := [1, 3, 5, 6, 7, 8, 9, 10, 11]) (Y := [7, 6, 5, 3, 1]) 12 (by kernel_rfl) (by kernel_rfl) (by kernel_rfl) (by kernel_rfl) (by kernel_rfl) [7, 6, 5, 3, 1, 0, 2, 4] (by kernel_rfl) (by decide) (by decide) (aD 0 11 5 (by decide) (aY 1 10 (by decide) (aD 2 9 5 (by decide) (aY 3 8 (by decide) (aD 4 7 5 (by decide) (aY 5 6 (by decide) (aY 6 5 (by decide) (aY 7 4 (by decide) (aN 8 3 (by decide) ?_ (aB 9 2 8 (by decide) (aB 10 1 8 (by decide) (aB 11 0 8 (by decide) (trivial))))))))))))) [] (fun q hq => by cases hq) (fun hY => absurd (hY 8 (by decide)) (by decide))
    refine ⟨_, [], rfl, (srcs_of [] rfl rfl rfl), fun G a w S => ?_⟩
    refine sAlloc (.agg #[iv 0, iv 0, .slice none 0 0]) S (wN rfl) rfl rfl [iv 0, iv 0, .slice none 0 0] rfl rfl (lb rfl) fun a b73 w S => ?_
    refine leafL ⟨rfl, _, _, .inl ⟨9, (.pointer (some ⟨b73, 0, none⟩)), [], rfl, S, hz_of rfl, ?_⟩⟩
    exact nd3 b73 b72 b71 ad69 cp70 ad64 cp65 ad59 cp60
  refine nodeCut (fun N W L D => ∀ b129 b71 ad69 cp70 ad64 cp65 ad59 cp60, N [8, 6, 5, 3, 1] ((8, 9, .pointer (some ⟨b129, 0, none⟩)) :: (6, 7, .pointer (some ⟨b71, 0, none⟩)) :: (5, 33, .agg #[iv r46.W, iv r46.H, .slice ad69 r46.Bits.length cp70]) :: (3, 31, .agg #[iv r39.W, iv r39.H, .slice ad64 r39.Bits.length cp65]) :: (1, 29, .agg #[iv r32.W, iv r32.H, .slice ad59 r32.Bits.length cp60]) :: W) ((eBox b129 24 [iv 0, iv 0, .slice none 0 0]) :: (eBox b71 24 [iv 0, iv 0, .slice none 0 0]) :: L) ((fRep (rL rB) (.slice ad69 r46.Bits.length cp70) r46.Bits) :: (fRep r_api_Grid (.agg #[iv r46.W, iv r46.H, .slice ad69 r46.Bits.length cp70]) r46) :: (fRep r_api_Grid (.agg #[iv p2.W, iv p2.H, .slice ad11 p2.Bits.length cp12]) p2) :: (fRep (rL rB) (.slice ad64 r39.Bits.length cp65) r39.Bits) :: (fRep r_api_Grid (.agg #[iv r39.W, iv r39.H, .slice ad64 r39.Bits.length cp65]) r39) :: (fRep r_api_Grid (.agg #[iv p1.W, iv p1.H, .slice ad7 p1.Bits.length cp8]) p1) :: (fRep (rL rB) (.slice ad59 r32.Bits.length cp60) r32.Bits) :: (fRep r_api_Grid (.agg #[iv r32.W, iv r32.H, .slice ad59 r32.Bits.length cp60]) r32) :: (fRep r_api_Grid (.agg #[iv p0.W, iv p0.H, .slice ad3 p0.Bits.length cp4]) p0) :: D)) (fun b129 b71 ad69 cp70 ad64 cp65 ad59 cp60 => ?_) fun nd4 => ?_
  · refine node_by (A := anc_raddlelaw13_BlockFills_0) (nf := [1, 3, 5, 6, 7, 8, 9, 10, 11]) (Y := [8, 6, 5, 3, 1]) 12 (by kernel_rfl) (by kernel_rfl) (by kernel_rfl) (by kernel_rfl) (by kernel_rfl) [8, 6, 5, 3, 1, 0, 2, 4] (by kernel_rfl) (by decide) (by decide) (aD 0 11 5 (by decide) (aY 1 10 (by decide) (aD 2 9 5 (by decide) (aY 3 8 (by decide) (aD 4 7 5 (by decide) (aY 5 6 (by decide) (aY 6 5 (by decide) (aN 7 4 (by decide) ?_ (aY 8 3 (by decide) (aB 9 2 7 (by decide) (aB 10 1 7 (by decide) (aB 11 0 7 (by decide) (trivial))))))))))))) [] (fun q hq => by cases hq) (fun hY => absurd (hY 7 (by decide)) (by decide))
    refine ⟨_, [], rfl, (srcs_of [] rfl rfl rfl), fun G a w S => ?_⟩
    refine sAlloc (.agg #[iv 0, iv 0, .slice none 0 0]) S (wN rfl) rfl rfl [iv 0, iv 0, .slice none 0 0] rfl rfl (lb rfl) fun a b130 w S => ?_
    refine leafL ⟨rfl, _, _, .inl ⟨8, (.pointer (some ⟨b130, 0, none⟩)), [], rfl, S, hz_of rfl, ?_⟩⟩
    exact nodePerm (nd3 b129 b130 b71 ad69 cp70 ad64 cp65 ad59 cp60) [1, 0, 2, 3, 4, 5, 6, 7, 8] [1, 0, 2, 3, 4, 5] [0, 1, 2, 3, 4, 5, 6, 7, 8, 9, 10, 11] (by decide) (by decide) rfl rfl rfl
  refine nodeCut (fun N W L D => ∀ b71 ad69 cp70 ad64 cp65 ad59 cp60, N [6, 5, 3, 1] ((6, 7, .pointer (some ⟨b71, 0, none⟩)) :: (5, 33, .agg #[iv r46.W, iv r46.H, .slice ad69 r46.Bits.length cp70]) :: (3, 31, .agg #[iv r39.W, iv r39.H, .slice ad64 r39.Bits.length cp65]) :: (1, 29, .agg #[iv r32.W, iv r32.H, .slice ad59 r32.Bits.length cp60]) :: W) ((eBox b71 24 [iv 0, iv 0, .slice none 0 0]) :: L) ((fRep (rL rB) (.slice ad69 r46.Bits.length cp70) r46.Bits) :: (fRep r_api_Grid (.agg #[iv r46.W, iv r46.H, .slice ad69 r46.Bits.length cp70]) r46) :: (fRep r_api_Grid (.agg #[iv p2.W, iv p2.H, .slice ad11 p2.Bits.length cp12]) p2) :: (fRep (rL rB) (.slice ad64 r39.Bits.length cp65) r39.Bits) :: (fRep r_api_Grid (.agg #[iv r39.W, iv r39.H, .slice ad64 r39.Bits.length cp65]) r39) :: (fRep r_api_Grid (.agg #[iv p1.W, iv p1.H, .slice ad7 p1.Bits.length cp8]) p1) :: (fRep (rL rB) (.slice ad59 r32.Bits.length cp60) r32.Bits) :: (fRep r_api_Grid (.agg #[iv r32.W, iv r32.H, .slice ad59 r32.Bits.length cp60]) r32) :: (fRep r_api_Grid (.agg #[iv p0.W, iv p0.H, .slice ad3 p0.Bits.length cp4]) p0) :: D)) (fun b71 ad69 cp70 ad64 cp65 ad59 cp60 => ?_) fun nd1 => ?_
  · refine node_by (A := anc_raddlelaw13_BlockFills_0) (nf := [1, 3, 5, 6, 7, 8, 9, 10, 11]) (Y := [6, 5, 3, 1]) 12 (by kernel_rfl) (by kernel_rfl) (by kernel_rfl) (by kernel_rfl) (by kernel_rfl) [6, 5, 3, 1, 0, 2, 4] (by kernel_rfl) (by decide) (by decide) (aD 0 11 5 (by decide) (aY 1 10 (by decide) (aD 2 9 5 (by decide) (aY 3 8 (by decide) (aD 4 7 5 (by decide) (aY 5 6 (by decide) (aY 6 5 (by decide) (aN 7 4 (by decide) ?_ (aN 8 3 (by decide) ?_ (aB 9 2 7 (by decide) (aB 10 1 7 (by decide) (aB 11 0 7 (by decide) (trivial))))))))))))) [] (fun q hq => by cases hq) (fun hY => absurd (hY 7 (by decide)) (by decide))
    · refine ⟨_, [], rfl, (srcs_of [] rfl rfl rfl), fun G a w S => ?_⟩
      refine sAlloc (.agg #[iv 0, iv 0, .slice none 0 0]) S (wN rfl) rfl rfl [iv 0, iv 0, .slice none 0 0] rfl rfl (lb rfl) fun a b72 w S => ?_
      refine leafL ⟨rfl, _, _, .inl ⟨8, (.pointer (some ⟨b72, 0, none⟩)), [], rfl, S, hz_of rfl, ?_⟩⟩
      exact nd2 b72 b71 ad69 cp70 ad64 cp65 ad59 cp60
    refine ⟨_, [], rfl, (srcs_of [] rfl rfl rfl), fun G a w S => ?_⟩
    refine sAlloc (.agg #[iv 0, iv 0, .slice none 0 0]) S (wN rfl) rfl rfl [iv 0, iv 0, .slice none 0 0] rfl rfl (lb rfl) fun a b129 w S => ?_
    refine leafL ⟨rfl, _, _, .inl ⟨9, (.pointer (some ⟨b129, 0, none⟩)), [], rfl, S, hz_of rfl, ?_⟩⟩
    exact nd4 b129 b71 ad69 cp70 ad64 cp65 ad59 cp60
  refine nodeCut (fun N W L D => ∀ b133 b131 ad69 cp70 ad64 cp65 ad59 cp60, N [8, 7, 5, 3, 1] ((8, 9, .pointer (some ⟨b133, 0, none⟩)) :: (7, 8, .pointer (some ⟨b131, 0, none⟩)) :: (5, 33, .agg #[iv r46.W, iv r46.H, .slice ad69 r46.Bits.length cp70]) :: (3, 31, .agg #[iv r39.W, iv r39.H, .slice ad64 r39.Bits.length cp65]) :: (1, 29, .agg #[iv r32.W, iv r32.H, .slice ad59 r32.Bits.length cp60]) :: W) ((eBox b133 24 [iv 0, iv 0, .slice none 0 0]) :: (eBox b131 24 [iv 0, iv 0, .slice none 0 0]) :: L) ((fRep (rL rB) (.slice ad69 r46.Bits.length cp70) r46.Bits) :: (fRep r_api_Grid (.agg #[iv r46.W, iv r46.H, .slice ad69 r46.Bits.length cp70]) r46) :: (fRep r_api_Grid (.agg #[iv p2.W, iv p2.H, .slice ad11 p2.Bits.length cp12]) p2) :: (fRep (rL rB) (.slice ad64 r39.Bits.length cp65) r39.Bits) :: (fRep r_api_Grid (.agg #[iv r39.W, iv r39.H, .slice ad64 r39.Bits.length cp65]) r39) :: (fRep r_api_Grid (.agg #[iv p1.W, iv p1.H, .slice ad7 p1.Bits.length cp8]) p1) :: (fRep (rL rB) (.slice ad59 r32.Bits.length cp60) r32.Bits) :: (fRep r_api_Grid (.agg #[iv r32.W, iv r32.H, .slice ad59 r32.Bits.length cp60]) r32) :: (fRep r_api_Grid (.agg #[iv p0.W, iv p0.H, .slice ad3 p0.Bits.length cp4]) p0) :: D)) (fun b133 b131 ad69 cp70 ad64 cp65 ad59 cp60 => ?_) fun nd6 => ?_
  · refine node_by (A := anc_raddlelaw13_BlockFills_0) (nf := [1, 3, 5, 6, 7, 8, 9, 10, 11]) (Y := [8, 7, 5, 3, 1]) 12 (by kernel_rfl) (by kernel_rfl) (by kernel_rfl) (by kernel_rfl) (by kernel_rfl) [8, 7, 5, 3, 1, 0, 2, 4] (by kernel_rfl) (by decide) (by decide) (aD 0 11 5 (by decide) (aY 1 10 (by decide) (aD 2 9 5 (by decide) (aY 3 8 (by decide) (aD 4 7 5 (by decide) (aY 5 6 (by decide) (aN 6 5 (by decide) ?_ (aY 7 4 (by decide) (aY 8 3 (by decide) (aB 9 2 6 (by decide) (aB 10 1 6 (by decide) (aB 11 0 6 (by decide) (trivial))))))))))))) [] (fun q hq => by cases hq) (fun hY => absurd (hY 6 (by decide)) (by decide))
    refine ⟨_, [], rfl, (srcs_of [] rfl rfl rfl), fun G a w S => ?_⟩
    refine sAlloc (.agg #[iv 0, iv 0, .slice none 0 0]) S (wN rfl) rfl rfl [iv 0, iv 0, .slice none 0 0] rfl rfl (lb rfl) fun a b134 w S => ?_
    refine leafL ⟨rfl, _, _, .inl ⟨7, (.pointer (some ⟨b134, 0, none⟩)), [], rfl, S, hz_of rfl, ?_⟩⟩
    exact nodePerm (nd3 b133 b131 b134 ad69 cp70 ad64 cp65 ad59 cp60) [1, 2, 0, 3, 4, 5, 6, 7, 8] [1, 2, 0, 3, 4, 5] [0, 1, 2, 3, 4, 5, 6, 7, 8, 9, 10, 11] (by decide) (by decide) rfl rfl rfl
  refine nodeCut (fun N W L D => ∀ b131 ad69 cp70 ad64 cp65 ad59 cp60, N [7, 5, 3, 1] ((7, 8, .pointer (some ⟨b131, 0, none⟩)) :: (5, 33, .agg #[iv r46.W, iv r46.H, .slice ad69 r46.Bits.length cp70]) :: (3, 31, .agg #[iv r39.W, iv r39.H, .slice ad64 r39.Bits.length cp65]) :: (1, 29, .agg #[iv r32.W, iv r32.H, .slice ad59 r32.Bits.length cp60]) :: W) ((eBox b131 24 [iv 0, iv 0, .slice none 0 0]) :: L) ((fRep (rL rB) (.slice ad69 r46.Bits.length cp70) r46.Bits) :: (fRep r_api_Grid (.agg #[iv r46.W, iv r46.H, .slice ad69 r46.Bits.length cp70]) r46) :: (fRep r_api_Grid (.agg #[iv p2.W, iv p2.H, .slice ad11 p2.Bits.length cp12]) p2) :: (fRep (rL rB) (.slice ad64 r39.Bits.length cp65) r39.Bits) :: (fRep r_api_Grid (.agg #[iv r39.W, iv r39.H, .slice ad64 r39.Bits.length cp65]) r39) :: (fRep r_api_Grid (.agg #[iv p1.W, iv p1.H, .slice ad7 p1.Bits.length cp8]) p1) :: (fRep (rL rB) (.slice ad59 r32.Bits.length cp60) r32.Bits) :: (fRep r_api_Grid (.agg #[iv r32.W, iv r32.H, .slice ad59 r32.Bits.length cp60]) r32) :: (fRep r_api_Grid (.agg #[iv p0.W, iv p0.H, .slice ad3 p0.Bits.length cp4]) p0) :: D)) (fun b131 ad69 cp70 ad64 cp65 ad59 cp60 => ?_) fun nd5 => ?_
  · refine node_by (A := anc_raddlelaw13_BlockFills_0) (nf := [1, 3, 5, 6, 7, 8, 9, 10, 11]) (Y := [7, 5, 3, 1]) 12 (by kernel_rfl) (by kernel_rfl) (by kernel_rfl) (by kernel_rfl) (by kernel_rfl) [7, 5, 3, 1, 0, 2, 4] (by kernel_rfl) (by decide) (by decide) (aD 0 11 5 (by decide) (aY 1 10 (by decide) (aD 2 9 5 (by decide) (aY 3 8 (by decide) (aD 4 7 5 (by decide) (aY 5 6 (by decide) (aN 6 5 (by decide) ?_ (aY 7 4 (by decide) (aN 8 3 (by decide) ?_ (aB 9 2 6 (by decide) (aB 10 1 6 (by decide) (aB 11 0 6 (by decide) (trivial))))))))))))) [] (fun q hq => by cases hq) (fun hY => absurd (hY 6 (by decide)) (by decide))
    · refine ⟨_, [], rfl, (srcs_of [] rfl rfl rfl), fun G a w S => ?_⟩
      refine sAlloc (.agg #[iv 0, iv 0, .slice none 0 0]) S (wN rfl) rfl rfl [iv 0, iv 0, .slice none 0 0] rfl rfl (lb rfl) fun a b132 w S => ?_
      refine leafL ⟨rfl, _, _, .inl ⟨7, (.pointer (some ⟨b132, 0, none⟩)), [], rfl, S, hz_of rfl, ?_⟩⟩
      exact nodePerm (nd2 b131 b132 ad69 cp70 ad64 cp65 ad59 cp60) [1, 0, 2, 3, 4, 5, 6, 7] [1, 0, 2, 3, 4] [0, 1, 2, 3, 4, 5, 6, 7, 8, 9, 10, 11] (by decide) (by decide) rfl rfl rfl
    refine ⟨_, [], rfl, (srcs_of [] rfl rfl rfl), fun G a w S => ?_⟩
    refine sAlloc (.agg #[iv 0, iv 0, .slice none 0 0]) S (wN rfl) rfl rfl [iv 0, iv 0, .slice none 0 0] rfl rfl (lb rfl) fun a b133 w S => ?_
    refine leafL ⟨rfl, _, _, .inl ⟨9, (.pointer (some ⟨b133, 0, none⟩)), [], rfl, S, hz_of rfl, ?_⟩⟩
    exact nd6 b133 b131 ad69 cp70 ad64 cp65 ad59 cp60
  refine nodeCut (fun N W L D => ∀ b135 ad69 cp70 ad64 cp65 ad59 cp60, N [8, 5, 3, 1] ((8, 9, .pointer (some ⟨b135, 0, none⟩)) :: (5, 33, .agg #[iv r46.W, iv r46.H, .slice ad69 r46.Bits.length cp70]) :: (3, 31, .agg #[iv r39.W, iv r39.H, .slice ad64 r39.Bits.length cp65]) :: (1, 29, .agg #[iv r32.W, iv r32.H, .slice ad59 r32.Bits.length cp60]) :: W) ((eBox b135 24 [iv 0, iv 0, .slice none 0 0]) :: L) ((fRep (rL rB) (.slice ad69 r46.Bits.length cp70) r46.Bits) :: (fRep r_api_Grid (.agg #[iv r46.W, iv r46.H, .slice ad69 r46.Bits.length cp70]) r46) :: (fRep r_api_Grid (.agg #[iv p2.W, iv p2.H, .slice ad11 p2.Bits.length cp12]) p2) :: (fRep (rL rB) (.slice ad64 r39.Bits.length cp65) r39.Bits) :: (fRep r_api_Grid (.agg #[iv r39.W, iv r39.H, .slice ad64 r39.Bits.length cp65]) r39) :: (fRep r_api_Grid (.agg #[iv p1.W, iv p1.H, .slice ad7 p1.Bits.length cp8]) p1) :: (fRep (rL rB) (.slice ad59 r32.Bits.length cp60) r32.Bits) :: (fRep r_api_Grid (.agg #[iv r32.W, iv r32.H, .slice ad59 r32.Bits.length cp60]) r32) :: (fRep r_api_Grid (.agg #[iv p0.W, iv p0.H, .slice ad3 p0.Bits.length cp4]) p0) :: D)) (fun b135 ad69 cp70 ad64 cp65 ad59 cp60 => ?_) fun nd7 => ?_
  · refine node_by (A := anc_raddlelaw13_BlockFills_0) (nf := [1, 3, 5, 6, 7, 8, 9, 10, 11]) (Y := [8, 5, 3, 1]) 12 (by kernel_rfl) (by kernel_rfl) (by kernel_rfl) (by kernel_rfl) (by kernel_rfl) [8, 5, 3, 1, 0, 2, 4] (by kernel_rfl) (by decide) (by decide) (aD 0 11 5 (by decide) (aY 1 10 (by decide) (aD 2 9 5 (by decide) (aY 3 8 (by decide) (aD 4 7 5 (by decide) (aY 5 6 (by decide) (aN 6 5 (by decide) ?_ (aN 7 4 (by decide) ?_ (aY 8 3 (by decide) (aB 9 2 6 (by decide) (aB 10 1 6 (by decide) (aB 11 0 6 (by decide) (trivial))))))))))))) [] (fun q hq => by cases hq) (fun hY => absurd (hY 6 (by decide)) (by decide))
    · refine ⟨_, [], rfl, (srcs_of [] rfl rfl rfl), fun G a w S => ?_⟩
      refine sAlloc (.agg #[iv 0, iv 0, .slice none 0 0]) S (wN rfl) rfl rfl [iv 0, iv 0, .slice none 0 0] rfl rfl (lb rfl) fun a b136 w S => ?_
      refine leafL ⟨rfl, _, _, .inl ⟨7, (.pointer (some ⟨b136, 0, none⟩)), [], rfl, S, hz_of rfl, ?_⟩⟩
      exact nodePerm (nd4 b135 b136 ad69 cp70 ad64 cp65 ad59 cp60) [1, 0, 2, 3, 4, 5, 6, 7] [1, 0, 2, 3, 4] [0, 1, 2, 3, 4, 5, 6, 7, 8, 9, 10, 11] (by decide) (by decide) rfl rfl rfl
    refine ⟨_, [], rfl, (srcs_of [] rfl rfl rfl), fun G a w S => ?_⟩
    refine sAlloc (.agg #[iv 0, iv 0, .slice none 0 0]) S (wN rfl) rfl rfl [iv 0, iv 0, .slice none 0 0] rfl rfl (lb rfl) fun a b137 w S => ?_
    refine leafL ⟨rfl, _, _, .inl ⟨8, (.pointer (some ⟨b137, 0, none⟩)), [], rfl, S, hz_of rfl, ?_⟩⟩
    exact nodePerm (nd6 b135 b137 ad69 cp70 ad64 cp65 ad59 cp60) [1, 0, 2, 3, 4, 5, 6, 7] [1, 0, 2, 3, 4] [0, 1, 2, 3, 4, 5, 6, 7, 8, 9, 10, 11] (by decide) (by decide) rfl rfl rfl
  refine nodeCut (fun N W L D => ∀ b150 b144 b138 ad64 cp65 ad59 cp60, N [8, 7, 6, 3, 1] ((8, 9, .pointer (some ⟨b150, 0, none⟩)) :: (7, 8, .pointer (some ⟨b144, 0, none⟩)) :: (6, 7, .pointer (some ⟨b138, 0, none⟩)) :: (3, 31, .agg #[iv r39.W, iv r39.H, .slice ad64 r39.Bits.length cp65]) :: (1, 29, .agg #[iv r32.W, iv r32.H, .slice ad59 r32.Bits.length cp60]) :: W) ((eBox b150 24 [iv 0, iv 0, .slice none 0 0]) :: (eBox b144 24 [iv 0, iv 0, .slice none 0 0]) :: (eBox b138 24 [iv 0, iv 0, .slice none 0 0]) :: L) ((fRep (rL rB) (.slice ad64 r39.Bits.length cp65) r39.Bits) :: (fRep r_api_Grid (.agg #[iv r39.W, iv r39.H, .slice ad64 r39.Bits.length cp65]) r39) :: (fRep r_api_Grid (.agg #[iv p1.W, iv p1.H, .slice ad7 p1.Bits.length cp8]) p1) :: (fRep (rL rB) (.slice ad59 r32.Bits.length cp60) r32.Bits) :: (fRep r_api_Grid (.agg #[iv r32.W, iv r32.H, .slice ad59 r32.Bits.length cp60]) r32) :: (fRep r_api_Grid (.agg #[iv p0.W, iv p0.H, .slice ad3 p0.Bits.length cp4]) p0) :: D)) (fun b150 b144 b138 ad64 cp65 ad59 cp60 => ?_) fun nd10 => ?_
  · refine node_by (A := anc_raddlelaw13_BlockFills_0) (nf := [1, 3, 5, 6, 7, 8, 9, 10, 11]) (Y := [8, 7, 6, 3, 1]) 12 (by kernel_rfl) (by kernel_rfl) (by kernel_rfl) (by kernel_rfl) (by kernel_rfl) [8, 7, 6, 3, 1, 0, 2, 4] (by kernel_rfl) (by decide) (by decide) (aD 0 11 3 (by decide) (aY 1 10 (by decide) (aD 2 9 3 (by decide) (aY 3 8 (by decide) (aF 4 7 (by decide) ?_ (aN 5 6 (by decide) ?_ (aY 6 5 (by decide) (aY 7 4 (by decide) (aY 8 3 (by decide) (aB 9 2 5 (by decide) (aB 10 1 5 (by decide) (aB 11 0 5 (by decide) (trivial))))))))))))) [] (fun q hq => by cases hq) (fun hY => absurd (hY 5 (by decide)) (by decide))
    · refine fI 32 (.agg #[iv p2.W, iv p2.H, .slice ad11 p2.Bits.length cp12]) [(5, .pointer (some ⟨b16, 0, none⟩))] 7 [none] rfl rfl rfl rfl rfl rfl fun G a w S => ?_
      refine sLoadN (p := b16) (off := 0) (T := 24) (vs := [iv p2.W, iv p2.H, .slice ad11 p2.Bits.length cp12]) 5 [iv p2.W, iv p2.H, .slice ad11 p2.Bits.length cp12] S (wN rfl) rfl rfl rfl rfl rfl rfl rfl (lb rfl) fun a S => ?_
      exact leafL ⟨rfl, S⟩
    refine ⟨_, [(32, .agg #[iv p2.W, iv p2.H, .slice ad11 p2.Bits.length cp12])], rfl, (srcs_of [some 7] rfl rfl rfl), fun G a w S => ?_⟩
    have S := S.learn (fRep r_api_Grid (.agg #[iv p2.W, iv p2.H, .slice ad11 p2.Bits.length cp12]) p2) ⟨_, rfl, S.mem.know (i := 8) (e := fRep (rL rB) (.slice ad11 p2.Bits.length cp12) p2.Bits) rfl⟩
    refine sCall (X := Value) (f := 12) (vs := [.agg #[iv p2.W, iv p2.H, .slice ad11 p2.Bits.length cp12]]) (val := c_raddleref01_Twin_val r46) (B' := fun _ => []) (D' := c_raddleref01_Twin_D r46) [] [eBox b150 24 [iv 0, iv 0, .slice none 0 0], eBox b144 24 [iv 0, iv 0, .slice none 0 0], eBox b138 24 [iv 0, iv 0, .slice none 0 0], eBox b14 24 [iv p0.W, iv p0.H, .slice ad3 p0.Bits.length cp4], eBox b15 24 [iv p1.W, iv p1.H, .slice ad7 p1.Bits.length cp8], eBox b16 24 [iv p2.W, iv p2.H, .slice ad11 p2.Bits.length cp12]] [fRep r_api_Grid (.agg #[iv p2.W, iv p2.H, .slice ad11 p2.Bits.length cp12]) p2] [0, 1, 2, 3, 4, 5] [0] S (wN rfl) rfl callee12 rfl (by decide) rfl rfl (fun E1 w1 S1 => c_raddleref01_Twin E1 w1 p2 (.agg #[iv p2.W, iv p2.H, .slice ad11 p2.Bits.length cp12]) r46 hx47 S1) rfl (lb rfl) fun u151 a w S => ?_
    obtain ⟨u152, rfl, hu153⟩ := S.mem.know (i := 0) (e := fRep r_api_Grid (u151) r46) rfl
    have S := S.learn (fRep (rL rB) u152 r46.Bits) hu153
    obtain ⟨ad154, cp155, _, rfl, _⟩ := hu153
    refine leafL ⟨rfl, _, _, .inl ⟨33, (.agg #[iv r46.W, iv r46.H, .slice ad154 r46.Bits.length cp155]), [], rfl, S, hz_of rfl, ?_⟩⟩
    exact nodePerm (nd3 b150 b144 b138 ad154 cp155 ad64 cp65 ad59 cp60) [1, 2, 3, 0, 4, 5, 6, 7, 8] [0, 1, 2, 3, 4, 5] [0, 1, 2, 3, 4, 5, 6, 7, 8, 9, 10, 11] (by decide) (by decide) rfl rfl rfl
  refine nodeCut (fun N W L D => ∀ b144 b138 ad64 cp65 ad59 cp60, N [7, 6, 3, 1] ((7, 8, .pointer (some ⟨b144, 0, none⟩)) :: (6, 7, .pointer (some ⟨b138, 0, none⟩)) :: (3, 31, .agg #[iv r39.W, iv r39.H, .slice ad64 r39.Bits.length cp65]) :: (1, 29, .agg #[iv r32.W, iv r32.H, .slice ad59 r32.Bits.length cp60]) :: W) ((eBox b144 24 [iv 0, iv 0, .slice none 0 0]) :: (eBox b138 24 [iv 0, iv 0, .slice none 0 0]) :: L) ((fRep (rL rB) (.slice ad64 r39.Bits.length cp65) r39.Bits) :: (fRep r_api_Grid (.agg #[iv r39.W, iv r39.H, .slice ad64 r39.Bits.length cp65]) r39) :: (fRep r_api_Grid (.agg #[iv p1.W, iv p1.H, .slice ad7 p1.Bits.length cp8]) p1) :: (fRep (rL rB) (.slice ad59 r32.Bits.length cp60) r32.Bits) :: (fRep r_api_Grid (.agg #[iv r32.W, iv r32.H, .slice ad59 r32.Bits.length cp60]) r32) :: (fRep r_api_Grid (.agg #[iv p0.W, iv p0.H, .slice ad3 p0.Bits.length cp4]) p0) :: D)) (fun b144 b138 ad64 cp65 ad59 cp60 => ?_) fun nd9 => ?_
  · refine node_by (A := anc_raddlelaw13_BlockFills_0) (nf := [1, 3, 5, 6, 7, 8, 9, 10, 11]) (Y := [7, 6, 3, 1]) 12 (by kernel_rfl) (by kernel_rfl) (by kernel_rfl) (by kernel_rfl) (by kernel_rfl) [7, 6, 3, 1, 0, 2, 4] (by kernel_rfl) (by decide) (by decide) (aD 0 11 3 (by decide) (aY 1 10 (by decide) (aD 2 9 3 (by decide) (aY 3 8 (by decide) (aF 4 7 (by decide) ?_ (aN 5 6 (by decide) ?_ (aY 6 5 (by decide) (aY 7 4 (by decide) (aN 8 3 (by decide) ?_ (aB 9 2 5 (by decide) (aB 10 1 5 (by decide) (aB 11 0 5 (by decide) (trivial))))))))))))) [] (fun q hq => by cases hq) (fun hY => absurd (hY 5 (by decide)) (by decide))
    · refine fI 32 (.agg #[iv p2.W, iv p2.H, .slice ad11 p2.Bits.length cp12]) [(5, .pointer (some ⟨b16, 0, none⟩))] 6 [none] rfl rfl rfl rfl rfl rfl fun G a w S => ?_
      refine sLoadN (p := b16) (off := 0) (T := 24) (vs := [iv p2.W, iv p2.H, .slice ad11 p2.Bits.length cp12]) 4 [iv p2.W, iv p2.H, .slice ad11 p2.Bits.length cp12] S (wN rfl) rfl rfl rfl rfl rfl rfl rfl (lb rfl) fun a S => ?_
      exact leafL ⟨rfl, S⟩
    · refine ⟨_, [(32, .agg #[iv p2.W, iv p2.H, .slice ad11 p2.Bits.length cp12])], rfl, (srcs_of [some 6] rfl rfl rfl), fun G a w S => ?_⟩
      have S := S.learn (fRep r_api_Grid (.agg #[iv p2.W, iv p2.H, .slice ad11 p2.Bits.length cp12]) p2) ⟨_, rfl, S.mem.know (i := 8) (e := fRep (rL rB) (.slice ad11 p2.Bits.length cp12) p2.Bits) rfl⟩
      refine sCall (X := Value) (f := 12) (vs := [.agg #[iv p2.W, iv p2.H, .slice ad11 p2.Bits.length cp12]]) (val := c_raddleref01_Twin_val r46) (B' := fun _ => []) (D' := c_raddleref01_Twin_D r46) [] [eBox b144 24 [iv 0, iv 0, .slice none 0 0], eBox b138 24 [iv 0, iv 0, .slice none 0 0], eBox b14 24 [iv p0.W, iv p0.H, .slice ad3 p0.Bits.length cp4], eBox b15 24 [iv p1.W, iv p1.H, .slice ad7 p1.Bits.length cp8], eBox b16 24 [iv p2.W, iv p2.H, .slice ad11 p2.Bits.length cp12]] [fRep r_api_Grid (.agg #[iv p2.W, iv p2.H, .slice ad11 p2.Bits.length cp12]) p2] [0, 1, 2, 3, 4] [0] S (wN rfl) rfl callee12 rfl (by decide) rfl rfl (fun E1 w1 S1 => c_raddleref01_Twin E1 w1 p2 (.agg #[iv p2.W, iv p2.H, .slice ad11 p2.Bits.length cp12]) r46 hx47 S1) rfl (lb rfl) fun u145 a w S => ?_
      obtain ⟨u146, rfl, hu147⟩ := S.mem.know (i := 0) (e := fRep r_api_Grid (u145) r46) rfl
      have S := S.learn (fRep (rL rB) u146 r46.Bits) hu147
      obtain ⟨ad148, cp149, _, rfl, _⟩ := hu147
      refine leafL ⟨rfl, _, _, .inl ⟨33, (.agg #[iv r46.W, iv r46.H, .slice ad148 r46.Bits.length cp149]), [], rfl, S, hz_of rfl, ?_⟩⟩
      exact nodePerm (nd2 b144 b138 ad148 cp149 ad64 cp65 ad59 cp60) [1, 2, 0, 3, 4, 5, 6, 7] [0, 1, 2, 3, 4] [0, 1, 2, 3, 4, 5, 6, 7, 8, 9, 10, 11] (by decide) (by decide) rfl rfl rfl
    refine ⟨_, [], rfl, (srcs_of [] rfl rfl rfl), fun G a w S => ?_⟩
    refine sAlloc (.agg #[iv 0, iv 0, .slice none 0 0]) S (wN rfl) rfl rfl [iv 0, iv 0, .slice none 0 0] rfl rfl (lb rfl) fun a b150 w S => ?_
    refine leafL ⟨rfl, _, _, .inl ⟨9, (.pointer (some ⟨b150, 0, none⟩)), [], rfl, S, hz_of rfl, ?_⟩⟩
    exact nd10 b150 b144 b138 ad64 cp65 ad59 cp60
  refine nodeCut (fun N W L D => ∀ b156 b138 ad64 cp65 ad59 cp60, N [8, 6, 3, 1] ((8, 9, .pointer (some ⟨b156, 0, none⟩)) :: (6, 7, .pointer (some ⟨b138, 0, none⟩)) :: (3, 31, .agg #[iv r39.W, iv r39.H, .slice ad64 r39.Bits.length cp65]) :: (1, 29, .agg #[iv r32.W, iv r32.H, .slice ad59 r32.Bits.length cp60]) :: W) ((eBox b156 24 [iv 0, iv 0, .slice none 0 0]) :: (eBox b138 24 [iv 0, iv 0, .slice none 0 0]) :: L) ((fRep (rL rB) (.slice ad64 r39.Bits.length cp65) r39.Bits) :: (fRep r_api_Grid (.agg #[iv r39.W, iv r39.H, .slice ad64 r39.Bits.length cp65]) r39) :: (fRep r_api_Grid (.agg #[iv p1.W, iv p1.H, .slice ad7 p1.Bits.length cp8]) p1) :: (fRep (rL rB) (.slice ad59 r32.Bits.length cp60) r32.Bits) :: (fRep r_api_Grid (.agg #[iv r32.W, iv r32.H, .slice ad59 r32.Bits.length cp60]) r32) :: (fRep r_api_Grid (.agg #[iv p0.W, iv p0.H, .slice ad3 p0.Bits.length cp4]) p0) :: D)) (fun b156 b138 ad64 cp65 ad59 cp60 => ?_) fun nd11 => ?_
  · refine node_by (A := anc_raddlelaw13_BlockFills_0) (nf := [1, 3, 5, 6, 7, 8, 9, 10, 11]) (Y := [8, 6, 3, 1]) 12 (by kernel_rfl) (by kernel_rfl) (by kernel_rfl) (by kernel_rfl) (by kernel_rfl) [8, 6, 3, 1, 0, 2, 4] (by kernel_rfl) (by decide) (by decide) (aD 0 11 3 (by decide) (aY 1 10 (by decide) (aD 2 9 3 (by decide) (aY 3 8 (by decide) (aF 4 7 (by decide) ?_ (aN 5 6 (by decide) ?_ (aY 6 5 (by decide) (aN 7 4 (by decide) ?_ (aY 8 3 (by decide) (aB 9 2 5 (by decide) (aB 10 1 5 (by decide) (aB 11 0 5 (by decide) (trivial))))))))))))) [] (fun q hq => by cases hq) (fun hY => absurd (hY 5 (by decide)) (by decide))
    · refine fI 32 (.agg #[iv p2.W, iv p2.H, .slice ad11 p2.Bits.length cp12]) [(5, .pointer (some ⟨b16, 0, none⟩))] 6 [none] rfl rfl rfl rfl rfl rfl fun G a w S => ?_
      refine sLoadN (p := b16) (off := 0) (T := 24) (vs := [iv p2.W, iv p2.H, .slice ad11 p2.Bits.length cp12]) 4 [iv p2.W, iv p2.H, .slice ad11 p2.Bits.length cp12] S (wN rfl) rfl rfl rfl rfl rfl rfl rfl (lb rfl) fun a S => ?_
      exact leafL ⟨rfl, S⟩
    · refine ⟨_, [(32, .agg #[iv p2.W, iv p2.H, .slice ad11 p2.Bits.length cp12])], rfl, (srcs_of [some 6] rfl rfl rfl), fun G a w S => ?_⟩
      have S := S.learn (fRep r_api_Grid (.agg #[iv p2.W, iv p2.H, .slice ad11 p2.Bits.length cp12]) p2) ⟨_, rfl, S.mem.know (i := 8) (e := fRep (rL rB) (.slice ad11 p2.Bits.length cp12) p2.Bits) rfl⟩
      refine sCall (X := Value) (f := 12) (vs := [.agg #[iv p2.W, iv p2.H, .slice ad11 p2.Bits.length cp12]]) (val := c_raddleref01_Twin_val r46) (B' := fun _ => []) (D' := c_raddleref01_Twin_D r46) [] [eBox b156 24 [iv 0, iv 0, .slice none 0 0], eBox b138 24 [iv 0, iv 0, .slice none 0 0], eBox b14 24 [iv p0.W, iv p0.H, .slice ad3 p0.Bits.length cp4], eBox b15 24 [iv p1.W, iv p1.H, .slice ad7 p1.Bits.length cp8], eBox b16 24 [iv p2.W, iv p2.H, .slice ad11 p2.Bits.length cp12]] [fRep r_api_Grid (.agg #[iv p2.W, iv p2.H, .slice ad11 p2.Bits.length cp12]) p2] [0, 1, 2, 3, 4] [0] S (wN rfl) rfl callee12 rfl (by decide) rfl rfl (fun E1 w1 S1 => c_raddleref01_Twin E1 w1 p2 (.agg #[iv p2.W, iv p2.H, .slice ad11 p2.Bits.length cp12]) r46 hx47 S1) rfl (lb rfl) fun u157 a w S => ?_
      obtain ⟨u158, rfl, hu159⟩ := S.mem.know (i := 0) (e := fRep r_api_Grid (u157) r46) rfl
      have S := S.learn (fRep (rL rB) u158 r46.Bits) hu159
      obtain ⟨ad160, cp161, _, rfl, _⟩ := hu159
      refine leafL ⟨rfl, _, _, .inl ⟨33, (.agg #[iv r46.W, iv r46.H, .slice ad160 r46.Bits.length cp161]), [], rfl, S, hz_of rfl, ?_⟩⟩
      exact nodePerm (nd4 b156 b138 ad160 cp161 ad64 cp65 ad59 cp60) [1, 2, 0, 3, 4, 5, 6, 7] [0, 1, 2, 3, 4] [0, 1, 2, 3, 4, 5, 6, 7, 8, 9, 10, 11] (by decide) (by decide) rfl rfl rfl
    refine ⟨_, [], rfl, (srcs_of [] rfl rfl rfl), fun G a w S => ?_⟩
    refine sAlloc (.agg #[iv 0, iv 0, .slice none 0 0]) S (wN rfl) rfl rfl [iv 0, iv 0, .slice none 0 0] rfl rfl (lb rfl) fun a b162 w S => ?_
    refine leafL ⟨rfl, _, _, .inl ⟨8, (.pointer (some ⟨b162, 0, none⟩)), [], rfl, S, hz_of rfl, ?_⟩⟩
    exact nodePerm (nd10 b156 b162 b138 ad64 cp65 ad59 cp60) [1, 0, 2, 3, 4, 5, 6, 7] [1, 0, 2, 3, 4, 5] [0, 1, 2, 3, 4, 5, 6, 7, 8] (by decide) (by decide) rfl rfl rfl
  refine nodeCut (fun N W L D => ∀ b138 ad64 cp65 ad59 cp60, N [6, 3, 1] ((6, 7, .pointer (some ⟨b138, 0, none⟩)) :: (3, 31, .agg #[iv r39.W, iv r39.H, .slice ad64 r39.Bits.length cp65]) :: (1, 29, .agg #[iv r32.W, iv r32.H, .slice ad59 r32.Bits.length cp60]) :: W) ((eBox b138 24 [iv 0, iv 0, .slice none 0 0]) :: L) ((fRep (rL rB) (.slice ad64 r39.Bits.length cp65) r39.Bits) :: (fRep r_api_Grid (.agg #[iv r39.W, iv r39.H, .slice ad64 r39.Bits.length cp65]) r39) :: (fRep r_api_Grid (.agg #[iv p1.W, iv p1.H, .slice ad7 p1.Bits.length cp8]) p1) :: (fRep (rL rB) (.slice ad59 r32.Bits.length cp60) r32.Bits) :: (fRep r_api_Grid (.agg #[iv r32.W, iv r32.H, .slice ad59 r32.Bits.length cp60]) r32) :: (fRep r_api_Grid (.agg #[iv p0.W, iv p0.H, .slice ad3 p0.Bits.length cp4]) p0) :: D)) (fun b138 ad64 cp65 ad59 cp60 => ?_) fun nd8 => ?_
  · refine node_by (A := anc_raddlelaw13_BlockFills_0) (nf := [1, 3, 5, 6, 7, 8, 9, 10, 11]) (Y := [6, 3, 1]) 12 (by kernel_rfl) (by kernel_rfl) (by kernel_rfl) (by kernel_rfl) (by kernel_rfl) [6, 3, 1, 0, 2, 4] (by kernel_rfl) (by decide) (by decide) (aD 0 11 3 (by decide) (aY 1 10 (by decide) (aD 2 9 3 (by decide) (aY 3 8 (by decide) (aF 4 7 (by decide) ?_ (aN 5 6 (by decide) ?_ (aY 6 5 (by decide) (aN 7 4 (by decide) ?_ (aN 8 3 (by decide) ?_ (aB 9 2 5 (by decide) (aB 10 1 5 (by decide) (aB 11 0 5 (by decide) (trivial))))))))))))) [] (fun q hq => by cases hq) (fun hY => absurd (hY 5 (by decide)) (by decide))
    · refine fI 32 (.agg #[iv p2.W, iv p2.H, .slice ad11 p2.Bits.length cp12]) [(5, .pointer (some ⟨b16, 0, none⟩))] 5 [none] rfl rfl rfl rfl rfl rfl fun G a w S => ?_
      refine sLoadN (p := b16) (off := 0) (T := 24) (vs := [iv p2.W, iv p2.H, .slice ad11 p2.Bits.length cp12]) 3 [iv p2.W, iv p2.H, .slice ad11 p2.Bits.length cp12] S (wN rfl) rfl rfl rfl rfl rfl rfl rfl (lb rfl) fun a S => ?_
      exact leafL ⟨rfl, S⟩
    · refine ⟨_, [(32, .agg #[iv p2.W, iv p2.H, .slice ad11 p2.Bits.length cp12])], rfl, (srcs_of [some 5] rfl rfl rfl), fun G a w S => ?_⟩
      have S := S.learn (fRep r_api_Grid (.agg #[iv p2.W, iv p2.H, .slice ad11 p2.Bits.length cp12]) p2) ⟨_, rfl, S.mem.know (i := 8) (e := fRep (rL rB) (.slice ad11 p2.Bits.length cp12) p2.Bits) rfl⟩
      refine sCall (X := Value) (f := 12) (vs := [.agg #[iv p2.W, iv p2.H, .slice ad11 p2.Bits.length cp12]]) (val := c_raddleref01_Twin_val r46) (B' := fun _ => []) (D' := c_raddleref01_Twin_D r46) [] [eBox b138 24 [iv 0, iv 0, .slice none 0 0], eBox b14 24 [iv p0.W, iv p0.H, .slice ad3 p0.Bits.length cp4], eBox b15 24 [iv p1.W, iv p1.H, .slice ad7 p1.Bits.length cp8], eBox b16 24 [iv p2.W, iv p2.H, .slice ad11 p2.Bits.length cp12]] [fRep r_api_Grid (.agg #[iv p2.W, iv p2.H, .slice ad11 p2.Bits.length cp12]) p2] [0, 1, 2, 3] [0] S (wN rfl) rfl callee12 rfl (by decide) rfl rfl (fun E1 w1 S1 => c_raddleref01_Twin E1 w1 p2 (.agg #[iv p2.W, iv p2.H, .slice ad11 p2.Bits.length cp12]) r46 hx47 S1) rfl (lb rfl) fun u139 a w S => ?_
      obtain ⟨u140, rfl, hu141⟩ := S.mem.know (i := 0) (e := fRep r_api_Grid (u139) r46) rfl
      have S := S.learn (fRep (rL rB) u140 r46.Bits) hu141
      obtain ⟨ad142, cp143, _, rfl, _⟩ := hu141
      refine leafL ⟨rfl, _, _, .inl ⟨33, (.agg #[iv r46.W, iv r46.H, .slice ad142 r46.Bits.length cp143]), [], rfl, S, hz_of rfl, ?_⟩⟩
      exact nodePerm (nd1 b138 ad142 cp143 ad64 cp65 ad59 cp60) [1, 0, 2, 3, 4, 5, 6] [0, 1, 2, 3] [0, 1, 2, 3, 4, 5, 6, 7, 8, 9, 10, 11] (by decide) (by decide) rfl rfl rfl
    · refine ⟨_, [], rfl, (srcs_of [] rfl rfl rfl), fun G a w S => ?_⟩
      refine sAlloc (.agg #[iv 0, iv 0, .slice none 0 0]) S (wN rfl) rfl rfl [iv 0, iv 0, .slice none 0 0] rfl rfl (lb rfl) fun a b144 w S => ?_
      refine leafL ⟨rfl, _, _, .inl ⟨8, (.pointer (some ⟨b144, 0, none⟩)), [], rfl, S, hz_of rfl, ?_⟩⟩
      exact nd9 b144 b138 ad64 cp65 ad59 cp60
    refine ⟨_, [], rfl, (srcs_of [] rfl rfl rfl), fun G a w S => ?_⟩
    refine sAlloc (.agg #[iv 0, iv 0, .slice none 0 0]) S (wN rfl) rfl rfl [iv 0, iv 0, .slice none 0 0] rfl rfl (lb rfl) fun a b156 w S => ?_
    refine leafL ⟨rfl, _, _, .inl ⟨9, (.pointer (some ⟨b156, 0, none⟩)), [], rfl, S, hz_of rfl, ?_⟩⟩
    exact nd11 b156 b138 ad64 cp65 ad59 cp60
  refine nodeCut (fun N W L D => ∀ b170 b163 ad64 cp65 ad59 cp60, N [8, 7, 3, 1] ((8, 9, .pointer (some ⟨b170, 0, none⟩)) :: (7, 8, .pointer (some ⟨b163, 0, none⟩)) :: (3, 31, .agg #[iv r39.W, iv r39.H, .slice ad64 r39.Bits.length cp65]) :: (1, 29, .agg #[iv r32.W, iv r32.H, .slice ad59 r32.Bits.length cp60]) :: W) ((eBox b170 24 [iv 0, iv 0, .slice none 0 0]) :: (eBox b163 24 [iv 0, iv 0, .slice none 0 0]) :: L) ((fRep (rL rB) (.slice ad64 r39.Bits.length cp65) r39.Bits) :: (fRep r_api_Grid (.agg #[iv r39.W, iv r39.H, .slice ad64 r39.Bits.length cp65]) r39) :: (fRep r_api_Grid (.agg #[iv p1.W, iv p1.H, .slice ad7 p1.Bits.length cp8]) p1) :: (fRep (rL rB) (.slice ad59 r32.Bits.length cp60) r32.Bits) :: (fRep r_api_Grid (.agg #[iv r32.W, iv r32.H, .slice ad59 r32.Bits.length cp60]) r32) :: (fRep r_api_Grid (.agg #[iv p0.W, iv p0.H, .slice ad3 p0.Bits.length cp4]) p0) :: D)) (fun b170 b163 ad64 cp65 ad59 cp60 => ?_) fun nd13 => ?_
  · refine node_by (A := anc_raddlelaw13_BlockFills_0) (nf := [1, 3, 5, 6, 7, 8, 9, 10, 11]) (Y := [8, 7, 3, 1]) 12 (by kernel_rfl) (by kernel_rfl) (by kernel_rfl) (by kernel_rfl) (by kernel_rfl) [8, 7, 3, 1, 0, 2, 4] (by kernel_rfl) (by decide) (by decide) (aD 0 11 3 (by decide) (aY 1 10 (by decide) (aD 2 9 3 (by decide) (aY 3 8 (by decide) (aF 4 7 (by decide) ?_ (aN 5 6 (by decide) ?_ (aN 6 5 (by decide) ?_ (aY 7 4 (by decide) (aY 8 3 (by decide) (aB 9 2 5 (by decide) (aB 10 1 5 (by decide) (aB 11 0 5 (by decide) (trivial))))))))))))) [] (fun q hq => by cases hq) (fun hY => absurd (hY 5 (by decide)) (by decide))
    · refine fI 32 (.agg #[iv p2.W, iv p2.H, .slice ad11 p2.Bits.length cp12]) [(5, .pointer (some ⟨b16, 0, none⟩))] 6 [none] rfl rfl rfl rfl rfl rfl fun G a w S => ?_
      refine sLoadN (p := b16) (off := 0) (T := 24) (vs := [iv p2.W, iv p2.H, .slice ad11 p2.Bits.length cp12]) 4 [iv p2.W, iv p2.H, .slice ad11 p2.Bits.length cp12] S (wN rfl) rfl rfl rfl rfl rfl rfl rfl (lb rfl) fun a S => ?_
      exact leafL ⟨rfl, S⟩
    · refine ⟨_, [(32, .agg #[iv p2.W, iv p2.H, .slice ad11 p2.Bits.length cp12])], rfl, (srcs_of [some 6] rfl rfl rfl), fun G a w S => ?_⟩
      have S := S.learn (fRep r_api_Grid (.agg #[iv p2.W, iv p2.H, .slice ad11 p2.Bits.length cp12]) p2) ⟨_, rfl, S.mem.know (i := 8) (e := fRep (rL rB) (.slice ad11 p2.Bits.length cp12) p2.Bits) rfl⟩
      refine sCall (X := Value) (f := 12) (vs := [.agg #[iv p2.W, iv p2.H, .slice ad11 p2.Bits.length cp12]]) (val := c_raddleref01_Twin_val r46) (B' := fun _ => []) (D' := c_raddleref01_Twin_D r46) [] [eBox b170 24 [iv 0, iv 0, .slice none 0 0], eBox b163 24 [iv 0, iv 0, .slice none 0 0], eBox b14 24 [iv p0.W, iv p0.H, .slice ad3 p0.Bits.length cp4], eBox b15 24 [iv p1.W, iv p1.H, .slice ad7 p1.Bits.length cp8], eBox b16 24 [iv p2.W, iv p2.H, .slice ad11 p2.Bits.length cp12]] [fRep r_api_Grid (.agg #[iv p2.W, iv p2.H, .slice ad11 p2.Bits.length cp12]) p2] [0, 1, 2, 3, 4] [0] S (wN rfl) rfl callee12 rfl (by decide) rfl rfl (fun E1 w1 S1 => c_raddleref01_Twin E1 w1 p2 (.agg #[iv p2.W, iv p2.H, .slice ad11 p2.Bits.length cp12]) r46 hx47 S1) rfl (lb rfl) fun u171 a w S => ?_
      obtain ⟨u172, rfl, hu173⟩ := S.mem.know (i := 0) (e := fRep r_api_Grid (u171) r46) rfl
      have S := S.learn (fRep (rL rB) u172 r46.Bits) hu173
      obtain ⟨ad174, cp175, _, rfl, _⟩ := hu173
      refine leafL ⟨rfl, _, _, .inl ⟨33, (.agg #[iv r46.W, iv r46.H, .slice ad174 r46.Bits.length cp175]), [], rfl, S, hz_of rfl, ?_⟩⟩
      exact nodePerm (nd6 b170 b163 ad174 cp175 ad64 cp65 ad59 cp60) [1, 2, 0, 3, 4, 5, 6, 7] [0, 1, 2, 3, 4] [0, 1, 2, 3, 4, 5, 6, 7, 8, 9, 10, 11] (by decide) (by decide) rfl rfl rfl
    refine ⟨_, [], rfl, (srcs_of [] rfl rfl rfl), fun G a w S => ?_⟩
    refine sAlloc (.agg #[iv 0, iv 0, .slice none 0 0]) S (wN rfl) rfl rfl [iv 0, iv 0, .slice none 0 0] rfl rfl (lb rfl) fun a b176 w S => ?_
    refine leafL ⟨rfl, _, _, .inl ⟨7, (.pointer (some ⟨b176, 0, none⟩)), [], rfl, S, hz_of rfl, ?_⟩⟩
    exact nodePerm (nd10 b170 b163 b176 ad64 cp65 ad59 cp60) [1, 2, 0, 3, 4, 5, 6, 7] [1, 2, 0, 3, 4, 5] [0, 1, 2, 3, 4, 5, 6, 7, 8] (by decide) (by decide) rfl rfl rfl
  refine nodeCut (fun N W L D => ∀ b163 ad64 cp65 ad59 cp60, N [7, 3, 1] ((7, 8, .pointer (some ⟨b163, 0, none⟩)) :: (3, 31, .agg #[iv r39.W, iv r39.H, .slice ad64 r39.Bits.length cp65]) :: (1, 29, .agg #[iv r32.W, iv r32.H, .slice ad59 r32.Bits.length cp60]) :: W) ((eBox b163 24 [iv 0, iv 0, .slice none 0 0]) :: L) ((fRep (rL rB) (.slice ad64 r39.Bits.length cp65) r39.Bits) :: (fRep r_api_Grid (.agg #[iv r39.W, iv r39.H, .slice ad64 r39.Bits.length cp65]) r39) :: (fRep r_api_Grid (.agg #[iv p1.W, iv p1.H, .slice ad7 p1.Bits.length cp8]) p1) :: (fRep (rL rB) (.slice ad59 r32.Bits.length cp60) r32.Bits) :: (fRep r_api_Grid (.agg #[iv r32.W, iv r32.H, .slice ad59 r32.Bits.length cp60]) r32) :: (fRep r_api_Grid (.agg #[iv p0.W, iv p0.H, .slice ad3 p0.Bits.length cp4]) p0) :: D)) (fun b163 ad64 cp65 ad59 cp60 => ?_) fun nd12 => ?_
  · refine node_by (A := anc_raddlelaw13_BlockFills_0) (nf := [1, 3, 5, 6, 7, 8, 9, 10, 11]) (Y := [7, 3, 1]) 12 (by kernel_rfl) (by kernel_rfl) (by kernel_rfl) (by kernel_rfl) (by kernel_rfl) [7, 3, 1, 0, 2, 4] (by kernel_rfl) (by decide) (by decide) (aD 0 11 3 (by decide) (aY 1 10 (by decide) (aD 2 9 3 (by decide) (aY 3 8 (by decide) (aF 4 7 (by decide) ?_ (aN 5 6 (by decide) ?_ (aN 6 5 (by decide) ?_ (aY 7 4 (by decide) (aN 8 3 (by decide) ?_ (aB 9 2 5 (by decide) (aB 10 1 5 (by decide) (aB 11 0 5 (by decide) (trivial))))))))))))) [] (fun q hq => by cases hq) (fun hY => absurd (hY 5 (by decide)) (by decide))
    · refine fI 32 (.agg #[iv p2.W, iv p2.H, .slice ad11 p2.Bits.length cp12]) [(5, .pointer (some ⟨b16, 0, none⟩))] 5 [none] rfl rfl rfl rfl rfl rfl fun G a w S => ?_
      refine sLoadN (p := b16) (off := 0) (T := 24) (vs := [iv p2.W, iv p2.H, .slice ad11 p2.Bits.length cp12]) 3 [iv p2.W, iv p2.H, .slice ad11 p2.Bits.length cp12] S (wN rfl) rfl rfl rfl rfl rfl rfl rfl (lb rfl) fun a S => ?_
      exact leafL ⟨rfl, S⟩
    · refine ⟨_, [(32, .agg #[iv p2.W, iv p2.H, .slice ad11 p2.Bits.length cp12])], rfl, (srcs_of [some 5] rfl rfl rfl), fun G a w S => ?_⟩
      have S := S.learn (fRep r_api_Grid (.agg #[iv p2.W, iv p2.H, .slice ad11 p2.Bits.length cp12]) p2) ⟨_, rfl, S.mem.know (i := 8) (e := fRep (rL rB) (.slice ad11 p2.Bits.length cp12) p2.Bits) rfl⟩
      refine sCall (X := Value) (f := 12) (vs := [.agg #[iv p2.W, iv p2.H, .slice ad11 p2.Bits.length cp12]]) (val := c_raddleref01_Twin_val r46) (B' := fun _ => []) (D' := c_raddleref01_Twin_D r46) [] [eBox b163 24 [iv 0, iv 0, .slice none 0 0], eBox b14 24 [iv p0.W, iv p0.H, .slice ad3 p0.Bits.length cp4], eBox b15 24 [iv p1.W, iv p1.H, .slice ad7 p1.Bits.length cp8], eBox b16 24 [iv p2.W, iv p2.H, .slice ad11 p2.Bits.length cp12]] [fRep r_api_Grid (.agg #[iv p2.W, iv p2.H, .slice ad11 p2.Bits.length cp12]) p2] [0, 1, 2, 3] [0] S (wN rfl) rfl callee12 rfl (by decide) rfl rfl (fun E1 w1 S1 => c_raddleref01_Twin E1 w1 p2 (.agg #[iv p2.W, iv p2.H, .slice ad11 p2.Bits.length cp12]) r46 hx47 S1) rfl (lb rfl) fun u164 a w S => ?_
      obtain ⟨u165, rfl, hu166⟩ := S.mem.know (i := 0) (e := fRep r_api_Grid (u164) r46) rfl
      have S := S.learn (fRep (rL rB) u165 r46.Bits) hu166
      obtain ⟨ad167, cp168, _, rfl, _⟩ := hu166
      refine leafL ⟨rfl, _, _, .inl ⟨33, (.agg #[iv r46.W, iv r46.H, .slice ad167 r46.Bits.length cp168]), [], rfl, S, hz_of rfl, ?_⟩⟩
      exact nodePerm (nd5 b163 ad167 cp168 ad64 cp65 ad59 cp60) [1, 0, 2, 3, 4, 5, 6] [0, 1, 2, 3] [0, 1, 2, 3, 4, 5, 6, 7, 8, 9, 10, 11] (by decide) (by decide) rfl rfl rfl
    · refine ⟨_, [], rfl, (srcs_of [] rfl rfl rfl), fun G a w S => ?_⟩
      refine sAlloc (.agg #[iv 0, iv 0, .slice none 0 0]) S (wN rfl) rfl rfl [iv 0, iv 0, .slice none 0 0] rfl rfl (lb rfl) fun a b169 w S => ?_
      refine leafL ⟨rfl, _, _, .inl ⟨7, (.pointer (some ⟨b169, 0, none⟩)), [], rfl, S, hz_of rfl, ?_⟩⟩
      exact nodePerm (nd9 b163 b169 ad64 cp65 ad59 cp60) [1, 0, 2, 3, 4, 5, 6] [1, 0, 2, 3, 4] [0, 1, 2, 3, 4, 5, 6, 7, 8] (by decide) (by decide) rfl rfl rfl
    refine ⟨_, [], rfl, (srcs_of [] rfl rfl rfl), fun G a w S => ?_⟩
    refine sAlloc (.agg #[iv 0, iv 0, .slice none 0 0]) S (wN rfl) rfl rfl [iv 0, iv 0, .slice none 0 0] rfl rfl (lb rfl) fun a b170 w S => ?_
    refine leafL ⟨rfl, _, _, .inl ⟨9, (.pointer (some ⟨b170, 0, none⟩)), [], rfl, S, hz_of rfl, ?_⟩⟩
    exact nd13 b170 b163 ad64 cp65 ad59 cp60
  refine nodeCut (fun N W L D => ∀ b177 ad64 cp65 ad59 cp60, N [8, 3, 1] ((8, 9, .pointer (some ⟨b177, 0, none⟩)) :: (3, 31, .agg #[iv r39.W, iv r39.H, .slice ad64 r39.Bits.length cp65]) :: (1, 29, .agg #[iv r32.W, iv r32.H, .slice ad59 r32.Bits.length cp60]) :: W) ((eBox b177 24 [iv 0, iv 0, .slice none 0 0]) :: L) ((fRep (rL rB) (.slice ad64 r39.Bits.length cp65) r39.Bits) :: (fRep r_api_Grid (.agg #[iv r39.W, iv r39.H, .slice ad64 r39.Bits.length cp65]) r39) :: (fRep r_api_Grid (.agg #[iv p1.W, iv p1.H, .slice ad7 p1.Bits.length cp8]) p1) :: (fRep (rL rB) (.slice ad59 r32.Bits.length cp60) r32.Bits) :: (fRep r_api_Grid (.agg #[iv r32.W, iv r32.H, .slice ad59 r32.Bits.length cp60]) r32) :: (fRep r_api_Grid (.agg #[iv p0.W, iv p0.H, .slice ad3 p0.Bits.length cp4]) p0) :: D)) (fun b177 ad64 cp65 ad59 cp60 => ?_) fun nd14 => ?_
  · refine node_by (A := anc_raddlelaw13_BlockFills_0) (nf := [1, 3, 5, 6, 7, 8, 9, 10, 11]) (Y := [8, 3, 1]) 12 (by kernel_rfl) (by kernel_rfl) (by kernel_rfl) (by kernel_rfl) (by kernel_rfl) [8, 3, 1, 0, 2, 4] (by kernel_rfl) (by decide) (by decide) (aD 0 11 3 (by decide) (aY 1 10 (by decide) (aD 2 9 3 (by decide) (aY 3 8 (by decide) (aF 4 7 (by decide) ?_ (aN 5 6 (by decide) ?_ (aN 6 5 (by decide) ?_ (aN 7 4 (by decide) ?_ (aY 8 3 (by decide) (aB 9 2 5 (by decide) (aB 10 1 5 (by decide) (aB 11 0 5 (by decide) (trivial))))))))))))) [] (fun q hq => by cases hq) (fun hY => absurd (hY 5 (by decide)) (by decide))
    · refine fI 32 (.agg #[iv p2.W, iv p2.H, .slice ad11 p2.Bits.length cp12]) [(5, .pointer (some ⟨b16, 0, none⟩))] 5 [none] rfl rfl rfl rfl rfl rfl fun G a w S => ?_
      refine sLoadN (p := b16) (off := 0) (T := 24) (vs := [iv p2.W, iv p2.H, .slice ad11 p2.Bits.length cp12]) 3 [iv p2.W, iv p2.H, .slice ad11 p2.Bits.length cp12] S (wN rfl) rfl rfl rfl rfl rfl rfl rfl (lb rfl) fun a S => ?_
      exact leafL ⟨rfl, S⟩
    · refine ⟨_, [(32, .agg #[iv p2.W, iv p2.H, .slice ad11 p2.Bits.length cp12])], rfl, (srcs_of [some 5] rfl rfl rfl), fun G a w S => ?_⟩
      have S := S.learn (fRep r_api_Grid (.agg #[iv p2.W, iv p2.H, .slice ad11 p2.Bits.length cp12]) p2) ⟨_, rfl, S.mem.know (i := 8) (e := fRep (rL rB) (.slice ad11 p2.Bits.length cp12) p2.Bits) rfl⟩
      refine sCall (X := Value) (f := 12) (vs := [.agg #[iv p2.W, iv p2.H, .slice ad11 p2.Bits.length cp12]]) (val := c_raddleref01_Twin_val r46) (B' := fun _ => []) (D' := c_raddleref01_Twin_D r46) [] [eBox b177 24 [iv 0, iv 0, .slice none 0 0], eBox b14 24 [iv p0.W, iv p0.H, .slice ad3 p0.Bits.length cp4], eBox b15 24 [iv p1.W, iv p1.H, .slice ad7 p1.Bits.length cp8], eBox b16 24 [iv p2.W, iv p2.H, .slice ad11 p2.Bits.length cp12]] [fRep r_api_Grid (.agg #[iv p2.W, iv p2.H, .slice ad11 p2.Bits.length cp12]) p2] [0, 1, 2, 3] [0] S (wN rfl) rfl callee12 rfl (by decide) rfl rfl (fun E1 w1 S1 => c_raddleref01_Twin E1 w1 p2 (.agg #[iv p2.W, iv p2.H, .slice ad11 p2.Bits.length cp12]) r46 hx47 S1) rfl (lb rfl) fun u178 a w S => ?_
      obtain ⟨u179, rfl, hu180⟩ := S.mem.know (i := 0) (e := fRep r_api_Grid (u178) r46) rfl
      have S := S.learn (fRep (rL rB) u179 r46.Bits) hu180
      obtain ⟨ad181, cp182, _, rfl, _⟩ := hu180
      refine leafL ⟨rfl, _, _, .inl ⟨33, (.agg #[iv r46.W, iv r46.H, .slice ad181 r46.Bits.length cp182]), [], rfl, S, hz_of rfl, ?_⟩⟩
      exact nodePerm (nd7 b177 ad181 cp182 ad64 cp65 ad59 cp60) [1, 0, 2, 3, 4, 5, 6] [0, 1, 2, 3] [0, 1, 2, 3, 4, 5, 6, 7, 8, 9, 10, 11] (by decide) (by decide) rfl rfl rfl
    · refine ⟨_, [], rfl, (srcs_of [] rfl rfl rfl), fun G a w S => ?_⟩
      refine sAlloc (.agg #[iv 0, iv 0, .slice none 0 0]) S (wN rfl) rfl rfl [iv 0, iv 0, .slice none 0 0] rfl rfl (lb rfl) fun a b183 w S => ?_
      refine leafL ⟨rfl, _, _, .inl ⟨7, (.pointer (some ⟨b183, 0, none⟩)), [], rfl, S, hz_of rfl, ?_⟩⟩
      exact nodePerm (nd11 b177 b183 ad64 cp65 ad59 cp60) [1, 0, 2, 3, 4, 5, 6] [1, 0, 2, 3, 4] [0, 1, 2, 3, 4, 5, 6, 7, 8] (by decide) (by decide) rfl rfl rfl
    refine ⟨_, [], rfl, (srcs_of [] rfl rfl rfl), fun G a w S => ?_⟩
    refine sAlloc (.agg #[iv 0, iv 0, .slice none 0 0]) S (wN rfl) rfl rfl [iv 0, iv 0, .slice none 0 0] rfl rfl (lb rfl) fun a b184 w S => ?_
    refine leafL ⟨rfl, _, _, .inl ⟨8, (.pointer (some ⟨b184, 0, none⟩)), [], rfl, S, hz_of rfl, ?_⟩⟩
    exact nodePerm (nd13 b177 b184 ad64 cp65 ad59 cp60) [1, 0, 2, 3, 4, 5, 6] [1, 0, 2, 3, 4] [0, 1, 2, 3, 4, 5, 6, 7, 8] (by decide) (by decide) rfl rfl rfl
  refine nodeCut (fun N W L D => ∀ b197 b191 b185 ad59 cp60, N [8, 7, 6, 1] ((8, 9, .pointer (some ⟨b197, 0, none⟩)) :: (7, 8, .pointer (some ⟨b191, 0, none⟩)) :: (6, 7, .pointer (some ⟨b185, 0, none⟩)) :: (1, 29, .agg #[iv r32.W, iv r32.H, .slice ad59 r32.Bits.length cp60]) :: W) ((eBox b197 24 [iv 0, iv 0, .slice none 0 0]) :: (eBox b191 24 [iv 0, iv 0, .slice none 0 0]) :: (eBox b185 24 [iv 0, iv 0, .slice none 0 0]) :: L) ((fRep (rL rB) (.slice ad59 r32.Bits.length cp60) r32.Bits) :: (fRep r_api_Grid (.agg #[iv r32.W, iv r32.H, .slice ad59 r32.Bits.length cp60]) r32) :: (fRep r_api_Grid (.agg #[iv p0.W, iv p0.H, .slice ad3 p0.Bits.length cp4]) p0) :: D)) (fun b197 b191 b185 ad59 cp60 => ?_) fun nd17 => ?_
  · refine node_by (A := anc_raddlelaw13_BlockFills_0) (nf := [1, 3, 5, 6, 7, 8, 9, 10, 11]) (Y := [8, 7, 6, 1]) 12 (by kernel_rfl) (by kernel_rfl) (by kernel_rfl) (by kernel_rfl) (by kernel_rfl) [8, 7, 6, 1, 0, 2, 4] (by kernel_rfl) (by decide) (by decide) (aD 0 11 1 (by decide) (aY 1 10 (by decide) (aF 2 9 (by decide) ?_ (aN 3 8 (by decide) ?_ (aF 4 7 (by decide) ?_ (aB 5 6 3 (by decide) (aY 6 5 (by decide) (aY 7 4 (by decide) (aY 8 3 (by decide) (aB 9 2 3 (by decide) (aB 10 1 3 (by decide) (aB 11 0 3 (by decide) (trivial))))))))))))) [] (fun q hq => by cases hq) (fun hY => absurd (hY 3 (by decide)) (by decide))
    · refine fI 30 (.agg #[iv p1.W, iv p1.H, .slice ad7 p1.Bits.length cp8]) [(4, .pointer (some ⟨b15, 0, none⟩))] 5 [none] rfl rfl rfl rfl rfl rfl fun G a w S => ?_
      refine sLoadN (p := b15) (off := 0) (T := 24) (vs := [iv p1.W, iv p1.H, .slice ad7 p1.Bits.length cp8]) 4 [iv p1.W, iv p1.H, .slice ad7 p1.Bits.length cp8] S (wN rfl) rfl rfl rfl rfl rfl rfl rfl (lb rfl) fun a S => ?_
      exact leafL ⟨rfl, S⟩
    · refine ⟨_, [(30, .agg #[iv p1.W, iv p1.H, .slice ad7 p1.Bits.length cp8])], rfl, (srcs_of [some 5] rfl rfl rfl), fun G a w S => ?_⟩
      have S := S.learn (fRep r_api_Grid (.agg #[iv p1.W, iv p1.H, .slice ad7 p1.Bits.length cp8]) p1) ⟨_, rfl, S.mem.know (i := 4) (e := fRep (rL rB) (.slice ad7 p1.Bits.length cp8) p1.Bits) rfl⟩
      refine sCall (X := Value) (f := 12) (vs := [.agg #[iv p1.W, iv p1.H, .slice ad7 p1.Bits.length cp8]]) (val := c_raddleref01_Twin_val r39) (B' := fun _ => []) (D' := c_raddleref01_Twin_D r39) [] [eBox b197 24 [iv 0, iv 0, .slice none 0 0], eBox b191 24 [iv 0, iv 0, .slice none 0 0], eBox b185 24 [iv 0, iv 0, .slice none 0 0], eBox b14 24 [iv p0.W, iv p0.H, .slice ad3 p0.Bits.length cp4], eBox b15 24 [iv p1.W, iv p1.H, .slice ad7 p1.Bits.length cp8], eBox b16 24 [iv p2.W, iv p2.H, .slice ad11 p2.Bits.length cp12]] [fRep r_api_Grid (.agg #[iv p1.W, iv p1.H, .slice ad7 p1.Bits.length cp8]) p1] [0, 1, 2, 3, 4, 5] [0] S (wN rfl) rfl callee12 rfl (by decide) rfl rfl (fun E1 w1 S1 => c_raddleref01_Twin E1 w1 p1 (.agg #[iv p1.W, iv p1.H, .slice ad7 p1.Bits.length cp8]) r39 hx40 S1) rfl (lb rfl) fun u198 a w S => ?_
      obtain ⟨u199, rfl, hu200⟩ := S.mem.know (i := 0) (e := fRep r_api_Grid (u198) r39) rfl
      have S := S.learn (fRep (rL rB) u199 r39.Bits) hu200
      obtain ⟨ad201, cp202, _, rfl, _⟩ := hu200
      refine leafL ⟨rfl, _, _, .inl ⟨31, (.agg #[iv r39.W, iv r39.H, .slice ad201 r39.Bits.length cp202]), [], rfl, S, hz_of rfl, ?_⟩⟩
      exact nodePerm (nd10 b197 b191 b185 ad201 cp202 ad59 cp60) [1, 2, 3, 0, 4, 5, 6, 7] [0, 1, 2, 3, 4, 5] [0, 1, 2, 3, 4, 5, 6, 7, 8] (by decide) (by decide) rfl rfl rfl
    refine fI 32 (.agg #[iv p2.W, iv p2.H, .slice ad11 p2.Bits.length cp12]) [(5, .pointer (some ⟨b16, 0, none⟩))] 6 [none] rfl rfl rfl rfl rfl rfl fun G a w S => ?_
    refine sLoadN (p := b16) (off := 0) (T := 24) (vs := [iv p2.W, iv p2.H, .slice ad11 p2.Bits.length cp12]) 5 [iv p2.W, iv p2.H, .slice ad11 p2.Bits.length cp12] S (wN rfl) rfl rfl rfl rfl rfl rfl rfl (lb rfl) fun a S => ?_
    exact leafL ⟨rfl, S⟩
  refine nodeCut (fun N W L D => ∀ b191 b185 ad59 cp60, N [7, 6, 1] ((7, 8, .pointer (some ⟨b191, 0, none⟩)) :: (6, 7, .pointer (some ⟨b185, 0, none⟩)) :: (1, 29, .agg #[iv r32.W, iv r32.H, .slice ad59 r32.Bits.length cp60]) :: W) ((eBox b191 24 [iv 0, iv 0, .slice none 0 0]) :: (eBox b185 24 [iv 0, iv 0, .slice none 0 0]) :: L) ((fRep (rL rB) (.slice ad59 r32.Bits.length cp60) r32.Bits) :: (fRep r_api_Grid (.agg #[iv r32.W, iv r32.H, .slice ad59 r32.Bits.length cp60]) r32) :: (fRep r_api_Grid (.agg #[iv p0.W, iv p0.H, .slice ad3 p0.Bits.length cp4]) p0) :: D)) (fun b191 b185 ad59 cp60 => ?_) fun nd16 => ?_
  · refine node_by (A := anc_raddlelaw13_BlockFills_0) (nf := [1, 3, 5, 6, 7, 8, 9, 10, 11]) (Y := [7, 6, 1]) 12 (by kernel_rfl) (by kernel_rfl) (by kernel_rfl) (by kernel_rfl) (by kernel_rfl) [7, 6, 1, 0, 2, 4] (by kernel_rfl) (by decide) (by decide) (aD 0 11 1 (by decide) (aY 1 10 (by decide) (aF 2 9 (by decide) ?_ (aN 3 8 (by decide) ?_ (aF 4 7 (by decide) ?_ (aB 5 6 3 (by decide) (aY 6 5 (by decide) (aY 7 4 (by decide) (aN 8 3 (by decide) ?_ (aB 9 2 3 (by decide) (aB 10 1 3 (by decide) (aB 11 0 3 (by decide) (trivial))))))))))))) [] (fun q hq => by cases hq) (fun hY => absurd (hY 3 (by decide)) (by decide))
    · refine fI 30 (.agg #[iv p1.W, iv p1.H, .slice ad7 p1.Bits.length cp8]) [(4, .pointer (some ⟨b15, 0, none⟩))] 4 [none] rfl rfl rfl rfl rfl rfl fun G a w S => ?_
      refine sLoadN (p := b15) (off := 0) (T := 24) (vs := [iv p1.W, iv p1.H, .slice ad7 p1.Bits.length cp8]) 3 [iv p1.W, iv p1.H, .slice ad7 p1.Bits.length cp8] S (wN rfl) rfl rfl rfl rfl rfl rfl rfl (lb rfl) fun a S => ?_
      exact leafL ⟨rfl, S⟩
    · refine ⟨_, [(30, .agg #[iv p1.W, iv p1.H, .slice ad7 p1.Bits.length cp8])], rfl, (srcs_of [some 4] rfl rfl rfl), fun G a w S => ?_⟩
      have S := S.learn (fRep r_api_Grid (.agg #[iv p1.W, iv p1.H, .slice ad7 p1.Bits.length cp8]) p1) ⟨_, rfl, S.mem.know (i := 4) (e := fRep (rL rB) (.slice ad7 p1.Bits.length cp8) p1.Bits) rfl⟩
      refine sCall (X := Value) (f := 12) (vs := [.agg #[iv p1.W, iv p1.H, .slice ad7 p1.Bits.length cp8]]) (val := c_raddleref01_Twin_val r39) (B' := fun _ => []) (D' := c_raddleref01_Twin_D r39) [] [eBox b191 24 [iv 0, iv 0, .slice none 0 0], eBox b185 24 [iv 0, iv 0, .slice none 0 0], eBox b14 24 [iv p0.W, iv p0.H, .slice ad3 p0.Bits.length cp4], eBox b15 24 [iv p1.W, iv p1.H, .slice ad7 p1.Bits.length cp8], eBox b16 24 [iv p2.W, iv p2.H, .slice ad11 p2.Bits.length cp12]] [fRep r_api_Grid (.agg #[iv p1.W, iv p1.H, .slice ad7 p1.Bits.length cp8]) p1] [0, 1, 2, 3, 4] [0] S (wN rfl) rfl callee12 rfl (by decide) rfl rfl (fun E1 w1 S1 => c_raddleref01_Twin E1 w1 p1 (.agg #[iv p1.W, iv p1.H, .slice ad7 p1.Bits.length cp8]) r39 hx40 S1) rfl (lb rfl) fun u192 a w S => ?_
      obtain ⟨u193, rfl, hu194⟩ := S.mem.know (i := 0) (e := fRep r_api_Grid (u192) r39) rfl
      have S := S.learn (fRep (rL rB) u193 r39.Bits) hu194
      obtain ⟨ad195, cp196, _, rfl, _⟩ := hu194
      refine leafL ⟨rfl, _, _, .inl ⟨31, (.agg #[iv r39.W, iv r39.H, .slice ad195 r39.Bits.length cp196]), [], rfl, S, hz_of rfl, ?_⟩⟩
      exact nodePerm (nd9 b191 b185 ad195 cp196 ad59 cp60) [1, 2, 0, 3, 4, 5, 6] [0, 1, 2, 3, 4] [0, 1, 2, 3, 4, 5, 6, 7, 8] (by decide) (by decide) rfl rfl rfl
    · refine fI 32 (.agg #[iv p2.W, iv p2.H, .slice ad11 p2.Bits.length cp12]) [(5, .pointer (some ⟨b16, 0, none⟩))] 5 [none] rfl rfl rfl rfl rfl rfl fun G a w S => ?_
      refine sLoadN (p := b16) (off := 0) (T := 24) (vs := [iv p2.W, iv p2.H, .slice ad11 p2.Bits.length cp12]) 4 [iv p2.W, iv p2.H, .slice ad11 p2.Bits.length cp12] S (wN rfl) rfl rfl rfl rfl rfl rfl rfl (lb rfl) fun a S => ?_
      exact leafL ⟨rfl, S⟩
    refine ⟨_, [], rfl, (srcs_of [] rfl rfl rfl), fun G a w S => ?_⟩
    refine sAlloc (.agg #[iv 0, iv 0, .slice none 0 0]) S (wN rfl) rfl rfl [iv 0, iv 0, .slice none 0 0] rfl rfl (lb rfl) fun a b197 w S => ?_
    refine leafL ⟨rfl, _, _, .inl ⟨9, (.pointer (some ⟨b197, 0, none⟩)), [], rfl, S, hz_of rfl, ?_⟩⟩
    exact nd17 b197 b191 b185 ad59 cp60
  refine nodeCut (fun N W L D => ∀ b203 b185 ad59 cp60, N [8, 6, 1] ((8, 9, .pointer (some ⟨b203, 0, none⟩)) :: (6, 7, .pointer (some ⟨b185, 0, none⟩)) :: (1, 29, .agg #[iv r32.W, iv r32.H, .slice ad59 r32.Bits.length cp60]) :: W) ((eBox b203 24 [iv 0, iv 0, .slice none 0 0]) :: (eBox b185 24 [iv 0, iv 0, .slice none 0 0]) :: L) ((fRep (rL rB) (.slice ad59 r32.Bits.length cp60) r32.Bits) :: (fRep r_api_Grid (.agg #[iv r32.W, iv r32.H, .slice ad59 r32.Bits.length cp60]) r32) :: (fRep r_api_Grid (.agg #[iv p0.W, iv p0.H, .slice ad3 p0.Bits.length cp4]) p0) :: D)) (fun b203 b185 ad59 cp60 => ?_) fun nd18 => ?_
  · refine node_by (A := anc_raddlelaw13_BlockFills_0) (nf := [1, 3, 5, 6, 7, 8, 9, 10, 11]) (Y := [8, 6, 1]) 12 (by kernel_rfl) (by kernel_rfl) (by kernel_rfl) (by kernel_rfl) (by kernel_rfl) [8, 6, 1, 0, 2, 4] (by kernel_rfl) (by decide) (by decide) (aD 0 11 1 (by decide) (aY 1 10 (by decide) (aF 2 9 (by decide) ?_ (aN 3 8 (by decide) ?_ (aF 4 7 (by decide) ?_ (aB 5 6 3 (by decide) (aY 6 5 (by decide) (aN 7 4 (by decide) ?_ (aY 8 3 (by decide) (aB 9 2 3 (by decide) (aB 10 1 3 (by decide) (aB 11 0 3 (by decide) (trivial))))))))))))) [] (fun q hq => by cases hq) (fun hY => absurd (hY 3 (by decide)) (by decide))
    · refine fI 30 (.agg #[iv p1.W, iv p1.H, .slice ad7 p1.Bits.length cp8]) [(4, .pointer (some ⟨b15, 0, none⟩))] 4 [none] rfl rfl rfl rfl rfl rfl fun G a w S => ?_
      refine sLoadN (p := b15) (off := 0) (T := 24) (vs := [iv p1.W, iv p1.H, .slice ad7 p1.Bits.length cp8]) 3 [iv p1.W, iv p1.H, .slice ad7 p1.Bits.length cp8] S (wN rfl) rfl rfl rfl rfl rfl rfl rfl (lb rfl) fun a S => ?_
      exact leafL ⟨rfl, S⟩
    · refine ⟨_, [(30, .agg #[iv p1.W, iv p1.H, .slice ad7 p1.Bits.length cp8])], rfl, (srcs_of [some 4] rfl rfl rfl), fun G a w S => ?_⟩
      have S := S.learn (fRep r_api_Grid (.agg #[iv p1.W, iv p1.H, .slice ad7 p1.Bits.length cp8]) p1) ⟨_, rfl, S.mem.know (i := 4) (e := fRep (rL rB) (.slice ad7 p1.Bits.length cp8) p1.Bits) rfl⟩
      refine sCall (X := Value) (f := 12) (vs := [.agg #[iv p1.W, iv p1.H, .slice ad7 p1.Bits.length cp8]]) (val := c_raddleref01_Twin_val r39) (B' := fun _ => []) (D' := c_raddleref01_Twin_D r39) [] [eBox b203 24 [iv 0, iv 0, .slice none 0 0], eBox b185 24 [iv 0, iv 0, .slice none 0 0], eBox b14 24 [iv p0.W, iv p0.H, .slice ad3 p0.Bits.length cp4], eBox b15 24 [iv p1.W, iv p1.H, .slice ad7 p1.Bits.length cp8], eBox b16 24 [iv p2.W, iv p2.H, .slice ad11 p2.Bits.length cp12]] [fRep r_api_Grid (.agg #[iv p1.W, iv p1.H, .slice ad7 p1.Bits.length cp8]) p1] [0, 1, 2, 3, 4] [0] S (wN rfl) rfl callee12 rfl (by decide) rfl rfl (fun E1 w1 S1 => c_raddleref01_Twin E1 w1 p1 (.agg #[iv p1.W, iv p1.H, .slice ad7 p1.Bits.length cp8]) r39 hx40 S1) rfl (lb rfl) fun u204 a w S => ?_
      obtain ⟨u205, rfl, hu206⟩ := S.mem.know (i := 0) (e := fRep r_api_Grid (u204) r39) rfl
      have S := S.learn (fRep (rL rB) u205 r39.Bits) hu206
      obtain ⟨ad207, cp208, _, rfl, _⟩ := hu206
      refine leafL ⟨rfl, _, _, .inl ⟨31, (.agg #[iv r39.W, iv r39.H, .slice ad207 r39.Bits.length cp208]), [], rfl, S, hz_of rfl, ?_⟩⟩
      exact nodePerm (nd11 b203 b185 ad207 cp208 ad59 cp60) [1, 2, 0, 3, 4, 5, 6] [0, 1, 2, 3, 4] [0, 1, 2, 3, 4, 5, 6, 7, 8] (by decide) (by decide) rfl rfl rfl
    · refine fI 32 (.agg #[iv p2.W, iv p2.H, .slice ad11 p2.Bits.length cp12]) [(5, .pointer (some ⟨b16, 0, none⟩))] 5 [none] rfl rfl rfl rfl rfl rfl fun G a w S => ?_
      refine sLoadN (p := b16) (off := 0) (T := 24) (vs := [iv p2.W, iv p2.H, .slice ad11 p2.Bits.length cp12]) 4 [iv p2.W, iv p2.H, .slice ad11 p2.Bits.length cp12] S (wN rfl) rfl rfl rfl rfl rfl rfl rfl (lb rfl) fun a S => ?_
      exact leafL ⟨rfl, S⟩
    refine ⟨_, [], rfl, (srcs_of [] rfl rfl rfl), fun G a w S => ?_⟩
    refine sAlloc (.agg #[iv 0, iv 0, .slice none 0 0]) S (wN rfl) rfl rfl [iv 0, iv 0, .slice none 0 0] rfl rfl (lb rfl) fun a b209 w S => ?_
    refine leafL ⟨rfl, _, _, .inl ⟨8, (.pointer (some ⟨b209, 0, none⟩)), [], rfl, S, hz_of rfl, ?_⟩⟩
    exact nodePerm (nd17 b203 b209 b185 ad59 cp60) [1, 0, 2, 3, 4, 5, 6] [1, 0, 2, 3, 4, 5] [0, 1, 2, 3, 4, 5] (by decide) (by decide) rfl rfl rfl
  refine nodeCut (fun N W L D => ∀ b185 ad59 cp60, N [6, 1] ((6, 7, .pointer (some ⟨b185, 0, none⟩)) :: (1, 29, .agg #[iv r32.W, iv r32.H, .slice ad59 r32.Bits.length cp60]) :: W) ((eBox b185 24 [iv 0, iv 0, .slice none 0 0]) :: L) ((fRep (rL rB) (.slice ad59 r32.Bits.length cp60) r32.Bits) :: (fRep r_api_Grid (.agg #[iv r32.W, iv r32.H, .slice ad59 r32.Bits.length cp60]) r32) :: (fRep r_api_Grid (.agg #[iv p0.W, iv p0.H, .slice ad3 p0.Bits.length cp4]) p0) :: D)) (fun b185 ad59 cp60 => ?_) fun nd15 => ?_
  · refine node_by (A := anc_raddlelaw13_BlockFills_0) (nf := [1, 3, 5, 6, 7, 8, 9, 10, 11]) (Y := [6, 1]) 12 (by kernel_rfl) (by kernel_rfl) (by kernel_rfl) (by kernel_rfl) (by kernel_rfl) [6, 1, 0, 2, 4] (by kernel_rfl) (by decide) (by decide) (aD 0 11 1 (by decide) (aY 1 10 (by decide) (aF 2 9 (by decide) ?_ (aN 3 8 (by decide) ?_ (aF 4 7 (by decide) ?_ (aB 5 6 3 (by decide) (aY 6 5 (by decide) (aN 7 4 (by decide) ?_ (aN 8 3 (by decide) ?_ (aB 9 2 3 (by decide) (aB 10 1 3 (by decide) (aB 11 0 3 (by decide) (trivial))))))))))))) [] (fun q hq => by cases hq) (fun hY => absurd (hY 3 (by decide)) (by decide))
    · refine fI 30 (.agg #[iv p1.W, iv p1.H, .slice ad7 p1.Bits.length cp8]) [(4, .pointer (some ⟨b15, 0, none⟩))] 3 [none] rfl rfl rfl rfl rfl rfl fun G a w S => ?_
      refine sLoadN (p := b15) (off := 0) (T := 24) (vs := [iv p1.W, iv p1.H, .slice ad7 p1.Bits.length cp8]) 2 [iv p1.W, iv p1.H, .slice ad7 p1.Bits.length cp8] S (wN rfl) rfl rfl rfl rfl rfl rfl rfl (lb rfl) fun a S => ?_
      exact leafL ⟨rfl, S⟩
    · refine ⟨_, [(30, .agg #[iv p1.W, iv p1.H, .slice ad7 p1.Bits.length cp8])], rfl, (srcs_of [some 3] rfl rfl rfl), fun G a w S => ?_⟩
      have S := S.learn (fRep r_api_Grid (.agg #[iv p1.W, iv p1.H, .slice ad7 p1.Bits.length cp8]) p1) ⟨_, rfl, S.mem.know (i := 4) (e := fRep (rL rB) (.slice ad7 p1.Bits.length cp8) p1.Bits) rfl⟩
      refine sCall (X := Value) (f := 12) (vs := [.agg #[iv p1.W, iv p1.H, .slice ad7 p1.Bits.length cp8]]) (val := c_raddleref01_Twin_val r39) (B' := fun _ => []) (D' := c_raddleref01_Twin_D r39) [] [eBox b185 24 [iv 0, iv 0, .slice none 0 0], eBox b14 24 [iv p0.W, iv p0.H, .slice ad3 p0.Bits.length cp4], eBox b15 24 [iv p1.W, iv p1.H, .slice ad7 p1.Bits.length cp8], eBox b16 24 [iv p2.W, iv p2.H, .slice ad11 p2.Bits.length cp12]] [fRep r_api_Grid (.agg #[iv p1.W, iv p1.H, .slice ad7 p1.Bits.length cp8]) p1] [0, 1, 2, 3] [0] S (wN rfl) rfl callee12 rfl (by decide) rfl rfl (fun E1 w1 S1 => c_raddleref01_Twin E1 w1 p1 (.agg #[iv p1.W, iv p1.H, .slice ad7 p1.Bits.length cp8]) r39 hx40 S1) rfl (lb rfl) fun u186 a w S => ?_
      obtain ⟨u187, rfl, hu188⟩ := S.mem.know (i := 0) (e := fRep r_api_Grid (u186) r39) rfl
      have S := S.learn (fRep (rL rB) u187 r39.Bits) hu188
      obtain ⟨ad189, cp190, _, rfl, _⟩ := hu188
      refine leafL ⟨rfl, _, _, .inl ⟨31, (.agg #[iv r39.W, iv r39.H, .slice ad189 r39.Bits.length cp190]), [], rfl, S, hz_of rfl, ?_⟩⟩
      exact nodePerm (nd8 b185 ad189 cp190 ad59 cp60) [1, 0, 2, 3, 4, 5] [0, 1, 2, 3] [0, 1, 2, 3, 4, 5, 6, 7, 8] (by decide) (by decide) rfl rfl rfl
    · refine fI 32 (.agg #[iv p2.W, iv p2.H, .slice ad11 p2.Bits.length cp12]) [(5, .pointer (some ⟨b16, 0, none⟩))] 4 [none] rfl rfl rfl rfl rfl rfl fun G a w S => ?_
      refine sLoadN (p := b16) (off := 0) (T := 24) (vs := [iv p2.W, iv p2.H, .slice ad11 p2.Bits.length cp12]) 3 [iv p2.W, iv p2.H, .slice ad11 p2.Bits.length cp12] S (wN rfl) rfl rfl rfl rfl rfl rfl rfl (lb rfl) fun a S => ?_
      exact leafL ⟨rfl, S⟩
    · refine ⟨_, [], rfl, (srcs_of [] rfl rfl rfl), fun G a w S => ?_⟩
      refine sAlloc (.agg #[iv 0, iv 0, .slice none 0 0]) S (wN rfl) rfl rfl [iv 0, iv 0, .slice none 0 0] rfl rfl (lb rfl) fun a b191 w S => ?_
      refine leafL ⟨rfl, _, _, .inl ⟨8, (.pointer (some ⟨b191, 0, none⟩)), [], rfl, S, hz_of rfl, ?_⟩⟩
      exact nd16 b191 b185 ad59 cp60
    refine ⟨_, [], rfl, (srcs_of [] rfl rfl rfl), fun G a w S => ?_⟩
    refine sAlloc (.agg #[iv 0, iv 0, .slice none 0 0]) S (wN rfl) rfl rfl [iv 0, iv 0, .slice none 0 0] rfl rfl (lb rfl) fun a b203 w S => ?_
    refine leafL ⟨rfl, _, _, .inl ⟨9, (.pointer (some ⟨b203, 0, none⟩)), [], rfl, S, hz_of rfl, ?_⟩⟩
    exact nd18 b203 b185 ad59 cp60
  refine nodeCut (fun N W L D => ∀ b217 b210 ad59 cp60, N [8, 7, 1] ((8, 9, .pointer (some ⟨b217, 0, none⟩)) :: (7, 8, .pointer (some ⟨b210, 0, none⟩)) :: (1, 29, .agg #[iv r32.W, iv r32.H, .slice ad59 r32.Bits.length cp60]) :: W) ((eBox b217 24 [iv 0, iv 0, .slice none 0 0]) :: (eBox b210 24 [iv 0, iv 0, .slice none 0 0]) :: L) ((fRep (rL rB) (.slice ad59 r32.Bits.length cp60) r32.Bits) :: (fRep r_api_Grid (.agg #[iv r32.W, iv r32.H, .slice ad59 r32.Bits.length cp60]) r32) :: (fRep r_api_Grid (.agg #[iv p0.W, iv p0.H, .slice ad3 p0.Bits.length cp4]) p0) :: D)) (fun b217 b210 ad59 cp60 => ?_) fun nd20 => ?_
  · refine node_by (A := anc_raddlelaw13_BlockFills_0) (nf := [1, 3, 5, 6, 7, 8, 9, 10, 11]) (Y := [8, 7, 1]) 12 (by kernel_rfl) (by kernel_rfl) (by kernel_rfl) (by kernel_rfl) (by kernel_rfl) [8, 7, 1, 0, 2, 4] (by kernel_rfl) (by decide) (by decide) (aD 0 11 1 (by decide) (aY 1 10 (by decide) (aF 2 9 (by decide) ?_ (aN 3 8 (by decide) ?_ (aF 4 7 (by decide) ?_ (aB 5 6 3 (by decide) (aN 6 5 (by decide) ?_ (aY 7 4 (by decide) (aY 8 3 (by decide) (aB 9 2 3 (by decide) (aB 10 1 3 (by decide) (aB 11 0 3 (by decide) (trivial))))))))))))) [] (fun q hq => by cases hq) (fun hY => absurd (hY 3 (by decide)) (by decide))
    · refine fI 30 (.agg #[iv p1.W, iv p1.H, .slice ad7 p1.Bits.length cp8]) [(4, .pointer (some ⟨b15, 0, none⟩))] 4 [none] rfl rfl rfl rfl rfl rfl fun G a w S => ?_
      refine sLoadN (p := b15) (off := 0) (T := 24) (vs := [iv p1.W, iv p1.H, .slice ad7 p1.Bits.length cp8]) 3 [iv p1.W, iv p1.H, .slice ad7 p1.Bits.length cp8] S (wN rfl) rfl rfl rfl rfl rfl rfl rfl (lb rfl) fun a S => ?_
      exact leafL ⟨rfl, S⟩
    · refine ⟨_, [(30, .agg #[iv p1.W, iv p1.H, .slice ad7 p1.Bits.length cp8])], rfl, (srcs_of [some 4] rfl rfl rfl), fun G a w S => ?_⟩
      have S := S.learn (fRep r_api_Grid (.agg #[iv p1.W, iv p1.H, .slice ad7 p1.Bits.length cp8]) p1) ⟨_, rfl, S.mem.know (i := 4) (e := fRep (rL rB) (.slice ad7 p1.Bits.length cp8) p1.Bits) rfl⟩
      refine sCall (X := Value) (f := 12) (vs := [.agg #[iv p1.W, iv p1.H, .slice ad7 p1.Bits.length cp8]]) (val := c_raddleref01_Twin_val r39) (B' := fun _ => []) (D' := c_raddleref01_Twin_D r39) [] [eBox b217 24 [iv 0, iv 0, .slice none 0 0], eBox b210 24 [iv 0, iv 0, .slice none 0 0], eBox b14 24 [iv p0.W, iv p0.H, .slice ad3 p0.Bits.length cp4], eBox b15 24 [iv p1.W, iv p1.H, .slice ad7 p1.Bits.length cp8], eBox b16 24 [iv p2.W, iv p2.H, .slice ad11 p2.Bits.length cp12]] [fRep r_api_Grid (.agg #[iv p1.W, iv p1.H, .slice ad7 p1.Bits.length cp8]) p1] [0, 1, 2, 3, 4] [0] S (wN rfl) rfl callee12 rfl (by decide) rfl rfl (fun E1 w1 S1 => c_raddleref01_Twin E1 w1 p1 (.agg #[iv p1.W, iv p1.H, .slice ad7 p1.Bits.length cp8]) r39 hx40 S1) rfl (lb rfl) fun u218 a w S => ?_
      obtain ⟨u219, rfl, hu220⟩ := S.mem.know (i := 0) (e := fRep r_api_Grid (u218) r39) rfl
      have S := S.learn (fRep (rL rB) u219 r39.Bits) hu220
      obtain ⟨ad221, cp222, _, rfl, _⟩ := hu220
      refine leafL ⟨rfl, _, _, .inl ⟨31, (.agg #[iv r39.W, iv r39.H, .slice ad221 r39.Bits.length cp222]), [], rfl, S, hz_of rfl, ?_⟩⟩
      exact nodePerm (nd13 b217 b210 ad221 cp222 ad59 cp60) [1, 2, 0, 3, 4, 5, 6] [0, 1, 2, 3, 4] [0, 1, 2, 3, 4, 5, 6, 7, 8] (by decide) (by decide) rfl rfl rfl
    · refine fI 32 (.agg #[iv p2.W, iv p2.H, .slice ad11 p2.Bits.length cp12]) [(5, .pointer (some ⟨b16, 0, none⟩))] 5 [none] rfl rfl rfl rfl rfl rfl fun G a w S => ?_
      refine sLoadN (p := b16) (off := 0) (T := 24) (vs := [iv p2.W, iv p2.H, .slice ad11 p2.Bits.length cp12]) 4 [iv p2.W, iv p2.H, .slice ad11 p2.Bits.length cp12] S (wN rfl) rfl rfl rfl rfl rfl rfl rfl (lb rfl) fun a S => ?_
      exact leafL ⟨rfl, S⟩
    refine ⟨_, [], rfl, (srcs_of [] rfl rfl rfl), fun G a w S => ?_⟩
    refine sAlloc (.agg #[iv 0, iv 0, .slice none 0 0]) S (wN rfl) rfl rfl [iv 0, iv 0, .slice none 0 0] rfl rfl (lb rfl) fun a b223 w S => ?_
    refine leafL ⟨rfl, _, _, .inl ⟨7, (.pointer (some ⟨b223, 0, none⟩)), [], rfl, S, hz_of rfl, ?_⟩⟩
    exact nodePerm (nd17 b217 b210 b223 ad59 cp60) [1, 2, 0, 3, 4, 5, 6] [1, 2, 0, 3, 4, 5] [0, 1, 2, 3, 4, 5] (by decide) (by decide) rfl rfl rfl
  refine nodeCut (fun N W L D => ∀ b210 ad59 cp60, N [7, 1] ((7, 8, .pointer (some ⟨b210, 0, none⟩)) :: (1, 29, .agg #[iv r32.W, iv r32.H, .slice ad59 r32.Bits.length cp60]) :: W) ((eBox b210 24 [iv 0, iv 0, .slice none 0 0]) :: L) ((fRep (rL rB) (.slice ad59 r32.Bits.length cp60) r32.Bits) :: (fRep r_api_Grid (.agg #[iv r32.W, iv r32.H, .slice ad59 r32.Bits.length cp60]) r32) :: (fRep r_api_Grid (.agg #[iv p0.W, iv p0.H, .slice ad3 p0.Bits.length cp4]) p0) :: D)) (fun b210 ad59 cp60 => ?_) fun nd19 => ?_
  · refine node_by (A := anc_raddlelaw13_BlockFills_0) (nf := [1, 3, 5, 6, 7, 8, 9, 10, 11]) (Y := [7, 1]) 12 (by kernel_rfl) (by kernel_rfl) (by kernel_rfl) (by kernel_rfl) (by kernel_rfl) [7, 1, 0, 2, 4] (by kernel_rfl) (by decide) (by decide) (aD 0 11 1 (by decide) (aY 1 10 (by decide) (aF 2 9 (by decide) ?_ (aN 3 8 (by decide) ?_ (aF 4 7 (by decide) ?_ (aB 5 6 3 (by decide) (aN 6 5 (by decide) ?_ (aY 7 4 (by decide) (aN 8 3 (by decide) ?_ (aB 9 2 3 (by decide) (aB 10 1 3 (by decide) (aB 11 0 3 (by decide) (trivial))))))))))))) [] (fun q hq => by cases hq) (fun hY => absurd (hY 3 (by decide)) (by decide))
    · refine fI 30 (.agg #[iv p1.W, iv p1.H, .slice ad7 p1.Bits.length cp8]) [(4, .pointer (some ⟨b15, 0, none⟩))] 3 [none] rfl rfl rfl rfl rfl rfl fun G a w S => ?_
      refine sLoadN (p := b15) (off := 0) (T := 24) (vs := [iv p1.W, iv p1.H, .slice ad7 p1.Bits.length cp8]) 2 [iv p1.W, iv p1.H, .slice ad7 p1.Bits.length cp8] S (wN rfl) rfl rfl rfl rfl rfl rfl rfl (lb rfl) fun a S => ?_
      exact leafL ⟨rfl, S⟩
    · refine ⟨_, [(30, .agg #[iv p1.W, iv p1.H, .slice ad7 p1.Bits.length cp8])], rfl, (srcs_of [some 3] rfl rfl rfl), fun G a w S => ?_⟩
      have S := S.learn (fRep r_api_Grid (.agg #[iv p1.W, iv p1.H, .slice ad7 p1.Bits.length cp8]) p1) ⟨_, rfl, S.mem.know (i := 4) (e := fRep (rL rB) (.slice ad7 p1.Bits.length cp8) p1.Bits) rfl⟩
      refine sCall (X := Value) (f := 12) (vs := [.agg #[iv p1.W, iv p1.H, .slice ad7 p1.Bits.length cp8]]) (val := c_raddleref01_Twin_val r39) (B' := fun _ => []) (D' := c_raddleref01_Twin_D r39) [] [eBox b210 24 [iv 0, iv 0, .slice none 0 0], eBox b14 24 [iv p0.W, iv p0.H, .slice ad3 p0.Bits.length cp4], eBox b15 24 [iv p1.W, iv p1.H, .slice ad7 p1.Bits.length cp8], eBox b16 24 [iv p2.W, iv p2.H, .slice ad11 p2.Bits.length cp12]] [fRep r_api_Grid (.agg #[iv p1.W, iv p1.H, .slice ad7 p1.Bits.length cp8]) p1] [0, 1, 2, 3] [0] S (wN rfl) rfl callee12 rfl (by decide) rfl rfl (fun E1 w1 S1 => c_raddleref01_Twin E1 w1 p1 (.agg #[iv p1.W, iv p1.H, .slice ad7 p1.Bits.length cp8]) r39 hx40 S1) rfl (lb rfl) fun u211 a w S => ?_
      obtain ⟨u212, rfl, hu213⟩ := S.mem.know (i := 0) (e := fRep r_api_Grid (u211) r39) rfl
      have S := S.learn (fRep (rL rB) u212 r39.Bits) hu213
      obtain ⟨ad214, cp215, _, rfl, _⟩ := hu213
      refine leafL ⟨rfl, _, _, .inl ⟨31, (.agg #[iv r39.W, iv r39.H, .slice ad214 r39.Bits.length cp215]), [], rfl, S, hz_of rfl, ?_⟩⟩
      exact nodePerm (nd12 b210 ad214 cp215 ad59 cp60) [1, 0, 2, 3, 4, 5] [0, 1, 2, 3] [0, 1, 2, 3, 4, 5, 6, 7, 8] (by decide) (by decide) rfl rfl rfl
    · refine fI 32 (.agg #[iv p2.W, iv p2.H, .slice ad11 p2.Bits.length cp12]) [(5, .pointer (some ⟨b16, 0, none⟩))] 4 [none] rfl rfl rfl rfl rfl rfl fun G a w S => ?_
      refine sLoadN (p := b16) (off := 0) (T := 24) (vs := [iv p2.W, iv p2.H, .slice ad11 p2.Bits.length cp12]) 3 [iv p2.W, iv p2.H, .slice ad11 p2.Bits.length cp12] S (wN rfl) rfl rfl rfl rfl rfl rfl rfl (lb rfl) fun a S => ?_
      exact leafL ⟨rfl, S⟩
    · refine ⟨_, [], rfl, (srcs_of [] rfl rfl rfl), fun G a w S => ?_⟩
      refine sAlloc (.agg #[iv 0, iv 0, .slice none 0 0]) S (wN rfl) rfl rfl [iv 0, iv 0, .slice none 0 0] rfl rfl (lb rfl) fun a b216 w S => ?_
      refine leafL ⟨rfl, _, _, .inl ⟨7, (.pointer (some ⟨b216, 0, none⟩)), [], rfl, S, hz_of rfl, ?_⟩⟩
      exact nodePerm (nd16 b210 b216 ad59 cp60) [1, 0, 2, 3, 4, 5] [1, 0, 2, 3, 4] [0, 1, 2, 3, 4, 5] (by decide) (by decide) rfl rfl rfl
    refine ⟨_, [], rfl, (srcs_of [] rfl rfl rfl), fun G a w S => ?_⟩
    refine sAlloc (.agg #[iv 0, iv 0, .slice none 0 0]) S (wN rfl) rfl rfl [iv 0, iv 0, .slice none 0 0] rfl rfl (lb rfl) fun a b217 w S => ?_
    refine leafL ⟨rfl, _, _, .inl ⟨9, (.pointer (some ⟨b217, 0, none⟩)), [], rfl, S, hz_of rfl, ?_⟩⟩
    exact nd20 b217 b210 ad59 cp60
  refine nodeCut (fun N W L D => ∀ b224 ad59 cp60, N [8, 1] ((8, 9, .pointer (some ⟨b224, 0, none⟩)) :: (1, 29, .agg #[iv r32.W, iv r32.H, .slice ad59 r32.Bits.length cp60]) :: W) ((eBox b224 24 [iv 0, iv 0, .slice none 0 0]) :: L) ((fRep (rL rB) (.slice ad59 r32.Bits.length cp60) r32.Bits) :: (fRep r_api_Grid (.agg #[iv r32.W, iv r32.H, .slice ad59 r32.Bits.length cp60]) r32) :: (fRep r_api_Grid (.agg #[iv p0.W, iv p0.H, .slice ad3 p0.Bits.length cp4]) p0) :: D)) (fun b224 ad59 cp60 => ?_) fun nd21 => ?_
  · refine node_by (A := anc_raddlelaw13_BlockFills_0) (nf := [1, 3, 5, 6, 7, 8, 9, 10, 11]) (Y := [8, 1]) 12 (by kernel_rfl) (by kernel_rfl) (by kernel_rfl) (by kernel_rfl) (by kernel_rfl) [8, 1, 0, 2, 4] (by kernel_rfl) (by decide) (by decide) (aD 0 11 1 (by decide) (aY 1 10 (by decide) (aF 2 9 (by decide) ?_ (aN 3 8 (by decide) ?_ (aF 4 7 (by decide) ?_ (aB 5 6 3 (by decide) (aN 6 5 (by decide) ?_ (aN 7 4 (by decide) ?_ (aY 8 3 (by decide) (aB 9 2 3 (by decide) (aB 10 1 3 (by decide) (aB 11 0 3 (by decide) (trivial))))))))))))) [] (fun q hq => by cases hq) (fun hY => absurd (hY 3 (by decide)) (by decide))
    · refine fI 30 (.agg #[iv p1.W, iv p1.H, .slice ad7 p1.Bits.length cp8]) [(4, .pointer (some ⟨b15, 0, none⟩))] 3 [none] rfl rfl rfl rfl rfl rfl fun G a w S => ?_
      refine sLoadN (p := b15) (off := 0) (T := 24) (vs := [iv p1.W, iv p1.H, .slice ad7 p1.Bits.length cp8]) 2 [iv p1.W, iv p1.H, .slice ad7 p1.Bits.length cp8] S (wN rfl) rfl rfl rfl rfl rfl rfl rfl (lb rfl) fun a S => ?_
      exact leafL ⟨rfl, S⟩
    · refine ⟨_, [(30, .agg #[iv p1.W, iv p1.H, .slice ad7 p1.Bits.length cp8])], rfl, (srcs_of [some 3] rfl rfl rfl), fun G a w S => ?_⟩
      have S := S.learn (fRep r_api_Grid (.agg #[iv p1.W, iv p1.H, .slice ad7 p1.Bits.length cp8]) p1) ⟨_, rfl, S.mem.know (i := 4) (e := fRep (rL rB) (.slice ad7 p1.Bits.length cp8) p1.Bits) rfl⟩
      refine sCall (X := Value) (f := 12) (vs := [.agg #[iv p1.W, iv p1.H, .slice ad7 p1.Bits.length cp8]]) (val := c_raddleref01_Twin_val r39) (B' := fun _ => []) (D' := c_raddleref01_Twin_D r39) [] [eBox b224 24 [iv 0, iv 0, .slice none 0 0], eBox b14 24 [iv p0.W, iv p0.H, .slice ad3 p0.Bits.length cp4], eBox b15 24 [iv p1.W, iv p1.H, .slice ad7 p1.Bits.length cp8], eBox b16 24 [iv p2.W, iv p2.H, .slice ad11 p2.Bits.length cp12]] [fRep r_api_Grid (.agg #[iv p1.W, iv p1.H, .slice ad7 p1.Bits.length cp8]) p1] [0, 1, 2, 3] [0] S (wN rfl) rfl callee12 rfl (by decide) rfl rfl (fun E1 w1 S1 => c_raddleref01_Twin E1 w1 p1 (.agg #[iv p1.W, iv p1.H, .slice ad7 p1.Bits.length cp8]) r39 hx40 S1) rfl (lb rfl) fun u225 a w S => ?_
      obtain ⟨u226, rfl, hu227⟩ := S.mem.know (i := 0) (e := fRep r_api_Grid (u225) r39) rfl
      have S := S.learn (fRep (rL rB) u226 r39.Bits) hu227
      obtain ⟨ad228, cp229, _, rfl, _⟩ := hu227
      refine leafL ⟨rfl, _, _, .inl ⟨31, (.agg #[iv r39.W, iv r39.H, .slice ad228 r39.Bits.length cp229]), [], rfl, S, hz_of rfl, ?_⟩⟩
      exact nodePerm (nd14 b224 ad228 cp229 ad59 cp60) [1, 0, 2, 3, 4, 5] [0, 1, 2, 3] [0, 1, 2, 3, 4, 5, 6, 7, 8] (by decide) (by decide) rfl rfl rfl
    · refine fI 32 (.agg #[iv p2.W, iv p2.H, .slice ad11 p2.Bits.length cp12]) [(5, .pointer (some ⟨b16, 0, none⟩))] 4 [none] rfl rfl rfl rfl rfl rfl fun G a w S => ?_
      refine sLoadN (p := b16) (off := 0) (T := 24) (vs := [iv p2.W, iv p2.H, .slice ad11 p2.Bits.length cp12]) 3 [iv p2.W, iv p2.H, .slice ad11 p2.Bits.length cp12] S (wN rfl) rfl rfl rfl rfl rfl rfl rfl (lb rfl) fun a S => ?_
      exact leafL ⟨rfl, S⟩
    · refine ⟨_, [], rfl, (srcs_of [] rfl rfl rfl), fun G a w S => ?_⟩
      refine sAlloc (.agg #[iv 0, iv 0, .slice none 0 0]) S (wN rfl) rfl rfl [iv 0, iv 0, .slice none 0 0] rfl rfl (lb rfl) fun a b230 w S => ?_
      refine leafL ⟨rfl, _, _, .inl ⟨7, (.pointer (some ⟨b230, 0, none⟩)), [], rfl, S, hz_of rfl, ?_⟩⟩
      exact nodePerm (nd18 b224 b230 ad59 cp60) [1, 0, 2, 3, 4, 5] [1, 0, 2, 3, 4] [0, 1, 2, 3, 4, 5] (by decide) (by decide) rfl rfl rfl
    refine ⟨_, [], rfl, (srcs_of [] rfl rfl rfl), fun G a w S => ?_⟩
    refine sAlloc (.agg #[iv 0, iv 0, .slice none 0 0]) S (wN rfl) rfl rfl [iv 0, iv 0, .slice none 0 0] rfl rfl (lb rfl) fun a b231 w S => ?_
    refine leafL ⟨rfl, _, _, .inl ⟨8, (.pointer (some ⟨b231, 0, none⟩)), [], rfl, S, hz_of rfl, ?_⟩⟩
    exact nodePerm (nd20 b224 b231 ad59 cp60) [1, 0, 2, 3, 4, 5] [1, 0, 2, 3, 4] [0, 1, 2, 3, 4, 5] (by decide) (by decide) rfl rfl rfl
  refine nodeCut (fun N W L D => ∀ b244 b238 b232, N [8, 7, 6] ((8, 9, .pointer (some ⟨b244, 0, none⟩)) :: (7, 8, .pointer (some ⟨b238, 0, none⟩)) :: (6, 7, .pointer (some ⟨b232, 0, none⟩)) :: W) ((eBox b244 24 [iv 0, iv 0, .slice none 0 0]) :: (eBox b238 24 [iv 0, iv 0, .slice none 0 0]) :: (eBox b232 24 [iv 0, iv 0, .slice none 0 0]) :: L) (D)) (fun b244 b238 b232 => ?_) fun nd23 => ?_
  · refine node_by (A := anc_raddlelaw13_BlockFills_0) (nf := [1, 3, 5, 6, 7, 8, 9, 10, 11]) (Y := [8, 7, 6]) 12 (by kernel_rfl) (by kernel_rfl) (by kernel_rfl) (by kernel_rfl) (by kernel_rfl) [8, 7, 6, 0, 2, 4] (by kernel_rfl) (by decide) (by decide) (aF 0 11 (by decide) ?_ (aN 1 10 (by decide) ?_ (aF 2 9 (by decide) ?_ (aB 3 8 1 (by decide) (aF 4 7 (by decide) ?_ (aB 5 6 1 (by decide) (aY 6 5 (by decide) (aY 7 4 (by decide) (aY 8 3 (by decide) (aB 9 2 1 (by decide) (aB 10 1 1 (by decide) (aB 11 0 1 (by decide) (trivial))))))))))))) [] (fun q hq => by cases hq) (fun hY => absurd (hY 1 (by decide)) (by decide))
    · refine fI 28 (.agg #[iv p0.W, iv p0.H, .slice ad3 p0.Bits.length cp4]) [(3, .pointer (some ⟨b14, 0, none⟩))] 3 [none] rfl rfl rfl rfl rfl rfl fun G a w S => ?_
      refine sLoadN (p := b14) (off := 0) (T := 24) (vs := [iv p0.W, iv p0.H, .slice ad3 p0.Bits.length cp4]) 3 [iv p0.W, iv p0.H, .slice ad3 p0.Bits.length cp4] S (wN rfl) rfl rfl rfl rfl rfl rfl rfl (lb rfl) fun a S => ?_
      exact leafL ⟨rfl, S⟩
    · refine ⟨_, [(28, .agg #[iv p0.W, iv p0.H, .slice ad3 p0.Bits.length cp4])], rfl, (srcs_of [some 3] rfl rfl rfl), fun G a w S => ?_⟩
      have S := S.learn (fRep r_api_Grid (.agg #[iv p0.W, iv p0.H, .slice ad3 p0.Bits.length cp4]) p0) ⟨_, rfl, S.mem.know (i := 0) (e := fRep (rL rB) (.slice ad3 p0.Bits.length cp4) p0.Bits) rfl⟩
      refine sCall (X := Value) (f := 12) (vs := [.agg #[iv p0.W, iv p0.H, .slice ad3 p0.Bits.length cp4]]) (val := c_raddleref01_Twin_val r32) (B' := fun _ => []) (D' := c_raddleref01_Twin_D r32) [] [eBox b244 24 [iv 0, iv 0, .slice none 0 0], eBox b238 24 [iv 0, iv 0, .slice none 0 0], eBox b232 24 [iv 0, iv 0, .slice none 0 0], eBox b14 24 [iv p0.W, iv p0.H, .slice ad3 p0.Bits.length cp4], eBox b15 24 [iv p1.W, iv p1.H, .slice ad7 p1.Bits.length cp8], eBox b16 24 [iv p2.W, iv p2.H, .slice ad11 p2.Bits.length cp12]] [fRep r_api_Grid (.agg #[iv p0.W, iv p0.H, .slice ad3 p0.Bits.length cp4]) p0] [0, 1, 2, 3, 4, 5] [0] S (wN rfl) rfl callee12 rfl (by decide) rfl rfl (fun E1 w1 S1 => c_raddleref01_Twin E1 w1 p0 (.agg #[iv p0.W, iv p0.H, .slice ad3 p0.Bits.length cp4]) r32 hx33 S1) rfl (lb rfl) fun u245 a w S => ?_
      obtain ⟨u246, rfl, hu247⟩ := S.mem.know (i := 0) (e := fRep r_api_Grid (u245) r32) rfl
      have S := S.learn (fRep (rL rB) u246 r32.Bits) hu247
      obtain ⟨ad248, cp249, _, rfl, _⟩ := hu247
      refine leafL ⟨rfl, _, _, .inl ⟨29, (.agg #[iv r32.W, iv r32.H, .slice ad248 r32.Bits.length cp249]), [], rfl, S, hz_of rfl, ?_⟩⟩
      exact nodePerm (nd17 b244 b238 b232 ad248 cp249) [1, 2, 3, 0, 4, 5, 6] [0, 1, 2, 3, 4, 5] [0, 1, 2, 3, 4, 5] (by decide) (by decide) rfl rfl rfl
    · refine fI 30 (.agg #[iv p1.W, iv p1.H, .slice ad7 p1.Bits.length cp8]) [(4, .pointer (some ⟨b15, 0, none⟩))] 4 [none] rfl rfl rfl rfl rfl rfl fun G a w S => ?_
      refine sLoadN (p := b15) (off := 0) (T := 24) (vs := [iv p1.W, iv p1.H, .slice ad7 p1.Bits.length cp8]) 4 [iv p1.W, iv p1.H, .slice ad7 p1.Bits.length cp8] S (wN rfl) rfl rfl rfl rfl rfl rfl rfl (lb rfl) fun a S => ?_
      exact leafL ⟨rfl, S⟩
    refine fI 32 (.agg #[iv p2.W, iv p2.H, .slice ad11 p2.Bits.length cp12]) [(5, .pointer (some ⟨b16, 0, none⟩))] 5 [none] rfl rfl rfl rfl rfl rfl fun G a w S => ?_
    refine sLoadN (p := b16) (off := 0) (T := 24) (vs := [iv p2.W, iv p2.H, .slice ad11 p2.Bits.length cp12]) 5 [iv p2.W, iv p2.H, .slice ad11 p2.Bits.length cp12] S (wN rfl) rfl rfl rfl rfl rfl rfl rfl (lb rfl) fun a S => ?_
    exact leafL ⟨rfl, S⟩
  refine nodeCut (fun N W L D => ∀ b238 b232, N [7, 6] ((7, 8, .pointer (some ⟨b238, 0, none⟩)) :: (6, 7, .pointer (some ⟨b232, 0, none⟩)) :: W) ((eBox b238 24 [iv 0, iv 0, .slice none 0 0]) :: (eBox b232 24 [iv 0, iv 0, .slice none 0 0]) :: L) (D)) (fun b238 b232 => ?_) fun nd22 => ?_
  · refine node_by (A := anc_raddlelaw13_BlockFills_0) (nf := [1, 3, 5, 6, 7, 8, 9, 10, 11]) (Y := [7, 6]) 12 (by kernel_rfl) (by kernel_rfl) (by kernel_rfl) (by kernel_rfl) (by kernel_rfl) [7, 6, 0, 2, 4] (by kernel_rfl) (by decide) (by decide) (aF 0 11 (by decide) ?_ (aN 1 10 (by decide) ?_ (aF 2 9 (by decide) ?_ (aB 3 8 1 (by decide) (aF 4 7 (by decide) ?_ (aB 5 6 1 (by decide) (aY 6 5 (by decide) (aY 7 4 (by decide) (aN 8 3 (by decide) ?_ (aB 9 2 1 (by decide) (aB 10 1 1 (by decide) (aB 11 0 1 (by decide) (trivial))))))))))))) [] (fun q hq => by cases hq) (fun hY => absurd (hY 1 (by decide)) (by decide))
    · refine fI 28 (.agg #[iv p0.W, iv p0.H, .slice ad3 p0.Bits.length cp4]) [(3, .pointer (some ⟨b14, 0, none⟩))] 2 [none] rfl rfl rfl rfl rfl rfl fun G a w S => ?_
      refine sLoadN (p := b14) (off := 0) (T := 24) (vs := [iv p0.W, iv p0.H, .slice ad3 p0.Bits.length cp4]) 2 [iv p0.W, iv p0.H, .slice ad3 p0.Bits.length cp4] S (wN rfl) rfl rfl rfl rfl rfl rfl rfl (lb rfl) fun a S => ?_
      exact leafL ⟨rfl, S⟩
    · refine ⟨_, [(28, .agg #[iv p0.W, iv p0.H, .slice ad3 p0.Bits.length cp4])], rfl, (srcs_of [some 2] rfl rfl rfl), fun G a w S => ?_⟩
      have S := S.learn (fRep r_api_Grid (.agg #[iv p0.W, iv p0.H, .slice ad3 p0.Bits.length cp4]) p0) ⟨_, rfl, S.mem.know (i := 0) (e := fRep (rL rB) (.slice ad3 p0.Bits.length cp4) p0.Bits) rfl⟩
      refine sCall (X := Value) (f := 12) (vs := [.agg #[iv p0.W, iv p0.H, .slice ad3 p0.Bits.length cp4]]) (val := c_raddleref01_Twin_val r32) (B' := fun _ => []) (D' := c_raddleref01_Twin_D r32) [] [eBox b238 24 [iv 0, iv 0, .slice none 0 0], eBox b232 24 [iv 0, iv 0, .slice none 0 0], eBox b14 24 [iv p0.W, iv p0.H, .slice ad3 p0.Bits.length cp4], eBox b15 24 [iv p1.W, iv p1.H, .slice ad7 p1.Bits.length cp8], eBox b16 24 [iv p2.W, iv p2.H, .slice ad11 p2.Bits.length cp12]] [fRep r_api_Grid (.agg #[iv p0.W, iv p0.H, .slice ad3 p0.Bits.length cp4]) p0] [0, 1, 2, 3, 4] [0] S (wN rfl) rfl callee12 rfl (by decide) rfl rfl (fun E1 w1 S1 => c_raddleref01_Twin E1 w1 p0 (.agg #[iv p0.W, iv p0.H, .slice ad3 p0.Bits.length cp4]) r32 hx33 S1) rfl (lb rfl) fun u239 a w S => ?_
      obtain ⟨u240, rfl, hu241⟩ := S.mem.know (i := 0) (e := fRep r_api_Grid (u239) r32) rfl
      have S := S.learn (fRep (rL rB) u240 r32.Bits) hu241
      obtain ⟨ad242, cp243, _, rfl, _⟩ := hu241
      refine leafL ⟨rfl, _, _, .inl ⟨29, (.agg #[iv r32.W, iv r32.H, .slice ad242 r32.Bits.length cp243]), [], rfl, S, hz_of rfl, ?_⟩⟩
      exact nodePerm (nd16 b238 b232 ad242 cp243) [1, 2, 0, 3, 4, 5] [0, 1, 2, 3, 4] [0, 1, 2, 3, 4, 5] (by decide) (by decide) rfl rfl rfl
    · refine fI 30 (.agg #[iv p1.W, iv p1.H, .slice ad7 p1.Bits.length cp8]) [(4, .pointer (some ⟨b15, 0, none⟩))] 3 [none] rfl rfl rfl rfl rfl rfl fun G a w S => ?_
      refine sLoadN (p := b15) (off := 0) (T := 24) (vs := [iv p1.W, iv p1.H, .slice ad7 p1.Bits.length cp8]) 3 [iv p1.W, iv p1.H, .slice ad7 p1.Bits.length cp8] S (wN rfl) rfl rfl rfl rfl rfl rfl rfl (lb rfl) fun a S => ?_
      exact leafL ⟨rfl, S⟩
    · refine fI 32 (.agg #[iv p2.W, iv p2.H, .slice ad11 p2.Bits.length cp12]) [(5, .pointer (some ⟨b16, 0, none⟩))] 4 [none] rfl rfl rfl rfl rfl rfl fun G a w S => ?_
      refine sLoadN (p := b16) (off := 0) (T := 24) (vs := [iv p2.W, iv p2.H, .slice ad11 p2.Bits.length cp12]) 4 [iv p2.W, iv p2.H, .slice ad11 p2.Bits.length cp12] S (wN rfl) rfl rfl rfl rfl rfl rfl rfl (lb rfl) fun a S => ?_
      exact leafL ⟨rfl, S⟩
    refine ⟨_, [], rfl, (srcs_of [] rfl rfl rfl), fun G a w S => ?_⟩
    refine sAlloc (.agg #[iv 0, iv 0, .slice none 0 0]) S (wN rfl) rfl rfl [iv 0, iv 0, .slice none 0 0] rfl rfl (lb rfl) fun a b244 w S => ?_
    refine leafL ⟨rfl, _, _, .inl ⟨9, (.pointer (some ⟨b244, 0, none⟩)), [], rfl, S, hz_of rfl, ?_⟩⟩
    exact nd23 b244 b238 b232
  refine nodeCut (fun N W L D => ∀ b250 b232, N [8, 6] ((8, 9, .pointer (some ⟨b250, 0, none⟩)) :: (6, 7, .pointer (some ⟨b232, 0, none⟩)) :: W) ((eBox b250 24 [iv 0, iv 0, .slice none 0 0]) :: (eBox b232 24 [iv 0, iv 0, .slice none 0 0]) :: L) (D)) (fun b250 b232 => ?_) fun nd24 => ?_
  · refine node_by (A := anc_raddlelaw13_BlockFills_0) (nf := [1, 3, 5, 6, 7, 8, 9, 10, 11]) (Y := [8, 6]) 12 (by kernel_rfl) (by kernel_rfl) (by kernel_rfl) (by kernel_rfl) (by kernel_rfl) [8, 6, 0, 2, 4] (by kernel_rfl) (by decide) (by decide) (aF 0 11 (by decide) ?_ (aN 1 10 (by decide) ?_ (aF 2 9 (by decide) ?_ (aB 3 8 1 (by decide) (aF 4 7 (by decide) ?_ (aB 5 6 1 (by decide) (aY 6 5 (by decide) (aN 7 4 (by decide) ?_ (aY 8 3 (by decide) (aB 9 2 1 (by decide) (aB 10 1 1 (by decide) (aB 11 0 1 (by decide) (trivial))))))))))))) [] (fun q hq => by cases hq) (fun hY => absurd (hY 1 (by decide)) (by decide))
    · refine fI 28 (.agg #[iv p0.W, iv p0.H, .slice ad3 p0.Bits.length cp4]) [(3, .pointer (some ⟨b14, 0, none⟩))] 2 [none] rfl rfl rfl rfl rfl rfl fun G a w S => ?_
      refine sLoadN (p := b14) (off := 0) (T := 24) (vs := [iv p0.W, iv p0.H, .slice ad3 p0.Bits.length cp4]) 2 [iv p0.W, iv p0.H, .slice ad3 p0.Bits.length cp4] S (wN rfl) rfl rfl rfl rfl rfl rfl rfl (lb rfl) fun a S => ?_
      exact leafL ⟨rfl, S⟩
    · refine ⟨_, [(28, .agg #[iv p0.W, iv p0.H, .slice ad3 p0.Bits.length cp4])], rfl, (srcs_of [some 2] rfl rfl rfl), fun G a w S => ?_⟩
      have S := S.learn (fRep r_api_Grid (.agg #[iv p0.W, iv p0.H, .slice ad3 p0.Bits.length cp4]) p0) ⟨_, rfl, S.mem.know (i := 0) (e := fRep (rL rB) (.slice ad3 p0.Bits.length cp4) p0.Bits) rfl⟩
      refine sCall (X := Value) (f := 12) (vs := [.agg #[iv p0.W, iv p0.H, .slice ad3 p0.Bits.length cp4]]) (val := c_raddleref01_Twin_val r32) (B' := fun _ => []) (D' := c_raddleref01_Twin_D r32) [] [eBox b250 24 [iv 0, iv 0, .slice none 0 0], eBox b232 24 [iv 0, iv 0, .slice none 0 0], eBox b14 24 [iv p0.W, iv p0.H, .slice ad3 p0.Bits.length cp4], eBox b15 24 [iv p1.W, iv p1.H, .slice ad7 p1.Bits.length cp8], eBox b16 24 [iv p2.W, iv p2.H, .slice ad11 p2.Bits.length cp12]] [fRep r_api_Grid (.agg #[iv p0.W, iv p0.H, .slice ad3 p0.Bits.length cp4]) p0] [0, 1, 2, 3, 4] [0] S (wN rfl) rfl callee12 rfl (by decide) rfl rfl (fun E1 w1 S1 => c_raddleref01_Twin E1 w1 p0 (.agg #[iv p0.W, iv p0.H, .slice ad3 p0.Bits.length cp4]) r32 hx33 S1) rfl (lb rfl) fun u251 a w S => ?_
      obtain ⟨u252, rfl, hu253⟩ := S.mem.know (i := 0) (e := fRep r_api_Grid (u251) r32) rfl
      have S := S.learn (fRep (rL rB) u252 r32.Bits) hu253
      obtain ⟨ad254, cp255, _, rfl, _⟩ := hu253
      refine leafL ⟨rfl, _, _, .inl ⟨29, (.agg #[iv r32.W, iv r32.H, .slice ad254 r32.Bits.length cp255]), [], rfl, S, hz_of rfl, ?_⟩⟩
      exact nodePerm (nd18 b250 b232 ad254 cp255) [1, 2, 0, 3, 4, 5] [0, 1, 2, 3, 4] [0, 1, 2, 3, 4, 5] (by decide) (by decide) rfl rfl rfl
    · refine fI 30 (.agg #[iv p1.W, iv p1.H, .slice ad7 p1.Bits.length cp8]) [(4, .pointer (some ⟨b15, 0, none⟩))] 3 [none] rfl rfl rfl rfl rfl rfl fun G a w S => ?_
      refine sLoadN (p := b15) (off := 0) (T := 24) (vs := [iv p1.W, iv p1.H, .slice ad7 p1.Bits.length cp8]) 3 [iv p1.W, iv p1.H, .slice ad7 p1.Bits.length cp8] S (wN rfl) rfl rfl rfl rfl rfl rfl rfl (lb rfl) fun a S => ?_
      exact leafL ⟨rfl, S⟩
    · refine fI 32 (.agg #[iv p2.W, iv p2.H, .slice ad11 p2.Bits.length cp12]) [(5, .pointer (some ⟨b16, 0, none⟩))] 4 [none] rfl rfl rfl rfl rfl rfl fun G a w S => ?_
      refine sLoadN (p := b16) (off := 0) (T := 24) (vs := [iv p2.W, iv p2.H, .slice ad11 p2.Bits.length cp12]) 4 [iv p2.W, iv p2.H, .slice ad11 p2.Bits.length cp12] S (wN rfl) rfl rfl rfl rfl rfl rfl rfl (lb rfl) fun a S => ?_
      exact leafL ⟨rfl, S⟩
    refine ⟨_, [], rfl, (srcs_of [] rfl rfl rfl), fun G a w S => ?_⟩
    refine sAlloc (.agg #[iv 0, iv 0, .slice none 0 0]) S (wN rfl) rfl rfl [iv 0, iv 0, .slice none 0 0] rfl rfl (lb rfl) fun a b256 w S => ?_
    refine leafL ⟨rfl, _, _, .inl ⟨8, (.pointer (some ⟨b256, 0, none⟩)), [], rfl, S, hz_of rfl, ?_⟩⟩
    exact nodePerm (nd23 b250 b256 b232) [1, 0, 2, 3, 4, 5] [1, 0, 2, 3, 4, 5] [0, 1, 2] (by decide) (by decide) rfl rfl rfl
  refine nodeCut (fun N W L D => ∀ b264 b257, N [8, 7] ((8, 9, .pointer (some ⟨b264, 0, none⟩)) :: (7, 8, .pointer (some ⟨b257, 0, none⟩)) :: W) ((eBox b264 24 [iv 0, iv 0, .slice none 0 0]) :: (eBox b257 24 [iv 0, iv 0, .slice none 0 0]) :: L) (D)) (fun b264 b257 => ?_) fun nd25 => ?_
  · refine node_by (A := anc_raddlelaw13_BlockFills_0) (nf := [1, 3, 5, 6, 7, 8, 9, 10, 11]) (Y := [8, 7]) 12 (by kernel_rfl) (by kernel_rfl) (by kernel_rfl) (by kernel_rfl) (by kernel_rfl) [8, 7, 0, 2, 4] (by kernel_rfl) (by decide) (by decide) (aF 0 11 (by decide) ?_ (aN 1 10 (by decide) ?_ (aF 2 9 (by decide) ?_ (aB 3 8 1 (by decide) (aF 4 7 (by decide) ?_ (aB 5 6 1 (by decide) (aN 6 5 (by decide) ?_ (aY 7 4 (by decide) (aY 8 3 (by decide) (aB 9 2 1 (by decide) (aB 10 1 1 (by decide) (aB 11 0 1 (by decide) (trivial))))))))))))) [] (fun q hq => by cases hq) (fun hY => absurd (hY 1 (by decide)) (by decide))
    · refine fI 28 (.agg #[iv p0.W, iv p0.H, .slice ad3 p0.Bits.length cp4]) [(3, .pointer (some ⟨b14, 0, none⟩))] 2 [none] rfl rfl rfl rfl rfl rfl fun G a w S => ?_
      refine sLoadN (p := b14) (off := 0) (T := 24) (vs := [iv p0.W, iv p0.H, .slice ad3 p0.Bits.length cp4]) 2 [iv p0.W, iv p0.H, .slice ad3 p0.Bits.length cp4] S (wN rfl) rfl rfl rfl rfl rfl rfl rfl (lb rfl) fun a S => ?_
      exact leafL ⟨rfl, S⟩
    · refine ⟨_, [(28, .agg #[iv p0.W, iv p0.H, .slice ad3 p0.Bits.length cp4])], rfl, (srcs_of [some 2] rfl rfl rfl), fun G a w S => ?_⟩
      have S := S.learn (fRep r_api_Grid (.agg #[iv p0.W, iv p0.H, .slice ad3 p0.Bits.length cp4]) p0) ⟨_, rfl, S.mem.know (i := 0) (e := fRep (rL rB) (.slice ad3 p0.Bits.length cp4) p0.Bits) rfl⟩
      refine sCall (X := Value) (f := 12) (vs := [.agg #[iv p0.W, iv p0.H, .slice ad3 p0.Bits.length cp4]]) (val := c_raddleref01_Twin_val r32) (B' := fun _ => []) (D' := c_raddleref01_Twin_D r32) [] [eBox b264 24 [iv 0, iv 0, .slice none 0 0], eBox b257 24 [iv 0, iv 0, .slice none 0 0], eBox b14 24 [iv p0.W, iv p0.H, .slice ad3 p0.Bits.length cp4], eBox b15 24 [iv p1.W, iv p1.H, .slice ad7 p1.Bits.length cp8], eBox b16 24 [iv p2.W, iv p2.H, .slice ad11 p2.Bits.length cp12]] [fRep r_api_Grid (.agg #[iv p0.W, iv p0.H, .slice ad3 p0.Bits.length cp4]) p0] [0, 1, 2, 3, 4] [0] S (wN rfl) rfl callee12 rfl (by decide) rfl rfl (fun E1 w1 S1 => c_raddleref01_Twin E1 w1 p0 (.agg #[iv p0.W, iv p0.H, .slice ad3 p0.Bits.length cp4]) r32 hx33 S1) rfl (lb rfl) fun u265 a w S => ?_
      obtain ⟨u266, rfl, hu267⟩ := S.mem.know (i := 0) (e := fRep r_api_Grid (u265) r32) rfl
      have S := S.learn (fRep (rL rB) u266 r32.Bits) hu267
      obtain ⟨ad268, cp269, _, rfl, _⟩ := hu267
      refine leafL ⟨rfl, _, _, .inl ⟨29, (.agg #[iv r32.W, iv r32.H, .slice ad268 r32.Bits.length cp269]), [], rfl, S, hz_of rfl, ?_⟩⟩
      exact nodePerm (nd20 b264 b257 ad268 cp269) [1, 2, 0, 3, 4, 5] [0, 1, 2, 3, 4] [0, 1, 2, 3, 4, 5] (by decide) (by decide) rfl rfl rfl
    · refine fI 30 (.agg #[iv p1.W, iv p1.H, .slice ad7 p1.Bits.length cp8]) [(4, .pointer (some ⟨b15, 0, none⟩))] 3 [none] rfl rfl rfl rfl rfl rfl fun G a w S => ?_
      refine sLoadN (p := b15) (off := 0) (T := 24) (vs := [iv p1.W, iv p1.H, .slice ad7 p1.Bits.length cp8]) 3 [iv p1.W, iv p1.H, .slice ad7 p1.Bits.length cp8] S (wN rfl) rfl rfl rfl rfl rfl rfl rfl (lb rfl) fun a S => ?_
      exact leafL ⟨rfl, S⟩
    · refine fI 32 (.agg #[iv p2.W, iv p2.H, .slice ad11 p2.Bits.length cp12]) [(5, .pointer (some ⟨b16, 0, none⟩))] 4 [none] rfl rfl rfl rfl rfl rfl fun G a w S => ?_
      refine sLoadN (p := b16) (off := 0) (T := 24) (vs := [iv p2.W, iv p2.H, .slice ad11 p2.Bits.length cp12]) 4 [iv p2.W, iv p2.H, .slice ad11 p2.Bits.length cp12] S (wN rfl) rfl rfl rfl rfl rfl rfl rfl (lb rfl) fun a S => ?_
      exact leafL ⟨rfl, S⟩
    refine ⟨_, [], rfl, (srcs_of [] rfl rfl rfl), fun G a w S => ?_⟩
    refine sAlloc (.agg #[iv 0, iv 0, .slice none 0 0]) S (wN rfl) rfl rfl [iv 0, iv 0, .slice none 0 0] rfl rfl (lb rfl) fun a b270 w S => ?_
    refine leafL ⟨rfl, _, _, .inl ⟨7, (.pointer (some ⟨b270, 0, none⟩)), [], rfl, S, hz_of rfl, ?_⟩⟩
    exact nodePerm (nd23 b264 b257 b270) [1, 2, 0, 3, 4, 5] [1, 2, 0, 3, 4, 5] [0, 1, 2] (by decide) (by decide) rfl rfl rfl
  refine node_by (A := anc_raddlelaw13_BlockFills_0) (nf := [1, 3, 5, 6, 7, 8, 9, 10, 11]) (Y := []) (W := [(0, 28, .agg #[iv p0.W, iv p0.H, .slice ad3 p0.Bits.length cp4]), (2, 30, .agg #[iv p1.W, iv p1.H, .slice ad7 p1.Bits.length cp8]), (4, 32, .agg #[iv p2.W, iv p2.H, .slice ad11 p2.Bits.length cp12])]) 12 (by kernel_rfl) (by kernel_rfl) (by kernel_rfl) (by kernel_rfl) (by kernel_rfl) [0, 2, 4] (by kernel_rfl) (by decide) (by decide) (aF 0 11 (by decide) ?_ (aN 1 10 (by decide) ?_ (aF 2 9 (by decide) ?_ (aB 3 8 1 (by decide) (aF 4 7 (by decide) ?_ (aB 5 6 1 (by decide) (aN 6 5 (by decide) ?_ (aN 7 4 (by decide) ?_ (aN 8 3 (by decide) ?_ (aB 9 2 1 (by decide) (aB 10 1 1 (by decide) (aB 11 0 1 (by decide) (trivial))))))))))))) [] (fun q hq => by cases hq) (fun hY => absurd (hY 1 (by decide)) (by decide))
  · refine fI 28 (.agg #[iv p0.W, iv p0.H, .slice ad3 p0.Bits.length cp4]) [(3, .pointer (some ⟨b14, 0, none⟩))] 0 [none] rfl rfl rfl rfl rfl rfl fun G a w S => ?_
    refine sLoadN (p := b14) (off := 0) (T := 24) (vs := [iv p0.W, iv p0.H, .slice ad3 p0.Bits.length cp4]) 0 [iv p0.W, iv p0.H, .slice ad3 p0.Bits.length cp4] S (wN rfl) rfl rfl rfl rfl rfl rfl rfl (lb rfl) fun a S => ?_
    exact leafL ⟨rfl, S⟩
  · refine ⟨_, [(28, .agg #[iv p0.W, iv p0.H, .slice ad3 p0.Bits.length cp4])], rfl, (srcs_of [some 0] rfl rfl rfl), fun G a w S => ?_⟩
    have S := S.learn (fRep r_api_Grid (.agg #[iv p0.W, iv p0.H, .slice ad3 p0.Bits.length cp4]) p0) ⟨_, rfl, S.mem.know (i := 0) (e := fRep (rL rB) (.slice ad3 p0.Bits.length cp4) p0.Bits) rfl⟩
    refine sCall (X := Value) (f := 12) (vs := [.agg #[iv p0.W, iv p0.H, .slice ad3 p0.Bits.length cp4]]) (val := c_raddleref01_Twin_val r32) (B' := fun _ => []) (D' := c_raddleref01_Twin_D r32) [] [eBox b14 24 [iv p0.W, iv p0.H, .slice ad3 p0.Bits.length cp4], eBox b15 24 [iv p1.W, iv p1.H, .slice ad7 p1.Bits.length cp8], eBox b16 24 [iv p2.W, iv p2.H, .slice ad11 p2.Bits.length cp12]] [fRep r_api_Grid (.agg #[iv p0.W, iv p0.H, .slice ad3 p0.Bits.length cp4]) p0] [0, 1, 2] [0] S (wN rfl) rfl callee12 rfl (by decide) rfl rfl (fun E1 w1 S1 => c_raddleref01_Twin E1 w1 p0 (.agg #[iv p0.W, iv p0.H, .slice ad3 p0.Bits.length cp4]) r32 hx33 S1) rfl (lb rfl) fun u56 a w S => ?_
    obtain ⟨u57, rfl, hu58⟩ := S.mem.know (i := 0) (e := fRep r_api_Grid (u56) r32) rfl
    have S := S.learn (fRep (rL rB) u57 r32.Bits) hu58
    obtain ⟨ad59, cp60, _, rfl, _⟩ := hu58
    refine leafL ⟨rfl, _, _, .inl ⟨29, (.agg #[iv r32.W, iv r32.H, .slice ad59 r32.Bits.length cp60]), [], rfl, S, hz_of rfl, ?_⟩⟩
    refine node_by (A := anc_raddlelaw13_BlockFills_0) (nf := [1, 3, 5, 6, 7, 8, 9, 10, 11]) (Y := [1]) 12 (by kernel_rfl) (by kernel_rfl) (by kernel_rfl) (by kernel_rfl) (by kernel_rfl) [1, 0, 2, 4] (by kernel_rfl) (by decide) (by decide) (aD 0 11 1 (by decide) (aY 1 10 (by decide) (aF 2 9 (by decide) ?_ (aN 3 8 (by decide) ?_ (aF 4 7 (by decide) ?_ (aB 5 6 3 (by decide) (aN 6 5 (by decide) ?_ (aN 7 4 (by decide) ?_ (aN 8 3 (by decide) ?_ (aB 9 2 3 (by decide) (aB 10 1 3 (by decide) (aB 11 0 3 (by decide) (trivial))))))))))))) [] (fun q hq => by cases hq) (fun hY => absurd (hY 3 (by decide)) (by decide))
    · refine fI 30 (.agg #[iv p1.W, iv p1.H, .slice ad7 p1.Bits.length cp8]) [(4, .pointer (some ⟨b15, 0, none⟩))] 2 [none] rfl rfl rfl rfl rfl rfl fun G a w S => ?_
      refine sLoadN (p := b15) (off := 0) (T := 24) (vs := [iv p1.W, iv p1.H, .slice ad7 p1.Bits.length cp8]) 1 [iv p1.W, iv p1.H, .slice ad7 p1.Bits.length cp8] S (wN rfl) rfl rfl rfl rfl rfl rfl rfl (lb rfl) fun a S => ?_
      exact leafL ⟨rfl, S⟩
    · refine ⟨_, [(30, .agg #[iv p1.W, iv p1.H, .slice ad7 p1.Bits.length cp8])], rfl, (srcs_of [some 2] rfl rfl rfl), fun G a w S => ?_⟩
      have S := S.learn (fRep r_api_Grid (.agg #[iv p1.W, iv p1.H, .slice ad7 p1.Bits.length cp8]) p1) ⟨_, rfl, S.mem.know (i := 4) (e := fRep (rL rB) (.slice ad7 p1.Bits.length cp8) p1.Bits) rfl⟩
      refine sCall (X := Value) (f := 12) (vs := [.agg #[iv p1.W, iv p1.H, .slice ad7 p1.Bits.length cp8]]) (val := c_raddleref01_Twin_val r39) (B' := fun _ => []) (D' := c_raddleref01_Twin_D r39) [] [eBox b14 24 [iv p0.W, iv p0.H, .slice ad3 p0.Bits.length cp4], eBox b15 24 [iv p1.W, iv p1.H, .slice ad7 p1.Bits.length cp8], eBox b16 24 [iv p2.W, iv p2.H, .slice ad11 p2.Bits.length cp12]] [fRep r_api_Grid (.agg #[iv p1.W, iv p1.H, .slice ad7 p1.Bits.length cp8]) p1] [0, 1, 2] [0] S (wN rfl) rfl callee12 rfl (by decide) rfl rfl (fun E1 w1 S1 => c_raddleref01_Twin E1 w1 p1 (.agg #[iv p1.W, iv p1.H, .slice ad7 p1.Bits.length cp8]) r39 hx40 S1) rfl (lb rfl) fun u61 a w S => ?_
      obtain ⟨u62, rfl, hu63⟩ := S.mem.know (i := 0) (e := fRep r_api_Grid (u61) r39) rfl
      have S := S.learn (fRep (rL rB) u62 r39.Bits) hu63
      obtain ⟨ad64, cp65, _, rfl, _⟩ := hu63
      refine leafL ⟨rfl, _, _, .inl ⟨31, (.agg #[iv r39.W, iv r39.H, .slice ad64 r39.Bits.length cp65]), [], rfl, S, hz_of rfl, ?_⟩⟩
      refine node_by (A := anc_raddlelaw13_BlockFills_0) (nf := [1, 3, 5, 6, 7, 8, 9, 10, 11]) (Y := [3, 1]) 12 (by kernel_rfl) (by kernel_rfl) (by kernel_rfl) (by kernel_rfl) (by kernel_rfl) [3, 1, 0, 2, 4] (by kernel_rfl) (by decide) (by decide) (aD 0 11 3 (by decide) (aY 1 10 (by decide) (aD 2 9 3 (by decide) (aY 3 8 (by decide) (aF 4 7 (by decide) ?_ (aN 5 6 (by decide) ?_ (aN 6 5 (by decide) ?_ (aN 7 4 (by decide) ?_ (aN 8 3 (by decide) ?_ (aB 9 2 5 (by decide) (aB 10 1 5 (by decide) (aB 11 0 5 (by decide) (trivial))))))))))))) [] (fun q hq => by cases hq) (fun hY => absurd (hY 5 (by decide)) (by decide))
      · refine fI 32 (.agg #[iv p2.W, iv p2.H, .slice ad11 p2.Bits.length cp12]) [(5, .pointer (some ⟨b16, 0, none⟩))] 4 [none] rfl rfl rfl rfl rfl rfl fun G a w S => ?_
        refine sLoadN (p := b16) (off := 0) (T := 24) (vs := [iv p2.W, iv p2.H, .slice ad11 p2.Bits.length cp12]) 2 [iv p2.W, iv p2.H, .slice ad11 p2.Bits.length cp12] S (wN rfl) rfl rfl rfl rfl rfl rfl rfl (lb rfl) fun a S => ?_
        exact leafL ⟨rfl, S⟩
      · refine ⟨_, [(32, .agg #[iv p2.W, iv p2.H, .slice ad11 p2.Bits.length cp12])], rfl, (srcs_of [some 4] rfl rfl rfl), fun G a w S => ?_⟩
        have S := S.learn (fRep r_api_Grid (.agg #[iv p2.W, iv p2.H, .slice ad11 p2.Bits.length cp12]) p2) ⟨_, rfl, S.mem.know (i := 8) (e := fRep (rL rB) (.slice ad11 p2.Bits.length cp12) p2.Bits) rfl⟩
        refine sCall (X := Value) (f := 12) (vs := [.agg #[iv p2.W, iv p2.H, .slice ad11 p2.Bits.length cp12]]) (val := c_raddleref01_Twin_val r46) (B' := fun _ => []) (D' := c_raddleref01_Twin_D r46) [] [eBox b14 24 [iv p0.W, iv p0.H, .slice ad3 p0.Bits.length cp4], eBox b15 24 [iv p1.W, iv p1.H, .slice ad7 p1.Bits.length cp8], eBox b16 24 [iv p2.W, iv p2.H, .slice ad11 p2.Bits.length cp12]] [fRep r_api_Grid (.agg #[iv p2.W, iv p2.H, .slice ad11 p2.Bits.length cp12]) p2] [0, 1, 2] [0] S (wN rfl) rfl callee12 rfl (by decide) rfl rfl (fun E1 w1 S1 => c_raddleref01_Twin E1 w1 p2 (.agg #[iv p2.W, iv p2.H, .slice ad11 p2.Bits.length cp12]) r46 hx47 S1) rfl (lb rfl) fun u66 a w S => ?_
        obtain ⟨u67, rfl, hu68⟩ := S.mem.know (i := 0) (e := fRep r_api_Grid (u66) r46) rfl
        have S := S.learn (fRep (rL rB) u67 r46.Bits) hu68
        obtain ⟨ad69, cp70, _, rfl, _⟩ := hu68
        refine leafL ⟨rfl, _, _, .inl ⟨33, (.agg #[iv r46.W, iv r46.H, .slice ad69 r46.Bits.length cp70]), [], rfl, S, hz_of rfl, ?_⟩⟩
        refine node_by (A := anc_raddlelaw13_BlockFills_0) (nf := [1, 3, 5, 6, 7, 8, 9, 10, 11]) (Y := [5, 3, 1]) 12 (by kernel_rfl) (by kernel_rfl) (by kernel_rfl) (by kernel_rfl) (by kernel_rfl) [5, 3, 1, 0, 2, 4] (by kernel_rfl) (by decide) (by decide) (aD 0 11 5 (by decide) (aY 1 10 (by decide) (aD 2 9 5 (by decide) (aY 3 8 (by decide) (aD 4 7 5 (by decide) (aY 5 6 (by decide) (aN 6 5 (by decide) ?_ (aN 7 4 (by decide) ?_ (aN 8 3 (by decide) ?_ (aB 9 2 6 (by decide) (aB 10 1 6 (by decide) (aB 11 0 6 (by decide) (trivial))))))))))))) [] (fun q hq => by cases hq) (fun hY => absurd (hY 6 (by decide)) (by decide))
        · refine ⟨_, [], rfl, (srcs_of [] rfl rfl rfl), fun G a w S => ?_⟩
          refine sAlloc (.agg #[iv 0, iv 0, .slice none 0 0]) S (wN rfl) rfl rfl [iv 0, iv 0, .slice none 0 0] rfl rfl (lb rfl) fun a b71 w S => ?_
          refine leafL ⟨rfl, _, _, .inl ⟨7, (.pointer (some ⟨b71, 0, none⟩)), [], rfl, S, hz_of rfl, ?_⟩⟩
          exact nd1 b71 ad69 cp70 ad64 cp65 ad59 cp60
        · refine ⟨_, [], rfl, (srcs_of [] rfl rfl rfl), fun G a w S => ?_⟩
          refine sAlloc (.agg #[iv 0, iv 0, .slice none 0 0]) S (wN rfl) rfl rfl [iv 0, iv 0, .slice none 0 0] rfl rfl (lb rfl) fun a b131 w S => ?_
          refine leafL ⟨rfl, _, _, .inl ⟨8, (.pointer (some ⟨b131, 0, none⟩)), [], rfl, S, hz_of rfl, ?_⟩⟩
          exact nd5 b131 ad69 cp70 ad64 cp65 ad59 cp60
        refine ⟨_, [], rfl, (srcs_of [] rfl rfl rfl), fun G a w S => ?_⟩
        refine sAlloc (.agg #[iv 0, iv 0, .slice none 0 0]) S (wN rfl) rfl rfl [iv 0, iv 0, .slice none 0 0] rfl rfl (lb rfl) fun a b135 w S => ?_
        refine leafL ⟨rfl, _, _, .inl ⟨9, (.pointer (some ⟨b135, 0, none⟩)), [], rfl, S, hz_of rfl, ?_⟩⟩
        exact nd7 b135 ad69 cp70 ad64 cp65 ad59 cp60
      · refine ⟨_, [], rfl, (srcs_of [] rfl rfl rfl), fun G a w S => ?_⟩
        refine sAlloc (.agg #[iv 0, iv 0, .slice none 0 0]) S (wN rfl) rfl rfl [iv 0, iv 0, .slice none 0 0] rfl rfl (lb rfl) fun a b138 w S => ?_
        refine leafL ⟨rfl, _, _, .inl ⟨7, (.pointer (some ⟨b138, 0, none⟩)), [], rfl, S, hz_of rfl, ?_⟩⟩
        exact nd8 b138 ad64 cp65 ad59 cp60
      · refine ⟨_, [], rfl, (srcs_of [] rfl rfl rfl), fun G a w S => ?_⟩
        refine sAlloc (.agg #[iv 0, iv 0, .slice none 0 0]) S (wN rfl) rfl rfl [iv 0, iv 0, .slice none 0 0] rfl rfl (lb rfl) fun a b163 w S => ?_
        refine leafL ⟨rfl, _, _, .inl ⟨8, (.pointer (some ⟨b163, 0, none⟩)), [], rfl, S, hz_of rfl, ?_⟩⟩
        exact nd12 b163 ad64 cp65 ad59 cp60
      refine ⟨_, [], rfl, (srcs_of [] rfl rfl rfl), fun G a w S => ?_⟩
      refine sAlloc (.agg #[iv 0, iv 0, .slice none 0 0]) S (wN rfl) rfl rfl [iv 0, iv 0, .slice none 0 0] rfl rfl (lb rfl) fun a b177 w S => ?_
      refine leafL ⟨rfl, _, _, .inl ⟨9, (.pointer (some ⟨b177, 0, none⟩)), [], rfl, S, hz_of rfl, ?_⟩⟩
      exact nd14 b177 ad64 cp65 ad59 cp60
    · refine fI 32 (.agg #[iv p2.W, iv p2.H, .slice ad11 p2.Bits.length cp12]) [(5, .pointer (some ⟨b16, 0, none⟩))] 3 [none] rfl rfl rfl rfl rfl rfl fun G a w S => ?_
      refine sLoadN (p := b16) (off := 0) (T := 24) (vs := [iv p2.W, iv p2.H, .slice ad11 p2.Bits.length cp12]) 2 [iv p2.W, iv p2.H, .slice ad11 p2.Bits.length cp12] S (wN rfl) rfl rfl rfl rfl rfl rfl rfl (lb rfl) fun a S => ?_
      exact leafL ⟨rfl, S⟩
    · refine ⟨_, [], rfl, (srcs_of [] rfl rfl rfl), fun G a w S => ?_⟩
      refine sAlloc (.agg #[iv 0, iv 0, .slice none 0 0]) S (wN rfl) rfl rfl [iv 0, iv 0, .slice none 0 0] rfl rfl (lb rfl) fun a b185 w S => ?_
      refine leafL ⟨rfl, _, _, .inl ⟨7, (.pointer (some ⟨b185, 0, none⟩)), [], rfl, S, hz_of rfl, ?_⟩⟩
      exact nd15 b185 ad59 cp60
    · refine ⟨_, [], rfl, (srcs_of [] rfl rfl rfl), fun G a w S => ?_⟩
      refine sAlloc (.agg #[iv 0, iv 0, .slice none 0 0]) S (wN rfl) rfl rfl [iv 0, iv 0, .slice none 0 0] rfl rfl (lb rfl) fun a b210 w S => ?_
      refine leafL ⟨rfl, _, _, .inl ⟨8, (.pointer (some ⟨b210, 0, none⟩)), [], rfl, S, hz_of rfl, ?_⟩⟩
      exact nd19 b210 ad59 cp60
    refine ⟨_, [], rfl, (srcs_of [] rfl rfl rfl), fun G a w S => ?_⟩
    refine sAlloc (.agg #[iv 0, iv 0, .slice none 0 0]) S (wN rfl) rfl rfl [iv 0, iv 0, .slice none 0 0] rfl rfl (lb rfl) fun a b224 w S => ?_
    refine leafL ⟨rfl, _, _, .inl ⟨9, (.pointer (some ⟨b224, 0, none⟩)), [], rfl, S, hz_of rfl, ?_⟩⟩
    exact nd21 b224 ad59 cp60
  · refine fI 30 (.agg #[iv p1.W, iv p1.H, .slice ad7 p1.Bits.length cp8]) [(4, .pointer (some ⟨b15, 0, none⟩))] 1 [none] rfl rfl rfl rfl rfl rfl fun G a w S => ?_
    refine sLoadN (p := b15) (off := 0) (T := 24) (vs := [iv p1.W, iv p1.H, .slice ad7 p1.Bits.length cp8]) 1 [iv p1.W, iv p1.H, .slice ad7 p1.Bits.length cp8] S (wN rfl) rfl rfl rfl rfl rfl rfl rfl (lb rfl) fun a S => ?_
    exact leafL ⟨rfl, S⟩
  · refine fI 32 (.agg #[iv p2.W, iv p2.H, .slice ad11 p2.Bits.length cp12]) [(5, .pointer (some ⟨b16, 0, none⟩))] 2 [none] rfl rfl rfl rfl rfl rfl fun G a w S => ?_
    refine sLoadN (p := b16) (off := 0) (T := 24) (vs := [iv p2.W, iv p2.H, .slice ad11 p2.Bits.length cp12]) 2 [iv p2.W, iv p2.H, .slice ad11 p2.Bits.length cp12] S (wN rfl) rfl rfl rfl rfl rfl rfl rfl (lb rfl) fun a S => ?_
    exact leafL ⟨rfl, S⟩
  · refine ⟨_, [], rfl, (srcs_of [] rfl rfl rfl), fun G a w S => ?_⟩
    refine sAlloc (.agg #[iv 0, iv 0, .slice none 0 0]) S (wN rfl) rfl rfl [iv 0, iv 0, .slice none 0 0] rfl rfl (lb rfl) fun a b232 w S => ?_
    refine leafL ⟨rfl, _, _, .inl ⟨7, (.pointer (some ⟨b232, 0, none⟩)), [], rfl, S, hz_of rfl, ?_⟩⟩
    refine node_by (A := anc_raddlelaw13_BlockFills_0) (nf := [1, 3, 5, 6, 7, 8, 9, 10, 11]) (Y := [6]) 12 (by kernel_rfl) (by kernel_rfl) (by kernel_rfl) (by kernel_rfl) (by kernel_rfl) [6, 0, 2, 4] (by kernel_rfl) (by decide) (by decide) (aF 0 11 (by decide) ?_ (aN 1 10 (by decide) ?_ (aF 2 9 (by decide) ?_ (aB 3 8 1 (by decide) (aF 4 7 (by decide) ?_ (aB 5 6 1 (by decide) (aY 6 5 (by decide) (aN 7 4 (by decide) ?_ (aN 8 3 (by decide) ?_ (aB 9 2 1 (by decide) (aB 10 1 1 (by decide) (aB 11 0 1 (by decide) (trivial))))))))))))) [] (fun q hq => by cases hq) (fun hY => absurd (hY 1 (by decide)) (by decide))
    · refine fI 28 (.agg #[iv p0.W, iv p0.H, .slice ad3 p0.Bits.length cp4]) [(3, .pointer (some ⟨b14, 0, none⟩))] 1 [none] rfl rfl rfl rfl rfl rfl fun G a w S => ?_
      refine sLoadN (p := b14) (off := 0) (T := 24) (vs := [iv p0.W, iv p0.H, .slice ad3 p0.Bits.length cp4]) 1 [iv p0.W, iv p0.H, .slice ad3 p0.Bits.length cp4] S (wN rfl) rfl rfl rfl rfl rfl rfl rfl (lb rfl) fun a S => ?_
      exact leafL ⟨rfl, S⟩
    · refine ⟨_, [(28, .agg #[iv p0.W, iv p0.H, .slice ad3 p0.Bits.length cp4])], rfl, (srcs_of [some 1] rfl rfl rfl), fun G a w S => ?_⟩
      have S := S.learn (fRep r_api_Grid (.agg #[iv p0.W, iv p0.H, .slice ad3 p0.Bits.length cp4]) p0) ⟨_, rfl, S.mem.know (i := 0) (e := fRep (rL rB) (.slice ad3 p0.Bits.length cp4) p0.Bits) rfl⟩
      refine sCall (X := Value) (f := 12) (vs := [.agg #[iv p0.W, iv p0.H, .slice ad3 p0.Bits.length cp4]]) (val := c_raddleref01_Twin_val r32) (B' := fun _ => []) (D' := c_raddleref01_Twin_D r32) [] [eBox b232 24 [iv 0, iv 0, .slice none 0 0], eBox b14 24 [iv p0.W, iv p0.H, .slice ad3 p0.Bits.length cp4], eBox b15 24 [iv p1.W, iv p1.H, .slice ad7 p1.Bits.length cp8], eBox b16 24 [iv p2.W, iv p2.H, .slice ad11 p2.Bits.length cp12]] [fRep r_api_Grid (.agg #[iv p0.W, iv p0.H, .slice ad3 p0.Bits.length cp4]) p0] [0, 1, 2, 3] [0] S (wN rfl) rfl callee12 rfl (by decide) rfl rfl (fun E1 w1 S1 => c_raddleref01_Twin E1 w1 p0 (.agg #[iv p0.W, iv p0.H, .slice ad3 p0.Bits.length cp4]) r32 hx33 S1) rfl (lb rfl) fun u233 a w S => ?_
      obtain ⟨u234, rfl, hu235⟩ := S.mem.know (i := 0) (e := fRep r_api_Grid (u233) r32) rfl
      have S := S.learn (fRep (rL rB) u234 r32.Bits) hu235
      obtain ⟨ad236, cp237, _, rfl, _⟩ := hu235
      refine leafL ⟨rfl, _, _, .inl ⟨29, (.agg #[iv r32.W, iv r32.H, .slice ad236 r32.Bits.length cp237]), [], rfl, S, hz_of rfl, ?_⟩⟩
      exact nodePerm (nd15 b232 ad236 cp237) [1, 0, 2, 3, 4] [0, 1, 2, 3] [0, 1, 2, 3, 4, 5] (by decide) (by decide) rfl rfl rfl
    · refine fI 30 (.agg #[iv p1.W, iv p1.H, .slice ad7 p1.Bits.length cp8]) [(4, .pointer (some ⟨b15, 0, none⟩))] 2 [none] rfl rfl rfl rfl rfl rfl fun G a w S => ?_
      refine sLoadN (p := b15) (off := 0) (T := 24) (vs := [iv p1.W, iv p1.H, .slice ad7 p1.Bits.length cp8]) 2 [iv p1.W, iv p1.H, .slice ad7 p1.Bits.length cp8] S (wN rfl) rfl rfl rfl rfl rfl rfl rfl (lb rfl) fun a S => ?_
      exact leafL ⟨rfl, S⟩
    · refine fI 32 (.agg #[iv p2.W, iv p2.H, .slice ad11 p2.Bits.length cp12]) [(5, .pointer (some ⟨b16, 0, none⟩))] 3 [none] rfl rfl rfl rfl rfl rfl fun G a w S => ?_
      refine sLoadN (p := b16) (off := 0) (T := 24) (vs := [iv p2.W, iv p2.H, .slice ad11 p2.Bits.length cp12]) 3 [iv p2.W, iv p2.H, .slice ad11 p2.Bits.length cp12] S (wN rfl) rfl rfl rfl rfl rfl rfl rfl (lb rfl) fun a S => ?_
      exact leafL ⟨rfl, S⟩
    · refine ⟨_, [], rfl, (srcs_of [] rfl rfl rfl), fun G a w S => ?_⟩
      refine sAlloc (.agg #[iv 0, iv 0, .slice none 0 0]) S (wN rfl) rfl rfl [iv 0, iv 0, .slice none 0 0] rfl rfl (lb rfl) fun a b238 w S => ?_
      refine leafL ⟨rfl, _, _, .inl ⟨8, (.pointer (some ⟨b238, 0, none⟩)), [], rfl, S, hz_of rfl, ?_⟩⟩
      exact nd22 b238 b232
    refine ⟨_, [], rfl, (srcs_of [] rfl rfl rfl), fun G a w S => ?_⟩
    refine sAlloc (.agg #[iv 0, iv 0, .slice none 0 0]) S (wN rfl) rfl rfl [iv 0, iv 0, .slice none 0 0] rfl rfl (lb rfl) fun a b250 w S => ?_
    refine leafL ⟨rfl, _, _, .inl ⟨9, (.pointer (some ⟨b250, 0, none⟩)), [], rfl, S, hz_of rfl, ?_⟩⟩
    exact nd24 b250 b232
  · refine ⟨_, [], rfl, (srcs_of [] rfl rfl rfl), fun G a w S => ?_⟩
    refine sAlloc (.agg #[iv 0, iv 0, .slice none 0 0]) S (wN rfl) rfl rfl [iv 0, iv 0, .slice none 0 0] rfl rfl (lb rfl) fun a b257 w S => ?_
    refine leafL ⟨rfl, _, _, .inl ⟨8, (.pointer (some ⟨b257, 0, none⟩)), [], rfl, S, hz_of rfl, ?_⟩⟩
    refine node_by (A := anc_raddlelaw13_BlockFills_0) (nf := [1, 3, 5, 6, 7, 8, 9, 10, 11]) (Y := [7]) 12 (by kernel_rfl) (by kernel_rfl) (by kernel_rfl) (by kernel_rfl) (by kernel_rfl) [7, 0, 2, 4] (by kernel_rfl) (by decide) (by decide) (aF 0 11 (by decide) ?_ (aN 1 10 (by decide) ?_ (aF 2 9 (by decide) ?_ (aB 3 8 1 (by decide) (aF 4 7 (by decide) ?_ (aB 5 6 1 (by decide) (aN 6 5 (by decide) ?_ (aY 7 4 (by decide) (aN 8 3 (by decide) ?_ (aB 9 2 1 (by decide) (aB 10 1 1 (by decide) (aB 11 0 1 (by decide) (trivial))))))))))))) [] (fun q hq => by cases hq) (fun hY => absurd (hY 1 (by decide)) (by decide))
    · refine fI 28 (.agg #[iv p0.W, iv p0.H, .slice ad3 p0.Bits.length cp4]) [(3, .pointer (some ⟨b14, 0, none⟩))] 1 [none] rfl rfl rfl rfl rfl rfl fun G a w S => ?_
      refine sLoadN (p := b14) (off := 0) (T := 24) (vs := [iv p0.W, iv p0.H, .slice ad3 p0.Bits.length cp4]) 1 [iv p0.W, iv p0.H, .slice ad3 p0.Bits.length cp4] S (wN rfl) rfl rfl rfl rfl rfl rfl rfl (lb rfl) fun a S => ?_
      exact leafL ⟨rfl, S⟩
    · refine ⟨_, [(28, .agg #[iv p0.W, iv p0.H, .slice ad3 p0.Bits.length cp4])], rfl, (srcs_of [some 1] rfl rfl rfl), fun G a w S => ?_⟩
      have S := S.learn (fRep r_api_Grid (.agg #[iv p0.W, iv p0.H, .slice ad3 p0.Bits.length cp4]) p0) ⟨_, rfl, S.mem.know (i := 0) (e := fRep (rL rB) (.slice ad3 p0.Bits.length cp4) p0.Bits) rfl⟩
      refine sCall (X := Value) (f := 12) (vs := [.agg #[iv p0.W, iv p0.H, .slice ad3 p0.Bits.length cp4]]) (val := c_raddleref01_Twin_val r32) (B' := fun _ => []) (D' := c_raddleref01_Twin_D r32) [] [eBox b257 24 [iv 0, iv 0, .slice none 0 0], eBox b14 24 [iv p0.W, iv p0.H, .slice ad3 p0.Bits.length cp4], eBox b15 24 [iv p1.W, iv p1.H, .slice ad7 p1.Bits.length cp8], eBox b16 24 [iv p2.W, iv p2.H, .slice ad11 p2.Bits.length cp12]] [fRep r_api_Grid (.agg #[iv p0.W, iv p0.H, .slice ad3 p0.Bits.length cp4]) p0] [0, 1, 2, 3] [0] S (wN rfl) rfl callee12 rfl (by decide) rfl rfl (fun E1 w1 S1 => c_raddleref01_Twin E1 w1 p0 (.agg #[iv p0.W, iv p0.H, .slice ad3 p0.Bits.length cp4]) r32 hx33 S1) rfl (lb rfl) fun u258 a w S => ?_
      obtain ⟨u259, rfl, hu260⟩ := S.mem.know (i := 0) (e := fRep r_api_Grid (u258) r32) rfl
      have S := S.learn (fRep (rL rB) u259 r32.Bits) hu260
      obtain ⟨ad261, cp262, _, rfl, _⟩ := hu260
      refine leafL ⟨rfl, _, _, .inl ⟨29, (.agg #[iv r32.W, iv r32.H, .slice ad261 r32.Bits.length cp262]), [], rfl, S, hz_of rfl, ?_⟩⟩
      exact nodePerm (nd19 b257 ad261 cp262) [1, 0, 2, 3, 4] [0, 1, 2, 3] [0, 1, 2, 3, 4, 5] (by decide) (by decide) rfl rfl rfl
    · refine fI 30 (.agg #[iv p1.W, iv p1.H, .slice ad7 p1.Bits.length cp8]) [(4, .pointer (some ⟨b15, 0, none⟩))] 2 [none] rfl rfl rfl rfl rfl rfl fun G a w S => ?_
      refine sLoadN (p := b15) (off := 0) (T := 24) (vs := [iv p1.W, iv p1.H, .slice ad7 p1.Bits.length cp8]) 2 [iv p1.W, iv p1.H, .slice ad7 p1.Bits.length cp8] S (wN rfl) rfl rfl rfl rfl rfl rfl rfl (lb rfl) fun a S => ?_
      exact leafL ⟨rfl, S⟩
    · refine fI 32 (.agg #[iv p2.W, iv p2.H, .slice ad11 p2.Bits.length cp12]) [(5, .pointer (some ⟨b16, 0, none⟩))] 3 [none] rfl rfl rfl rfl rfl rfl fun G a w S => ?_
      refine sLoadN (p := b16) (off := 0) (T := 24) (vs := [iv p2.W, iv p2.H, .slice ad11 p2.Bits.length cp12]) 3 [iv p2.W, iv p2.H, .slice ad11 p2.Bits.length cp12] S (wN rfl) rfl rfl rfl rfl rfl rfl rfl (lb rfl) fun a S => ?_
      exact leafL ⟨rfl, S⟩
    · refine ⟨_, [], rfl, (srcs_of [] rfl rfl rfl), fun G a w S => ?_⟩
      refine sAlloc (.agg #[iv 0, iv 0, .slice none 0 0]) S (wN rfl) rfl rfl [iv 0, iv 0, .slice none 0 0] rfl rfl (lb rfl) fun a b263 w S => ?_
      refine leafL ⟨rfl, _, _, .inl ⟨7, (.pointer (some ⟨b263, 0, none⟩)), [], rfl, S, hz_of rfl, ?_⟩⟩
      exact nodePerm (nd22 b257 b263) [1, 0, 2, 3, 4] [1, 0, 2, 3, 4] [0, 1, 2] (by decide) (by decide) rfl rfl rfl
    refine ⟨_, [], rfl, (srcs_of [] rfl rfl rfl), fun G a w S => ?_⟩
    refine sAlloc (.agg #[iv 0, iv 0, .slice none 0 0]) S (wN rfl) rfl rfl [iv 0, iv 0, .slice none 0 0] rfl rfl (lb rfl) fun a b264 w S => ?_
    refine leafL ⟨rfl, _, _, .inl ⟨9, (.pointer (some ⟨b264, 0, none⟩)), [], rfl, S, hz_of rfl, ?_⟩⟩
    exact nd25 b264 b257
  refine ⟨_, [], rfl, (srcs_of [] rfl rfl rfl), fun G a w S => ?_⟩
  refine sAlloc (.agg #[iv 0, iv 0, .slice none 0 0]) S (wN rfl) rfl rfl [iv 0, iv 0, .slice none 0 0] rfl rfl (lb rfl) fun a b271 w S => ?_
  refine leafL ⟨rfl, _, _, .inl ⟨9, (.pointer (some ⟨b271, 0, none⟩)), [], rfl, S, hz_of rfl, ?_⟩⟩
  refine node_by (A := anc_raddlelaw13_BlockFills_0) (nf := [1, 3, 5, 6, 7, 8, 9, 10, 11]) (Y := [8]) 12 (by kernel_rfl) (by kernel_rfl) (by kernel_rfl) (by kernel_rfl) (by kernel_rfl) [8, 0, 2, 4] (by kernel_rfl) (by decide) (by decide) (aF 0 11 (by decide) ?_ (aN 1 10 (by decide) ?_ (aF 2 9 (by decide) ?_ (aB 3 8 1 (by decide) (aF 4 7 (by decide) ?_ (aB 5 6 1 (by decide) (aN 6 5 (by decide) ?_ (aN 7 4 (by decide) ?_ (aY 8 3 (by decide) (aB 9 2 1 (by decide) (aB 10 1 1 (by decide) (aB 11 0 1 (by decide) (trivial))))))))))))) [] (fun q hq => by cases hq) (fun hY => absurd (hY 1 (by decide)) (by decide))
  · refine fI 28 (.agg #[iv p0.W, iv p0.H, .slice ad3 p0.Bits.length cp4]) [(3, .pointer (some ⟨b14, 0, none⟩))] 1 [none] rfl rfl rfl rfl rfl rfl fun G a w S => ?_
    refine sLoadN (p := b14) (off := 0) (T := 24) (vs := [iv p0.W, iv p0.H, .slice ad3 p0.Bits.length cp4]) 1 [iv p0.W, iv p0.H, .slice ad3 p0.Bits.length cp4] S (wN rfl) rfl rfl rfl rfl rfl rfl rfl (lb rfl) fun a S => ?_
    exact leafL ⟨rfl, S⟩
  · refine ⟨_, [(28, .agg #[iv p0.W, iv p0.H, .slice ad3 p0.Bits.length cp4])], rfl, (srcs_of [some 1] rfl rfl rfl), fun G a w S => ?_⟩
    have S := S.learn (fRep r_api_Grid (.agg #[iv p0.W, iv p0.H, .slice ad3 p0.Bits.length cp4]) p0) ⟨_, rfl, S.mem.know (i := 0) (e := fRep (rL rB) (.slice ad3 p0.Bits.length cp4) p0.Bits) rfl⟩
    refine sCall (X := Value) (f := 12) (vs := [.agg #[iv p0.W, iv p0.H, .slice ad3 p0.Bits.length cp4]]) (val := c_raddleref01_Twin_val r32) (B' := fun _ => []) (D' := c_raddleref01_Twin_D r32) [] [eBox b271 24 [iv 0, iv 0, .slice none 0 0], eBox b14 24 [iv p0.W, iv p0.H, .slice ad3 p0.Bits.length cp4], eBox b15 24 [iv p1.W, iv p1.H, .slice ad7 p1.Bits.length cp8], eBox b16 24 [iv p2.W, iv p2.H, .slice ad11 p2.Bits.length cp12]] [fRep r_api_Grid (.agg #[iv p0.W, iv p0.H, .slice ad3 p0.Bits.length cp4]) p0] [0, 1, 2, 3] [0] S (wN rfl) rfl callee12 rfl (by decide) rfl rfl (fun E1 w1 S1 => c_raddleref01_Twin E1 w1 p0 (.agg #[iv p0.W, iv p0.H, .slice ad3 p0.Bits.length cp4]) r32 hx33 S1) rfl (lb rfl) fun u272 a w S => ?_
    obtain ⟨u273, rfl, hu274⟩ := S.mem.know (i := 0) (e := fRep r_api_Grid (u272) r32) rfl
    have S := S.learn (fRep (rL rB) u273 r32.Bits) hu274
    obtain ⟨ad275, cp276, _, rfl, _⟩ := hu274
    refine leafL ⟨rfl, _, _, .inl ⟨29, (.agg #[iv r32.W, iv r32.H, .slice ad275 r32.Bits.length cp276]), [], rfl, S, hz_of rfl, ?_⟩⟩
    exact nodePerm (nd21 b271 ad275 cp276) [1, 0, 2, 3, 4] [0, 1, 2, 3] [0, 1, 2, 3, 4, 5] (by decide) (by decide) rfl rfl rfl
  · refine fI 30 (.agg #[iv p1.W, iv p1.H, .slice ad7 p1.Bits.length cp8]) [(4, .pointer (some ⟨b15, 0, none⟩))] 2 [none] rfl rfl rfl rfl rfl rfl fun G a w S => ?_
    refine sLoadN (p := b15) (off := 0) (T := 24) (vs := [iv p1.W, iv p1.H, .slice ad7 p1.Bits.length cp8]) 2 [iv p1.W, iv p1.H, .slice ad7 p1.Bits.length cp8] S (wN rfl) rfl rfl rfl rfl rfl rfl rfl (lb rfl) fun a S => ?_
    exact leafL ⟨rfl, S⟩
  · refine fI 32 (.agg #[iv p2.W, iv p2.H, .slice ad11 p2.Bits.length cp12]) [(5, .pointer (some ⟨b16, 0, none⟩))] 3 [none] rfl rfl rfl rfl rfl rfl fun G a w S => ?_
    refine sLoadN (p := b16) (off := 0) (T := 24) (vs := [iv p2.W, iv p2.H, .slice ad11 p2.Bits.length cp12]) 3 [iv p2.W, iv p2.H, .slice ad11 p2.Bits.length cp12] S (wN rfl) rfl rfl rfl rfl rfl rfl rfl (lb rfl) fun a S => ?_
    exact leafL ⟨rfl, S⟩
  · refine ⟨_, [], rfl, (srcs_of [] rfl rfl rfl), fun G a w S => ?_⟩
    refine sAlloc (.agg #[iv 0, iv 0, .slice none 0 0]) S (wN rfl) rfl rfl [iv 0, iv 0, .slice none 0 0] rfl rfl (lb rfl) fun a b277 w S => ?_
    refine leafL ⟨rfl, _, _, .inl ⟨7, (.pointer (some ⟨b277, 0, none⟩)), [], rfl, S, hz_of rfl, ?_⟩⟩
    exact nodePerm (nd24 b271 b277) [1, 0, 2, 3, 4] [1, 0, 2, 3, 4] [0, 1, 2] (by decide) (by decide) rfl rfl rfl
  refine ⟨_, [], rfl, (srcs_of [] rfl rfl rfl), fun G a w S => ?_⟩
  refine sAlloc (.agg #[iv 0, iv 0, .slice none 0 0]) S (wN rfl) rfl rfl [iv 0, iv 0, .slice none 0 0] rfl rfl (lb rfl) fun a b278 w S => ?_
  refine leafL ⟨rfl, _, _, .inl ⟨8, (.pointer (some ⟨b278, 0, none⟩)), [], rfl, S, hz_of rfl, ?_⟩⟩
  exact nodePerm (nd25 b271 b278) [1, 0, 2, 3, 4] [1, 0, 2, 3, 4] [0, 1, 2] (by decide) (by decide) rfl rfl rfl

end Go.Proofs.Ythfifeabomdlpaa
namespace Go.Proofs.Ythfifeabomdlpaa
open Go.RowKit
set_option linter.unusedVariables false

instance decGrid : DecidableEq api_Grid := fun a b => decidable_of_iff (a.W = b.W ∧ a.H = b.H ∧ a.Bits = b.Bits) (by cases a; cases b; simp)
structure Gr (g : api_Grid) (w h : Nat) : Prop where
  hw : g.W = (w : Int)
  hh : g.H = (h : Int)
  w0 : 1 ≤ w
  w1 : w ≤ 64
  h0 : 1 ≤ h
  h1 : h ≤ 64
  len : g.Bits.length = w * h
def cell (g : api_Grid) (w x y : Nat) : Bool := g.Bits.getD (y * w + x) false
theorem Gr.at {g : api_Grid} {w h : Nat} (G : Gr g w h) {x y : Nat} (hx : x < w) (hy : y < h) : idxO g.Bits (w64 ((w64 ((y : Int) * g.W)) + (x : Int))) = some (cell g w x y) := by
  have h1 : y * w + x < w * h := by
    have := Nat.mul_le_mul_right w (show y + 1 ≤ h by omega)
    rw [Nat.add_mul, Nat.one_mul, Nat.mul_comm h w] at this
    omega
  have h2 : w * h ≤ 64 * 64 := Nat.mul_le_mul G.w1 G.h1
  have e : ((y : Int) * g.W) = ((y * w : Nat) : Int) := by rw [G.hw]; simp
  have hz : w64 ((y * w : Nat) : Int) = ((y * w : Nat) : Int) := w64_of (by omega) (by omega)
  rw [e, hz, w64_of (by omega) (by omega)]
  exact idxO_of (k := y * w + x) (by omega) (by rw [G.len]; exact h1) |>.trans (by unfold cell; simp [G.len, h1])
def gerr (g : api_Grid) : Int := if 64 < g.W ∨ 64 < g.H then 4 else if g.W < 1 ∨ g.H < 1 ∨ ¬ (g.Bits.length : Int) = g.W * g.H then 8 else 0
theorem gprod {g : api_Grid} (h1 : ¬ (64 < g.W ∨ 64 < g.H)) (h2 : ¬ (g.W < 1 ∨ g.H < 1)) : w64 (g.W * g.H) = g.W * g.H := by
  have := mul_bd (u := g.W) (v := g.H) (a := 64) (b := 64) (by omega) (by omega) (by omega) (by omega)
  exact w64_of (by omega) (by omega)
theorem gcheck_eq (g : api_Grid) : F_grid_Check g = some (gerr g) ∧ F_raddleref01_Check g = some (gerr g) := by
  unfold F_grid_Check F_raddleref01_Check gerr
  by_cases c1 : 64 < g.W ∨ 64 < g.H
  · constructor
    · have : (64 : Int) < (if g.W < g.H then g.H else g.W) := by split <;> omega
      simp only [dT this, if_true, c1]
    · by_cases c2 : 64 < g.W
      · simp only [dT c2, if_true, Option.bind_some, c1]
      · simp only [dF c2, dT (show 64 < g.H by omega), Bool.false_eq_true, if_true, if_false, Option.bind_some, c1]
  · have m1 : ¬ (64 : Int) < (if g.W < g.H then g.H else g.W) := by split <;> omega
    by_cases c2 : g.W < 1 ∨ g.H < 1
    · have m2 : (if g.H < g.W then g.H else g.W) < (1 : Int) := by split <;> omega
      have c3 : g.W < 1 ∨ g.H < 1 ∨ ¬ (g.Bits.length : Int) = g.W * g.H := by omega
      simp only [dF m1, dT m2, dF (show ¬ 64 < g.W by omega), dF (show ¬ 64 < g.H by omega), Bool.false_eq_true, if_true, if_false, Option.bind_some, c1, c3, true_and]
      by_cases c4 : g.W < 1
      · simp only [dT c4, if_true, Option.bind_some]
      · simp only [dF c4, dT (show g.H < 1 by omega), Bool.false_eq_true, if_true, if_false, Option.bind_some]
    · have m2 : ¬ (if g.H < g.W then g.H else g.W) < (1 : Int) := by split <;> omega
      have c4 : ¬ g.W < 1 := by omega
      have c5 : ¬ g.H < 1 := by omega
      have hb : (if 64 < g.W ∨ 64 < g.H then (4 : Int) else if g.W < 1 ∨ g.H < 1 ∨ ¬ (g.Bits.length : Int) = g.W * g.H then 8 else 0) = if (g.Bits.length : Int) = g.W * g.H then 0 else 8 := by
        rw [if_neg c1]
        by_cases c6 : (g.Bits.length : Int) = g.W * g.H
        · rw [if_neg (by omega), if_pos c6]
        · rw [if_pos (by omega), if_neg c6]
      rw [hb]
      by_cases c6 : (g.Bits.length : Int) = g.W * g.H
      · rw [if_pos c6]
        simp only [dF m1, dF m2, dF (show ¬ 64 < g.W by omega), dF (show ¬ 64 < g.H by omega), dF c4, dF c5, gprod c1 c2, nF c6, Bool.false_eq_true, if_false, Option.bind_some, and_self]
      · rw [if_neg c6]
        simp only [dF m1, dF m2, dF (show ¬ 64 < g.W by omega), dF (show ¬ 64 < g.H by omega), dF c4, dF c5, gprod c1 c2, nT c6, Bool.false_eq_true, if_true, if_false, Option.bind_some, and_self]
theorem gerr_zero {g : api_Grid} (h : gerr g = 0) : ∃ w h, Gr g w h := by
  unfold gerr at h
  by_cases c1 : 64 < g.W ∨ 64 < g.H
  · rw [if_pos c1] at h; cases h
  rw [if_neg c1] at h
  by_cases c2 : g.W < 1 ∨ g.H < 1 ∨ ¬ (g.Bits.length : Int) = g.W * g.H
  · rw [if_pos c2] at h; cases h
  have c3 : (g.Bits.length : Int) = g.W * g.H := by omega
  refine ⟨g.W.toNat, g.H.toNat, by omega, by omega, by omega, by omega, by omega, by omega, ?_⟩
  have e1 : g.W = (g.W.toNat : Int) := by omega
  have e2 : g.H = (g.H.toNat : Int) := by omega
  rw [e1, e2, ← Int.natCast_mul] at c3
  exact Int.ofNat.inj c3
/-- a grid by its cells -/
def gm (f : Nat → Nat → Bool) (w h : Nat) : api_Grid := api_Grid.mk (w : Int) (h : Int) (gl f w h)
theorem rat_eq {g : api_Grid} {w h : Nat} (G : Gr g w h) {x y : Nat} (hx : x < w) (hy : y < h) : F_raddleref01_At g (x : Int) (y : Int) = some (cell g w x y) := by
  unfold F_raddleref01_At
  rw [G.at hx hy]
  rfl
theorem rset_eq {w h : Nat} (hw : w ≤ 64) (hh : h ≤ 64) {s : List Bool} (hs : s.length = w * h) {x y : Nat} (hx : x < w) (hy : y < h) (H : Int) (b : Bool) : F_raddleref01_Set_s0 (w : Int) H s (x : Int) (y : Int) b = some (s.set (y * w + x) b) := by
  have hp : w * h ≤ 64 * 64 := Nat.mul_le_mul hw hh
  have hl := pl_lt hx hy
  have hy2 : y * w ≤ y * w + x := Nat.le_add_right _ _
  have e1 : w64 ((y : Int) * (w : Int)) = ((y * w : Nat) : Int) := wmul (by omega)
  have e2 : w64 (((y * w : Nat) : Int) + (x : Int)) = ((y * w + x : Nat) : Int) := wadd (by omega)
  unfold F_raddleref01_Set_s0
  rw [e1, e2, idxO_nat (by omega), setO_nat (by omega)]
  simp [keepO]
theorem rzero_eq {w h : Nat} (hw : w ≤ 64) (hh : h ≤ 64) : F_raddleref01_Zero_s0 (w : Int) (h : Int) = some ⟨(w : Int), (h : Int), List.replicate (w * h) false⟩ := by
  have hp : w * h ≤ 64 * 64 := Nat.mul_le_mul hw hh
  unfold F_raddleref01_Zero_s0
  rw [wmul (by omega), makeO_of (k := w * h) rfl (by omega)]
  rfl
theorem rsame_grid (a b : api_Grid) (hl : a.Bits.length ≤ 9223372036854775807) : F_raddleref01_Same a b = some (decide (a = b)) := by
  by_cases h1 : a.W = b.W
  case neg => unfold F_raddleref01_Same; simp only [nT h1, if_true, Option.bind_some]; rw [decide_eq_false]; rintro rfl; exact h1 rfl
  by_cases h2 : a.H = b.H
  case neg => unfold F_raddleref01_Same; simp only [nF h1, nT h2, Bool.false_eq_true, if_false, if_true, Option.bind_some]; rw [decide_eq_false]; rintro rfl; exact h2 rfl
  by_cases h3 : (a.Bits.length : Int) = (b.Bits.length : Int)
  case neg => unfold F_raddleref01_Same; simp only [nF h1, nF h2, nT h3, Bool.false_eq_true, if_false, if_true, Option.bind_some]; rw [decide_eq_false]; rintro rfl; exact h3 rfl
  have hw : whileO (raddleref01_Same_l1 a b) 0 = some (if a.Bits = b.Bits then .inr () else .inl false) := by
    refine loop_eql a.Bits b.Bits (by omega) _ _ (fun k hk => ?_) ?_
    · unfold raddleref01_Same_l1
      simp only [dT (show (k : Int) < (a.Bits.length : Int) by omega), if_true, idxO_nat hk, idxO_nat (xs := b.Bits) (k := k) (by omega), Option.bind_some, w64_succ (show k < 9223372036854775807 by omega)]
      by_cases e : a.Bits[k] = b.Bits[k]'(by omega)
      · rw [if_pos e, e]; simp
      · rw [if_neg e, if_pos (by simpa using e)]
    · unfold raddleref01_Same_l1; simp
  unfold F_raddleref01_Same
  simp only [nF h1, nF h2, nF h3, Bool.false_eq_true, if_false, Option.bind_some, hw]
  by_cases e : a.Bits = b.Bits
  · rw [if_pos e]
    have : a = b := by cases a; cases b; simp_all
    simp [this]
  · rw [if_neg e]
    have : ¬ a = b := fun h => e (by rw [h])
    simp [this]
theorem equal_bool (a b : List Bool) (hl : a.length ≤ 9223372036854775807) : F_slices_Equal___bool_bool_ a b = some (decide (a = b)) := by
  by_cases h3 : (a.length : Int) = (b.length : Int)
  case neg => unfold F_slices_Equal___bool_bool_; simp only [nT h3, if_true]; rw [decide_eq_false]; rintro rfl; exact h3 rfl
  have hw : whileO (slices_Equal___bool_bool__l1 a b) 0 = some (if a = b then .inr () else .inl false) := by
    refine loop_eql a b (by omega) _ _ (fun k hk => ?_) ?_
    · unfold slices_Equal___bool_bool__l1
      simp only [dT (show (k : Int) < (a.length : Int) by omega), if_true, idxO_nat hk, idxO_nat (xs := b) (k := k) (by omega), Option.bind_some, w64_succ (show k < 9223372036854775807 by omega)]
      by_cases e : a[k] = b[k]'(by omega)
      · rw [if_pos e, e]; simp
      · rw [if_neg e, if_pos (by simpa using e)]
    · unfold slices_Equal___bool_bool__l1; simp
  unfold F_slices_Equal___bool_bool_
  simp only [nF h3, Bool.false_eq_true, if_false, Option.bind_some, hw]
  by_cases e : a = b
  · rw [if_pos e]; simp [e]
  · rw [if_neg e]; simp [e]
theorem gsame_eq (a b : api_Grid) (hl : a.Bits.length ≤ 9223372036854775807) : F_grid_Same a b = some (decide (a = b)) := by
  unfold F_grid_Same
  by_cases h1 : a.W = b.W
  case neg => simp only [bF h1, Bool.false_eq_true, if_false, Option.bind_some]; rw [decide_eq_false]; rintro rfl; exact h1 rfl
  by_cases h2 : a.H = b.H
  case neg => simp only [bT h1, bF h2, Bool.false_eq_true, if_false, if_true, Option.bind_some]; rw [decide_eq_false]; rintro rfl; exact h2 rfl
  simp only [bT h1, bT h2, if_true, equal_bool _ _ hl, Option.bind_some]
  congr 1
  by_cases e : a.Bits = b.Bits
  · rw [decide_eq_true e, decide_eq_true]; cases a; cases b; simp_all
  · rw [decide_eq_false e, decide_eq_false]; exact fun h => e (by rw [h])
theorem rtwin_eq (g : api_Grid) (hl : g.Bits.length ≤ 68719476736) : F_raddleref01_Twin g = some g := by
  unfold F_raddleref01_Twin
  rw [appO_of (by simpa using hl)]
  rfl
theorem rgreat_eq (g : api_Grid) : F_raddleref01_Great g = some (decide (4200 < g.Bits.length)) := by
  unfold F_raddleref01_Great
  congr 1
  exact decide_eq_decide.2 (by omega)
theorem rboth_eq (a b : api_Grid) : F_raddleref01_Both a b = some (if gerr a = 0 then gerr b else gerr a) := by
  unfold F_raddleref01_Both
  simp only [(gcheck_eq a).2, (gcheck_eq b).2, Option.bind_some]
  by_cases h : gerr a = 0
  · rw [nF h, if_pos h]; rfl
  · rw [nT h, if_neg h]; rfl
/-- a grid laid cell by cell with Set -/
theorem sets_eq {l1 : Int → Int × List Bool → Option ((Int × List Bool) ⊕ List Bool)} {l2 : Int × List Bool → Option ((Int × List Bool) ⊕ List Bool)} (f : Nat → Nat → Bool) (w h : Nat) (hw : w ≤ 64) (hh : h ≤ 64)
    (h1 : ∀ y x s, y < h → x < w → s.length = w * h → l1 (y : Int) ((x : Int), s) = some (.inl (((x + 1 : Nat) : Int), s.set (y * w + x) (f x y)))) (h1e : ∀ (y : Nat) s, l1 (y : Int) ((w : Int), s) = some (.inr s))
    (h2 : ∀ (y : Nat) s t, y < h → whileO (l1 (y : Int)) (0, s) = some t → l2 ((y : Int), s) = some (.inl (((y + 1 : Nat) : Int), t))) (h2e : ∀ s, l2 ((h : Int), s) = some (.inr s)) :
    whileO l2 (0, List.replicate (w * h) false) = some (gl f w h) := by
  have := loop2 (l1 := fun y => l1 (y : Int)) (l2 := l2) (fun y x => ((x : Int), gst f false w h (y * w + x))) (fun y => ((y : Int), gst f false w h (y * w))) (fun y => gst f false w h (y * w + w)) w h (t := gst f false w h (h * w))
    (fun y x hy hx => by
      rw [h1 y x _ hy hx (gst_len _ _ _ _ _)]
      have := gst_set f false w h (y * w + x)
      rw [pl_mod hx, pl_div hx] at this
      rw [this]; rfl)
    (fun y hy => h1e y _)
    (fun y hy hl => by
      have h3 := h2 y (gst f false w h (y * w)) _ hy hl
      rw [h3, show (y + 1) * w = y * w + w by rw [Nat.add_mul, Nat.one_mul]])
    (h2e _)
  rw [gst_full, Nat.zero_mul, gst_zero] at this
  exact this

end Go.Proofs.Ythfifeabomdlpaa
namespace Go.Proofs.Ythfifeabomdlpaa
open Go.RowKit
set_option linter.unusedVariables false

theorem cpA_getD {α : Type} {xs ys : List α} {l q : Nat} (h : l ≤ q) (hq : q ≤ xs.length) (hy : ys.length ≤ q - l) (t : Nat) (d : α) : (cpA xs l q ys).getD t d = if l ≤ t ∧ t < l + ys.length then ys.getD (t - l) d else xs.getD t d := by
  have hA : ((xs.take q).drop l).length = q - l := by simp; omega
  have e1 : cpO ((xs.take q).drop l) ys = ys ++ ((xs.take q).drop l).drop ys.length := by
    unfold cpO
    rw [hA, List.take_of_length_le hy]
  simp only [List.getD_eq_getElem?_getD]
  congr 1
  unfold cpA
  rw [e1]
  by_cases h1 : t < l
  · rw [List.getElem?_append_left (by simp; omega), List.getElem?_take, if_pos h1, if_neg (by omega)]
  · have hl : (xs.take l).length = l := by simp; omega
    rw [List.getElem?_append_right (by omega), hl]
    by_cases h2 : t < l + ys.length
    · rw [if_pos ⟨by omega, h2⟩, List.append_assoc, List.getElem?_append_left (by omega)]
    · rw [if_neg (by omega), List.append_assoc, List.getElem?_append_right (by omega)]
      by_cases h3 : t < q
      · rw [List.getElem?_append_left (by rw [List.length_drop, hA]; omega), List.getElem?_drop, List.getElem?_drop, List.getElem?_take, if_pos (by omega), show l + (ys.length + (t - l - ys.length)) = t by omega]
      · rw [List.getElem?_append_right (by rw [List.length_drop, hA]; omega), List.length_drop, hA, List.getElem?_drop, show q + (t - l - ys.length - (q - l - ys.length)) = t by omega]
/-- a row of cells, as a part of the bits -/
theorem bits_part {g : api_Grid} {w h : Nat} (G : Gr g w h) {x0 n y : Nat} (hx : x0 + n ≤ w) (hy : y < h) : (g.Bits.take (y * w + x0 + n)).drop (y * w + x0) = (List.range n).map fun x => cell g w (x0 + x) y := by
  have h2 : y * w + w ≤ w * h := by
    have := Nat.mul_le_mul_right w (show y + 1 ≤ h by omega)
    rw [Nat.add_mul, Nat.one_mul, Nat.mul_comm h w] at this
    exact this
  have hl := G.len
  apply List.ext_getElem?
  intro t
  by_cases ht : t < n
  · rw [List.getElem?_drop, List.getElem?_take, if_pos (by omega)]
    simp only [List.getElem?_map, List.getElem?_range ht, Option.map_some]
    unfold cell
    rw [List.getElem?_eq_getElem (by omega), List.getD_eq_getElem?_getD, List.getElem?_eq_getElem (by omega)]
    simp only [Option.getD_some, Nat.add_assoc]
  · rw [List.getElem?_eq_none (by simp; omega), List.getElem?_eq_none (by simp; omega)]
theorem alike_eq (a b : api_Grid) : F_block_alike a b = some (decide (a.W = b.W ∧ a.H = b.H)) := by
  unfold F_block_alike
  by_cases h1 : a.W = b.W
  · by_cases h2 : a.H = b.H
    · simp [h1, h2]
    · simp [h1, h2]
  · simp [h1]
/-- the error of the first grid that has one -/
def ckL : List api_Grid → Int
  | [] => 0
  | g :: l => if gerr g = 0 then ckL l else gerr g
theorem checked_eq (l : List api_Grid) (hl : l.length ≤ 9223372036854775806) : F_block_checked l = some (ckL l) := by
  have hw : whileO (block_checked_l1 l) 0 = some ((l.findSome? fun g => if gerr g = 0 then none else some (Sum.inl (β := Unit) (gerr g))).getD (.inr ())) := by
    refine loop_list l (fun g => if gerr g = 0 then none else some (Sum.inl (gerr g))) (.inr ()) (fun k hk => ?_) ?_
    · unfold block_checked_l1
      simp only [dT (show (k : Int) < (l.length : Int) by omega), if_true, idxO_nat hk, Option.bind_some, (gcheck_eq _).1, w64_succ (show k < 9223372036854775807 by omega)]
      by_cases h : gerr l[k] = 0
      · rw [nF h, if_pos h]; rfl
      · rw [nT h, if_neg h]; rfl
    · unfold block_checked_l1
      simp only [dF (show ¬ (l.length : Int) < (l.length : Int) by omega), Bool.false_eq_true, if_false]
  have this : ∀ l : List api_Grid, (l.findSome? fun g => if gerr g = 0 then none else some (Sum.inl (β := Unit) (gerr g))).getD (.inr ()) = if ckL l = 0 then .inr () else .inl (ckL l) := by
    intro l
    induction l with
    | nil => rfl
    | cons g l ih =>
      rw [List.findSome?_cons]
      by_cases h : gerr g = 0
      · rw [if_pos h]; simp only [ckL, if_pos h]; exact ih
      · rw [if_neg h]; simp only [ckL, if_neg h, Option.getD_some]
  unfold F_block_checked
  rw [hw, this l]
  by_cases h : ckL l = 0
  · rw [if_pos h, h]; rfl
  · rw [if_neg h]; rfl
theorem three_eq (a b c : api_Grid) : F_raddleref13_three a b c = some (ckL [a, b, c]) := by
  unfold F_raddleref13_three
  simp only [(gcheck_eq a).2, rboth_eq, Option.bind_some, ckL]
  by_cases h : gerr a = 0
  · rw [nF h, if_pos h]
    simp only [Bool.false_eq_true, if_false]
    congr 1
    by_cases h2 : gerr b = 0
    · rw [if_pos h2, if_pos h2]
      by_cases h3 : gerr c = 0
      · rw [if_pos h3, h3]
      · rw [if_neg h3]
    · rw [if_neg h2, if_neg h2]
  · rw [nT h, if_neg h]; rfl
theorem ckL_three {a b c : api_Grid} (h : ckL [a, b, c] = 0) : gerr a = 0 ∧ gerr b = 0 ∧ gerr c = 0 := by
  simp only [ckL] at h
  by_cases h1 : gerr a = 0
  · rw [if_pos h1] at h
    by_cases h2 : gerr b = 0
    · rw [if_pos h2] at h
      by_cases h3 : gerr c = 0
      · exact ⟨h1, h2, h3⟩
      · rw [if_neg h3] at h; exact absurd h h3
    · rw [if_neg h2] at h; exact absurd h h2
  · rw [if_neg h1] at h; exact absurd h h1
theorem blk_iff {a b k pw : Nat} (ha : a < pw) : (a = k % pw ∧ b = k / pw) ↔ b * pw + a = k := by
  constructor
  · rintro ⟨rfl, rfl⟩; exact pl_of _ _
  · rintro rfl; exact ⟨(pl_mod ha).symm, (pl_div ha).symm⟩
/-- a unit put at a place -/
theorem put_eq {u : api_Grid} {uw uh : Nat} (U : Gr u uw uh) {W H i j : Nat} (hW : W ≤ 64) (hH : H ≤ 64) (hi : i * uw + uw ≤ W) (hj : j * uh + uh ≤ H) {s : List Bool} (hs : s.length = W * H) (Hz : Int) :
    ∃ s', F_block_put_s0 (W : Int) Hz s u (i : Int) (j : Int) = some s' ∧ s'.length = W * H ∧ ∀ x y, x < W → y < H → s'.getD (y * W + x) false = if x / uw = i ∧ y / uh = j then cell u uw (x % uw) (y % uh) else s.getD (y * W + x) false := by
  have u0 := U.w0
  have v0 := U.h0
  have key : ∃ t, whileO (block_put_s0_l1 u (j : Int) (W : Int) (i : Int)) (0, s) = some t ∧ (t.length = W * H ∧ ∀ x y, x < W → y < H → t.getD (y * W + x) false = if x / uw = i ∧ y / uh = j ∧ y % uh < uh then cell u uw (x % uw) (y % uh) else s.getD (y * W + x) false) := by
    refine loop_ts uh (fun k t => t.length = W * H ∧ ∀ x y, x < W → y < H → t.getD (y * W + x) false = if x / uw = i ∧ y / uh = j ∧ y % uh < k then cell u uw (x % uw) (y % uh) else s.getD (y * W + x) false) _ ⟨hs, fun x y _ _ => by rw [if_neg (by omega)]⟩ ?_ ?_
    · rintro k t hk ⟨hl, ht⟩
      have hp : W * H ≤ 64 * 64 := Nat.mul_le_mul hW hH
      have hy : j * uh + k < H := by omega
      have a1 : (j * uh + k) * W + W ≤ W * H := by
        have := Nat.mul_le_mul_right W (show j * uh + k + 1 ≤ H by omega)
        rw [Nat.add_mul (j * uh + k) 1, Nat.one_mul, Nat.mul_comm H W] at this
        exact this
      have a2 : k * uw + uw ≤ uw * uh := by
        have := Nat.mul_le_mul_right uw (show k + 1 ≤ uh by omega)
        rw [Nat.add_mul, Nat.one_mul, Nat.mul_comm uh uw] at this
        exact this
      have a3 : uw * uh ≤ 64 * 64 := Nat.mul_le_mul U.w1 U.h1
      have a4 : (j * uh + k) * W ≤ W * H := by omega
      have a5 : j * uh ≤ H := by omega
      have e1 : w64 ((j : Int) * u.H) = ((j * uh : Nat) : Int) := by rw [U.hh]; exact wmul (by omega)
      have e2 : w64 (((j * uh : Nat) : Int) + (k : Int)) = ((j * uh + k : Nat) : Int) := wadd (by omega)
      have e3 : w64 (((j * uh + k : Nat) : Int) * (W : Int)) = (((j * uh + k) * W : Nat) : Int) := wmul (by omega)
      have e4 : w64 ((i : Int) * u.W) = ((i * uw : Nat) : Int) := by rw [U.hw]; exact wmul (by omega)
      have e5 : w64 ((((j * uh + k) * W : Nat) : Int) + ((i * uw : Nat) : Int)) = (((j * uh + k) * W + i * uw : Nat) : Int) := wadd (by omega)
      have e6 : w64 ((k : Int) * u.W) = ((k * uw : Nat) : Int) := by rw [U.hw]; exact wmul (by omega)
      have e7 : w64 ((k : Int) + 1) = ((k + 1 : Nat) : Int) := w64_succ (by omega)
      have e8 : w64 (((k + 1 : Nat) : Int) * u.W) = ((k * uw + 0 + uw : Nat) : Int) := by rw [U.hw, wmul (by rw [Nat.add_mul]; omega), Nat.add_mul, Nat.one_mul, Nat.add_zero]
      have hb := bits_part U (x0 := 0) (n := uw) (y := k) (by omega) hk
      rw [Nat.add_zero] at hb
      have hsl := sliceO_of (xs := u.Bits) (lo := ((k * uw : Nat) : Int)) (hi := ((k * uw + 0 + uw : Nat) : Int)) rfl rfl (by omega) (by rw [U.len]; omega)
      rw [Nat.add_zero, hb] at hsl
      have hsl2 := sliceO_all (xs := t) (k := (j * uh + k) * W + i * uw) (by omega)
      have hyl : ((List.range uw).map fun x => cell u uw (0 + x) k).length = uw := by simp
      refine .inl ⟨cpA t ((j * uh + k) * W + i * uw) t.length ((List.range uw).map fun x => cell u uw (0 + x) k), ?_, ?_, ?_⟩
      · unfold block_put_s0_l1
        simp only [U.hh, dT (show (k : Int) < (uh : Int) by omega), if_true]
        rw [← U.hh]
        simp only [e1, e2, e3, e4, e5, e6, e7, e8, hsl2, Nat.add_zero, hsl, Option.bind_some, Int.toNat_natCast]
      · rw [cpA_length _ _ (by omega) (Nat.le_refl _)]; exact hl
      · intro x y hx hy2
        rw [cpA_getD (by omega) (Nat.le_refl _) (by rw [hyl]; omega), hyl, ht x y hx hy2]
        by_cases hc : x / uw = i ∧ y / uh = j ∧ y % uh = k
        · obtain ⟨c1, c2, c3⟩ := hc
          have d1 := pl_of x uw
          have d2 := pl_of y uh
          rw [c1] at d1
          rw [c2, c3] at d2
          have d3 := pl_modlt (t := x) u0
          have hy3 : y = j * uh + k := by omega
          subst hy3
          rw [if_pos ⟨by omega, by omega⟩, if_pos ⟨c1, c2, by omega⟩, c3]
          have : (j * uh + k) * W + x - ((j * uh + k) * W + i * uw) = x % uw := by omega
          rw [this]
          simp [List.getD_eq_getElem?_getD, d3]
        · have hn : ¬ ((j * uh + k) * W + i * uw ≤ y * W + x ∧ y * W + x < (j * uh + k) * W + i * uw + uw) := by
            rintro ⟨b1, b2⟩
            have e9 : y * W + x = (j * uh + k) * W + (y * W + x - (j * uh + k) * W) := by omega
            obtain ⟨q1, q2⟩ := pl_inj (w := W) hx (by omega) e9
            subst q2
            have q3 : x = i * uw + (x - i * uw) := by omega
            have q4 : x - i * uw < uw := by omega
            refine hc ⟨?_, ?_, ?_⟩
            · rw [q3, pl_div q4]
            · exact pl_div hk
            · exact pl_mod hk
          rw [if_neg hn]
          by_cases hc2 : x / uw = i ∧ y / uh = j ∧ y % uh < k
          · rw [if_pos hc2, if_pos ⟨hc2.1, hc2.2.1, by omega⟩]
          · rw [if_neg hc2, if_neg (by rintro ⟨c1, c2, c3⟩; exact hc2 ⟨c1, c2, by rcases Nat.lt_or_ge (y % uh) k with h | h; exact h; exact absurd ⟨c1, c2, by omega⟩ hc⟩)]
    · rintro t ht
      refine ⟨t, ?_, ht⟩
      unfold block_put_s0_l1
      simp only [U.hh, dF (show ¬ (uh : Int) < (uh : Int) by omega), Bool.false_eq_true, if_false]
  obtain ⟨t, h1, h2, h3⟩ := key
  refine ⟨t, ?_, h2, fun x y hx hy => ?_⟩
  · unfold F_block_put_s0
    rw [h1]
    simp [keepO, h2, hs]
  · rw [h3 x y hx hy]
    by_cases hc : x / uw = i ∧ y / uh = j
    · rw [if_pos hc, if_pos ⟨hc.1, hc.2, pl_modlt v0⟩]
    · rw [if_neg hc, if_neg (fun h => hc ⟨h.1, h.2.1⟩)]
/-- units put at all places -/
theorem puts_eq {Bd : Int × List Bool → Option ((Int × List Bool) ⊕ List Bool)} {pw ph uw uh : Nat} (p0 : 1 ≤ pw) (u : Nat → api_Grid) (hu : ∀ k, k < pw * ph → Gr (u k) uw uh) (hW : pw * uw ≤ 64) (hH : ph * uh ≤ 64) (hp : pw * ph ≤ 100000) (Hz : Int)
    (hB : ∀ k s, k < pw * ph → Bd ((k : Int), s) = (F_block_put_s0 ((pw * uw : Nat) : Int) Hz s (u k) ((k % pw : Nat) : Int) ((k / pw : Nat) : Int)).bind fun r => some (.inl (w64 ((k : Int) + 1), r))) (hBe : ∀ s, Bd (((pw * ph : Nat) : Int), s) = some (.inr s)) :
    whileO Bd (0, List.replicate (pw * uw * (ph * uh)) false) = some (gl (fun x y => cell (u ((y / uh) * pw + x / uw)) uw (x % uw) (y % uh)) (pw * uw) (ph * uh)) := by
  have key : ∃ t, whileO Bd (0, List.replicate (pw * uw * (ph * uh)) false) = some t ∧ t = gl (fun x y => cell (u ((y / uh) * pw + x / uw)) uw (x % uw) (y % uh)) (pw * uw) (ph * uh) := by
    refine loop_ts (pw * ph) (fun k s => s.length = pw * uw * (ph * uh) ∧ ∀ x y, x < pw * uw → y < ph * uh → s.getD (y * (pw * uw) + x) false = if (y / uh) * pw + x / uw < k then cell (u ((y / uh) * pw + x / uw)) uw (x % uw) (y % uh) else false) _
      ⟨by simp, fun x y hx hy => ?_⟩ ?_ ?_
    · rw [if_neg (Nat.not_lt_zero _)]
      have := pl_lt hx hy
      simp [List.getD_eq_getElem?_getD, this]
    · rintro k s hk ⟨hl, hs⟩
      have U := hu k hk
      have hi : k % pw < pw := pl_modlt (by omega)
      have hj : k / pw < ph := pl_divlt hk
      have b1 : (k % pw) * uw + uw ≤ pw * uw := by have := Nat.mul_le_mul_right uw (show k % pw + 1 ≤ pw by omega); rw [Nat.add_mul, Nat.one_mul] at this; exact this
      have b2 : (k / pw) * uh + uh ≤ ph * uh := by have := Nat.mul_le_mul_right uh (show k / pw + 1 ≤ ph by omega); rw [Nat.add_mul, Nat.one_mul] at this; exact this
      obtain ⟨s', h1, h2, h3⟩ := put_eq U hW hH b1 b2 hl Hz
      refine .inl ⟨s', ?_, h2, fun x y hx hy => ?_⟩
      · rw [hB k s hk, h1, Option.bind_some, w64_succ (by omega)]
      · rw [h3 x y hx hy, hs x y hx hy]
        have hx2 : x / uw < pw := pl_divlt (by rw [Nat.mul_comm]; exact hx)
        have hb := blk_iff (a := x / uw) (b := y / uh) (k := k) hx2
        by_cases hc : x / uw = k % pw ∧ y / uh = k / pw
        · rw [if_pos hc, if_pos (by rw [hb.1 hc]; omega), hb.1 hc]
        · rw [if_neg hc]
          have hne : (y / uh) * pw + x / uw ≠ k := fun h => hc (hb.2 h)
          by_cases h4 : (y / uh) * pw + x / uw < k
          · rw [if_pos h4, if_pos (by omega)]
          · rw [if_neg h4, if_neg (by omega)]
    · rintro s ⟨hl, hs⟩
      refine ⟨s, hBe s, gl_of false hl fun x y hx hy => ?_⟩
      rw [hs x y hx hy, if_pos]
      have u0 : 0 < uh := by rcases Nat.eq_zero_or_pos uh with h0 | h0; rw [h0, Nat.mul_zero] at hy; omega; exact h0
      exact pl_lt (pl_divlt (by rw [Nat.mul_comm]; exact hx)) (pl_divlt (by rw [Nat.mul_comm]; exact hy))
  obtain ⟨t, h1, rfl⟩ := key
  exact h1
/-- a filled profile -/
def fillf (p a b : api_Grid) (pw uw uh : Nat) (x y : Nat) : Bool := if cell p pw (x / uw) (y / uh) = true then cell a uw (x % uw) (y % uh) else cell b uw (x % uw) (y % uh)
def fillS (p a b : api_Grid) : api_Grid × Int :=
  if ckL [p, a, b] = 0 then (if a.W = b.W ∧ a.H = b.H then (if 64 < p.W * a.W ∨ 64 < p.H * a.H then (⟨0, 0, []⟩, 4) else (gm (fillf p a b p.W.toNat a.W.toNat a.H.toNat) (p.W.toNat * a.W.toNat) (p.H.toNat * a.H.toNat), 0)) else (⟨0, 0, []⟩, 26)) else (⟨0, 0, []⟩, ckL [p, a, b])
theorem Gr.W {g : api_Grid} {w h : Nat} (G : Gr g w h) : g.W.toNat = w := by rw [G.hw]; rfl
theorem Gr.H {g : api_Grid} {w h : Nat} (G : Gr g w h) : g.H.toNat = h := by rw [G.hh]; rfl
theorem fill_eq (p a b : api_Grid) : F_block_Fill p a b = some (fillS p a b) := by
  unfold F_block_Fill fillS
  rw [checked_eq _ (by simp)]
  by_cases h0 : ckL [p, a, b] = 0
  case neg => simp only [Option.bind_some, nT h0, if_true, if_neg h0]
  simp only [Option.bind_some, nF h0, Bool.false_eq_true, if_false, if_pos h0, alike_eq]
  by_cases h1 : a.W = b.W ∧ a.H = b.H
  case neg => simp only [dF h1, Bool.not_false, if_true, if_neg h1]
  simp only [dT h1, Bool.not_true, Bool.false_eq_true, if_false, if_pos h1]
  obtain ⟨g1, g2, g3⟩ := ckL_three h0
  obtain ⟨pw, ph, P⟩ := gerr_zero g1
  obtain ⟨uw, uh, A⟩ := gerr_zero g2
  obtain ⟨bw, bh, B⟩ := gerr_zero g3
  obtain ⟨rfl, rfl⟩ : uw = bw ∧ uh = bh := by
    have := A.hw
    have := B.hw
    have := A.hh
    have := B.hh
    omega
  have q1 : pw * uw ≤ 64 * 64 := Nat.mul_le_mul P.w1 A.w1
  have q2 : ph * uh ≤ 64 * 64 := Nat.mul_le_mul P.h1 A.h1
  have q3 : pw * ph ≤ 64 * 64 := Nat.mul_le_mul P.w1 P.h1
  have e1 : w64 (p.W * a.W) = ((pw * uw : Nat) : Int) := by rw [P.hw, A.hw]; exact wmul (by omega)
  have e2 : w64 (p.H * a.H) = ((ph * uh : Nat) : Int) := by rw [P.hh, A.hh]; exact wmul (by omega)
  have e3 : p.W * a.W = ((pw * uw : Nat) : Int) := by rw [P.hw, A.hw, Int.natCast_mul]
  have e4 : p.H * a.H = ((ph * uh : Nat) : Int) := by rw [P.hh, A.hh, Int.natCast_mul]
  rw [e1, e2, e3, e4, P.W, P.H, A.W, A.H]
  by_cases h2 : (64 : Int) < ((pw * uw : Nat) : Int) ∨ (64 : Int) < ((ph * uh : Nat) : Int)
  · have hz : F_block_zero_s0 ((pw * uw : Nat) : Int) ((ph * uh : Nat) : Int) = some (⟨0, 0, []⟩, 4) := by
      unfold F_block_zero_s0
      by_cases h3 : (64 : Int) < ((pw * uw : Nat) : Int)
      · simp only [dT h3, if_true, Option.bind_some]
      · simp only [dF h3, dT (show (64 : Int) < ((ph * uh : Nat) : Int) by omega), Bool.false_eq_true, if_true, if_false, Option.bind_some]
    rw [hz, if_pos h2]
    simp only [Option.bind_some, nT (show ¬ (4 : Int) = 0 by decide), if_true]
  · have hz : F_block_zero_s0 ((pw * uw : Nat) : Int) ((ph * uh : Nat) : Int) = some (⟨((pw * uw : Nat) : Int), ((ph * uh : Nat) : Int), List.replicate (pw * uw * (ph * uh)) false⟩, 0) := by
      have hq : pw * uw * (ph * uh) ≤ 64 * 64 := Nat.mul_le_mul (by omega) (by omega)
      unfold F_block_zero_s0
      simp only [dF (show ¬ (64 : Int) < ((pw * uw : Nat) : Int) by omega), dF (show ¬ (64 : Int) < ((ph * uh : Nat) : Int) by omega), Bool.false_eq_true, if_false, Option.bind_some]
      rw [wmul (by omega), makeO_of (k := pw * uw * (ph * uh)) rfl (by omega)]
      rfl
    rw [hz, if_neg h2]
    simp only [Option.bind_some, bne_self_eq_false, Bool.false_eq_true, if_false]
    have hb := puts_eq (Bd := block_Fill_l1 p a b (⟨((pw * uw : Nat) : Int), ((ph * uh : Nat) : Int), List.replicate (pw * uw * (ph * uh)) false⟩, 0)) (pw := pw) (ph := ph) (uw := uw) (uh := uh) P.w0 (fun k => if p.Bits.getD k false = true then a else b)
      (fun k _ => by split; exact A; exact B) (by omega) (by omega) (by omega) ((ph * uh : Nat) : Int)
      (fun k s hk => by
        unfold block_Fill_l1
        have hk2 : k < p.Bits.length := by rw [P.len]; exact hk
        have hp0 := P.w0
        simp only [dT (show (k : Int) < (p.Bits.length : Int) by omega), if_true, idxO_D false hk2, Option.bind_some, P.hw, rem_nat (show 0 < pw by omega), quo_nat (show 0 < pw by omega) (show k ≤ 9223372036854775807 by omega)]
        by_cases hc : p.Bits.getD k false = true
        · rw [if_pos hc, if_pos hc]; rfl
        · rw [if_neg hc, if_neg hc]; rfl)
      (fun s => by
        unfold block_Fill_l1
        simp only [dF (show ¬ ((pw * ph : Nat) : Int) < (p.Bits.length : Int) by rw [P.len]; omega), Bool.false_eq_true, if_false])
    rw [hb]
    simp only [Option.bind_some]
    congr 2
    unfold gm
    congr 1
    refine gl_cong fun x y hx hy => ?_
    unfold fillf
    have hcell : cell p pw (x / uw) (y / uh) = p.Bits.getD ((y / uh) * pw + x / uw) false := rfl
    rw [hcell]
    split <;> rfl
theorem rfill_eq (p a b : api_Grid) : F_raddleref13_Fill p a b = some (fillS p a b) := by
  unfold F_raddleref13_Fill fillS
  rw [three_eq]
  by_cases h0 : ckL [p, a, b] = 0
  case neg => simp only [Option.bind_some, nT h0, if_true, if_neg h0]
  simp only [Option.bind_some, nF h0, Bool.false_eq_true, if_false, if_pos h0]
  by_cases h1 : a.W = b.W ∧ a.H = b.H
  case neg =>
    rw [if_neg h1]
    by_cases h2 : a.W = b.W
    · simp only [nF h2, nT (show ¬ a.H = b.H from fun h => h1 ⟨h2, h⟩), Bool.false_eq_true, if_true, if_false, Option.bind_some]
    · simp only [nT h2, if_true, Option.bind_some]
  simp only [nF h1.1, nF h1.2, Bool.false_eq_true, if_false, if_pos h1, Option.bind_some]
  obtain ⟨g1, g2, g3⟩ := ckL_three h0
  obtain ⟨pw, ph, P⟩ := gerr_zero g1
  obtain ⟨uw, uh, A⟩ := gerr_zero g2
  obtain ⟨bw, bh, B⟩ := gerr_zero g3
  obtain ⟨rfl, rfl⟩ : uw = bw ∧ uh = bh := by
    have := A.hw
    have := B.hw
    have := A.hh
    have := B.hh
    omega
  have q1 : pw * uw ≤ 64 * 64 := Nat.mul_le_mul P.w1 A.w1
  have q2 : ph * uh ≤ 64 * 64 := Nat.mul_le_mul P.h1 A.h1
  have e1 : w64 (p.W * a.W) = ((pw * uw : Nat) : Int) := by rw [P.hw, A.hw]; exact wmul (by omega)
  have e2 : w64 (p.H * a.H) = ((ph * uh : Nat) : Int) := by rw [P.hh, A.hh]; exact wmul (by omega)
  have e3 : p.W * a.W = ((pw * uw : Nat) : Int) := by rw [P.hw, A.hw, Int.natCast_mul]
  have e4 : p.H * a.H = ((ph * uh : Nat) : Int) := by rw [P.hh, A.hh, Int.natCast_mul]
  rw [e1, e2, e3, e4, P.W, P.H, A.W, A.H]
  by_cases h2 : (64 : Int) < ((pw * uw : Nat) : Int) ∨ (64 : Int) < ((ph * uh : Nat) : Int)
  · rw [if_pos h2]
    by_cases h3 : (64 : Int) < ((pw * uw : Nat) : Int)
    · simp only [dT h3, if_true, Option.bind_some]
    · simp only [dF h3, dT (show (64 : Int) < ((ph * uh : Nat) : Int) by omega), Bool.false_eq_true, if_true, if_false, Option.bind_some]
  · rw [if_neg h2]
    simp only [dF (show ¬ (64 : Int) < ((pw * uw : Nat) : Int) by omega), dF (show ¬ (64 : Int) < ((ph * uh : Nat) : Int) by omega), Bool.false_eq_true, if_false, Option.bind_some]
    rw [rzero_eq (by omega) (by omega)]
    simp only [Option.bind_some]
    generalize hZ : (⟨((pw * uw : Nat) : Int), ((ph * uh : Nat) : Int), List.replicate (pw * uw * (ph * uh)) false⟩ : api_Grid) = Z
    have zW : Z.W = ((pw * uw : Nat) : Int) := by rw [← hZ]
    have zH : Z.H = ((ph * uh : Nat) : Int) := by rw [← hZ]
    have zB : Z.Bits = List.replicate (pw * uw * (ph * uh)) false := by rw [← hZ]
    have u0 := A.w0
    have v0 := A.h0
    have hb := sets_eq (l1 := fun y => raddleref13_Fill_l1 Z a y p b) (l2 := raddleref13_Fill_l2 Z a p b) (fillf p a b pw uw uh) (pw * uw) (ph * uh) (by omega) (by omega)
      (fun y x s hy hx hl => by
        have c1 : x / uw < pw := pl_divlt (by rw [Nat.mul_comm]; exact hx)
        have c2 : y / uh < ph := pl_divlt (by rw [Nat.mul_comm]; exact hy)
        have c3 : x % uw < uw := pl_modlt (by omega)
        have c4 : y % uh < uh := pl_modlt (by omega)
        unfold raddleref13_Fill_l1
        simp only [zW, zH, dT (show (x : Int) < ((pw * uw : Nat) : Int) by omega), if_true, A.hw, A.hh, quo_nat (show 0 < uw by omega) (show x ≤ 9223372036854775807 by omega), quo_nat (show 0 < uh by omega) (show y ≤ 9223372036854775807 by omega), rem_nat (show 0 < uw by omega), rem_nat (show 0 < uh by omega),
          Option.bind_some, rat_eq P c1 c2, rat_eq A c3 c4, rat_eq B c3 c4, rset_eq (w := pw * uw) (h := ph * uh) (by omega) (by omega) hl hx hy, w64_succ (show x < 9223372036854775807 by omega)]
        unfold fillf
        by_cases hc : cell p pw (x / uw) (y / uh) = true
        · simp only [hc, if_true, Option.bind_some]
        · simp only [hc, if_false, Option.bind_some, Bool.false_eq_true])
      (fun y s => by
        unfold raddleref13_Fill_l1
        simp only [zW, dF (show ¬ ((pw * uw : Nat) : Int) < ((pw * uw : Nat) : Int) by omega), Bool.false_eq_true, if_false])
      (fun y s t hy ht => by
        unfold raddleref13_Fill_l2
        simp only [zH, dT (show (y : Int) < ((ph * uh : Nat) : Int) by omega), if_true, ht, Option.bind_some, w64_succ (show y < 9223372036854775807 by omega)])
      (fun s => by
        unfold raddleref13_Fill_l2
        simp only [zH, dF (show ¬ ((ph * uh : Nat) : Int) < ((ph * uh : Nat) : Int) by omega), Bool.false_eq_true, if_false])
    simp only [zW, zH, hb, Option.bind_some]
    rfl
/-- a part of a grid -/
def prt (g : api_Grid) (W w h i j : Nat) : api_Grid := gm (fun x y => cell g W (i * w + x) (j * h + y)) w h
theorem part_eq {g : api_Grid} {W H w h i j : Nat} (G : Gr g W H) (hi : i * w + w ≤ W) (hj : j * h + h ≤ H) (w0 : 1 ≤ w) (h0 : 1 ≤ h) : F_block_part g (w : Int) (h : Int) (i : Int) (j : Int) = some (prt g W w h i j) := by
  have hp : W * H ≤ 64 * 64 := Nat.mul_le_mul G.w1 G.h1
  have W1 := G.w1
  have H1 := G.h1
  have hb := loop_seq (B := block_part_l1 (h : Int) g (j : Int) (i : Int) (w : Int)) (fun k : Nat => ((k : Int), glf (fun x y => cell g W (i * w + x) (j * h + y)) w (k * w))) h (t := glf (fun x y => cell g W (i * w + x) (j * h + y)) w (h * w))
    (fun k hk => by
      have hy : j * h + k < H := by omega
      have a1 : (j * h + k) * W + W ≤ W * H := by
        have := Nat.mul_le_mul_right W (show j * h + k + 1 ≤ H by omega)
        rw [Nat.add_mul (j * h + k) 1, Nat.one_mul, Nat.mul_comm H W] at this
        exact this
      have a2 : k * w ≤ 64 * 64 := Nat.mul_le_mul (by omega) (by omega)
      have e1 : w64 ((j : Int) * (h : Int)) = ((j * h : Nat) : Int) := wmul (by omega)
      have e2 : w64 (((j * h : Nat) : Int) + (k : Int)) = ((j * h + k : Nat) : Int) := wadd (by omega)
      have e3 : w64 (((j * h + k : Nat) : Int) * (W : Int)) = (((j * h + k) * W : Nat) : Int) := wmul (by omega)
      have e4 : w64 ((i : Int) * (w : Int)) = ((i * w : Nat) : Int) := wmul (by omega)
      have e5 : w64 ((((j * h + k) * W : Nat) : Int) + ((i * w : Nat) : Int)) = (((j * h + k) * W + i * w : Nat) : Int) := wadd (by omega)
      have e6 : w64 ((((j * h + k) * W + i * w : Nat) : Int) + (w : Int)) = (((j * h + k) * W + i * w + w : Nat) : Int) := wadd (by omega)
      have hsl := sliceO_of (xs := g.Bits) (lo := (((j * h + k) * W + i * w : Nat) : Int)) (hi := (((j * h + k) * W + i * w + w : Nat) : Int)) rfl rfl (by omega) (by rw [G.len]; omega)
      rw [bits_part G (x0 := i * w) (n := w) (y := j * h + k) hi hy] at hsl
      unfold block_part_l1
      simp only [dT (show (k : Int) < (h : Int) by omega), if_true, G.hw, e1, e2, e3, e4, e5, e6, hsl, Option.bind_some]
      rw [appO_of (by simp [glf]; omega), Option.bind_some, w64_succ (by omega)]
      congr 3
      rw [Nat.add_mul, Nat.one_mul]
      unfold glf
      rw [List.range_add, List.map_append]
      congr 1
      rw [List.map_map]
      refine map_cong fun x hx => ?_
      simp only [Function.comp, pl_mod hx, pl_div hx])
    (by
      unfold block_part_l1
      simp only [dF (show ¬ (h : Int) < (h : Int) by omega), Bool.false_eq_true, if_false])
  have h00 : (((0 : Nat) : Int), glf (fun x y => cell g W (i * w + x) (j * h + y)) w (0 * w)) = ((0 : Int), ([] : List Bool)) := by simp [glf]
  rw [h00] at hb
  unfold F_block_part
  rw [hb]
  simp only [Option.bind_some]
  unfold prt gm gl
  rw [Nat.mul_comm w h]
theorem rpart_eq {g : api_Grid} {W H w h i j : Nat} (G : Gr g W H) (hi : i * w + w ≤ W) (hj : j * h + h ≤ H) (w0 : 1 ≤ w) (h0 : 1 ≤ h) : F_raddleref13_Part_s0 g (w : Int) (h : Int) (i : Int) (j : Int) = some (prt g W w h i j) := by
  have W1 := G.w1
  have H1 := G.h1
  unfold F_raddleref13_Part_s0
  rw [rzero_eq (by omega) (by omega)]
  simp only [Option.bind_some]
  generalize hZ : (⟨(w : Int), (h : Int), List.replicate (w * h) false⟩ : api_Grid) = Z
  have zW : Z.W = (w : Int) := by rw [← hZ]
  have zH : Z.H = (h : Int) := by rw [← hZ]
  have zB : Z.Bits = List.replicate (w * h) false := by rw [← hZ]
  have hb := sets_eq (l1 := fun y => raddleref13_Part_s0_l1 (w : Int) g (i : Int) (j : Int) (h : Int) y Z) (l2 := raddleref13_Part_s0_l2 (h : Int) (w : Int) g (i : Int) (j : Int) Z) (fun x y => cell g W (i * w + x) (j * h + y)) w h (by omega) (by omega)
    (fun y x s hy hx hl => by
      have e1 : w64 ((i : Int) * (w : Int)) = ((i * w : Nat) : Int) := wmul (by omega)
      have e2 : w64 (((i * w : Nat) : Int) + (x : Int)) = ((i * w + x : Nat) : Int) := wadd (by omega)
      have e3 : w64 ((j : Int) * (h : Int)) = ((j * h : Nat) : Int) := wmul (by omega)
      have e4 : w64 (((j * h : Nat) : Int) + (y : Int)) = ((j * h + y : Nat) : Int) := wadd (by omega)
      unfold raddleref13_Part_s0_l1
      simp only [dT (show (x : Int) < (w : Int) by omega), if_true, e1, e2, e3, e4, rat_eq G (show i * w + x < W by omega) (show j * h + y < H by omega), Option.bind_some, zW, zH, rset_eq (w := w) (h := h) (by omega) (by omega) hl hx hy, w64_succ (show x < 9223372036854775807 by omega)])
    (fun y s => by
      unfold raddleref13_Part_s0_l1
      simp only [dF (show ¬ (w : Int) < (w : Int) by omega), Bool.false_eq_true, if_false])
    (fun y s t hy ht => by
      unfold raddleref13_Part_s0_l2
      simp only [dT (show (y : Int) < (h : Int) by omega), if_true, ht, Option.bind_some, w64_succ (show y < 9223372036854775807 by omega)])
    (fun s => by
      unfold raddleref13_Part_s0_l2
      simp only [dF (show ¬ (h : Int) < (h : Int) by omega), Bool.false_eq_true, if_false])
  simp only [zW, zH, hb, Option.bind_some]
  rfl
end Go.Proofs.Ythfifeabomdlpaa
namespace Go.Proofs.Ythfifeabomdlpaa
open Go.RowKit
set_option linter.unusedVariables false

def pgood (g a b : api_Grid) (W w h n t : Nat) : Bool := decide (prt g W w h (t % n) (t / n) = a ∨ prt g W w h (t % n) (t / n) = b)
def proff (g a : api_Grid) (W w h : Nat) (i j : Nat) : Bool := decide (prt g W w h i j = a)
def profS (g a b : api_Grid) : api_Grid × Int :=
  if ckL [g, a, b] = 0 then
    (if a.W = b.W ∧ a.H = b.H ∧ g.W % a.W = 0 ∧ g.H % a.H = 0 then
      (if a = b then (⟨0, 0, []⟩, 14)
      else if (List.range (g.H.toNat / a.H.toNat * (g.W.toNat / a.W.toNat))).all (pgood g a b g.W.toNat a.W.toNat a.H.toNat (g.W.toNat / a.W.toNat)) = true then (gm (proff g a g.W.toNat a.W.toNat a.H.toNat) (g.W.toNat / a.W.toNat) (g.H.toNat / a.H.toNat), 0) else (⟨0, 0, []⟩, 6))
    else (⟨0, 0, []⟩, 26))
  else (⟨0, 0, []⟩, ckL [g, a, b])
/-- rows of rounds that may fail -/
theorem loop2f {S1 S2 τ1 : Type} {l1 : Nat → S1 → Option (S1 ⊕ τ1)} {τ2 : Type} {l2 : S2 → Option (S2 ⊕ τ2)} (c1 : Nat → Nat → S1) (c2 : Nat → S2) (e1 : Nat → τ1) (b1 : τ1) (b2 : τ2) (w h : Nat) (g : Nat → Bool) {t : τ2}
    (h1 : ∀ y x, y < h → x < w → l1 y (c1 y x) = some (if g (y * w + x) = true then .inl (c1 y (x + 1)) else .inr b1)) (h1e : ∀ y, y < h → l1 y (c1 y w) = some (.inr (e1 y)))
    (h2 : ∀ y, y < h → whileO (l1 y) (c1 y 0) = some (e1 y) → l2 (c2 y) = some (.inl (c2 (y + 1)))) (h2b : ∀ y, y < h → whileO (l1 y) (c1 y 0) = some b1 → l2 (c2 y) = some (.inr b2)) (h2e : l2 (c2 h) = some (.inr t)) :
    whileO l2 (c2 0) = some (if (List.range (h * w)).all g = true then t else b2) := by
  have key := loop_seqf c2 h (fun y => (List.range w).all fun x => g (y * w + x)) (bad := b2) (t := t) (fun y hy _ => by
    have hw := loop_seqf (c1 y) w (fun x => g (y * w + x)) (bad := b1) (t := e1 y) (fun x hx _ => h1 y x hy hx) (fun _ => h1e y hy)
    by_cases hc : ((List.range w).all fun x => g (y * w + x)) = true
    · rw [if_pos hc] at hw
      rw [if_pos hc, h2 y hy hw]
    · rw [if_neg hc] at hw
      rw [if_neg hc, h2b y hy hw]) (fun _ => h2e)
  rw [key]
  congr 1
  have e : ((List.range h).all fun y => (List.range w).all fun x => g (y * w + x)) = true ↔ (List.range (h * w)).all g = true := by
    simp only [List.all_eq_true, List.mem_range]
    constructor
    · intro hh t ht
      have w0 : 0 < w := by rcases Nat.eq_zero_or_pos w with h0 | h0; rw [h0, Nat.mul_zero] at ht; omega; exact h0
      have := hh (t / w) (pl_divlt (by rw [Nat.mul_comm]; exact ht)) (t % w) (pl_modlt w0)
      rwa [pl_of] at this
    · intro hh y hy x hx
      exact hh _ (by rw [Nat.mul_comm h w]; exact pl_lt hx hy)
  by_cases hc : (List.range (h * w)).all g = true
  · rw [if_pos hc, if_pos (e.2 hc)]
  · rw [if_neg hc, if_neg (fun hh => hc (e.1 hh))]
theorem prt_len {g : api_Grid} {W w h i j : Nat} (hw : w ≤ 64) (hh : h ≤ 64) : (prt g W w h i j).Bits.length ≤ 4096 := by
  have hp : w * h ≤ 64 * 64 := Nat.mul_le_mul hw hh
  unfold prt gm
  simp only [gl_len]
  omega
theorem Gr.bits {g : api_Grid} {w h : Nat} (G : Gr g w h) : g.Bits.length ≤ 4096 := by
  have hp : w * h ≤ 64 * 64 := Nat.mul_le_mul G.w1 G.h1
  rw [G.len]; omega
theorem prof_dims {g a : api_Grid} {W H w h : Nat} (G : Gr g W H) (A : Gr a w h) (h1 : g.W % a.W = 0) (h2 : g.H % a.H = 0) : W = W / w * w ∧ H = H / h * h ∧ 1 ≤ W / w ∧ 1 ≤ H / h ∧ W / w ≤ 64 ∧ H / h ≤ 64 := by
  rw [G.hw, A.hw] at h1
  rw [G.hh, A.hh] at h2
  have e1 : W % w = 0 := by omega
  have e2 : H % h = 0 := by omega
  have d1 := pl_of W w
  have d2 := pl_of H h
  have := G.w0
  have := G.h0
  have q1 : W / w ≤ W := Nat.div_le_self _ _
  have q2 : H / h ≤ H := Nat.div_le_self _ _
  have := G.w1
  have := G.h1
  refine ⟨by omega, by omega, ?_, ?_, by omega, by omega⟩
  · rcases Nat.eq_zero_or_pos (W / w) with h0 | h0
    · rw [h0] at d1; omega
    · exact h0
  · rcases Nat.eq_zero_or_pos (H / h) with h0 | h0
    · rw [h0] at d2; omega
    · exact h0
theorem prof_eq (g a b : api_Grid) : F_block_Profile g a b = some (profS g a b) := by
  unfold F_block_Profile profS
  rw [checked_eq _ (by simp)]
  by_cases h0 : ckL [g, a, b] = 0
  case neg => simp only [Option.bind_some, nT h0, if_true, if_neg h0]
  simp only [Option.bind_some, nF h0, Bool.false_eq_true, if_false, if_pos h0, alike_eq]
  obtain ⟨g1, g2, g3⟩ := ckL_three h0
  obtain ⟨W, H, G⟩ := gerr_zero g1
  obtain ⟨w, h, A⟩ := gerr_zero g2
  obtain ⟨bw, bh, B⟩ := gerr_zero g3
  have w0 := A.w0
  have v0 := A.h0
  have w1 := A.w1
  have v1 := A.h1
  have W1 := G.w1
  have H1 := G.h1
  have r1 : remI g.W a.W = some ((W % w : Nat) : Int) := by rw [G.hw, A.hw]; exact rem_nat (by omega)
  have r2 : remI g.H a.H = some ((H % h : Nat) : Int) := by rw [G.hh, A.hh]; exact rem_nat (by omega)
  have s1 : g.W % a.W = ((W % w : Nat) : Int) := by rw [G.hw, A.hw, Int.natCast_emod]
  have s2 : g.H % a.H = ((H % h : Nat) : Int) := by rw [G.hh, A.hh, Int.natCast_emod]
  by_cases h1 : a.W = b.W ∧ a.H = b.H
  case neg =>
    rw [if_neg (show ¬ (a.W = b.W ∧ a.H = b.H ∧ g.W % a.W = 0 ∧ g.H % a.H = 0) from fun h => h1 ⟨h.1, h.2.1⟩)]
    simp only [dF h1, Bool.not_false, if_true, Option.bind_some]
  by_cases h2 : g.W % a.W = 0
  case neg =>
    rw [if_neg (show ¬ (a.W = b.W ∧ a.H = b.H ∧ g.W % a.W = 0 ∧ g.H % a.H = 0) from fun h => h2 h.2.2.1)]
    rw [s1] at h2
    simp only [dT h1, Bool.not_true, Bool.false_eq_true, if_false, r1, Option.bind_some, nT h2, if_true]
  by_cases h3 : g.H % a.H = 0
  case neg =>
    rw [if_neg (show ¬ (a.W = b.W ∧ a.H = b.H ∧ g.W % a.W = 0 ∧ g.H % a.H = 0) from fun h => h3 h.2.2.2)]
    rw [s1] at h2
    rw [s2] at h3
    simp only [dT h1, Bool.not_true, Bool.false_eq_true, if_false, r1, r2, Option.bind_some, nF h2, nT h3, if_true]
  obtain ⟨d1, d2, d3, d4, d5, d6⟩ := prof_dims G A h2 h3
  rw [if_pos (show (a.W = b.W ∧ a.H = b.H ∧ g.W % a.W = 0 ∧ g.H % a.H = 0) from ⟨h1.1, h1.2, h2, h3⟩)]
  rw [s1] at h2
  rw [s2] at h3
  simp only [dT h1, Bool.not_true, Bool.false_eq_true, if_false, r1, r2, Option.bind_some, nF h2, nF h3, gsame_eq a b (by have := A.bits; omega)]
  by_cases h4 : a = b
  · rw [if_pos h4]; simp only [dT h4, if_true]
  rw [if_neg h4]
  have q1 : quoI g.W a.W = some ((W / w : Nat) : Int) := by rw [G.hw, A.hw]; exact quo_nat (by omega) (by omega)
  have q2 : quoI g.H a.H = some ((H / h : Nat) : Int) := by rw [G.hh, A.hh]; exact quo_nat (by omega) (by omega)
  simp only [dF h4, Bool.false_eq_true, if_false, q1, q2, Option.bind_some, G.W, G.H, A.W, A.H]
  generalize hn : W / w = n at *
  generalize hm : H / h = m at *
  have hb := loop2f (l1 := fun y => block_Profile_l1 (n : Int) g a (y : Int) b) (l2 := block_Profile_l2 (m : Int) (n : Int) g a b)
    (fun y x => ((x : Int), glf (proff g a W w h) n (y * n + x))) (fun y => ((y : Int), glf (proff g a W w h) n (y * n))) (fun y => .inr (glf (proff g a W w h) n (y * n + n))) (.inl (⟨0, 0, []⟩, 6)) (.inl (⟨0, 0, []⟩, 6)) n m
    (pgood g a b W w h n) (t := .inr (glf (proff g a W w h) n (m * n)))
    (fun y x hy hx => by
      have b1 : x * w + w ≤ W := by have := Nat.mul_le_mul_right w (show x + 1 ≤ n by omega); rw [Nat.add_mul, Nat.one_mul] at this; omega
      have b2 : y * h + h ≤ H := by have := Nat.mul_le_mul_right h (show y + 1 ≤ m by omega); rw [Nat.add_mul, Nat.one_mul] at this; omega
      have hl := prt_len (g := g) (W := W) (w := w) (h := h) (i := x) (j := y) w1 v1
      have ha : (glf (proff g a W w h) n (y * n + x)).length ≤ 5000 := by
        have := pl_lt hx hy
        have := Nat.mul_le_mul d5 d6
        simp [glf]; omega
      unfold block_Profile_l1
      rw [show a.W = (w : Int) from A.hw, show a.H = (h : Int) from A.hh]
      simp only [dT (show (x : Int) < (n : Int) by omega), if_true, part_eq G b1 b2 w0 v0, Option.bind_some, gsame_eq _ _ (Nat.le_trans hl (by decide))]
      unfold pgood
      rw [pl_mod hx, pl_div hx]
      by_cases c1 : prt g W w h x y = a
      · simp only [dT c1, Bool.not_true, Bool.false_eq_true, if_false, Option.bind_some, dT (show prt g W w h x y = a ∨ prt g W w h x y = b from .inl c1), if_true]
        rw [appO_of (by simp; omega), Option.bind_some, w64_succ (by omega)]
        congr 3
        rw [show y * n + (x + 1) = y * n + x + 1 from rfl, glf_succ, pl_mod hx, pl_div hx, show proff g a W w h x y = true from decide_eq_true c1]
      · by_cases c2 : prt g W w h x y = b
        · simp only [dF c1, dT c2, Bool.not_true, Bool.not_false, Bool.false_eq_true, if_false, if_true, Option.bind_some, dT (show prt g W w h x y = a ∨ prt g W w h x y = b from .inr c2)]
          rw [appO_of (by simp; omega), Option.bind_some, w64_succ (by omega)]
          congr 3
          rw [show y * n + (x + 1) = y * n + x + 1 from rfl, glf_succ, pl_mod hx, pl_div hx, show proff g a W w h x y = false from decide_eq_false c1]
        · simp only [dF c1, dF c2, Bool.not_false, Bool.false_eq_true, if_false, if_true, Option.bind_some, dF (show ¬ (prt g W w h x y = a ∨ prt g W w h x y = b) from fun h => h.elim c1 c2)])
    (fun y hy => by
      unfold block_Profile_l1
      simp only [dF (show ¬ (n : Int) < (n : Int) by omega), Bool.false_eq_true, if_false])
    (fun y hy hl => by
      unfold block_Profile_l2
      simp only [dT (show (y : Int) < (m : Int) by omega), if_true]
      have e0 : (((0 : Nat) : Int), glf (proff g a W w h) n (y * n + 0)) = ((0 : Int), glf (proff g a W w h) n (y * n)) := rfl
      rw [e0] at hl
      rw [hl]
      simp only [Option.bind_some, w64_succ (show y < 9223372036854775807 by omega)]
      rw [show (y + 1) * n = y * n + n by rw [Nat.add_mul, Nat.one_mul]])
    (fun y hy hl => by
      unfold block_Profile_l2
      simp only [dT (show (y : Int) < (m : Int) by omega), if_true]
      have e0 : (((0 : Nat) : Int), glf (proff g a W w h) n (y * n + 0)) = ((0 : Int), glf (proff g a W w h) n (y * n)) := rfl
      rw [e0] at hl
      rw [hl]
      simp only [Option.bind_some])
    (by
      unfold block_Profile_l2
      simp only [dF (show ¬ (m : Int) < (m : Int) by omega), Bool.false_eq_true, if_false])
  have e0 : (((0 : Nat) : Int), glf (proff g a W w h) n (0 * n)) = ((0 : Int), ([] : List Bool)) := by simp [glf]
  simp only [e0] at hb
  rw [hb]
  by_cases hc : (List.range (m * n)).all (pgood g a b W w h n) = true
  · rw [if_pos hc, if_pos hc]
    simp only [Option.bind_some]
    unfold gm gl
    rw [Nat.mul_comm n m]
  · rw [if_neg hc, if_neg hc]
    simp only [Option.bind_some]
theorem rprof_eq (g a b : api_Grid) : F_raddleref13_Profile g a b = some (profS g a b) := by
  unfold F_raddleref13_Profile profS
  rw [three_eq]
  by_cases h0 : ckL [g, a, b] = 0
  case neg => simp only [Option.bind_some, nT h0, if_true, if_neg h0]
  simp only [Option.bind_some, nF h0, Bool.false_eq_true, if_false, if_pos h0]
  obtain ⟨g1, g2, g3⟩ := ckL_three h0
  obtain ⟨W, H, G⟩ := gerr_zero g1
  obtain ⟨w, h, A⟩ := gerr_zero g2
  obtain ⟨bw, bh, B⟩ := gerr_zero g3
  have w0 := A.w0
  have v0 := A.h0
  have w1 := A.w1
  have v1 := A.h1
  have W1 := G.w1
  have H1 := G.h1
  have r1 : remI g.W a.W = some ((W % w : Nat) : Int) := by rw [G.hw, A.hw]; exact rem_nat (by omega)
  have r2 : remI g.H a.H = some ((H % h : Nat) : Int) := by rw [G.hh, A.hh]; exact rem_nat (by omega)
  have s1 : g.W % a.W = ((W % w : Nat) : Int) := by rw [G.hw, A.hw, Int.natCast_emod]
  have s2 : g.H % a.H = ((H % h : Nat) : Int) := by rw [G.hh, A.hh, Int.natCast_emod]
  by_cases h1 : a.W = b.W
  case neg =>
    rw [if_neg (show ¬ (a.W = b.W ∧ a.H = b.H ∧ g.W % a.W = 0 ∧ g.H % a.H = 0) from fun h => h1 h.1)]
    simp only [nT h1, if_true, Option.bind_some]
  by_cases h1' : a.H = b.H
  case neg =>
    rw [if_neg (show ¬ (a.W = b.W ∧ a.H = b.H ∧ g.W % a.W = 0 ∧ g.H % a.H = 0) from fun h => h1' h.2.1)]
    simp only [nF h1, nT h1', Bool.false_eq_true, if_false, if_true, Option.bind_some]
  by_cases h2 : g.W % a.W = 0
  case neg =>
    rw [if_neg (show ¬ (a.W = b.W ∧ a.H = b.H ∧ g.W % a.W = 0 ∧ g.H % a.H = 0) from fun h => h2 h.2.2.1)]
    rw [s1] at h2
    simp only [nF h1, nF h1', Bool.false_eq_true, if_false, r1, Option.bind_some, dT (show (0 : Int) < ((W % w : Nat) : Int) by omega), if_true]
  by_cases h3 : g.H % a.H = 0
  case neg =>
    rw [if_neg (show ¬ (a.W = b.W ∧ a.H = b.H ∧ g.W % a.W = 0 ∧ g.H % a.H = 0) from fun h => h3 h.2.2.2)]
    rw [s1] at h2
    rw [s2] at h3
    simp only [nF h1, nF h1', Bool.false_eq_true, if_false, r1, r2, Option.bind_some, dF (show ¬ (0 : Int) < ((W % w : Nat) : Int) by omega), dT (show (0 : Int) < ((H % h : Nat) : Int) by omega), if_true]
  obtain ⟨d1, d2, d3, d4, d5, d6⟩ := prof_dims G A h2 h3
  rw [if_pos (show (a.W = b.W ∧ a.H = b.H ∧ g.W % a.W = 0 ∧ g.H % a.H = 0) from ⟨h1, h1', h2, h3⟩)]
  rw [s1] at h2
  rw [s2] at h3
  simp only [nF h1, nF h1', Bool.false_eq_true, if_false, r1, r2, Option.bind_some, dF (show ¬ (0 : Int) < ((W % w : Nat) : Int) by omega), dF (show ¬ (0 : Int) < ((H % h : Nat) : Int) by omega), rsame_grid a b (by have := A.bits; omega)]
  by_cases h4 : a = b
  · rw [if_pos h4]; simp only [dT h4, if_true]
  rw [if_neg h4]
  have q1 : quoI g.W a.W = some ((W / w : Nat) : Int) := by rw [G.hw, A.hw]; exact quo_nat (by omega) (by omega)
  have q2 : quoI g.H a.H = some ((H / h : Nat) : Int) := by rw [G.hh, A.hh]; exact quo_nat (by omega) (by omega)
  simp only [dF h4, Bool.false_eq_true, if_false, q1, q2, Option.bind_some, G.W, G.H, A.W, A.H]
  generalize hn : W / w = n at *
  generalize hm : H / h = m at *
  rw [rzero_eq (w := n) (h := m) (by omega) (by omega)]
  generalize hZ : (⟨(n : Int), (m : Int), List.replicate (n * m) false⟩ : api_Grid) = Z
  simp only [Option.bind_some]
  have zW : Z.W = (n : Int) := by rw [← hZ]
  have zH : Z.H = (m : Int) := by rw [← hZ]
  have zB : Z.Bits = List.replicate (n * m) false := by rw [← hZ]
  have hb := loop2f (l1 := fun y => raddleref13_Profile_l1 Z g a (y : Int) b) (l2 := raddleref13_Profile_l2 Z g a b)
    (fun y x => ((x : Int), gst (proff g a W w h) false n m (y * n + x))) (fun y => ((y : Int), gst (proff g a W w h) false n m (y * n))) (fun y => .inr (gst (proff g a W w h) false n m (y * n + n))) (.inl (⟨0, 0, []⟩, 6)) (.inl (⟨0, 0, []⟩, 6)) n m
    (pgood g a b W w h n) (t := .inr (gst (proff g a W w h) false n m (m * n)))
    (fun y x hy hx => by
      have b1 : x * w + w ≤ W := by have := Nat.mul_le_mul_right w (show x + 1 ≤ n by omega); rw [Nat.add_mul, Nat.one_mul] at this; omega
      have b2 : y * h + h ≤ H := by have := Nat.mul_le_mul_right h (show y + 1 ≤ m by omega); rw [Nat.add_mul, Nat.one_mul] at this; omega
      have hl := prt_len (g := g) (W := W) (w := w) (h := h) (i := x) (j := y) w1 v1
      have hs := gst_set (proff g a W w h) false n m (y * n + x)
      rw [pl_mod hx, pl_div hx] at hs
      unfold raddleref13_Profile_l1
      rw [show a.W = (w : Int) from A.hw, show a.H = (h : Int) from A.hh]
      simp only [zW, zH, dT (show (x : Int) < (n : Int) by omega), if_true, rpart_eq G b1 b2 w0 v0, Option.bind_some, rsame_grid _ _ (Nat.le_trans hl (by decide))]
      unfold pgood
      rw [pl_mod hx, pl_div hx]
      by_cases c1 : prt g W w h x y = a
      · have e1 : proff g a W w h x y = true := decide_eq_true c1
        rw [e1] at hs
        simp only [dT c1, if_true, rset_eq (w := n) (h := m) (by omega) (by omega) (gst_len _ _ _ _ _) hx hy, Option.bind_some, dT (show prt g W w h x y = a ∨ prt g W w h x y = b from .inl c1), w64_succ (show x < 9223372036854775807 by omega), hs]
        rfl
      · have e1 : proff g a W w h x y = false := decide_eq_false c1
        rw [e1] at hs
        by_cases c2 : prt g W w h x y = b
        · simp only [dF c1, dT c2, Bool.not_true, Bool.false_eq_true, if_false, Option.bind_some, dT (show prt g W w h x y = a ∨ prt g W w h x y = b from .inr c2), if_true, w64_succ (show x < 9223372036854775807 by omega)]
          congr 3
          rw [show y * n + (x + 1) = y * n + x + 1 from rfl, ← hs]
          apply List.ext_getElem?
          intro t
          rw [List.getElem?_set]
          split
          · rename_i e
            subst e
            have := pl_lt hx hy
            rw [gst_len, if_pos this]
            unfold gst
            simp [List.getElem?_range this]
          · rfl
        · simp only [dF c1, dF c2, Bool.not_false, Bool.false_eq_true, if_false, if_true, Option.bind_some, dF (show ¬ (prt g W w h x y = a ∨ prt g W w h x y = b) from fun h => h.elim c1 c2)])
    (fun y hy => by
      unfold raddleref13_Profile_l1
      simp only [zW, dF (show ¬ (n : Int) < (n : Int) by omega), Bool.false_eq_true, if_false])
    (fun y hy hl => by
      unfold raddleref13_Profile_l2
      simp only [zH, dT (show (y : Int) < (m : Int) by omega), if_true]
      have e0 : (((0 : Nat) : Int), gst (proff g a W w h) false n m (y * n + 0)) = ((0 : Int), gst (proff g a W w h) false n m (y * n)) := rfl
      rw [e0] at hl
      rw [hl]
      simp only [Option.bind_some, w64_succ (show y < 9223372036854775807 by omega)]
      rw [show (y + 1) * n = y * n + n by rw [Nat.add_mul, Nat.one_mul]])
    (fun y hy hl => by
      unfold raddleref13_Profile_l2
      simp only [zH, dT (show (y : Int) < (m : Int) by omega), if_true]
      have e0 : (((0 : Nat) : Int), gst (proff g a W w h) false n m (y * n + 0)) = ((0 : Int), gst (proff g a W w h) false n m (y * n)) := rfl
      rw [e0] at hl
      rw [hl]
      simp only [Option.bind_some])
    (by
      unfold raddleref13_Profile_l2
      simp only [zH, dF (show ¬ (m : Int) < (m : Int) by omega), Bool.false_eq_true, if_false])
  have e0 : (((0 : Nat) : Int), gst (proff g a W w h) false n m (0 * n)) = ((0 : Int), List.replicate (n * m) false) := by rw [Nat.zero_mul, gst_zero]; rfl
  simp only [e0] at hb
  rw [zB, hb]
  by_cases hc : (List.range (m * n)).all (pgood g a b W w h n) = true
  · rw [if_pos hc, if_pos hc]
    simp only [Option.bind_some, gst_full, zW, zH]
    rfl
  · rw [if_neg hc, if_neg hc]
    simp only [Option.bind_some]

end Go.Proofs.Ythfifeabomdlpaa
namespace Go.Proofs.Ythfifeabomdlpaa
open Go.RowKit
set_option linter.unusedVariables false

theorem fillS_len (p a b : api_Grid) : (fillS p a b).1.Bits.length ≤ 9223372036854775807 := by
  have hz : (⟨0, 0, []⟩ : api_Grid).Bits.length ≤ 9223372036854775807 := by decide
  unfold fillS
  by_cases h0 : ckL [p, a, b] = 0
  case neg => rw [if_neg h0]; exact hz
  rw [if_pos h0]
  split
  · rename_i h1
    split
    · exact hz
    · rename_i h2
      obtain ⟨g1, g2, g3⟩ := ckL_three h0
      obtain ⟨pw, ph, P⟩ := gerr_zero g1
      obtain ⟨uw, uh, A⟩ := gerr_zero g2
      have q1 : pw * uw ≤ 64 * 64 := Nat.mul_le_mul P.w1 A.w1
      have q2 : ph * uh ≤ 64 * 64 := Nat.mul_le_mul P.h1 A.h1
      have q3 := Nat.mul_le_mul q1 q2
      simp only [P.W, P.H, A.W, A.H, gm, gl_len]
      omega
  · exact hz
theorem profS_len (p a b : api_Grid) : (profS p a b).1.Bits.length ≤ 9223372036854775807 := by
  have hz : (⟨0, 0, []⟩ : api_Grid).Bits.length ≤ 9223372036854775807 := by decide
  unfold profS
  by_cases h0 : ckL [p, a, b] = 0
  case neg => rw [if_neg h0]; exact hz
  rw [if_pos h0]
  split
  · split
    · exact hz
    · split
      · obtain ⟨g1, g2, g3⟩ := ckL_three h0
        obtain ⟨pw, ph, P⟩ := gerr_zero g1
        have q1 : pw / a.W.toNat ≤ pw := Nat.div_le_self _ _
        have q2 : ph / a.H.toNat ≤ ph := Nat.div_le_self _ _
        have := P.w1
        have := P.h1
        have q3 := Nat.mul_le_mul (show pw / a.W.toNat ≤ 64 by omega) (show ph / a.H.toNat ≤ 64 by omega)
        simp only [P.W, P.H, gm, gl_len]
        omega
      · exact hz
  · exact hz
theorem law_BlockFills (p a b : api_Grid) (wp : wf_api_Grid p) (wa : wf_api_Grid a) (wb : wf_api_Grid b) : F_raddlelaw13_BlockFills p a b = some true := by
  unfold F_raddlelaw13_BlockFills
  simp only [rgreat_eq, Option.bind_some]
  by_cases h1 : 4200 < p.Bits.length
  · simp only [dT h1, if_true, Option.bind_some]
  by_cases h2 : 4200 < a.Bits.length
  · simp only [dF h1, dT h2, if_true, Bool.false_eq_true, if_false, Option.bind_some]
  by_cases h3 : 4200 < b.Bits.length
  · simp only [dF h1, dF h2, dT h3, if_true, Bool.false_eq_true, if_false, Option.bind_some]
  simp only [dF h1, dF h2, dF h3, Bool.false_eq_true, if_false, Option.bind_some, rtwin_eq p (by omega), rtwin_eq a (by omega), rtwin_eq b (by omega), fill_eq, rfill_eq, prof_eq, rprof_eq,
    rsame_grid _ _ (fillS_len p a b), rsame_grid _ _ (profS_len p a b), decide_true, if_true, beq_self_eq_true, rsame_grid p p (by omega), rsame_grid a a (by omega), rsame_grid b b (by omega)]

end Go.Proofs.Ythfifeabomdlpaa
namespace Go.Proofs.Ythfifeabomdlpaa
open Go.RowKit
set_option linter.unusedVariables false

namespace frameBlockFills
open Go.ChangeShapes Go.WideShapes Go.ChangeAt Go.Joins
theorem own : ownKnob Try.prog.godebug = none := by kernel_rfl
theorem laidOut : laidOutB Try.prog = true := by kernel_rfl
set_option maxRecDepth 100000 in
theorem lifted (os : Os) (started : os.Started) (H : Type) (enc : TypeId × Value → H) :
    ReturnsInHanded {} Try.checked os 3 .any (Rows.blockFillsSpec.pre6 enc Try.prog Try.f3 Rows.blockFillsRow.domain false) (Rows.blockFillsSpec.post enc Try.prog Try.f3 false true false false) := by
  refine returnsInHanded_of_change (C := Try.checked) own started (by kernel_rfl) Try.func3
    (ChangeSpec.witness6 (enc := enc) (C := Try.checked) false ⟨#[], #[.agg #[iv 0, iv 0, .slice none 0 0], .agg #[iv 0, iv 0, .slice none 0 0], .agg #[iv 0, iv 0, .slice none 0 0]], []⟩ 8 (by kernel_rfl) (by kernel_rfl) (by kernel_rfl) (by kernel_rfl)) ?_
  intro W base args ds gs before hval0 hW hcnd _
  have hval : ∀ (j : Nat) t v, Try.f3.params[j]? = some t → args[j]? = some v → Value.okWide Try.prog W .any base t v := hval0
  have hW' := hW
  obtain ⟨p, q, hA0, hV, rfl, hfz, hnd⟩ := hW
  have hA : DataW.TrodAll enc Try.prog W 0 (fun _ => true) true Try.f3.params.toList args.toList ds p := hA0
  rw [Try.params3] at hA hval
  obtain ⟨v0, vs0, d0, ds0, p0, q0, hargs, rfl, rfl, h0, r0⟩ := trodAll_cons hA
  obtain ⟨v1, vs1, d1, ds1, p1, q1, rfl, rfl, rfl, h1, r1⟩ := trodAll_cons r0
  obtain ⟨v2, vs2, d2, ds2, p2, q2, rfl, rfl, rfl, h2, r2⟩ := trodAll_cons r1
  obtain ⟨rfl, rfl, rfl⟩ := trodAll_nil r2
  obtain rfl : args = #[v0, v1, v2] := by cases args; simp_all
  obtain ⟨rfl, rfl⟩ := trodVars_none hV
  have k0 := h0
  have lt0 : ∀ x ∈ p0, x.block < W.heap.size := by obtain ⟨m, hm⟩ := k0; exact DataW.trod_lt m _ _ _ hm
  have k1 := h1
  have lt1 : ∀ x ∈ p1, x.block < W.heap.size := by obtain ⟨m, hm⟩ := k1; exact DataW.trod_lt m _ _ _ hm
  have k2 := h2
  have lt2 : ∀ x ∈ p2, x.block < W.heap.size := by obtain ⟨m, hm⟩ := k2; exact DataW.trod_lt m _ _ _ hm
  obtain ⟨x0, rep0, wf0⟩ := top_agg Try.underlying24 aggr_api_Grid op_api_Grid (hval 0 _ v0 rfl rfl) h0
  obtain ⟨x1, rep1, wf1⟩ := top_agg Try.underlying24 aggr_api_Grid op_api_Grid (hval 1 _ v1 rfl rfl) h1
  obtain ⟨x2, rep2, wf2⟩ := top_agg Try.underlying24 aggr_api_Grid op_api_Grid (hval 2 _ v2 rfl rfl) h2
  clear hA0 hval0
  refine (c_raddlelaw13_BlockFills (fun _ => False) W x0 v0 x1 v1 x2 v2 true (law_BlockFills x0 x1 x2 wf0 wf1 wf2) (St0.start (by intro d hd; simp only [List.mem_cons, List.not_mem_nil, or_false] at hd; rcases hd with rfl | rfl | rfl; exact rep0; exact rep1; exact rep2))).mono fun e W' hr => ?_
  obtain ⟨_, he, hS⟩ := hr
  have bel := hS.chg.below
  subst he
  exact ⟨_, rfl, _, _, _, [], _, [], hW', trodAll_mk1 (shut_bool Try.underlying4 _), (trodAll_cons_mk (Below.trod laidOut (by kernel_rfl) (of_decide_eq_true (by kernel_rfl)) k0 bel lt0) (trodAll_cons_mk (Below.trod laidOut (by kernel_rfl) (of_decide_eq_true (by kernel_rfl)) k1 bel lt1) (trodAll_cons_mk (Below.trod laidOut (by kernel_rfl) (of_decide_eq_true (by kernel_rfl)) k2 bel lt2) trodAll_mk0))), rfl, bel.frame _, fun h => by cases h⟩
theorem over : Rows.blockFillsRow.holds Try.pinned (OpenSpec.ofChange Rows.blockFillsSpec) :=
  OpenClaim.holds_of_wide 3 Try.f3 rfl rfl rfl rfl rfl rfl rfl ⟨rfl, rfl, rfl, rfl, rfl⟩ rfl rfl rfl rfl rfl (by kernel_rfl) Try.func3 (by kernel_rfl)
    (of_decide_eq_true (by kernel_rfl)) (by unfold Func.isWrapper; first | (rw [if_pos (by decide +kernel)]; kernel_rfl) | (rw [if_neg (by decide +kernel)]; exact ⟨rfl, rfl⟩))
    (fun os started H enc _ => lifted os started H enc)
end frameBlockFills
theorem blockFills_holds : Rows.BlockFillsSaid := frameBlockFills.over

end Go.Proofs.Ythfifeabomdlpaa
