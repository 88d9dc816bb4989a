/- Several texts in one: G15 G50s0 G16 G3 PlGd PlBk PlBp PlFb G32 G68s0 G64s2 G35 G7 PlNt PlFt LBB LBBv FrBlockBack -/
import Derived.WalkKit
import Derived.Maps.AppendAt
import Derived.Deep.AppendLies
import Derived.KernelRfl
import Derived.Laws.OwnMore
import Derived.Great.BuildSlice
import Derived.Orders
import Derived.Laws.StructEq
import Derived.ChangeKeysEq
import Derived.Defers
import Derived.Laws.BytesString
import Derived.RangeFuncNested
import Derived.RangeFuncBound
import Derived.RangeFuncCalls
import Derived.RangeFuncLeaves
import Derived.OrdersIn
import Derived.LoopNIn
import Derived.ArgAppend
import Derived.Test.YthfifeabomdlpaaProg
import Derived.ProofKit
import Derived.OpenShut
import Derived.ChangeOld
import Derived.Deep.Slices
import Derived.Lib.SmallJoins
import Derived.JoinedOf
import Derived.JoinedAt
import Derived.Below
import Derived.Test.YthfifeabomdlpaaRows
import Derived.Test.YthfifeabomdlpaaMBlockBack3
namespace Go.Proofs.Ythfifeabomdlpaa
open Go.RowKit
set_option linter.unusedVariables false

def anc_block_Profile_0 : List (List Nat) := [[], [0], [], [0, 1, 2], [], [4], [], [4, 5, 6], [0, 1, 2, 3, 4, 5, 6, 7], [], [0, 1, 2, 3, 4, 5, 6, 7, 8, 9]]
noncomputable def block_Profile_l1 (z49 : Int) (p0 : api_Grid) (p1 : api_Grid) (s61 : Int) (p2 : api_Grid) : (Int × List Bool) → Option ((Int × List Bool) ⊕ ((api_Grid × Int) ⊕ (List Bool))) := fun s0 => match s0 with
  | (s81, s82) =>
    if decide (s81 < z49) then
      Option.bind (F_block_part p0 p1.W p1.H s81 s61) fun r97 =>
      Option.bind (F_grid_Same r97 p1) fun r106 =>
      Option.bind (α := Bool) (
        if !r106 then
          Option.bind (F_grid_Same r97 p2) fun r113 =>
          some (!r113)
        else
          some false) fun o109 =>
      if o109 then
        some (.inr (.inl ((api_Grid.mk 0 0 ([] : (List Bool))), 6)))
      else
        Option.bind (appO s82 [r106]) fun l119 =>
        some (.inl (w64 (s81 + 1), l119))
    else
      some (.inr (.inr s82))
noncomputable def block_Profile_l2 (z51 : Int) (z49 : Int) (p0 : api_Grid) (p1 : api_Grid) (p2 : api_Grid) : (Int × List Bool) → Option ((Int × List Bool) ⊕ ((api_Grid × Int) ⊕ (List Bool))) := fun s0 => match s0 with
  | (s61, s62) =>
    if decide (s61 < z51) then
      Option.bind (α := List Bool ⊕ (api_Grid × Int)) (
        Option.bind (whileO (block_Profile_l1 z49 p0 p1 s61 p2) (0, s62)) fun z0 => match z0 with
          | .inl z =>
            some (.inr z)
          | .inr e88 =>
            some (.inl e88)) fun z0 => match z0 with
        | .inl o74 =>
          some (.inl (w64 (s61 + 1), o74))
        | .inr z =>
          some (.inr (.inl z))
    else
      some (.inr (.inr s62))
noncomputable def F_block_Profile (p0 : api_Grid) (p1 : api_Grid) (p2 : api_Grid) : Option (api_Grid × Int) :=
  Option.bind (F_block_checked [p0, p1, p2]) fun r22 =>
  if r22 != 0 then
    some ((api_Grid.mk 0 0 ([] : (List Bool))), r22)
  else
    Option.bind (α := Bool) (
      Option.bind (F_block_alike p1 p2) fun r32 =>
      if !r32 then
        some true
      else
        Option.bind (remI p0.W p1.W) fun z35 =>
        if z35 != 0 then
          some true
        else
          Option.bind (remI p0.H p1.H) fun z38 =>
          some (z38 != 0)) fun o29 =>
    if o29 then
      some ((api_Grid.mk 0 0 ([] : (List Bool))), 26)
    else
      Option.bind (F_grid_Same p1 p2) fun r44 =>
      if r44 then
        some ((api_Grid.mk 0 0 ([] : (List Bool))), 14)
      else
        Option.bind (quoI p0.W p1.W) fun z49 =>
        Option.bind (quoI p0.H p1.H) fun z51 =>
        Option.bind (α := List Bool ⊕ (api_Grid × Int)) (
          Option.bind (whileO (block_Profile_l2 z51 z49 p0 p1 p2) (0, ([] : List Bool))) fun z0 => match z0 with
            | .inl z =>
              some (.inr z)
            | .inr e68 =>
              some (.inl e68)) fun z0 => match z0 with
          | .inl o55 =>
            some ((api_Grid.mk z49 z51 o55), 0)
          | .inr z =>
            some z
def c_block_Profile_val (r : (api_Grid × Int)) (x : Value) : Value := .tuple #[x, .int .i64 r.2]
def c_block_Profile_D (r : (api_Grid × Int)) (x : Value) : List Fact := [fRep r_api_Grid x r.1]
set_option maxHeartbeats 4000000 in
set_option maxRecDepth 100000 in
theorem c_block_Profile (E : Nat → Prop) (w0 : World) (p0 : api_Grid) (v0 : Value) (p1 : api_Grid) (v1 : Value) (p2 : api_Grid) (v2 : Value) (r : (api_Grid × Int)) (h : F_block_Profile p0 p1 p2 = some r) (S : St0 E [] w0 w0 [] [fRep r_api_Grid (v0) p0, fRep r_api_Grid (v1) p1, fRep r_api_Grid (v2) p2]) :
    Calls Try.prog 15 #[v0, v1, v2] w0 (Ret (X := Value) E [] w0 (c_block_Profile_val r) (fun _ => []) (c_block_Profile_D r)) := by
  unfold F_block_Profile at h
  obtain ⟨u1, rfl, hu2⟩ := S.know (i := 0) (e := fRep r_api_Grid (v0) p0) rfl
  have S := S.learn (fRep (rL rB) u1 p0.Bits) hu2
  obtain ⟨ad3, cp4, _, rfl, _⟩ := hu2
  obtain ⟨u5, rfl, hu6⟩ := S.know (i := 2) (e := fRep r_api_Grid (v1) p1) rfl
  have S := S.learn (fRep (rL rB) u5 p1.Bits) hu6
  obtain ⟨ad7, cp8, _, rfl, _⟩ := hu6
  obtain ⟨u9, rfl, hu10⟩ := S.know (i := 4) (e := fRep r_api_Grid (v2) p2) rfl
  have S := S.learn (fRep (rL rB) u9 p2.Bits) hu10
  obtain ⟨ad11, cp12, _, rfl, _⟩ := hu10
  refine sEnter (args := [.agg #[iv p0.W, iv p0.H, .slice ad3 p0.Bits.length cp4], .agg #[iv p1.W, iv p1.H, .slice ad7 p1.Bits.length cp8], .agg #[iv p2.W, iv p2.H, .slice ad11 p2.Bits.length cp12]]) 98 Try.func15 rfl rfl (by simp) S (fun a S => ?_)
  refine sSeq (fun K13 hK13 => ?_)
  refine sRegion ?_
  refine sBox (v := .agg #[iv p0.W, iv p0.H, .slice ad3 p0.Bits.length cp4]) S (wN rfl) rfl rfl [iv p0.W, iv p0.H, .slice ad3 p0.Bits.length cp4] rfl rfl (lb rfl) fun a b14 w S => ?_
  refine sBox (v := .agg #[iv p1.W, iv p1.H, .slice ad7 p1.Bits.length cp8]) S (wN rfl) rfl rfl [iv p1.W, iv p1.H, .slice ad7 p1.Bits.length cp8] rfl rfl (lb rfl) fun a b15 w S => ?_
  refine sBox (v := .agg #[iv p2.W, iv p2.H, .slice ad11 p2.Bits.length cp12]) S (wN rfl) rfl rfl [iv p2.W, iv p2.H, .slice ad11 p2.Bits.length cp12] rfl rfl (lb rfl) fun a b16 w S => ?_
  refine sAlloc (.agg #[iv 0, iv 0, .slice none 0 0]) S (wN rfl) rfl rfl [iv 0, iv 0, .slice none 0 0] rfl rfl (lb rfl) fun a b17 w S => ?_
  refine sMove (iv 0) S (wN rfl) (.inr rfl) rfl rfl (lb rfl) fun a S => ?_
  refine leafL (leafT (hK13 _ _ ?_))
  refine sSeq (fun K18 hK18 => ?_)
  refine sSeq (fun K19 hK19 => ?_)
  refine sRegion ?_
  refine sLoadN (p := b14) (off := 0) (T := 24) (vs := [iv p0.W, iv p0.H, .slice ad3 p0.Bits.length cp4]) 3 [iv p0.W, iv p0.H, .slice ad3 p0.Bits.length cp4] S (wN rfl) rfl rfl rfl rfl rfl rfl rfl (lb rfl) fun a S => ?_
  refine sLoadN (p := b15) (off := 0) (T := 24) (vs := [iv p1.W, iv p1.H, .slice ad7 p1.Bits.length cp8]) 2 [iv p1.W, iv p1.H, .slice ad7 p1.Bits.length cp8] S (wN rfl) rfl rfl rfl rfl rfl rfl rfl (lb rfl) fun a S => ?_
  refine sLoadN (p := b16) (off := 0) (T := 24) (vs := [iv p2.W, iv p2.H, .slice ad11 p2.Bits.length cp12]) 1 [iv p2.W, iv p2.H, .slice ad11 p2.Bits.length cp12] S (wN rfl) rfl rfl rfl rfl rfl rfl rfl (lb rfl) fun a S => ?_
  refine sLit (r := r_api_Grid) (T := 24) (xs := [p0, p1, p2]) [(0, .agg #[iv p0.W, iv p0.H, .slice ad3 p0.Bits.length cp4]), (1, .agg #[iv p1.W, iv p1.H, .slice ad7 p1.Bits.length cp8]), (2, .agg #[iv p2.W, iv p2.H, .slice ad11 p2.Bits.length cp12])] 3 [.agg #[iv p0.W, iv p0.H, .slice ad3 p0.Bits.length cp4], .agg #[iv p1.W, iv p1.H, .slice ad7 p1.Bits.length cp8], .agg #[iv p2.W, iv p2.H, .slice ad11 p2.Bits.length cp12]] [iv p0.W, iv p0.H, .slice ad3 p0.Bits.length cp4, iv p1.W, iv p1.H, .slice ad7 p1.Bits.length cp8, iv p2.W, iv p2.H, .slice ad11 p2.Bits.length cp12] (.agg #[iv 0, iv 0, .slice none 0 0]) 40 S (wN rfl) rfl rfl Try.underlying34 rfl (by decide) (by decide) (by kernel_rfl) rfl (fun E1 w1 hE => All.cons (r_api_Grid.mono hE (S.mem.know (i := 3) (e := fRep r_api_Grid (.agg #[iv p0.W, iv p0.H, .slice ad3 p0.Bits.length cp4]) p0) rfl)) (All.cons (r_api_Grid.mono hE (S.mem.know (i := 4) (e := fRep r_api_Grid (.agg #[iv p1.W, iv p1.H, .slice ad7 p1.Bits.length cp8]) p1) rfl)) (All.cons (r_api_Grid.mono hE (S.mem.know (i := 5) (e := fRep r_api_Grid (.agg #[iv p2.W, iv p2.H, .slice ad11 p2.Bits.length cp12]) p2) rfl)) (All.nil _ _ _)))) rfl rfl (lb rfl) fun a w ad20 cp21 S => ?_
  obtain ⟨r22, hx23, h⟩ := bindSome h
  have S1 := S.mem
  have S1 := S1.shutR (r := r_api_Grid) (T := 24) (v := .slice ad20 [p0, p1, p2].length cp21) (xs := [p0, p1, p2]) 0 rfl
  refine sCallQ (X := Unit) (f := 41) (vs := [.slice ad20 [p0, p1, p2].length cp21]) (val := fun _ => iv r22) S (wN rfl) rfl callee41 rfl (S1.quiet [0] rfl) (fun E1 w1 S1 => c_block_checked E1 w1 [p0, p1, p2] (.slice ad20 [p0, p1, p2].length cp21) r22 hx23 S1) rfl (lb rfl) fun _ a w S => ?_
  refine sMove (iv r22) S (wN rfl) (.inr rfl) rfl rfl (lb rfl) fun a S => ?_
  refine leafL (leafT (hK19 _ _ ?_))
  refine sSeq (fun K24 hK24 => ?_)
  refine sRegion ?_
  refine sMove (iv r22) S (wN rfl) (.inl rfl) rfl rfl (lb rfl) fun a S => ?_
  refine sBin (.bool (r22 != 0)) S (wN rfl) rfl rfl rfl (bNe _ _ _ _ .i64 r22 0) rfl (lb rfl) fun a S => ?_
  refine leafL (leafT (hK24 _ _ ?_))
  rcases iteSome h with ⟨hc25, h⟩ | ⟨hc25, h⟩
  · refine sCondT S rfl hc25 ?_
    refine sSeq (fun K26 hK26 => ?_)
    refine sRegion ?_
    refine sBuild [] [iv 0, iv 0, .slice none 0 0] S (wN rfl) rfl rfl rfl rfl (lb rfl) fun a S => ?_
    refine sMove (iv r22) S (wN rfl) (.inl rfl) rfl rfl (lb rfl) fun a S => ?_
    refine sStore (p := b17) (off := 0) (T := 24) (vs := [iv 0, iv 0, .slice none 0 0]) (v := .agg #[iv 0, iv 0, .slice none 0 0]) 1 [iv 0, iv 0, .slice none 0 0] S (wN rfl) rfl rfl rfl rfl rfl rfl rfl (by simp) rfl fun a w S => ?_
    refine sMove (iv r22) S (wN rfl) (.inr rfl) rfl rfl (lb rfl) fun a S => ?_
    refine leafL (leafT (hK26 _ _ ?_))
    obtain rfl := Option.some.inj h
    have S := S.learn (fRep (rL rB) (.slice none 0 0) ([] : (List Bool))) (rL_nil _ _ _)
    have S := S.learn (fRep r_api_Grid (.agg #[iv 0, iv 0, .slice none 0 0]) (api_Grid.mk 0 0 ([] : (List Bool)))) ⟨_, rfl, S.mem.know (i := 0) (e := fRep (rL rB) (.slice none 0 0) ([] : (List Bool))) rfl⟩
    exact wp_ret (rThen (sRet (.tuple #[.agg #[iv 0, iv 0, .slice none 0 0], iv r22]) S (rsl2 rfl (rvN (c := 6) (t := 24) (T := 24) (p := b17) 0 [iv 0, iv 0, .slice none 0 0] S rfl rfl rfl rfl) (rvT (t := 7) (v := iv r22) S rfl)) ⟨(.agg #[iv 0, iv 0, .slice none 0 0]), rfl, S.mem.sel [] [0] (by decide) rfl rfl⟩))
  refine sCondF S rfl hc25 ?_
  refine wp_skip (leafT (hK18 _ _ ?_))
  refine sSeq (fun K27 hK27 => ?_)
  refine sDraw (nf := []) (W := [(0, 25, .pointer (some ⟨b15, 0, none⟩)), (1, 26, iv p1.W), (2, 27, .pointer (some ⟨b15, 1, none⟩)), (3, 28, iv p1.H), (4, 9, iv p1.W), (5, 10, iv p1.H)]) rfl S ?_
  refine node_by (A := [[], [0], [], [2], [0, 1], [0, 1, 2, 3, 4]]) (nf := []) (Y := []) (W := [(0, 25, .pointer (some ⟨b15, 0, none⟩)), (1, 26, iv p1.W), (2, 27, .pointer (some ⟨b15, 1, none⟩)), (3, 28, iv p1.H), (4, 9, iv p1.W), (5, 10, iv p1.H)]) 6 (by kernel_rfl) (by kernel_rfl) (by kernel_rfl) (by kernel_rfl) (by kernel_rfl) [0, 1, 2, 3, 4, 5] (by kernel_rfl) (by decide) (by decide) (aF 0 5 (by decide) ?_ (aF 1 4 (by decide) ?_ (aF 2 3 (by decide) ?_ (aF 3 2 (by decide) ?_ (aF 4 1 (by decide) ?_ (aF 5 0 (by decide) ?_ (trivial))))))) [(3, .pointer (some ⟨b14, 0, none⟩)), (4, .pointer (some ⟨b15, 0, none⟩)), (5, .pointer (some ⟨b16, 0, none⟩)), (6, .pointer (some ⟨b17, 0, none⟩)), (9, iv p1.W), (10, iv p1.H)] (fin_of [none, none, none, none, some 4, some 5] rfl (by kernel_rfl) (by kernel_rfl)) (fun _ a w S => ?_)
  · refine fI 25 (.pointer (some ⟨b15, 0, none⟩)) [(4, .pointer (some ⟨b15, 0, none⟩))] 0 [none] rfl rfl rfl rfl rfl rfl fun G a w S => ?_
    refine sField (b := b15) (off := 0) 0 0 S (wN rfl) rfl rfl rfl rfl rfl (lb rfl) fun a S => ?_
    exact leafL ⟨rfl, S⟩
  · refine fI 26 (iv p1.W) [(25, .pointer (some ⟨b15, 0, none⟩))] 1 [some 0] rfl rfl rfl rfl rfl rfl fun G a w S => ?_
    refine sLoad1 (p := b15) (off := 0) (T := 24) (vs := [iv p1.W, iv p1.H, .slice ad7 p1.Bits.length cp8]) 3 (iv p1.W) S (wN rfl) rfl rfl rfl rfl rfl rfl (lb rfl) fun a S => ?_
    exact leafL ⟨rfl, S⟩
  · refine fI 27 (.pointer (some ⟨b15, 1, none⟩)) [(4, .pointer (some ⟨b15, 0, none⟩))] 2 [none] rfl rfl rfl rfl rfl rfl fun G a w S => ?_
    refine sField (b := b15) (off := 0) 1 1 S (wN rfl) rfl rfl rfl rfl rfl (lb rfl) fun a S => ?_
    exact leafL ⟨rfl, S⟩
  · refine fI 28 (iv p1.H) [(27, .pointer (some ⟨b15, 1, none⟩))] 3 [some 2] rfl rfl rfl rfl rfl rfl fun G a w S => ?_
    refine sLoad1 (p := b15) (off := 1) (T := 24) (vs := [iv p1.W, iv p1.H, .slice ad7 p1.Bits.length cp8]) 3 (iv p1.H) S (wN rfl) rfl rfl rfl rfl rfl rfl (lb rfl) fun a S => ?_
    exact leafL ⟨rfl, S⟩
  · refine fI 9 (iv p1.W) [(26, iv p1.W)] 4 [some 1] rfl rfl rfl rfl rfl rfl fun G a w S => ?_
    refine sMove (iv p1.W) S (wN rfl) (.inr rfl) rfl rfl (lb rfl) fun a S => ?_
    exact leafL ⟨rfl, S⟩
  · refine fI 10 (iv p1.H) [(28, iv p1.H)] 5 [some 3] rfl rfl rfl rfl rfl rfl fun G a w S => ?_
    refine sMove (iv p1.H) S (wN rfl) (.inr rfl) rfl rfl (lb rfl) fun a S => ?_
    exact leafL ⟨rfl, S⟩
  refine leafT (hK27 _ _ ?_)
  refine sSeq (fun K28 hK28 => ?_)
  obtain ⟨t30, h, g31⟩ := bindSome h
  refine sCut (fun a w => ∃ o29, o29 = t30 ∧ St [] E [] w0 98 a w [(3, .pointer (some ⟨b14, 0, none⟩)), (4, .pointer (some ⟨b15, 0, none⟩)), (5, .pointer (some ⟨b16, 0, none⟩)), (6, .pointer (some ⟨b17, 0, none⟩)), (9, iv p1.W), (10, iv p1.H), (46, .bool o29)] [eBox b14 24 [iv p0.W, iv p0.H, .slice ad3 p0.Bits.length cp4], eBox b15 24 [iv p1.W, iv p1.H, .slice ad7 p1.Bits.length cp8], eBox b16 24 [iv p2.W, iv p2.H, .slice ad11 p2.Bits.length cp12], eBox b17 24 [iv 0, iv 0, .slice none 0 0]] [fRep (rL rB) (.slice ad3 p0.Bits.length cp4) p0.Bits, fRep (rL rB) (.slice ad7 p1.Bits.length cp8) p1.Bits, fRep (rL rB) (.slice ad11 p2.Bits.length cp12) p2.Bits]) ?_ (fun a w hI => ?_)
  · refine sRegion ?_
    refine sLoadN (p := b15) (off := 0) (T := 24) (vs := [iv p1.W, iv p1.H, .slice ad7 p1.Bits.length cp8]) 3 [iv p1.W, iv p1.H, .slice ad7 p1.Bits.length cp8] S (wN rfl) rfl rfl rfl rfl rfl rfl rfl (lb rfl) fun a S => ?_
    refine sLoadN (p := b16) (off := 0) (T := 24) (vs := [iv p2.W, iv p2.H, .slice ad11 p2.Bits.length cp12]) 2 [iv p2.W, iv p2.H, .slice ad11 p2.Bits.length cp12] S (wN rfl) rfl rfl rfl rfl rfl rfl rfl (lb rfl) fun a S => ?_
    obtain ⟨r32, hx33, h⟩ := bindSome h
    have S1 := S.mem
    refine sCallQ (X := Unit) (f := 42) (vs := [.agg #[iv p1.W, iv p1.H, .slice ad7 p1.Bits.length cp8], .agg #[iv p2.W, iv p2.H, .slice ad11 p2.Bits.length cp12]]) (val := fun _ => .bool r32) S (wN rfl) rfl callee42 rfl (S1.quiet [4, 5] rfl) (fun E1 w1 S1 => c_block_alike E1 w1 p1 (.agg #[iv p1.W, iv p1.H, .slice ad7 p1.Bits.length cp8]) p2 (.agg #[iv p2.W, iv p2.H, .slice ad11 p2.Bits.length cp12]) r32 hx33 S1) rfl (lb rfl) fun _ a w S => ?_
    refine sNot (b := r32) S (wN rfl) rfl rfl rfl (lb rfl) fun a S => ?_
    refine sMove (.bool (!r32)) S (wN rfl) (.inl rfl) rfl rfl (lb rfl) fun a S => ?_
    rcases iteSome h with ⟨hc34, h⟩ | ⟨hc34, h⟩
    · refine sSkip 4 false 33 34 S rfl rfl rfl hc34 rfl (lb rfl) fun a S => ?_
      refine sSkip 4 false 33 35 S rfl rfl rfl hc34 rfl (lb rfl) fun a S => ?_
      refine sSkip 4 false 33 36 S rfl rfl rfl hc34 rfl (lb rfl) fun a S => ?_
      refine sSkip 4 false 33 37 S rfl rfl rfl hc34 rfl (lb rfl) fun a S => ?_
      refine sSkip 4 false 33 38 S rfl rfl rfl hc34 rfl (lb rfl) fun a S => ?_
      refine sPickT (.bool true) S (wN rfl) rfl rfl hc34 rfl rfl (lb rfl) fun a S => ?_
      refine sMove (.bool true) S (wN rfl) (.inl rfl) rfl rfl (lb rfl) fun a S => ?_
      refine sSkip 11 false 40 41 S rfl rfl rfl rfl rfl (lb rfl) fun a S => ?_
      refine sSkip 11 false 40 42 S rfl rfl rfl rfl rfl (lb rfl) fun a S => ?_
      refine sSkip 11 false 40 43 S rfl rfl rfl rfl rfl (lb rfl) fun a S => ?_
      refine sSkip 11 false 40 44 S rfl rfl rfl rfl rfl (lb rfl) fun a S => ?_
      refine sSkip 11 false 40 45 S rfl rfl rfl rfl rfl (lb rfl) fun a S => ?_
      refine sPickT (.bool true) S (wN rfl) rfl rfl rfl rfl rfl (lb rfl) fun a S => ?_
      exact leafL (leafT (⟨true, Option.some.inj h, S.fix [4, 3, 2, 1] [2, 1, 0] (by decide) rfl rfl rfl⟩))
    refine sField (b := b14) (off := 0) 0 0 S (wG 4 false 33 rfl rfl rfl hc34) rfl rfl rfl rfl rfl (lb rfl) fun a S => ?_
    refine sLoad1 (p := b14) (off := 0) (T := 24) (vs := [iv p0.W, iv p0.H, .slice ad3 p0.Bits.length cp4]) 4 (iv p0.W) S (wG 4 false 33 rfl rfl rfl hc34) rfl rfl rfl rfl rfl rfl (lb rfl) fun a S => ?_
    refine sMove (iv p1.W) S (wG 4 false 33 rfl rfl rfl hc34) (.inl rfl) rfl rfl (lb rfl) fun a S => ?_
    obtain ⟨z35, hx36, h⟩ := bindSome h
    refine sBin (iv z35) S (wG 4 false 33 rfl rfl rfl hc34) rfl rfl rfl (bRem _ _ _ _ (x := p0.W) (y := p1.W) hx36) rfl (lb rfl) fun a S => ?_
    refine sBin (.bool (z35 != 0)) S (wG 4 false 33 rfl rfl rfl hc34) rfl rfl rfl (bNe _ _ _ _ .i64 z35 0) rfl (lb rfl) fun a S => ?_
    refine sPickF (.bool (z35 != 0)) S (wN rfl) rfl rfl hc34 rfl rfl (lb rfl) fun a S => ?_
    refine sMove (.bool (z35 != 0)) S (wN rfl) (.inl rfl) rfl rfl (lb rfl) fun a S => ?_
    rcases iteSome h with ⟨hc37, h⟩ | ⟨hc37, h⟩
    · refine sSkip 11 false 40 41 S rfl rfl rfl hc37 rfl (lb rfl) fun a S => ?_
      refine sSkip 11 false 40 42 S rfl rfl rfl hc37 rfl (lb rfl) fun a S => ?_
      refine sSkip 11 false 40 43 S rfl rfl rfl hc37 rfl (lb rfl) fun a S => ?_
      refine sSkip 11 false 40 44 S rfl rfl rfl hc37 rfl (lb rfl) fun a S => ?_
      refine sSkip 11 false 40 45 S rfl rfl rfl hc37 rfl (lb rfl) fun a S => ?_
      refine sPickT (.bool true) S (wN rfl) rfl rfl hc37 rfl rfl (lb rfl) fun a S => ?_
      exact leafL (leafT (⟨true, Option.some.inj h, S.fix [4, 3, 2, 1] [2, 1, 0] (by decide) rfl rfl rfl⟩))
    refine sField (b := b14) (off := 0) 1 1 S (wG 11 false 40 rfl rfl rfl hc37) rfl rfl rfl rfl rfl (lb rfl) fun a S => ?_
    refine sLoad1 (p := b14) (off := 1) (T := 24) (vs := [iv p0.W, iv p0.H, .slice ad3 p0.Bits.length cp4]) 4 (iv p0.H) S (wG 11 false 40 rfl rfl rfl hc37) rfl rfl rfl rfl rfl rfl (lb rfl) fun a S => ?_
    refine sMove (iv p1.H) S (wG 11 false 40 rfl rfl rfl hc37) (.inl rfl) rfl rfl (lb rfl) fun a S => ?_
    obtain ⟨z38, hx39, h⟩ := bindSome h
    refine sBin (iv z38) S (wG 11 false 40 rfl rfl rfl hc37) rfl rfl rfl (bRem _ _ _ _ (x := p0.H) (y := p1.H) hx39) rfl (lb rfl) fun a S => ?_
    refine sBin (.bool (z38 != 0)) S (wG 11 false 40 rfl rfl rfl hc37) rfl rfl rfl (bNe _ _ _ _ .i64 z38 0) rfl (lb rfl) fun a S => ?_
    refine sPickF (.bool (z38 != 0)) S (wN rfl) rfl rfl hc37 rfl rfl (lb rfl) fun a S => ?_
    exact leafL (leafT (⟨z38 != 0, Option.some.inj h, S.fix [4, 3, 2, 1] [2, 1, 0] (by decide) rfl rfl rfl⟩))
  obtain ⟨o29, rfl, S⟩ := hI
  have h := g31
  clear g31
  try dsimp only at h
  rcases iteSome h with ⟨hc40, h⟩ | ⟨hc40, h⟩
  · refine sCondT S rfl hc40 ?_
    refine sSeq (fun K41 hK41 => ?_)
    refine sRegion ?_
    refine sBuild [] [iv 0, iv 0, .slice none 0 0] S (wN rfl) rfl rfl rfl rfl (lb rfl) fun a S => ?_
    refine sStore (p := b17) (off := 0) (T := 24) (vs := [iv 0, iv 0, .slice none 0 0]) (v := .agg #[iv 0, iv 0, .slice none 0 0]) 3 [iv 0, iv 0, .slice none 0 0] S (wN rfl) rfl rfl rfl rfl rfl rfl rfl (by simp) rfl fun a w S => ?_
    refine sMove (iv 26) S (wN rfl) (.inr rfl) rfl rfl (lb rfl) fun a S => ?_
    refine leafL (leafT (hK41 _ _ ?_))
    obtain rfl := Option.some.inj h
    have S := S.learn (fRep (rL rB) (.slice none 0 0) ([] : (List Bool))) (rL_nil _ _ _)
    have S := S.learn (fRep r_api_Grid (.agg #[iv 0, iv 0, .slice none 0 0]) (api_Grid.mk 0 0 ([] : (List Bool)))) ⟨_, rfl, S.mem.know (i := 0) (e := fRep (rL rB) (.slice none 0 0) ([] : (List Bool))) rfl⟩
    exact wp_ret (rThen (sRet (.tuple #[.agg #[iv 0, iv 0, .slice none 0 0], iv 26]) S (rsl2 rfl (rvN (c := 6) (t := 24) (T := 24) (p := b17) 0 [iv 0, iv 0, .slice none 0 0] S rfl rfl rfl rfl) (rvT (t := 7) (v := iv 26) S rfl)) ⟨(.agg #[iv 0, iv 0, .slice none 0 0]), rfl, S.mem.sel [] [0] (by decide) rfl rfl⟩))
  refine sCondF S rfl hc40 ?_
  refine wp_skip (leafT (hK28 _ _ ?_))
  refine sSeq (fun K42 hK42 => ?_)
  refine sSeq (fun K43 hK43 => ?_)
  refine sRegion ?_
  refine sLoadN (p := b15) (off := 0) (T := 24) (vs := [iv p1.W, iv p1.H, .slice ad7 p1.Bits.length cp8]) 1 [iv p1.W, iv p1.H, .slice ad7 p1.Bits.length cp8] S (wN rfl) rfl rfl rfl rfl rfl rfl rfl (lb rfl) fun a S => ?_
  refine sLoadN (p := b16) (off := 0) (T := 24) (vs := [iv p2.W, iv p2.H, .slice ad11 p2.Bits.length cp12]) 2 [iv p2.W, iv p2.H, .slice ad11 p2.Bits.length cp12] S (wN rfl) rfl rfl rfl rfl rfl rfl rfl (lb rfl) fun a S => ?_
  obtain ⟨r44, hx45, h⟩ := bindSome h
  have S1 := S.mem
  have S1 := S1.learn (fRep r_api_Grid (.agg #[iv p1.W, iv p1.H, .slice ad7 p1.Bits.length cp8]) p1) ⟨_, rfl, S1.know (i := 1) (e := fRep (rL rB) (.slice ad7 p1.Bits.length cp8) p1.Bits) rfl⟩
  have S1 := S1.learn (fRep r_api_Grid (.agg #[iv p2.W, iv p2.H, .slice ad11 p2.Bits.length cp12]) p2) ⟨_, rfl, S1.know (i := 3) (e := fRep (rL rB) (.slice ad11 p2.Bits.length cp12) p2.Bits) rfl⟩
  refine sCallQ (X := Unit) (f := 48) (vs := [.agg #[iv p1.W, iv p1.H, .slice ad7 p1.Bits.length cp8], .agg #[iv p2.W, iv p2.H, .slice ad11 p2.Bits.length cp12]]) (val := fun _ => .bool r44) S (wN rfl) rfl callee48 rfl (S1.quiet [1, 0] rfl) (fun E1 w1 S1 => c_grid_Same E1 w1 p1 (.agg #[iv p1.W, iv p1.H, .slice ad7 p1.Bits.length cp8]) p2 (.agg #[iv p2.W, iv p2.H, .slice ad11 p2.Bits.length cp12]) r44 hx45 S1) rfl (lb rfl) fun _ a w S => ?_
  refine leafL (leafT (hK43 _ _ ?_))
  rcases iteSome h with ⟨hc46, h⟩ | ⟨hc46, h⟩
  · refine sCondT S rfl hc46 ?_
    refine sSeq (fun K47 hK47 => ?_)
    refine sRegion ?_
    refine sBuild [] [iv 0, iv 0, .slice none 0 0] S (wN rfl) rfl rfl rfl rfl (lb rfl) fun a S => ?_
    refine sStore (p := b17) (off := 0) (T := 24) (vs := [iv 0, iv 0, .slice none 0 0]) (v := .agg #[iv 0, iv 0, .slice none 0 0]) 3 [iv 0, iv 0, .slice none 0 0] S (wN rfl) rfl rfl rfl rfl rfl rfl rfl (by simp) rfl fun a w S => ?_
    refine sMove (iv 14) S (wN rfl) (.inr rfl) rfl rfl (lb rfl) fun a S => ?_
    refine leafL (leafT (hK47 _ _ ?_))
    obtain rfl := Option.some.inj h
    have S := S.learn (fRep (rL rB) (.slice none 0 0) ([] : (List Bool))) (rL_nil _ _ _)
    have S := S.learn (fRep r_api_Grid (.agg #[iv 0, iv 0, .slice none 0 0]) (api_Grid.mk 0 0 ([] : (List Bool)))) ⟨_, rfl, S.mem.know (i := 0) (e := fRep (rL rB) (.slice none 0 0) ([] : (List Bool))) rfl⟩
    exact wp_ret (rThen (sRet (.tuple #[.agg #[iv 0, iv 0, .slice none 0 0], iv 14]) S (rsl2 rfl (rvN (c := 6) (t := 24) (T := 24) (p := b17) 0 [iv 0, iv 0, .slice none 0 0] S rfl rfl rfl rfl) (rvT (t := 7) (v := iv 14) S rfl)) ⟨(.agg #[iv 0, iv 0, .slice none 0 0]), rfl, S.mem.sel [] [0] (by decide) rfl rfl⟩))
  refine sCondF S rfl hc46 ?_
  refine wp_skip (leafT (hK42 _ _ ?_))
  refine sSeq (fun K48 hK48 => ?_)
  obtain ⟨z49, hx50, h⟩ := bindSome h
  obtain ⟨z51, hx52, h⟩ := bindSome h
  refine sDraw (nf := [9, 10]) (W := [(0, 52, .pointer (some ⟨b14, 0, none⟩)), (1, 53, iv p0.W), (2, 54, iv p1.W), (3, 55, iv z49), (4, 56, .pointer (some ⟨b14, 1, none⟩)), (5, 57, iv p0.H), (6, 58, iv p1.H), (7, 59, iv z51), (8, 60, .agg #[iv z49, iv z51, .slice none 0 0])]) rfl S ?_
  refine node_by (A := anc_block_Profile_0) (nf := [9, 10]) (Y := []) (W := [(0, 52, .pointer (some ⟨b14, 0, none⟩)), (1, 53, iv p0.W), (2, 54, iv p1.W), (3, 55, iv z49), (4, 56, .pointer (some ⟨b14, 1, none⟩)), (5, 57, iv p0.H), (6, 58, iv p1.H), (7, 59, iv z51), (8, 60, .agg #[iv z49, iv z51, .slice none 0 0])]) 11 (by kernel_rfl) (by kernel_rfl) (by kernel_rfl) (by kernel_rfl) (by kernel_rfl) [0, 1, 2, 3, 4, 5, 6, 7, 8] (by kernel_rfl) (by decide) (by decide) (aF 0 10 (by decide) ?_ (aF 1 9 (by decide) ?_ (aF 2 8 (by decide) ?_ (aF 3 7 (by decide) ?_ (aF 4 6 (by decide) ?_ (aF 5 5 (by decide) ?_ (aF 6 4 (by decide) ?_ (aF 7 3 (by decide) ?_ (aF 8 2 (by decide) ?_ (aN 9 1 (by decide) ?_ (aB 10 0 9 (by decide) (trivial)))))))))))) [] (fun q hq => by cases hq) (fun hY => absurd (hY 9 (by decide)) (by decide))
  · refine fI 52 (.pointer (some ⟨b14, 0, none⟩)) [(3, .pointer (some ⟨b14, 0, none⟩))] 0 [none] rfl rfl rfl rfl rfl rfl fun G a w S => ?_
    refine sField (b := b14) (off := 0) 0 0 S (wN rfl) rfl rfl rfl rfl rfl (lb rfl) fun a S => ?_
    exact leafL ⟨rfl, S⟩
  · refine fI 53 (iv p0.W) [(52, .pointer (some ⟨b14, 0, none⟩))] 1 [some 0] rfl rfl rfl rfl rfl rfl fun G a w S => ?_
    refine sLoad1 (p := b14) (off := 0) (T := 24) (vs := [iv p0.W, iv p0.H, .slice ad3 p0.Bits.length cp4]) 0 (iv p0.W) S (wN rfl) rfl rfl rfl rfl rfl rfl (lb rfl) fun a S => ?_
    exact leafL ⟨rfl, S⟩
  · refine fI 54 (iv p1.W) [(9, iv p1.W)] 2 [none] rfl rfl rfl rfl rfl rfl fun G a w S => ?_
    refine sMove (iv p1.W) S (wN rfl) (.inl rfl) rfl rfl (lb rfl) fun a S => ?_
    exact leafL ⟨rfl, S⟩
  · refine fI 55 (iv z49) [(53, iv p0.W), (54, iv p1.W)] 3 [some 1, some 2] rfl rfl rfl rfl rfl rfl fun G a w S => ?_
    refine sBin (iv z49) S (wN rfl) rfl rfl rfl (bQuo _ _ _ _ (x := p0.W) (y := p1.W) hx50) rfl (lb rfl) fun a S => ?_
    exact leafL ⟨rfl, S⟩
  · refine fI 56 (.pointer (some ⟨b14, 1, none⟩)) [(3, .pointer (some ⟨b14, 0, none⟩))] 4 [none] rfl rfl rfl rfl rfl rfl fun G a w S => ?_
    refine sField (b := b14) (off := 0) 1 1 S (wN rfl) rfl rfl rfl rfl rfl (lb rfl) fun a S => ?_
    exact leafL ⟨rfl, S⟩
  · refine fI 57 (iv p0.H) [(56, .pointer (some ⟨b14, 1, none⟩))] 5 [some 4] rfl rfl rfl rfl rfl rfl fun G a w S => ?_
    refine sLoad1 (p := b14) (off := 1) (T := 24) (vs := [iv p0.W, iv p0.H, .slice ad3 p0.Bits.length cp4]) 0 (iv p0.H) S (wN rfl) rfl rfl rfl rfl rfl rfl (lb rfl) fun a S => ?_
    exact leafL ⟨rfl, S⟩
  · refine fI 58 (iv p1.H) [(10, iv p1.H)] 6 [none] rfl rfl rfl rfl rfl rfl fun G a w S => ?_
    refine sMove (iv p1.H) S (wN rfl) (.inl rfl) rfl rfl (lb rfl) fun a S => ?_
    exact leafL ⟨rfl, S⟩
  · refine fI 59 (iv z51) [(57, iv p0.H), (58, iv p1.H)] 7 [some 5, some 6] rfl rfl rfl rfl rfl rfl fun G a w S => ?_
    refine sBin (iv z51) S (wN rfl) rfl rfl rfl (bQuo _ _ _ _ (x := p0.H) (y := p1.H) hx52) rfl (lb rfl) fun a S => ?_
    exact leafL ⟨rfl, S⟩
  · refine fI 60 (.agg #[iv z49, iv z51, .slice none 0 0]) [(55, iv z49), (59, iv z51)] 8 [some 3, some 7] rfl rfl rfl rfl rfl rfl fun G a w S => ?_
    refine sBuild [(0, iv z49), (1, iv z51)] [iv z49, iv z51, .slice none 0 0] S (wN rfl) rfl rfl rfl rfl (lb rfl) fun a S => ?_
    exact leafL ⟨rfl, S⟩
  refine ⟨_, [], rfl, (srcs_of [] rfl rfl rfl), fun G a w S => ?_⟩
  refine sAlloc (.agg #[iv 0, iv 0, .slice none 0 0]) S (wN rfl) rfl rfl [iv 0, iv 0, .slice none 0 0] rfl rfl (lb rfl) fun a b54 w S => ?_
  refine leafL ⟨rfl, _, _, .inl ⟨11, (.pointer (some ⟨b54, 0, none⟩)), [], rfl, S, hz_of rfl, ?_⟩⟩
  refine node_by (A := anc_block_Profile_0) (nf := [9, 10]) (Y := [9]) 11 (by kernel_rfl) (by kernel_rfl) (by kernel_rfl) (by kernel_rfl) (by kernel_rfl) [9, 0, 1, 2, 3, 4, 5, 6, 7, 8] (by kernel_rfl) (by decide) (by decide) (aF 0 10 (by decide) ?_ (aF 1 9 (by decide) ?_ (aF 2 8 (by decide) ?_ (aF 3 7 (by decide) ?_ (aF 4 6 (by decide) ?_ (aF 5 5 (by decide) ?_ (aF 6 4 (by decide) ?_ (aF 7 3 (by decide) ?_ (aF 8 2 (by decide) ?_ (aY 9 1 (by decide) (aN 10 0 (by decide) ?_ (trivial)))))))))))) [] (fun q hq => by cases hq) (fun hY => absurd (hY 10 (by decide)) (by decide))
  · refine fI 52 (.pointer (some ⟨b14, 0, none⟩)) [(3, .pointer (some ⟨b14, 0, none⟩))] 1 [none] rfl rfl rfl rfl rfl rfl fun G a w S => ?_
    refine sField (b := b14) (off := 0) 0 0 S (wN rfl) rfl rfl rfl rfl rfl (lb rfl) fun a S => ?_
    exact leafL ⟨rfl, S⟩
  · refine fI 53 (iv p0.W) [(52, .pointer (some ⟨b14, 0, none⟩))] 2 [some 1] rfl rfl rfl rfl rfl rfl fun G a w S => ?_
    refine sLoad1 (p := b14) (off := 0) (T := 24) (vs := [iv p0.W, iv p0.H, .slice ad3 p0.Bits.length cp4]) 1 (iv p0.W) S (wN rfl) rfl rfl rfl rfl rfl rfl (lb rfl) fun a S => ?_
    exact leafL ⟨rfl, S⟩
  · refine fI 54 (iv p1.W) [(9, iv p1.W)] 3 [none] rfl rfl rfl rfl rfl rfl fun G a w S => ?_
    refine sMove (iv p1.W) S (wN rfl) (.inl rfl) rfl rfl (lb rfl) fun a S => ?_
    exact leafL ⟨rfl, S⟩
  · refine fI 55 (iv z49) [(53, iv p0.W), (54, iv p1.W)] 4 [some 2, some 3] rfl rfl rfl rfl rfl rfl fun G a w S => ?_
    refine sBin (iv z49) S (wN rfl) rfl rfl rfl (bQuo _ _ _ _ (x := p0.W) (y := p1.W) hx50) rfl (lb rfl) fun a S => ?_
    exact leafL ⟨rfl, S⟩
  · refine fI 56 (.pointer (some ⟨b14, 1, none⟩)) [(3, .pointer (some ⟨b14, 0, none⟩))] 5 [none] rfl rfl rfl rfl rfl rfl fun G a w S => ?_
    refine sField (b := b14) (off := 0) 1 1 S (wN rfl) rfl rfl rfl rfl rfl (lb rfl) fun a S => ?_
    exact leafL ⟨rfl, S⟩
  · refine fI 57 (iv p0.H) [(56, .pointer (some ⟨b14, 1, none⟩))] 6 [some 5] rfl rfl rfl rfl rfl rfl fun G a w S => ?_
    refine sLoad1 (p := b14) (off := 1) (T := 24) (vs := [iv p0.W, iv p0.H, .slice ad3 p0.Bits.length cp4]) 1 (iv p0.H) S (wN rfl) rfl rfl rfl rfl rfl rfl (lb rfl) fun a S => ?_
    exact leafL ⟨rfl, S⟩
  · refine fI 58 (iv p1.H) [(10, iv p1.H)] 7 [none] rfl rfl rfl rfl rfl rfl fun G a w S => ?_
    refine sMove (iv p1.H) S (wN rfl) (.inl rfl) rfl rfl (lb rfl) fun a S => ?_
    exact leafL ⟨rfl, S⟩
  · refine fI 59 (iv z51) [(57, iv p0.H), (58, iv p1.H)] 8 [some 6, some 7] rfl rfl rfl rfl rfl rfl fun G a w S => ?_
    refine sBin (iv z51) S (wN rfl) rfl rfl rfl (bQuo _ _ _ _ (x := p0.H) (y := p1.H) hx52) rfl (lb rfl) fun a S => ?_
    exact leafL ⟨rfl, S⟩
  · refine fI 60 (.agg #[iv z49, iv z51, .slice none 0 0]) [(55, iv z49), (59, iv z51)] 9 [some 4, some 8] rfl rfl rfl rfl rfl rfl fun G a w S => ?_
    refine sBuild [(0, iv z49), (1, iv z51)] [iv z49, iv z51, .slice none 0 0] S (wN rfl) rfl rfl rfl rfl (lb rfl) fun a S => ?_
    exact leafL ⟨rfl, S⟩
  refine ⟨_, [(11, .pointer (some ⟨b54, 0, none⟩)), (60, .agg #[iv z49, iv z51, .slice none 0 0])], rfl, (srcs_of [some 0, some 9] rfl rfl rfl), fun G a w S => ?_⟩
  refine sStore (p := b54) (off := 0) (T := 24) (vs := [iv 0, iv 0, .slice none 0 0]) (v := .agg #[iv z49, iv z51, .slice none 0 0]) 0 [iv z49, iv z51, .slice none 0 0] S (wN rfl) rfl rfl rfl rfl rfl rfl rfl (by simp) rfl fun a w S => ?_
  refine leafL ⟨rfl, _, _, .inr ⟨[], rfl, S, hz_of rfl, ?_⟩⟩
  refine node_by (A := anc_block_Profile_0) (nf := [9, 10]) (Y := [10, 9]) 11 (by kernel_rfl) (by kernel_rfl) (by kernel_rfl) (by kernel_rfl) (by kernel_rfl) [9, 0, 1, 2, 3, 4, 5, 6, 7, 8] (by kernel_rfl) (by decide) (by decide) (aD 0 10 10 (by decide) (aD 1 9 10 (by decide) (aD 2 8 10 (by decide) (aD 3 7 10 (by decide) (aD 4 6 10 (by decide) (aD 5 5 10 (by decide) (aD 6 4 10 (by decide) (aD 7 3 10 (by decide) (aD 8 2 10 (by decide) (aY 9 1 (by decide) (aY 10 0 (by decide) (trivial)))))))))))) [(3, .pointer (some ⟨b14, 0, none⟩)), (4, .pointer (some ⟨b15, 0, none⟩)), (5, .pointer (some ⟨b16, 0, none⟩)), (6, .pointer (some ⟨b17, 0, none⟩)), (9, iv p1.W), (10, iv p1.H), (11, .pointer (some ⟨b54, 0, none⟩))] (fin_of [none, none, none, none, none, none, some 0] rfl (by kernel_rfl) (by kernel_rfl)) (fun _ a w S => ?_)
  refine leafT (hK48 _ _ ?_)
  obtain ⟨t58, h, g59⟩ := bindSome h
  refine sCut (fun a w => ∃ o55, .inl o55 = t58 ∧ ∃ ad56, ∃ cp57, St [] E [] w0 98 a w [(6, .pointer (some ⟨b17, 0, none⟩)), (11, .pointer (some ⟨b54, 0, none⟩))] [eBox b17 24 [iv 0, iv 0, .slice none 0 0], eBox b54 24 [iv z49, iv z51, .slice ad56 o55.length cp57], eRow rB 4 (.slice ad56 o55.length cp57) o55] []) ?_ (fun a w hI => ?_)
  rotate_left
  · obtain ⟨o55, rfl, ad56, cp57, S⟩ := hI
    have h := g59
    clear g59
    try dsimp only at h
    refine sSeq (fun K123 hK123 => ?_)
    refine sRegion ?_
    refine sLoadN (p := b54) (off := 0) (T := 24) (vs := [iv z49, iv z51, .slice ad56 o55.length cp57]) 1 [iv z49, iv z51, .slice ad56 o55.length cp57] S (wN rfl) rfl rfl rfl rfl rfl rfl rfl (lb rfl) fun a S => ?_
    refine sStore (p := b17) (off := 0) (T := 24) (vs := [iv 0, iv 0, .slice none 0 0]) (v := .agg #[iv z49, iv z51, .slice ad56 o55.length cp57]) 0 [iv z49, iv z51, .slice ad56 o55.length cp57] S (wN rfl) rfl rfl rfl rfl rfl rfl rfl (by simp) rfl fun a w S => ?_
    refine sMove (iv 0) S (wN rfl) (.inr rfl) rfl rfl (lb rfl) fun a S => ?_
    refine leafL (leafT (hK123 _ _ ?_))
    obtain rfl := Option.some.inj h
    have S := S.shutR (r := rB) (T := 4) (v := .slice ad56 o55.length cp57) (xs := o55) 2 rfl
    have S := S.learn (fRep r_api_Grid (.agg #[iv z49, iv z51, .slice ad56 o55.length cp57]) (api_Grid.mk z49 z51 o55)) ⟨_, rfl, S.mem.know (i := 0) (e := fRep (rL rB) (.slice ad56 o55.length cp57) o55) rfl⟩
    exact wp_ret (sRet (.tuple #[.agg #[iv z49, iv z51, .slice ad56 o55.length cp57], iv 0]) S (rsl2 rfl (rvN (c := 6) (t := 24) (T := 24) (p := b17) 0 [iv z49, iv z51, .slice ad56 o55.length cp57] S rfl rfl rfl rfl) (rvT (t := 7) (v := iv 0) S rfl)) ⟨(.agg #[iv z49, iv z51, .slice ad56 o55.length cp57]), rfl, S.mem.sel [] [0] (by decide) rfl rfl⟩)
  refine sSeq (fun K60 hK60 => ?_)
  refine sRegion ?_
  refine sField (b := b54) (off := 0) 1 1 S (wN rfl) rfl rfl rfl rfl rfl (lb rfl) fun a S => ?_
  refine sLoad1 (p := b54) (off := 1) (T := 24) (vs := [iv z49, iv z51, .slice none 0 0]) 0 (iv z51) S (wN rfl) rfl rfl rfl rfl rfl rfl (lb rfl) fun a S => ?_
  refine sMove (iv 0) S (wN rfl) (.inl rfl) rfl rfl (lb rfl) fun a S => ?_
  refine leafL (leafT (hK60 _ _ ?_))
  refine wp_block ?_
  have S := S.nilRow rB 4 (α := Bool)
  obtain ⟨t67, hl, g66⟩ := bindSome h
  refine sLoop hl (fun s0 a w => match s0 with | (s61, s62) => ∃ ad63, ∃ cp64, St [] E [] w0 98 a w [(3, .pointer (some ⟨b14, 0, none⟩)), (4, .pointer (some ⟨b15, 0, none⟩)), (5, .pointer (some ⟨b16, 0, none⟩)), (6, .pointer (some ⟨b17, 0, none⟩)), (9, iv p1.W), (10, iv p1.H), (11, .pointer (some ⟨b54, 0, none⟩)), (62, iv z51), (63, iv s61)] [eBox b14 24 [iv p0.W, iv p0.H, .slice ad3 p0.Bits.length cp4], eBox b15 24 [iv p1.W, iv p1.H, .slice ad7 p1.Bits.length cp8], eBox b16 24 [iv p2.W, iv p2.H, .slice ad11 p2.Bits.length cp12], eBox b17 24 [iv 0, iv 0, .slice none 0 0], eBox b54 24 [iv z49, iv z51, .slice ad63 s62.length cp64], eRow rB 4 (.slice ad63 s62.length cp64) s62] [fRep (rL rB) (.slice ad3 p0.Bits.length cp4) p0.Bits, fRep (rL rB) (.slice ad7 p1.Bits.length cp8) p1.Bits, fRep (rL rB) (.slice ad11 p2.Bits.length cp12) p2.Bits]) ⟨none, 0, S.fix [2, 3, 4, 5, 1, 0] [0, 1, 2] (by decide) rfl rfl rfl⟩ ?_
  clear hl h
  intro s0 a w c0 hI h hu65
  obtain ⟨s61, s62⟩ := s0
  unfold block_Profile_l2 at h
  dsimp only at h hI
  obtain ⟨ad63, cp64, S⟩ := hI
  refine sSeq (fun K71 hK71 => ?_)
  refine sRegion ?_
  refine sBin (.bool (decide (s61 < z51))) S (wN rfl) rfl rfl rfl (bLt _ _ _ _ .i64 s61 z51) rfl (lb rfl) fun a S => ?_
  refine leafL (leafT (hK71 _ _ ?_))
  refine sSeq (fun K72 hK72 => ?_)
  rcases iteSome h with ⟨hc73, h⟩ | ⟨hc73, h⟩
  rotate_left
  · refine sCondF S rfl hc73 ?_
    obtain rfl := Option.some.inj h
    obtain rfl := hu65 _ rfl
    have h := g66
    clear g66
    try dsimp only at h
    exact wp_exit (xThen (xThen (xHit (leafT (⟨s62, Option.some.inj h, ad63, cp64, S.fix [3, 4, 5] [] (by decide) rfl rfl rfl⟩)))))
  refine sCondT S rfl hc73 ?_
  refine wp_skip (leafT (hK72 _ _ ?_))
  obtain ⟨t77, h, g78⟩ := bindSome h
  refine sCut (fun a w => ∃ o74, .inl o74 = t77 ∧ ∃ ad75, ∃ cp76, St [] E [] w0 98 a w [(3, .pointer (some ⟨b14, 0, none⟩)), (4, .pointer (some ⟨b15, 0, none⟩)), (5, .pointer (some ⟨b16, 0, none⟩)), (6, .pointer (some ⟨b17, 0, none⟩)), (9, iv p1.W), (10, iv p1.H), (11, .pointer (some ⟨b54, 0, none⟩)), (62, iv z51), (63, iv s61)] [eBox b14 24 [iv p0.W, iv p0.H, .slice ad3 p0.Bits.length cp4], eBox b15 24 [iv p1.W, iv p1.H, .slice ad7 p1.Bits.length cp8], eBox b16 24 [iv p2.W, iv p2.H, .slice ad11 p2.Bits.length cp12], eBox b17 24 [iv 0, iv 0, .slice none 0 0], eBox b54 24 [iv z49, iv z51, .slice ad75 o74.length cp76], eRow rB 4 (.slice ad75 o74.length cp76) o74] [fRep (rL rB) (.slice ad3 p0.Bits.length cp4) p0.Bits, fRep (rL rB) (.slice ad7 p1.Bits.length cp8) p1.Bits, fRep (rL rB) (.slice ad11 p2.Bits.length cp12) p2.Bits]) ?_ (fun a w hI => ?_)
  rotate_left
  · obtain ⟨o74, rfl, ad75, cp76, S⟩ := hI
    have h := g78
    clear g78
    try dsimp only at h
    refine sRegion ?_
    refine sBin (iv (w64 (s61 + 1))) S (wN rfl) rfl rfl rfl (bAdd _ _ _ _ s61 1) rfl (lb rfl) fun a S => ?_
    refine sMove (iv (w64 (s61 + 1))) S (wN rfl) (.inl rfl) rfl rfl (lb rfl) fun a S => ?_
    exact leafL (leafT (⟨(w64 (s61 + 1), o74), (Option.some.inj h).symm, ⟨ad75, cp76, S.fix [0, 1, 2, 3, 4, 5] [0, 1, 2] (by decide) rfl rfl rfl⟩⟩))
  refine wp_block ?_
  refine sSeq (fun K79 hK79 => ?_)
  refine sRegion ?_
  refine sMove (iv s61) S (wN rfl) (.inl rfl) rfl rfl (lb rfl) fun a S => ?_
  refine sMove (iv s61) S (wN rfl) (.inr rfl) rfl rfl (lb rfl) fun a S => ?_
  refine leafL (leafT (hK79 _ _ ?_))
  refine sSeq (fun K80 hK80 => ?_)
  refine sRegion ?_
  refine sField (b := b54) (off := 0) 0 0 S (wN rfl) rfl rfl rfl rfl rfl (lb rfl) fun a S => ?_
  refine sLoad1 (p := b54) (off := 0) (T := 24) (vs := [iv z49, iv z51, .slice ad63 s62.length cp64]) 4 (iv z49) S (wN rfl) rfl rfl rfl rfl rfl rfl (lb rfl) fun a S => ?_
  refine sMove (iv 0) S (wN rfl) (.inl rfl) rfl rfl (lb rfl) fun a S => ?_
  refine leafL (leafT (hK80 _ _ ?_))
  refine wp_block ?_
  obtain ⟨t87, hl, g86⟩ := bindSome h
  refine sLoop hl (fun s0 a w => match s0 with | (s81, s82) => ∃ ad83, ∃ cp84, St [] E [] w0 98 a w [(3, .pointer (some ⟨b14, 0, none⟩)), (4, .pointer (some ⟨b15, 0, none⟩)), (5, .pointer (some ⟨b16, 0, none⟩)), (6, .pointer (some ⟨b17, 0, none⟩)), (9, iv p1.W), (10, iv p1.H), (11, .pointer (some ⟨b54, 0, none⟩)), (12, iv s61), (62, iv z51), (63, iv s61), (67, iv z49), (68, iv s81)] [eBox b14 24 [iv p0.W, iv p0.H, .slice ad3 p0.Bits.length cp4], eBox b15 24 [iv p1.W, iv p1.H, .slice ad7 p1.Bits.length cp8], eBox b16 24 [iv p2.W, iv p2.H, .slice ad11 p2.Bits.length cp12], eBox b17 24 [iv 0, iv 0, .slice none 0 0], eBox b54 24 [iv z49, iv z51, .slice ad83 s82.length cp84], eRow rB 4 (.slice ad83 s82.length cp84) s82] [fRep (rL rB) (.slice ad3 p0.Bits.length cp4) p0.Bits, fRep (rL rB) (.slice ad7 p1.Bits.length cp8) p1.Bits, fRep (rL rB) (.slice ad11 p2.Bits.length cp12) p2.Bits]) ⟨ad63, cp64, S.fix [0, 1, 2, 3, 4, 5] [0, 1, 2] (by decide) rfl rfl rfl⟩ ?_
  clear hl h
  intro s0 a w c0 hI h hu85
  obtain ⟨s81, s82⟩ := s0
  unfold block_Profile_l1 at h
  dsimp only at h hI
  obtain ⟨ad83, cp84, S⟩ := hI
  refine sSeq (fun K91 hK91 => ?_)
  refine sRegion ?_
  refine sBin (.bool (decide (s81 < z49))) S (wN rfl) rfl rfl rfl (bLt _ _ _ _ .i64 s81 z49) rfl (lb rfl) fun a S => ?_
  refine leafL (leafT (hK91 _ _ ?_))
  refine sSeq (fun K92 hK92 => ?_)
  rcases iteSome h with ⟨hc93, h⟩ | ⟨hc93, h⟩
  rotate_left
  · refine sCondF S rfl hc93 ?_
    obtain rfl := Option.some.inj h
    obtain rfl := hu85 _ rfl
    have h := g86
    clear g86
    try dsimp only at h
    exact wp_exit (xThen (xThen (xHit (leafB (leafT (⟨s82, Option.some.inj h, ad83, cp84, S.fix [0, 1, 2, 3, 4, 5] [0, 1, 2] (by decide) rfl rfl rfl⟩))))))
  refine sCondT S rfl hc93 ?_
  refine wp_skip (leafT (hK92 _ _ ?_))
  refine sSeq (fun K94 hK94 => ?_)
  refine wp_block ?_
  refine sSeq (fun K95 hK95 => ?_)
  refine sRegion ?_
  refine sMove (iv s81) S (wN rfl) (.inl rfl) rfl rfl (lb rfl) fun a S => ?_
  refine sMove (iv s81) S (wN rfl) (.inr rfl) rfl rfl (lb rfl) fun a S => ?_
  refine leafL (leafT (hK95 _ _ ?_))
  refine sSeq (fun K96 hK96 => ?_)
  refine sRegion ?_
  refine sLoadN (p := b14) (off := 0) (T := 24) (vs := [iv p0.W, iv p0.H, .slice ad3 p0.Bits.length cp4]) 0 [iv p0.W, iv p0.H, .slice ad3 p0.Bits.length cp4] S (wN rfl) rfl rfl rfl rfl rfl rfl rfl (lb rfl) fun a S => ?_
  refine sMove (iv p1.W) S (wN rfl) (.inl rfl) rfl rfl (lb rfl) fun a S => ?_
  refine sMove (iv p1.H) S (wN rfl) (.inl rfl) rfl rfl (lb rfl) fun a S => ?_
  refine sMove (iv s81) S (wN rfl) (.inl rfl) rfl rfl (lb rfl) fun a S => ?_
  refine sMove (iv s61) S (wN rfl) (.inl rfl) rfl rfl (lb rfl) fun a S => ?_
  obtain ⟨r97, hx98, h⟩ := bindSome h
  have S := S.learn (fRep r_api_Grid (.agg #[iv p0.W, iv p0.H, .slice ad3 p0.Bits.length cp4]) p0) ⟨_, rfl, S.mem.know (i := 0) (e := fRep (rL rB) (.slice ad3 p0.Bits.length cp4) p0.Bits) rfl⟩
  refine sCall (X := Value) (f := 49) (vs := [.agg #[iv p0.W, iv p0.H, .slice ad3 p0.Bits.length cp4], iv p1.W, iv p1.H, iv s81, iv s61]) (val := c_block_part_val r97) (B' := fun _ => []) (D' := c_block_part_D r97) [] [eBox b14 24 [iv p0.W, iv p0.H, .slice ad3 p0.Bits.length cp4], eBox b15 24 [iv p1.W, iv p1.H, .slice ad7 p1.Bits.length cp8], eBox b16 24 [iv p2.W, iv p2.H, .slice ad11 p2.Bits.length cp12], eBox b17 24 [iv 0, iv 0, .slice none 0 0], eBox b54 24 [iv z49, iv z51, .slice ad83 s82.length cp84], eRow rB 4 (.slice ad83 s82.length cp84) s82] [fRep r_api_Grid (.agg #[iv p0.W, iv p0.H, .slice ad3 p0.Bits.length cp4]) p0] [0, 1, 2, 3, 4, 5] [0] S (wN rfl) rfl callee49 rfl (by decide) rfl rfl (fun E1 w1 S1 => c_block_part E1 w1 p0 (.agg #[iv p0.W, iv p0.H, .slice ad3 p0.Bits.length cp4]) p1.W p1.H s81 s61 r97 hx98 S1) rfl (lb rfl) fun u99 a w S => ?_
  obtain ⟨u100, rfl, hu101⟩ := S.mem.know (i := 0) (e := fRep r_api_Grid (u99) r97) rfl
  have S := S.learn (fRep (rL rB) u100 r97.Bits) hu101
  obtain ⟨ad102, cp103, _, rfl, _⟩ := hu101
  refine sAlloc (.agg #[iv 0, iv 0, .slice none 0 0]) S (wN rfl) rfl rfl [iv 0, iv 0, .slice none 0 0] rfl rfl (lb rfl) fun a b104 w S => ?_
  refine sStore (p := b104) (off := 0) (T := 24) (vs := [iv 0, iv 0, .slice none 0 0]) (v := .agg #[iv r97.W, iv r97.H, .slice ad102 r97.Bits.length cp103]) 0 [iv r97.W, iv r97.H, .slice ad102 r97.Bits.length cp103] S (wN rfl) rfl rfl rfl rfl rfl rfl rfl (by simp) rfl fun a w S => ?_
  refine leafL (leafT (hK96 _ _ ?_))
  refine sSeq (fun K105 hK105 => ?_)
  refine sRegion ?_
  refine sLoadN (p := b104) (off := 0) (T := 24) (vs := [iv r97.W, iv r97.H, .slice ad102 r97.Bits.length cp103]) 0 [iv r97.W, iv r97.H, .slice ad102 r97.Bits.length cp103] S (wN rfl) rfl rfl rfl rfl rfl rfl rfl (lb rfl) fun a S => ?_
  refine sLoadN (p := b15) (off := 0) (T := 24) (vs := [iv p1.W, iv p1.H, .slice ad7 p1.Bits.length cp8]) 2 [iv p1.W, iv p1.H, .slice ad7 p1.Bits.length cp8] S (wN rfl) rfl rfl rfl rfl rfl rfl rfl (lb rfl) fun a S => ?_
  obtain ⟨r106, hx107, h⟩ := bindSome h
  have S1 := S.mem
  have S1 := S1.learn (fRep r_api_Grid (.agg #[iv p1.W, iv p1.H, .slice ad7 p1.Bits.length cp8]) p1) ⟨_, rfl, S1.know (i := 4) (e := fRep (rL rB) (.slice ad7 p1.Bits.length cp8) p1.Bits) rfl⟩
  refine sCallQ (X := Unit) (f := 48) (vs := [.agg #[iv r97.W, iv r97.H, .slice ad102 r97.Bits.length cp103], .agg #[iv p1.W, iv p1.H, .slice ad7 p1.Bits.length cp8]]) (val := fun _ => .bool r106) S (wN rfl) rfl callee48 rfl (S1.quiet [2, 0] rfl) (fun E1 w1 S1 => c_grid_Same E1 w1 r97 (.agg #[iv r97.W, iv r97.H, .slice ad102 r97.Bits.length cp103]) p1 (.agg #[iv p1.W, iv p1.H, .slice ad7 p1.Bits.length cp8]) r106 hx107 S1) rfl (lb rfl) fun _ a w S => ?_
  refine sMove (.bool r106) S (wN rfl) (.inr rfl) rfl rfl (lb rfl) fun a S => ?_
  refine leafL (leafT (hK105 _ _ ?_))
  refine sSeq (fun K108 hK108 => ?_)
  obtain ⟨t110, h, g111⟩ := bindSome h
  refine sCut (fun a w => ∃ o109, o109 = t110 ∧ St [] E [] w0 98 a w [(3, .pointer (some ⟨b14, 0, none⟩)), (4, .pointer (some ⟨b15, 0, none⟩)), (5, .pointer (some ⟨b16, 0, none⟩)), (6, .pointer (some ⟨b17, 0, none⟩)), (9, iv p1.W), (10, iv p1.H), (11, .pointer (some ⟨b54, 0, none⟩)), (12, iv s61), (15, .bool r106), (62, iv z51), (63, iv s61), (67, iv z49), (68, iv s81), (87, .bool o109)] [eBox b14 24 [iv p0.W, iv p0.H, .slice ad3 p0.Bits.length cp4], eBox b15 24 [iv p1.W, iv p1.H, .slice ad7 p1.Bits.length cp8], eBox b16 24 [iv p2.W, iv p2.H, .slice ad11 p2.Bits.length cp12], eBox b17 24 [iv 0, iv 0, .slice none 0 0], eBox b54 24 [iv z49, iv z51, .slice ad83 s82.length cp84], eRow rB 4 (.slice ad83 s82.length cp84) s82] [fRep (rL rB) (.slice ad3 p0.Bits.length cp4) p0.Bits, fRep (rL rB) (.slice ad7 p1.Bits.length cp8) p1.Bits, fRep (rL rB) (.slice ad11 p2.Bits.length cp12) p2.Bits]) ?_ (fun a w hI => ?_)
  · refine sRegion ?_
    refine sMove (.bool r106) S (wN rfl) (.inl rfl) rfl rfl (lb rfl) fun a S => ?_
    refine sNot (b := r106) S (wN rfl) rfl rfl rfl (lb rfl) fun a S => ?_
    refine sMove (.bool (!r106)) S (wN rfl) (.inl rfl) rfl rfl (lb rfl) fun a S => ?_
    rcases iteSome h with ⟨hc112, h⟩ | ⟨hc112, h⟩
    rotate_left
    · refine sSkip 2 true 82 83 S rfl rfl rfl hc112 rfl (lb rfl) fun a S => ?_
      refine sSkip 2 true 82 84 S rfl rfl rfl hc112 rfl (lb rfl) fun a S => ?_
      refine sSkip 2 true 82 85 S rfl rfl rfl hc112 rfl (lb rfl) fun a S => ?_
      refine sSkip 2 true 82 86 S rfl rfl rfl hc112 rfl (lb rfl) fun a S => ?_
      refine sPickF (.bool false) S (wN rfl) rfl rfl hc112 rfl rfl (lb rfl) fun a S => ?_
      exact leafL (leafT (⟨false, Option.some.inj h, S.fix [1, 2, 3, 4, 5, 6] [3, 4, 5] (by decide) rfl rfl rfl⟩))
    refine sLoadN (p := b104) (off := 0) (T := 24) (vs := [iv r97.W, iv r97.H, .slice ad102 r97.Bits.length cp103]) 0 [iv r97.W, iv r97.H, .slice ad102 r97.Bits.length cp103] S (wG 2 true 82 rfl rfl rfl hc112) rfl rfl rfl rfl rfl rfl rfl (lb rfl) fun a S => ?_
    refine sLoadN (p := b16) (off := 0) (T := 24) (vs := [iv p2.W, iv p2.H, .slice ad11 p2.Bits.length cp12]) 3 [iv p2.W, iv p2.H, .slice ad11 p2.Bits.length cp12] S (wG 2 true 82 rfl rfl rfl hc112) rfl rfl rfl rfl rfl rfl rfl (lb rfl) fun a S => ?_
    obtain ⟨r113, hx114, h⟩ := bindSome h
    have S1 := S.mem
    have S1 := S1.learn (fRep r_api_Grid (.agg #[iv p2.W, iv p2.H, .slice ad11 p2.Bits.length cp12]) p2) ⟨_, rfl, S1.know (i := 5) (e := fRep (rL rB) (.slice ad11 p2.Bits.length cp12) p2.Bits) rfl⟩
    refine sCallQ (X := Unit) (f := 48) (vs := [.agg #[iv r97.W, iv r97.H, .slice ad102 r97.Bits.length cp103], .agg #[iv p2.W, iv p2.H, .slice ad11 p2.Bits.length cp12]]) (val := fun _ => .bool r113) S (wG 2 true 82 rfl rfl rfl hc112) rfl callee48 rfl (S1.quiet [2, 0] rfl) (fun E1 w1 S1 => c_grid_Same E1 w1 r97 (.agg #[iv r97.W, iv r97.H, .slice ad102 r97.Bits.length cp103]) p2 (.agg #[iv p2.W, iv p2.H, .slice ad11 p2.Bits.length cp12]) r113 hx114 S1) rfl (lb rfl) fun _ a w S => ?_
    refine sNot (b := r113) S (wG 2 true 82 rfl rfl rfl hc112) rfl rfl rfl (lb rfl) fun a S => ?_
    refine sPickT (.bool (!r113)) S (wN rfl) rfl rfl hc112 rfl rfl (lb rfl) fun a S => ?_
    exact leafL (leafT (⟨!r113, Option.some.inj h, S.fix [1, 2, 3, 4, 5, 6] [3, 4, 5] (by decide) rfl rfl rfl⟩))
  obtain ⟨o109, rfl, S⟩ := hI
  have h := g111
  clear g111
  try dsimp only at h
  rcases iteSome h with ⟨hc115, h⟩ | ⟨hc115, h⟩
  · refine sCondT S rfl hc115 ?_
    refine sSeq (fun K116 hK116 => ?_)
    refine sRegion ?_
    refine sBuild [] [iv 0, iv 0, .slice none 0 0] S (wN rfl) rfl rfl rfl rfl (lb rfl) fun a S => ?_
    refine sStore (p := b17) (off := 0) (T := 24) (vs := [iv 0, iv 0, .slice none 0 0]) (v := .agg #[iv 0, iv 0, .slice none 0 0]) 3 [iv 0, iv 0, .slice none 0 0] S (wN rfl) rfl rfl rfl rfl rfl rfl rfl (by simp) rfl fun a w S => ?_
    refine sMove (iv 6) S (wN rfl) (.inr rfl) rfl rfl (lb rfl) fun a S => ?_
    refine leafL (leafT (hK116 _ _ ?_))
    obtain rfl := Option.some.inj h
    obtain rfl := hu85 _ rfl
    have h := g86
    clear g86
    try dsimp only at h
    obtain rfl := Option.some.inj h
    have h := g78
    clear g78
    try dsimp only at h
    obtain rfl := Option.some.inj h
    obtain rfl := hu65 _ rfl
    have h := g66
    clear g66
    try dsimp only at h
    obtain rfl := Option.some.inj h
    have h := g59
    clear g59
    try dsimp only at h
    obtain rfl := Option.some.inj h
    have S := S.learn (fRep (rL rB) (.slice none 0 0) ([] : (List Bool))) (rL_nil _ _ _)
    have S := S.learn (fRep r_api_Grid (.agg #[iv 0, iv 0, .slice none 0 0]) (api_Grid.mk 0 0 ([] : (List Bool)))) ⟨_, rfl, S.mem.know (i := 0) (e := fRep (rL rB) (.slice none 0 0) ([] : (List Bool))) rfl⟩
    exact wp_ret (rThen (rBlock (rThen (rThen (rBlock (rBlock (rThen (rThen (rBlock (rThen (sRet (.tuple #[.agg #[iv 0, iv 0, .slice none 0 0], iv 6]) S (rsl2 rfl (rvN (c := 6) (t := 24) (T := 24) (p := b17) 0 [iv 0, iv 0, .slice none 0 0] S rfl rfl rfl rfl) (rvT (t := 7) (v := iv 6) S rfl)) ⟨(.agg #[iv 0, iv 0, .slice none 0 0]), rfl, S.mem.sel [] [0] (by decide) rfl rfl⟩)))))))))))
  refine sCondF S rfl hc115 ?_
  refine wp_skip (leafT (hK108 _ _ ?_))
  refine sRegion ?_
  refine sField (b := b54) (off := 0) 2 2 S (wN rfl) rfl rfl rfl rfl rfl (lb rfl) fun a S => ?_
  refine sLoad1 (p := b54) (off := 2) (T := 24) (vs := [iv z49, iv z51, .slice ad83 s82.length cp84]) 4 (.slice ad83 s82.length cp84) S (wN rfl) rfl rfl rfl rfl rfl rfl (lb rfl) fun a S => ?_
  refine sMove (.bool r106) S (wN rfl) (.inl rfl) rfl rfl (lb rfl) fun a S => ?_
  refine sLit (r := rB) (T := 4) (xs := [r106]) [(0, .bool r106)] 1 [.bool r106] [.bool r106] (.bool false) 1 S (wN rfl) rfl rfl Try.underlying22 rfl (by decide) (by decide) (by kernel_rfl) rfl (fun E1 w1 hE => All.cons rfl (All.nil _ _ _)) rfl rfl (lb rfl) fun a w ad117 cp118 S => ?_
  obtain ⟨l119, hx120, h⟩ := bindSome h
  refine sApp (r := rB) (T := 4) (xs := s82) (ys := [r106]) (v := .slice ad83 s82.length cp84) (u := .slice ad117 [r106].length cp118) 6 (.bool false) 1 S (wN rfl) rfl Try.underlying22 rfl rfl (by decide) rfl rfl rfl (src_R (T := 4) 0 S.mem rfl) hx120 rfl (lb rfl) fun a w ad121 cp122 S => ?_
  refine sField (b := b54) (off := 0) 2 2 S (wN rfl) rfl rfl rfl rfl rfl (lb rfl) fun a S => ?_
  refine sStore (p := b54) (off := 2) (T := 24) (vs := [iv z49, iv z51, .slice ad83 s82.length cp84]) (v := .slice ad121 l119.length cp122) 6 [.slice ad121 l119.length cp122] S (wN rfl) rfl rfl rfl rfl rfl rfl rfl (by simp) rfl fun a w S => ?_
  refine leafL (leafB (leafT (hK94 _ _ ?_)))
  refine sRegion ?_
  refine sBin (iv (w64 (s81 + 1))) S (wN rfl) rfl rfl rfl (bAdd _ _ _ _ s81 1) rfl (lb rfl) fun a S => ?_
  refine sMove (iv (w64 (s81 + 1))) S (wN rfl) (.inl rfl) rfl rfl (lb rfl) fun a S => ?_
  exact leafL (leafT (⟨(w64 (s81 + 1), l119), (Option.some.inj h).symm, ⟨ad121, cp122, S.fix [3, 4, 5, 6, 0, 1] [0, 1, 2] (by decide) rfl rfl rfl⟩⟩))

end Go.Proofs.Ythfifeabomdlpaa
namespace Go.Proofs.Ythfifeabomdlpaa
open Go.RowKit
set_option linter.unusedVariables false

end Go.Proofs.Ythfifeabomdlpaa
namespace Go.Proofs.Ythfifeabomdlpaa
open Go.RowKit
set_option linter.unusedVariables false

end Go.Proofs.Ythfifeabomdlpaa
namespace Go.Proofs.Ythfifeabomdlpaa
open Go.RowKit
set_option linter.unusedVariables false

end Go.Proofs.Ythfifeabomdlpaa
namespace Go.Proofs.Ythfifeabomdlpaa
open Go.RowKit
set_option linter.unusedVariables false

instance decGrid : DecidableEq api_Grid := fun a b => decidable_of_iff (a.W = b.W ∧ a.H = b.H ∧ a.Bits = b.Bits) (by cases a; cases b; simp)
structure Gr (g : api_Grid) (w h : Nat) : Prop where
  hw : g.W = (w : Int)
  hh : g.H = (h : Int)
  w0 : 1 ≤ w
  w1 : w ≤ 64
  h0 : 1 ≤ h
  h1 : h ≤ 64
  len : g.Bits.length = w * h
def cell (g : api_Grid) (w x y : Nat) : Bool := g.Bits.getD (y * w + x) false
theorem Gr.at {g : api_Grid} {w h : Nat} (G : Gr g w h) {x y : Nat} (hx : x < w) (hy : y < h) : idxO g.Bits (w64 ((w64 ((y : Int) * g.W)) + (x : Int))) = some (cell g w x y) := by
  have h1 : y * w + x < w * h := by
    have := Nat.mul_le_mul_right w (show y + 1 ≤ h by omega)
    rw [Nat.add_mul, Nat.one_mul, Nat.mul_comm h w] at this
    omega
  have h2 : w * h ≤ 64 * 64 := Nat.mul_le_mul G.w1 G.h1
  have e : ((y : Int) * g.W) = ((y * w : Nat) : Int) := by rw [G.hw]; simp
  have hz : w64 ((y * w : Nat) : Int) = ((y * w : Nat) : Int) := w64_of (by omega) (by omega)
  rw [e, hz, w64_of (by omega) (by omega)]
  exact idxO_of (k := y * w + x) (by omega) (by rw [G.len]; exact h1) |>.trans (by unfold cell; simp [G.len, h1])
def gerr (g : api_Grid) : Int := if 64 < g.W ∨ 64 < g.H then 4 else if g.W < 1 ∨ g.H < 1 ∨ ¬ (g.Bits.length : Int) = g.W * g.H then 8 else 0
theorem gprod {g : api_Grid} (h1 : ¬ (64 < g.W ∨ 64 < g.H)) (h2 : ¬ (g.W < 1 ∨ g.H < 1)) : w64 (g.W * g.H) = g.W * g.H := by
  have := mul_bd (u := g.W) (v := g.H) (a := 64) (b := 64) (by omega) (by omega) (by omega) (by omega)
  exact w64_of (by omega) (by omega)
theorem gcheck_eq (g : api_Grid) : F_grid_Check g = some (gerr g) ∧ F_raddleref01_Check g = some (gerr g) := by
  unfold F_grid_Check F_raddleref01_Check gerr
  by_cases c1 : 64 < g.W ∨ 64 < g.H
  · constructor
    · have : (64 : Int) < (if g.W < g.H then g.H else g.W) := by split <;> omega
      simp only [dT this, if_true, c1]
    · by_cases c2 : 64 < g.W
      · simp only [dT c2, if_true, Option.bind_some, c1]
      · simp only [dF c2, dT (show 64 < g.H by omega), Bool.false_eq_true, if_true, if_false, Option.bind_some, c1]
  · have m1 : ¬ (64 : Int) < (if g.W < g.H then g.H else g.W) := by split <;> omega
    by_cases c2 : g.W < 1 ∨ g.H < 1
    · have m2 : (if g.H < g.W then g.H else g.W) < (1 : Int) := by split <;> omega
      have c3 : g.W < 1 ∨ g.H < 1 ∨ ¬ (g.Bits.length : Int) = g.W * g.H := by omega
      simp only [dF m1, dT m2, dF (show ¬ 64 < g.W by omega), dF (show ¬ 64 < g.H by omega), Bool.false_eq_true, if_true, if_false, Option.bind_some, c1, c3, true_and]
      by_cases c4 : g.W < 1
      · simp only [dT c4, if_true, Option.bind_some]
      · simp only [dF c4, dT (show g.H < 1 by omega), Bool.false_eq_true, if_true, if_false, Option.bind_some]
    · have m2 : ¬ (if g.H < g.W then g.H else g.W) < (1 : Int) := by split <;> omega
      have c4 : ¬ g.W < 1 := by omega
      have c5 : ¬ g.H < 1 := by omega
      have hb : (if 64 < g.W ∨ 64 < g.H then (4 : Int) else if g.W < 1 ∨ g.H < 1 ∨ ¬ (g.Bits.length : Int) = g.W * g.H then 8 else 0) = if (g.Bits.length : Int) = g.W * g.H then 0 else 8 := by
        rw [if_neg c1]
        by_cases c6 : (g.Bits.length : Int) = g.W * g.H
        · rw [if_neg (by omega), if_pos c6]
        · rw [if_pos (by omega), if_neg c6]
      rw [hb]
      by_cases c6 : (g.Bits.length : Int) = g.W * g.H
      · rw [if_pos c6]
        simp only [dF m1, dF m2, dF (show ¬ 64 < g.W by omega), dF (show ¬ 64 < g.H by omega), dF c4, dF c5, gprod c1 c2, nF c6, Bool.false_eq_true, if_false, Option.bind_some, and_self]
      · rw [if_neg c6]
        simp only [dF m1, dF m2, dF (show ¬ 64 < g.W by omega), dF (show ¬ 64 < g.H by omega), dF c4, dF c5, gprod c1 c2, nT c6, Bool.false_eq_true, if_true, if_false, Option.bind_some, and_self]
theorem gerr_zero {g : api_Grid} (h : gerr g = 0) : ∃ w h, Gr g w h := by
  unfold gerr at h
  by_cases c1 : 64 < g.W ∨ 64 < g.H
  · rw [if_pos c1] at h; cases h
  rw [if_neg c1] at h
  by_cases c2 : g.W < 1 ∨ g.H < 1 ∨ ¬ (g.Bits.length : Int) = g.W * g.H
  · rw [if_pos c2] at h; cases h
  have c3 : (g.Bits.length : Int) = g.W * g.H := by omega
  refine ⟨g.W.toNat, g.H.toNat, by omega, by omega, by omega, by omega, by omega, by omega, ?_⟩
  have e1 : g.W = (g.W.toNat : Int) := by omega
  have e2 : g.H = (g.H.toNat : Int) := by omega
  rw [e1, e2, ← Int.natCast_mul] at c3
  exact Int.ofNat.inj c3
theorem gr_err {g : api_Grid} {w h : Nat} (G : Gr g w h) : gerr g = 0 := by
  have := G.w0
  have := G.w1
  have := G.h0
  have := G.h1
  unfold gerr
  rw [G.hw, G.hh, G.len, if_neg (by omega), if_neg]
  rw [Int.natCast_mul]
  omega
/-- a grid by its cells -/
def gm (f : Nat → Nat → Bool) (w h : Nat) : api_Grid := api_Grid.mk (w : Int) (h : Int) (gl f w h)
theorem gm_gr (f : Nat → Nat → Bool) {w h : Nat} (w0 : 1 ≤ w) (w1 : w ≤ 64) (h0 : 1 ≤ h) (h1 : h ≤ 64) : Gr (gm f w h) w h :=
  ⟨rfl, rfl, w0, w1, h0, h1, gl_len f w h⟩
theorem gm_cell (f : Nat → Nat → Bool) {w h x y : Nat} (hx : x < w) (hy : y < h) : cell (gm f w h) w x y = f x y := gl_get f w h false x y hx hy
theorem gm_cong {f f' : Nat → Nat → Bool} {w h : Nat} (e : ∀ x y, x < w → y < h → f x y = f' x y) : gm f w h = gm f' w h := by unfold gm; rw [gl_cong e]
theorem Gr.eq {g : api_Grid} {w h : Nat} (G : Gr g w h) : g = gm (cell g w) w h := by
  have hb : g.Bits = gl (cell g w) w h := gl_of false G.len fun x y _ _ => rfl
  have h1 := G.hw
  have h2 := G.hh
  cases g
  simp only at h1 h2 hb
  subst h1 h2
  unfold gm
  rw [← hb]
theorem rsame_grid (a b : api_Grid) (hl : a.Bits.length ≤ 9223372036854775807) : F_raddleref01_Same a b = some (decide (a = b)) := by
  by_cases h1 : a.W = b.W
  case neg => unfold F_raddleref01_Same; simp only [nT h1, if_true, Option.bind_some]; rw [decide_eq_false]; rintro rfl; exact h1 rfl
  by_cases h2 : a.H = b.H
  case neg => unfold F_raddleref01_Same; simp only [nF h1, nT h2, Bool.false_eq_true, if_false, if_true, Option.bind_some]; rw [decide_eq_false]; rintro rfl; exact h2 rfl
  by_cases h3 : (a.Bits.length : Int) = (b.Bits.length : Int)
  case neg => unfold F_raddleref01_Same; simp only [nF h1, nF h2, nT h3, Bool.false_eq_true, if_false, if_true, Option.bind_some]; rw [decide_eq_false]; rintro rfl; exact h3 rfl
  have hw : whileO (raddleref01_Same_l1 a b) 0 = some (if a.Bits = b.Bits then .inr () else .inl false) := by
    refine loop_eql a.Bits b.Bits (by omega) _ _ (fun k hk => ?_) ?_
    · unfold raddleref01_Same_l1
      simp only [dT (show (k : Int) < (a.Bits.length : Int) by omega), if_true, idxO_nat hk, idxO_nat (xs := b.Bits) (k := k) (by omega), Option.bind_some, w64_succ (show k < 9223372036854775807 by omega)]
      by_cases e : a.Bits[k] = b.Bits[k]'(by omega)
      · rw [if_pos e, e]; simp
      · rw [if_neg e, if_pos (by simpa using e)]
    · unfold raddleref01_Same_l1; simp
  unfold F_raddleref01_Same
  simp only [nF h1, nF h2, nF h3, Bool.false_eq_true, if_false, Option.bind_some, hw]
  by_cases e : a.Bits = b.Bits
  · rw [if_pos e]
    have : a = b := by cases a; cases b; simp_all
    simp [this]
  · rw [if_neg e]
    have : ¬ a = b := fun h => e (by rw [h])
    simp [this]
theorem equal_bool (a b : List Bool) (hl : a.length ≤ 9223372036854775807) : F_slices_Equal___bool_bool_ a b = some (decide (a = b)) := by
  by_cases h3 : (a.length : Int) = (b.length : Int)
  case neg => unfold F_slices_Equal___bool_bool_; simp only [nT h3, if_true]; rw [decide_eq_false]; rintro rfl; exact h3 rfl
  have hw : whileO (slices_Equal___bool_bool__l1 a b) 0 = some (if a = b then .inr () else .inl false) := by
    refine loop_eql a b (by omega) _ _ (fun k hk => ?_) ?_
    · unfold slices_Equal___bool_bool__l1
      simp only [dT (show (k : Int) < (a.length : Int) by omega), if_true, idxO_nat hk, idxO_nat (xs := b) (k := k) (by omega), Option.bind_some, w64_succ (show k < 9223372036854775807 by omega)]
      by_cases e : a[k] = b[k]'(by omega)
      · rw [if_pos e, e]; simp
      · rw [if_neg e, if_pos (by simpa using e)]
    · unfold slices_Equal___bool_bool__l1; simp
  unfold F_slices_Equal___bool_bool_
  simp only [nF h3, Bool.false_eq_true, if_false, Option.bind_some, hw]
  by_cases e : a = b
  · rw [if_pos e]; simp [e]
  · rw [if_neg e]; simp [e]
theorem gsame_eq (a b : api_Grid) (hl : a.Bits.length ≤ 9223372036854775807) : F_grid_Same a b = some (decide (a = b)) := by
  unfold F_grid_Same
  by_cases h1 : a.W = b.W
  case neg => simp only [bF h1, Bool.false_eq_true, if_false, Option.bind_some]; rw [decide_eq_false]; rintro rfl; exact h1 rfl
  by_cases h2 : a.H = b.H
  case neg => simp only [bT h1, bF h2, Bool.false_eq_true, if_false, if_true, Option.bind_some]; rw [decide_eq_false]; rintro rfl; exact h2 rfl
  simp only [bT h1, bT h2, if_true, equal_bool _ _ hl, Option.bind_some]
  congr 1
  by_cases e : a.Bits = b.Bits
  · rw [decide_eq_true e, decide_eq_true]; cases a; cases b; simp_all
  · rw [decide_eq_false e, decide_eq_false]; exact fun h => e (by rw [h])
theorem rgreat_eq (g : api_Grid) : F_raddleref01_Great g = some (decide (4200 < g.Bits.length)) := by
  unfold F_raddleref01_Great
  congr 1
  exact decide_eq_decide.2 (by omega)
end Go.Proofs.Ythfifeabomdlpaa
namespace Go.Proofs.Ythfifeabomdlpaa
open Go.RowKit
set_option linter.unusedVariables false

theorem cpA_getD {α : Type} {xs ys : List α} {l q : Nat} (h : l ≤ q) (hq : q ≤ xs.length) (hy : ys.length ≤ q - l) (t : Nat) (d : α) : (cpA xs l q ys).getD t d = if l ≤ t ∧ t < l + ys.length then ys.getD (t - l) d else xs.getD t d := by
  have hA : ((xs.take q).drop l).length = q - l := by simp; omega
  have e1 : cpO ((xs.take q).drop l) ys = ys ++ ((xs.take q).drop l).drop ys.length := by
    unfold cpO
    rw [hA, List.take_of_length_le hy]
  simp only [List.getD_eq_getElem?_getD]
  congr 1
  unfold cpA
  rw [e1]
  by_cases h1 : t < l
  · rw [List.getElem?_append_left (by simp; omega), List.getElem?_take, if_pos h1, if_neg (by omega)]
  · have hl : (xs.take l).length = l := by simp; omega
    rw [List.getElem?_append_right (by omega), hl]
    by_cases h2 : t < l + ys.length
    · rw [if_pos ⟨by omega, h2⟩, List.append_assoc, List.getElem?_append_left (by omega)]
    · rw [if_neg (by omega), List.append_assoc, List.getElem?_append_right (by omega)]
      by_cases h3 : t < q
      · rw [List.getElem?_append_left (by rw [List.length_drop, hA]; omega), List.getElem?_drop, List.getElem?_drop, List.getElem?_take, if_pos (by omega), show l + (ys.length + (t - l - ys.length)) = t by omega]
      · rw [List.getElem?_append_right (by rw [List.length_drop, hA]; omega), List.length_drop, hA, List.getElem?_drop, show q + (t - l - ys.length - (q - l - ys.length)) = t by omega]
/-- a row of cells, as a part of the bits -/
theorem bits_part {g : api_Grid} {w h : Nat} (G : Gr g w h) {x0 n y : Nat} (hx : x0 + n ≤ w) (hy : y < h) : (g.Bits.take (y * w + x0 + n)).drop (y * w + x0) = (List.range n).map fun x => cell g w (x0 + x) y := by
  have h2 : y * w + w ≤ w * h := by
    have := Nat.mul_le_mul_right w (show y + 1 ≤ h by omega)
    rw [Nat.add_mul, Nat.one_mul, Nat.mul_comm h w] at this
    exact this
  have hl := G.len
  apply List.ext_getElem?
  intro t
  by_cases ht : t < n
  · rw [List.getElem?_drop, List.getElem?_take, if_pos (by omega)]
    simp only [List.getElem?_map, List.getElem?_range ht, Option.map_some]
    unfold cell
    rw [List.getElem?_eq_getElem (by omega), List.getD_eq_getElem?_getD, List.getElem?_eq_getElem (by omega)]
    simp only [Option.getD_some, Nat.add_assoc]
  · rw [List.getElem?_eq_none (by simp; omega), List.getElem?_eq_none (by simp; omega)]
theorem alike_eq (a b : api_Grid) : F_block_alike a b = some (decide (a.W = b.W ∧ a.H = b.H)) := by
  unfold F_block_alike
  by_cases h1 : a.W = b.W
  · by_cases h2 : a.H = b.H
    · simp [h1, h2]
    · simp [h1, h2]
  · simp [h1]
/-- the error of the first grid that has one -/
def ckL : List api_Grid → Int
  | [] => 0
  | g :: l => if gerr g = 0 then ckL l else gerr g
theorem checked_eq (l : List api_Grid) (hl : l.length ≤ 9223372036854775806) : F_block_checked l = some (ckL l) := by
  have hw : whileO (block_checked_l1 l) 0 = some ((l.findSome? fun g => if gerr g = 0 then none else some (Sum.inl (β := Unit) (gerr g))).getD (.inr ())) := by
    refine loop_list l (fun g => if gerr g = 0 then none else some (Sum.inl (gerr g))) (.inr ()) (fun k hk => ?_) ?_
    · unfold block_checked_l1
      simp only [dT (show (k : Int) < (l.length : Int) by omega), if_true, idxO_nat hk, Option.bind_some, (gcheck_eq _).1, w64_succ (show k < 9223372036854775807 by omega)]
      by_cases h : gerr l[k] = 0
      · rw [nF h, if_pos h]; rfl
      · rw [nT h, if_neg h]; rfl
    · unfold block_checked_l1
      simp only [dF (show ¬ (l.length : Int) < (l.length : Int) by omega), Bool.false_eq_true, if_false]
  have this : ∀ l : List api_Grid, (l.findSome? fun g => if gerr g = 0 then none else some (Sum.inl (β := Unit) (gerr g))).getD (.inr ()) = if ckL l = 0 then .inr () else .inl (ckL l) := by
    intro l
    induction l with
    | nil => rfl
    | cons g l ih =>
      rw [List.findSome?_cons]
      by_cases h : gerr g = 0
      · rw [if_pos h]; simp only [ckL, if_pos h]; exact ih
      · rw [if_neg h]; simp only [ckL, if_neg h, Option.getD_some]
  unfold F_block_checked
  rw [hw, this l]
  by_cases h : ckL l = 0
  · rw [if_pos h, h]; rfl
  · rw [if_neg h]; rfl
theorem ckL_three {a b c : api_Grid} (h : ckL [a, b, c] = 0) : gerr a = 0 ∧ gerr b = 0 ∧ gerr c = 0 := by
  simp only [ckL] at h
  by_cases h1 : gerr a = 0
  · rw [if_pos h1] at h
    by_cases h2 : gerr b = 0
    · rw [if_pos h2] at h
      by_cases h3 : gerr c = 0
      · exact ⟨h1, h2, h3⟩
      · rw [if_neg h3] at h; exact absurd h h3
    · rw [if_neg h2] at h; exact absurd h h2
  · rw [if_neg h1] at h; exact absurd h h1
theorem blk_iff {a b k pw : Nat} (ha : a < pw) : (a = k % pw ∧ b = k / pw) ↔ b * pw + a = k := by
  constructor
  · rintro ⟨rfl, rfl⟩; exact pl_of _ _
  · rintro rfl; exact ⟨(pl_mod ha).symm, (pl_div ha).symm⟩
/-- a unit put at a place -/
theorem put_eq {u : api_Grid} {uw uh : Nat} (U : Gr u uw uh) {W H i j : Nat} (hW : W ≤ 64) (hH : H ≤ 64) (hi : i * uw + uw ≤ W) (hj : j * uh + uh ≤ H) {s : List Bool} (hs : s.length = W * H) (Hz : Int) :
    ∃ s', F_block_put_s0 (W : Int) Hz s u (i : Int) (j : Int) = some s' ∧ s'.length = W * H ∧ ∀ x y, x < W → y < H → s'.getD (y * W + x) false = if x / uw = i ∧ y / uh = j then cell u uw (x % uw) (y % uh) else s.getD (y * W + x) false := by
  have u0 := U.w0
  have v0 := U.h0
  have key : ∃ t, whileO (block_put_s0_l1 u (j : Int) (W : Int) (i : Int)) (0, s) = some t ∧ (t.length = W * H ∧ ∀ x y, x < W → y < H → t.getD (y * W + x) false = if x / uw = i ∧ y / uh = j ∧ y % uh < uh then cell u uw (x % uw) (y % uh) else s.getD (y * W + x) false) := by
    refine loop_ts uh (fun k t => t.length = W * H ∧ ∀ x y, x < W → y < H → t.getD (y * W + x) false = if x / uw = i ∧ y / uh = j ∧ y % uh < k then cell u uw (x % uw) (y % uh) else s.getD (y * W + x) false) _ ⟨hs, fun x y _ _ => by rw [if_neg (by omega)]⟩ ?_ ?_
    · rintro k t hk ⟨hl, ht⟩
      have hp : W * H ≤ 64 * 64 := Nat.mul_le_mul hW hH
      have hy : j * uh + k < H := by omega
      have a1 : (j * uh + k) * W + W ≤ W * H := by
        have := Nat.mul_le_mul_right W (show j * uh + k + 1 ≤ H by omega)
        rw [Nat.add_mul (j * uh + k) 1, Nat.one_mul, Nat.mul_comm H W] at this
        exact this
      have a2 : k * uw + uw ≤ uw * uh := by
        have := Nat.mul_le_mul_right uw (show k + 1 ≤ uh by omega)
        rw [Nat.add_mul, Nat.one_mul, Nat.mul_comm uh uw] at this
        exact this
      have a3 : uw * uh ≤ 64 * 64 := Nat.mul_le_mul U.w1 U.h1
      have a4 : (j * uh + k) * W ≤ W * H := by omega
      have a5 : j * uh ≤ H := by omega
      have e1 : w64 ((j : Int) * u.H) = ((j * uh : Nat) : Int) := by rw [U.hh]; exact wmul (by omega)
      have e2 : w64 (((j * uh : Nat) : Int) + (k : Int)) = ((j * uh + k : Nat) : Int) := wadd (by omega)
      have e3 : w64 (((j * uh + k : Nat) : Int) * (W : Int)) = (((j * uh + k) * W : Nat) : Int) := wmul (by omega)
      have e4 : w64 ((i : Int) * u.W) = ((i * uw : Nat) : Int) := by rw [U.hw]; exact wmul (by omega)
      have e5 : w64 ((((j * uh + k) * W : Nat) : Int) + ((i * uw : Nat) : Int)) = (((j * uh + k) * W + i * uw : Nat) : Int) := wadd (by omega)
      have e6 : w64 ((k : Int) * u.W) = ((k * uw : Nat) : Int) := by rw [U.hw]; exact wmul (by omega)
      have e7 : w64 ((k : Int) + 1) = ((k + 1 : Nat) : Int) := w64_succ (by omega)
      have e8 : w64 (((k + 1 : Nat) : Int) * u.W) = ((k * uw + 0 + uw : Nat) : Int) := by rw [U.hw, wmul (by rw [Nat.add_mul]; omega), Nat.add_mul, Nat.one_mul, Nat.add_zero]
      have hb := bits_part U (x0 := 0) (n := uw) (y := k) (by omega) hk
      rw [Nat.add_zero] at hb
      have hsl := sliceO_of (xs := u.Bits) (lo := ((k * uw : Nat) : Int)) (hi := ((k * uw + 0 + uw : Nat) : Int)) rfl rfl (by omega) (by rw [U.len]; omega)
      rw [Nat.add_zero, hb] at hsl
      have hsl2 := sliceO_all (xs := t) (k := (j * uh + k) * W + i * uw) (by omega)
      have hyl : ((List.range uw).map fun x => cell u uw (0 + x) k).length = uw := by simp
      refine .inl ⟨cpA t ((j * uh + k) * W + i * uw) t.length ((List.range uw).map fun x => cell u uw (0 + x) k), ?_, ?_, ?_⟩
      · unfold block_put_s0_l1
        simp only [U.hh, dT (show (k : Int) < (uh : Int) by omega), if_true]
        rw [← U.hh]
        simp only [e1, e2, e3, e4, e5, e6, e7, e8, hsl2, Nat.add_zero, hsl, Option.bind_some, Int.toNat_natCast]
      · rw [cpA_length _ _ (by omega) (Nat.le_refl _)]; exact hl
      · intro x y hx hy2
        rw [cpA_getD (by omega) (Nat.le_refl _) (by rw [hyl]; omega), hyl, ht x y hx hy2]
        by_cases hc : x / uw = i ∧ y / uh = j ∧ y % uh = k
        · obtain ⟨c1, c2, c3⟩ := hc
          have d1 := pl_of x uw
          have d2 := pl_of y uh
          rw [c1] at d1
          rw [c2, c3] at d2
          have d3 := pl_modlt (t := x) u0
          have hy3 : y = j * uh + k := by omega
          subst hy3
          rw [if_pos ⟨by omega, by omega⟩, if_pos ⟨c1, c2, by omega⟩, c3]
          have : (j * uh + k) * W + x - ((j * uh + k) * W + i * uw) = x % uw := by omega
          rw [this]
          simp [List.getD_eq_getElem?_getD, d3]
        · have hn : ¬ ((j * uh + k) * W + i * uw ≤ y * W + x ∧ y * W + x < (j * uh + k) * W + i * uw + uw) := by
            rintro ⟨b1, b2⟩
            have e9 : y * W + x = (j * uh + k) * W + (y * W + x - (j * uh + k) * W) := by omega
            obtain ⟨q1, q2⟩ := pl_inj (w := W) hx (by omega) e9
            subst q2
            have q3 : x = i * uw + (x - i * uw) := by omega
            have q4 : x - i * uw < uw := by omega
            refine hc ⟨?_, ?_, ?_⟩
            · rw [q3, pl_div q4]
            · exact pl_div hk
            · exact pl_mod hk
          rw [if_neg hn]
          by_cases hc2 : x / uw = i ∧ y / uh = j ∧ y % uh < k
          · rw [if_pos hc2, if_pos ⟨hc2.1, hc2.2.1, by omega⟩]
          · rw [if_neg hc2, if_neg (by rintro ⟨c1, c2, c3⟩; exact hc2 ⟨c1, c2, by rcases Nat.lt_or_ge (y % uh) k with h | h; exact h; exact absurd ⟨c1, c2, by omega⟩ hc⟩)]
    · rintro t ht
      refine ⟨t, ?_, ht⟩
      unfold block_put_s0_l1
      simp only [U.hh, dF (show ¬ (uh : Int) < (uh : Int) by omega), Bool.false_eq_true, if_false]
  obtain ⟨t, h1, h2, h3⟩ := key
  refine ⟨t, ?_, h2, fun x y hx hy => ?_⟩
  · unfold F_block_put_s0
    rw [h1]
    simp [keepO, h2, hs]
  · rw [h3 x y hx hy]
    by_cases hc : x / uw = i ∧ y / uh = j
    · rw [if_pos hc, if_pos ⟨hc.1, hc.2, pl_modlt v0⟩]
    · rw [if_neg hc, if_neg (fun h => hc ⟨h.1, h.2.1⟩)]
/-- units put at all places -/
theorem puts_eq {Bd : Int × List Bool → Option ((Int × List Bool) ⊕ List Bool)} {pw ph uw uh : Nat} (p0 : 1 ≤ pw) (u : Nat → api_Grid) (hu : ∀ k, k < pw * ph → Gr (u k) uw uh) (hW : pw * uw ≤ 64) (hH : ph * uh ≤ 64) (hp : pw * ph ≤ 100000) (Hz : Int)
    (hB : ∀ k s, k < pw * ph → Bd ((k : Int), s) = (F_block_put_s0 ((pw * uw : Nat) : Int) Hz s (u k) ((k % pw : Nat) : Int) ((k / pw : Nat) : Int)).bind fun r => some (.inl (w64 ((k : Int) + 1), r))) (hBe : ∀ s, Bd (((pw * ph : Nat) : Int), s) = some (.inr s)) :
    whileO Bd (0, List.replicate (pw * uw * (ph * uh)) false) = some (gl (fun x y => cell (u ((y / uh) * pw + x / uw)) uw (x % uw) (y % uh)) (pw * uw) (ph * uh)) := by
  have key : ∃ t, whileO Bd (0, List.replicate (pw * uw * (ph * uh)) false) = some t ∧ t = gl (fun x y => cell (u ((y / uh) * pw + x / uw)) uw (x % uw) (y % uh)) (pw * uw) (ph * uh) := by
    refine loop_ts (pw * ph) (fun k s => s.length = pw * uw * (ph * uh) ∧ ∀ x y, x < pw * uw → y < ph * uh → s.getD (y * (pw * uw) + x) false = if (y / uh) * pw + x / uw < k then cell (u ((y / uh) * pw + x / uw)) uw (x % uw) (y % uh) else false) _
      ⟨by simp, fun x y hx hy => ?_⟩ ?_ ?_
    · rw [if_neg (Nat.not_lt_zero _)]
      have := pl_lt hx hy
      simp [List.getD_eq_getElem?_getD, this]
    · rintro k s hk ⟨hl, hs⟩
      have U := hu k hk
      have hi : k % pw < pw := pl_modlt (by omega)
      have hj : k / pw < ph := pl_divlt hk
      have b1 : (k % pw) * uw + uw ≤ pw * uw := by have := Nat.mul_le_mul_right uw (show k % pw + 1 ≤ pw by omega); rw [Nat.add_mul, Nat.one_mul] at this; exact this
      have b2 : (k / pw) * uh + uh ≤ ph * uh := by have := Nat.mul_le_mul_right uh (show k / pw + 1 ≤ ph by omega); rw [Nat.add_mul, Nat.one_mul] at this; exact this
      obtain ⟨s', h1, h2, h3⟩ := put_eq U hW hH b1 b2 hl Hz
      refine .inl ⟨s', ?_, h2, fun x y hx hy => ?_⟩
      · rw [hB k s hk, h1, Option.bind_some, w64_succ (by omega)]
      · rw [h3 x y hx hy, hs x y hx hy]
        have hx2 : x / uw < pw := pl_divlt (by rw [Nat.mul_comm]; exact hx)
        have hb := blk_iff (a := x / uw) (b := y / uh) (k := k) hx2
        by_cases hc : x / uw = k % pw ∧ y / uh = k / pw
        · rw [if_pos hc, if_pos (by rw [hb.1 hc]; omega), hb.1 hc]
        · rw [if_neg hc]
          have hne : (y / uh) * pw + x / uw ≠ k := fun h => hc (hb.2 h)
          by_cases h4 : (y / uh) * pw + x / uw < k
          · rw [if_pos h4, if_pos (by omega)]
          · rw [if_neg h4, if_neg (by omega)]
    · rintro s ⟨hl, hs⟩
      refine ⟨s, hBe s, gl_of false hl fun x y hx hy => ?_⟩
      rw [hs x y hx hy, if_pos]
      have u0 : 0 < uh := by rcases Nat.eq_zero_or_pos uh with h0 | h0; rw [h0, Nat.mul_zero] at hy; omega; exact h0
      exact pl_lt (pl_divlt (by rw [Nat.mul_comm]; exact hx)) (pl_divlt (by rw [Nat.mul_comm]; exact hy))
  obtain ⟨t, h1, rfl⟩ := key
  exact h1
/-- a filled profile -/
def fillf (p a b : api_Grid) (pw uw uh : Nat) (x y : Nat) : Bool := if cell p pw (x / uw) (y / uh) = true then cell a uw (x % uw) (y % uh) else cell b uw (x % uw) (y % uh)
def fillS (p a b : api_Grid) : api_Grid × Int :=
  if ckL [p, a, b] = 0 then (if a.W = b.W ∧ a.H = b.H then (if 64 < p.W * a.W ∨ 64 < p.H * a.H then (⟨0, 0, []⟩, 4) else (gm (fillf p a b p.W.toNat a.W.toNat a.H.toNat) (p.W.toNat * a.W.toNat) (p.H.toNat * a.H.toNat), 0)) else (⟨0, 0, []⟩, 26)) else (⟨0, 0, []⟩, ckL [p, a, b])
theorem Gr.W {g : api_Grid} {w h : Nat} (G : Gr g w h) : g.W.toNat = w := by rw [G.hw]; rfl
theorem Gr.H {g : api_Grid} {w h : Nat} (G : Gr g w h) : g.H.toNat = h := by rw [G.hh]; rfl
theorem fill_eq (p a b : api_Grid) : F_block_Fill p a b = some (fillS p a b) := by
  unfold F_block_Fill fillS
  rw [checked_eq _ (by simp)]
  by_cases h0 : ckL [p, a, b] = 0
  case neg => simp only [Option.bind_some, nT h0, if_true, if_neg h0]
  simp only [Option.bind_some, nF h0, Bool.false_eq_true, if_false, if_pos h0, alike_eq]
  by_cases h1 : a.W = b.W ∧ a.H = b.H
  case neg => simp only [dF h1, Bool.not_false, if_true, if_neg h1]
  simp only [dT h1, Bool.not_true, Bool.false_eq_true, if_false, if_pos h1]
  obtain ⟨g1, g2, g3⟩ := ckL_three h0
  obtain ⟨pw, ph, P⟩ := gerr_zero g1
  obtain ⟨uw, uh, A⟩ := gerr_zero g2
  obtain ⟨bw, bh, B⟩ := gerr_zero g3
  obtain ⟨rfl, rfl⟩ : uw = bw ∧ uh = bh := by
    have := A.hw
    have := B.hw
    have := A.hh
    have := B.hh
    omega
  have q1 : pw * uw ≤ 64 * 64 := Nat.mul_le_mul P.w1 A.w1
  have q2 : ph * uh ≤ 64 * 64 := Nat.mul_le_mul P.h1 A.h1
  have q3 : pw * ph ≤ 64 * 64 := Nat.mul_le_mul P.w1 P.h1
  have e1 : w64 (p.W * a.W) = ((pw * uw : Nat) : Int) := by rw [P.hw, A.hw]; exact wmul (by omega)
  have e2 : w64 (p.H * a.H) = ((ph * uh : Nat) : Int) := by rw [P.hh, A.hh]; exact wmul (by omega)
  have e3 : p.W * a.W = ((pw * uw : Nat) : Int) := by rw [P.hw, A.hw, Int.natCast_mul]
  have e4 : p.H * a.H = ((ph * uh : Nat) : Int) := by rw [P.hh, A.hh, Int.natCast_mul]
  rw [e1, e2, e3, e4, P.W, P.H, A.W, A.H]
  by_cases h2 : (64 : Int) < ((pw * uw : Nat) : Int) ∨ (64 : Int) < ((ph * uh : Nat) : Int)
  · have hz : F_block_zero_s0 ((pw * uw : Nat) : Int) ((ph * uh : Nat) : Int) = some (⟨0, 0, []⟩, 4) := by
      unfold F_block_zero_s0
      by_cases h3 : (64 : Int) < ((pw * uw : Nat) : Int)
      · simp only [dT h3, if_true, Option.bind_some]
      · simp only [dF h3, dT (show (64 : Int) < ((ph * uh : Nat) : Int) by omega), Bool.false_eq_true, if_true, if_false, Option.bind_some]
    rw [hz, if_pos h2]
    simp only [Option.bind_some, nT (show ¬ (4 : Int) = 0 by decide), if_true]
  · have hz : F_block_zero_s0 ((pw * uw : Nat) : Int) ((ph * uh : Nat) : Int) = some (⟨((pw * uw : Nat) : Int), ((ph * uh : Nat) : Int), List.replicate (pw * uw * (ph * uh)) false⟩, 0) := by
      have hq : pw * uw * (ph * uh) ≤ 64 * 64 := Nat.mul_le_mul (by omega) (by omega)
      unfold F_block_zero_s0
      simp only [dF (show ¬ (64 : Int) < ((pw * uw : Nat) : Int) by omega), dF (show ¬ (64 : Int) < ((ph * uh : Nat) : Int) by omega), Bool.false_eq_true, if_false, Option.bind_some]
      rw [wmul (by omega), makeO_of (k := pw * uw * (ph * uh)) rfl (by omega)]
      rfl
    rw [hz, if_neg h2]
    simp only [Option.bind_some, bne_self_eq_false, Bool.false_eq_true, if_false]
    have hb := puts_eq (Bd := block_Fill_l1 p a b (⟨((pw * uw : Nat) : Int), ((ph * uh : Nat) : Int), List.replicate (pw * uw * (ph * uh)) false⟩, 0)) (pw := pw) (ph := ph) (uw := uw) (uh := uh) P.w0 (fun k => if p.Bits.getD k false = true then a else b)
      (fun k _ => by split; exact A; exact B) (by omega) (by omega) (by omega) ((ph * uh : Nat) : Int)
      (fun k s hk => by
        unfold block_Fill_l1
        have hk2 : k < p.Bits.length := by rw [P.len]; exact hk
        have hp0 := P.w0
        simp only [dT (show (k : Int) < (p.Bits.length : Int) by omega), if_true, idxO_D false hk2, Option.bind_some, P.hw, rem_nat (show 0 < pw by omega), quo_nat (show 0 < pw by omega) (show k ≤ 9223372036854775807 by omega)]
        by_cases hc : p.Bits.getD k false = true
        · rw [if_pos hc, if_pos hc]; rfl
        · rw [if_neg hc, if_neg hc]; rfl)
      (fun s => by
        unfold block_Fill_l1
        simp only [dF (show ¬ ((pw * ph : Nat) : Int) < (p.Bits.length : Int) by rw [P.len]; omega), Bool.false_eq_true, if_false])
    rw [hb]
    simp only [Option.bind_some]
    congr 2
    unfold gm
    congr 1
    refine gl_cong fun x y hx hy => ?_
    unfold fillf
    have hcell : cell p pw (x / uw) (y / uh) = p.Bits.getD ((y / uh) * pw + x / uw) false := rfl
    rw [hcell]
    split <;> rfl
/-- a part of a grid -/
def prt (g : api_Grid) (W w h i j : Nat) : api_Grid := gm (fun x y => cell g W (i * w + x) (j * h + y)) w h
theorem part_eq {g : api_Grid} {W H w h i j : Nat} (G : Gr g W H) (hi : i * w + w ≤ W) (hj : j * h + h ≤ H) (w0 : 1 ≤ w) (h0 : 1 ≤ h) : F_block_part g (w : Int) (h : Int) (i : Int) (j : Int) = some (prt g W w h i j) := by
  have hp : W * H ≤ 64 * 64 := Nat.mul_le_mul G.w1 G.h1
  have W1 := G.w1
  have H1 := G.h1
  have hb := loop_seq (B := block_part_l1 (h : Int) g (j : Int) (i : Int) (w : Int)) (fun k : Nat => ((k : Int), glf (fun x y => cell g W (i * w + x) (j * h + y)) w (k * w))) h (t := glf (fun x y => cell g W (i * w + x) (j * h + y)) w (h * w))
    (fun k hk => by
      have hy : j * h + k < H := by omega
      have a1 : (j * h + k) * W + W ≤ W * H := by
        have := Nat.mul_le_mul_right W (show j * h + k + 1 ≤ H by omega)
        rw [Nat.add_mul (j * h + k) 1, Nat.one_mul, Nat.mul_comm H W] at this
        exact this
      have a2 : k * w ≤ 64 * 64 := Nat.mul_le_mul (by omega) (by omega)
      have e1 : w64 ((j : Int) * (h : Int)) = ((j * h : Nat) : Int) := wmul (by omega)
      have e2 : w64 (((j * h : Nat) : Int) + (k : Int)) = ((j * h + k : Nat) : Int) := wadd (by omega)
      have e3 : w64 (((j * h + k : Nat) : Int) * (W : Int)) = (((j * h + k) * W : Nat) : Int) := wmul (by omega)
      have e4 : w64 ((i : Int) * (w : Int)) = ((i * w : Nat) : Int) := wmul (by omega)
      have e5 : w64 ((((j * h + k) * W : Nat) : Int) + ((i * w : Nat) : Int)) = (((j * h + k) * W + i * w : Nat) : Int) := wadd (by omega)
      have e6 : w64 ((((j * h + k) * W + i * w : Nat) : Int) + (w : Int)) = (((j * h + k) * W + i * w + w : Nat) : Int) := wadd (by omega)
      have hsl := sliceO_of (xs := g.Bits) (lo := (((j * h + k) * W + i * w : Nat) : Int)) (hi := (((j * h + k) * W + i * w + w : Nat) : Int)) rfl rfl (by omega) (by rw [G.len]; omega)
      rw [bits_part G (x0 := i * w) (n := w) (y := j * h + k) hi hy] at hsl
      unfold block_part_l1
      simp only [dT (show (k : Int) < (h : Int) by omega), if_true, G.hw, e1, e2, e3, e4, e5, e6, hsl, Option.bind_some]
      rw [appO_of (by simp [glf]; omega), Option.bind_some, w64_succ (by omega)]
      congr 3
      rw [Nat.add_mul, Nat.one_mul]
      unfold glf
      rw [List.range_add, List.map_append]
      congr 1
      rw [List.map_map]
      refine map_cong fun x hx => ?_
      simp only [Function.comp, pl_mod hx, pl_div hx])
    (by
      unfold block_part_l1
      simp only [dF (show ¬ (h : Int) < (h : Int) by omega), Bool.false_eq_true, if_false])
  have h00 : (((0 : Nat) : Int), glf (fun x y => cell g W (i * w + x) (j * h + y)) w (0 * w)) = ((0 : Int), ([] : List Bool)) := by simp [glf]
  rw [h00] at hb
  unfold F_block_part
  rw [hb]
  simp only [Option.bind_some]
  unfold prt gm gl
  rw [Nat.mul_comm w h]
end Go.Proofs.Ythfifeabomdlpaa
namespace Go.Proofs.Ythfifeabomdlpaa
open Go.RowKit
set_option linter.unusedVariables false

def pgood (g a b : api_Grid) (W w h n t : Nat) : Bool := decide (prt g W w h (t % n) (t / n) = a ∨ prt g W w h (t % n) (t / n) = b)
def proff (g a : api_Grid) (W w h : Nat) (i j : Nat) : Bool := decide (prt g W w h i j = a)
def profS (g a b : api_Grid) : api_Grid × Int :=
  if ckL [g, a, b] = 0 then
    (if a.W = b.W ∧ a.H = b.H ∧ g.W % a.W = 0 ∧ g.H % a.H = 0 then
      (if a = b then (⟨0, 0, []⟩, 14)
      else if (List.range (g.H.toNat / a.H.toNat * (g.W.toNat / a.W.toNat))).all (pgood g a b g.W.toNat a.W.toNat a.H.toNat (g.W.toNat / a.W.toNat)) = true then (gm (proff g a g.W.toNat a.W.toNat a.H.toNat) (g.W.toNat / a.W.toNat) (g.H.toNat / a.H.toNat), 0) else (⟨0, 0, []⟩, 6))
    else (⟨0, 0, []⟩, 26))
  else (⟨0, 0, []⟩, ckL [g, a, b])
/-- rows of rounds that may fail -/
theorem loop2f {S1 S2 τ1 : Type} {l1 : Nat → S1 → Option (S1 ⊕ τ1)} {τ2 : Type} {l2 : S2 → Option (S2 ⊕ τ2)} (c1 : Nat → Nat → S1) (c2 : Nat → S2) (e1 : Nat → τ1) (b1 : τ1) (b2 : τ2) (w h : Nat) (g : Nat → Bool) {t : τ2}
    (h1 : ∀ y x, y < h → x < w → l1 y (c1 y x) = some (if g (y * w + x) = true then .inl (c1 y (x + 1)) else .inr b1)) (h1e : ∀ y, y < h → l1 y (c1 y w) = some (.inr (e1 y)))
    (h2 : ∀ y, y < h → whileO (l1 y) (c1 y 0) = some (e1 y) → l2 (c2 y) = some (.inl (c2 (y + 1)))) (h2b : ∀ y, y < h → whileO (l1 y) (c1 y 0) = some b1 → l2 (c2 y) = some (.inr b2)) (h2e : l2 (c2 h) = some (.inr t)) :
    whileO l2 (c2 0) = some (if (List.range (h * w)).all g = true then t else b2) := by
  have key := loop_seqf c2 h (fun y => (List.range w).all fun x => g (y * w + x)) (bad := b2) (t := t) (fun y hy _ => by
    have hw := loop_seqf (c1 y) w (fun x => g (y * w + x)) (bad := b1) (t := e1 y) (fun x hx _ => h1 y x hy hx) (fun _ => h1e y hy)
    by_cases hc : ((List.range w).all fun x => g (y * w + x)) = true
    · rw [if_pos hc] at hw
      rw [if_pos hc, h2 y hy hw]
    · rw [if_neg hc] at hw
      rw [if_neg hc, h2b y hy hw]) (fun _ => h2e)
  rw [key]
  congr 1
  have e : ((List.range h).all fun y => (List.range w).all fun x => g (y * w + x)) = true ↔ (List.range (h * w)).all g = true := by
    simp only [List.all_eq_true, List.mem_range]
    constructor
    · intro hh t ht
      have w0 : 0 < w := by rcases Nat.eq_zero_or_pos w with h0 | h0; rw [h0, Nat.mul_zero] at ht; omega; exact h0
      have := hh (t / w) (pl_divlt (by rw [Nat.mul_comm]; exact ht)) (t % w) (pl_modlt w0)
      rwa [pl_of] at this
    · intro hh y hy x hx
      exact hh _ (by rw [Nat.mul_comm h w]; exact pl_lt hx hy)
  by_cases hc : (List.range (h * w)).all g = true
  · rw [if_pos hc, if_pos (e.2 hc)]
  · rw [if_neg hc, if_neg (fun hh => hc (e.1 hh))]
theorem prt_len {g : api_Grid} {W w h i j : Nat} (hw : w ≤ 64) (hh : h ≤ 64) : (prt g W w h i j).Bits.length ≤ 4096 := by
  have hp : w * h ≤ 64 * 64 := Nat.mul_le_mul hw hh
  unfold prt gm
  simp only [gl_len]
  omega
theorem Gr.bits {g : api_Grid} {w h : Nat} (G : Gr g w h) : g.Bits.length ≤ 4096 := by
  have hp : w * h ≤ 64 * 64 := Nat.mul_le_mul G.w1 G.h1
  rw [G.len]; omega
theorem prof_dims {g a : api_Grid} {W H w h : Nat} (G : Gr g W H) (A : Gr a w h) (h1 : g.W % a.W = 0) (h2 : g.H % a.H = 0) : W = W / w * w ∧ H = H / h * h ∧ 1 ≤ W / w ∧ 1 ≤ H / h ∧ W / w ≤ 64 ∧ H / h ≤ 64 := by
  rw [G.hw, A.hw] at h1
  rw [G.hh, A.hh] at h2
  have e1 : W % w = 0 := by omega
  have e2 : H % h = 0 := by omega
  have d1 := pl_of W w
  have d2 := pl_of H h
  have := G.w0
  have := G.h0
  have q1 : W / w ≤ W := Nat.div_le_self _ _
  have q2 : H / h ≤ H := Nat.div_le_self _ _
  have := G.w1
  have := G.h1
  refine ⟨by omega, by omega, ?_, ?_, by omega, by omega⟩
  · rcases Nat.eq_zero_or_pos (W / w) with h0 | h0
    · rw [h0] at d1; omega
    · exact h0
  · rcases Nat.eq_zero_or_pos (H / h) with h0 | h0
    · rw [h0] at d2; omega
    · exact h0
theorem prof_eq (g a b : api_Grid) : F_block_Profile g a b = some (profS g a b) := by
  unfold F_block_Profile profS
  rw [checked_eq _ (by simp)]
  by_cases h0 : ckL [g, a, b] = 0
  case neg => simp only [Option.bind_some, nT h0, if_true, if_neg h0]
  simp only [Option.bind_some, nF h0, Bool.false_eq_true, if_false, if_pos h0, alike_eq]
  obtain ⟨g1, g2, g3⟩ := ckL_three h0
  obtain ⟨W, H, G⟩ := gerr_zero g1
  obtain ⟨w, h, A⟩ := gerr_zero g2
  obtain ⟨bw, bh, B⟩ := gerr_zero g3
  have w0 := A.w0
  have v0 := A.h0
  have w1 := A.w1
  have v1 := A.h1
  have W1 := G.w1
  have H1 := G.h1
  have r1 : remI g.W a.W = some ((W % w : Nat) : Int) := by rw [G.hw, A.hw]; exact rem_nat (by omega)
  have r2 : remI g.H a.H = some ((H % h : Nat) : Int) := by rw [G.hh, A.hh]; exact rem_nat (by omega)
  have s1 : g.W % a.W = ((W % w : Nat) : Int) := by rw [G.hw, A.hw, Int.natCast_emod]
  have s2 : g.H % a.H = ((H % h : Nat) : Int) := by rw [G.hh, A.hh, Int.natCast_emod]
  by_cases h1 : a.W = b.W ∧ a.H = b.H
  case neg =>
    rw [if_neg (show ¬ (a.W = b.W ∧ a.H = b.H ∧ g.W % a.W = 0 ∧ g.H % a.H = 0) from fun h => h1 ⟨h.1, h.2.1⟩)]
    simp only [dF h1, Bool.not_false, if_true, Option.bind_some]
  by_cases h2 : g.W % a.W = 0
  case neg =>
    rw [if_neg (show ¬ (a.W = b.W ∧ a.H = b.H ∧ g.W % a.W = 0 ∧ g.H % a.H = 0) from fun h => h2 h.2.2.1)]
    rw [s1] at h2
    simp only [dT h1, Bool.not_true, Bool.false_eq_true, if_false, r1, Option.bind_some, nT h2, if_true]
  by_cases h3 : g.H % a.H = 0
  case neg =>
    rw [if_neg (show ¬ (a.W = b.W ∧ a.H = b.H ∧ g.W % a.W = 0 ∧ g.H % a.H = 0) from fun h => h3 h.2.2.2)]
    rw [s1] at h2
    rw [s2] at h3
    simp only [dT h1, Bool.not_true, Bool.false_eq_true, if_false, r1, r2, Option.bind_some, nF h2, nT h3, if_true]
  obtain ⟨d1, d2, d3, d4, d5, d6⟩ := prof_dims G A h2 h3
  rw [if_pos (show (a.W = b.W ∧ a.H = b.H ∧ g.W % a.W = 0 ∧ g.H % a.H = 0) from ⟨h1.1, h1.2, h2, h3⟩)]
  rw [s1] at h2
  rw [s2] at h3
  simp only [dT h1, Bool.not_true, Bool.false_eq_true, if_false, r1, r2, Option.bind_some, nF h2, nF h3, gsame_eq a b (by have := A.bits; omega)]
  by_cases h4 : a = b
  · rw [if_pos h4]; simp only [dT h4, if_true]
  rw [if_neg h4]
  have q1 : quoI g.W a.W = some ((W / w : Nat) : Int) := by rw [G.hw, A.hw]; exact quo_nat (by omega) (by omega)
  have q2 : quoI g.H a.H = some ((H / h : Nat) : Int) := by rw [G.hh, A.hh]; exact quo_nat (by omega) (by omega)
  simp only [dF h4, Bool.false_eq_true, if_false, q1, q2, Option.bind_some, G.W, G.H, A.W, A.H]
  generalize hn : W / w = n at *
  generalize hm : H / h = m at *
  have hb := loop2f (l1 := fun y => block_Profile_l1 (n : Int) g a (y : Int) b) (l2 := block_Profile_l2 (m : Int) (n : Int) g a b)
    (fun y x => ((x : Int), glf (proff g a W w h) n (y * n + x))) (fun y => ((y : Int), glf (proff g a W w h) n (y * n))) (fun y => .inr (glf (proff g a W w h) n (y * n + n))) (.inl (⟨0, 0, []⟩, 6)) (.inl (⟨0, 0, []⟩, 6)) n m
    (pgood g a b W w h n) (t := .inr (glf (proff g a W w h) n (m * n)))
    (fun y x hy hx => by
      have b1 : x * w + w ≤ W := by have := Nat.mul_le_mul_right w (show x + 1 ≤ n by omega); rw [Nat.add_mul, Nat.one_mul] at this; omega
      have b2 : y * h + h ≤ H := by have := Nat.mul_le_mul_right h (show y + 1 ≤ m by omega); rw [Nat.add_mul, Nat.one_mul] at this; omega
      have hl := prt_len (g := g) (W := W) (w := w) (h := h) (i := x) (j := y) w1 v1
      have ha : (glf (proff g a W w h) n (y * n + x)).length ≤ 5000 := by
        have := pl_lt hx hy
        have := Nat.mul_le_mul d5 d6
        simp [glf]; omega
      unfold block_Profile_l1
      rw [show a.W = (w : Int) from A.hw, show a.H = (h : Int) from A.hh]
      simp only [dT (show (x : Int) < (n : Int) by omega), if_true, part_eq G b1 b2 w0 v0, Option.bind_some, gsame_eq _ _ (Nat.le_trans hl (by decide))]
      unfold pgood
      rw [pl_mod hx, pl_div hx]
      by_cases c1 : prt g W w h x y = a
      · simp only [dT c1, Bool.not_true, Bool.false_eq_true, if_false, Option.bind_some, dT (show prt g W w h x y = a ∨ prt g W w h x y = b from .inl c1), if_true]
        rw [appO_of (by simp; omega), Option.bind_some, w64_succ (by omega)]
        congr 3
        rw [show y * n + (x + 1) = y * n + x + 1 from rfl, glf_succ, pl_mod hx, pl_div hx, show proff g a W w h x y = true from decide_eq_true c1]
      · by_cases c2 : prt g W w h x y = b
        · simp only [dF c1, dT c2, Bool.not_true, Bool.not_false, Bool.false_eq_true, if_false, if_true, Option.bind_some, dT (show prt g W w h x y = a ∨ prt g W w h x y = b from .inr c2)]
          rw [appO_of (by simp; omega), Option.bind_some, w64_succ (by omega)]
          congr 3
          rw [show y * n + (x + 1) = y * n + x + 1 from rfl, glf_succ, pl_mod hx, pl_div hx, show proff g a W w h x y = false from decide_eq_false c1]
        · simp only [dF c1, dF c2, Bool.not_false, Bool.false_eq_true, if_false, if_true, Option.bind_some, dF (show ¬ (prt g W w h x y = a ∨ prt g W w h x y = b) from fun h => h.elim c1 c2)])
    (fun y hy => by
      unfold block_Profile_l1
      simp only [dF (show ¬ (n : Int) < (n : Int) by omega), Bool.false_eq_true, if_false])
    (fun y hy hl => by
      unfold block_Profile_l2
      simp only [dT (show (y : Int) < (m : Int) by omega), if_true]
      have e0 : (((0 : Nat) : Int), glf (proff g a W w h) n (y * n + 0)) = ((0 : Int), glf (proff g a W w h) n (y * n)) := rfl
      rw [e0] at hl
      rw [hl]
      simp only [Option.bind_some, w64_succ (show y < 9223372036854775807 by omega)]
      rw [show (y + 1) * n = y * n + n by rw [Nat.add_mul, Nat.one_mul]])
    (fun y hy hl => by
      unfold block_Profile_l2
      simp only [dT (show (y : Int) < (m : Int) by omega), if_true]
      have e0 : (((0 : Nat) : Int), glf (proff g a W w h) n (y * n + 0)) = ((0 : Int), glf (proff g a W w h) n (y * n)) := rfl
      rw [e0] at hl
      rw [hl]
      simp only [Option.bind_some])
    (by
      unfold block_Profile_l2
      simp only [dF (show ¬ (m : Int) < (m : Int) by omega), Bool.false_eq_true, if_false])
  have e0 : (((0 : Nat) : Int), glf (proff g a W w h) n (0 * n)) = ((0 : Int), ([] : List Bool)) := by simp [glf]
  simp only [e0] at hb
  rw [hb]
  by_cases hc : (List.range (m * n)).all (pgood g a b W w h n) = true
  · rw [if_pos hc, if_pos hc]
    simp only [Option.bind_some]
    unfold gm gl
    rw [Nat.mul_comm n m]
  · rw [if_neg hc, if_neg hc]
    simp only [Option.bind_some]
end Go.Proofs.Ythfifeabomdlpaa
namespace Go.Proofs.Ythfifeabomdlpaa
open Go.RowKit
set_option linter.unusedVariables false

theorem ckL3 {a b c : api_Grid} (h1 : gerr a = 0) (h2 : gerr b = 0) (h3 : gerr c = 0) : ckL [a, b, c] = 0 := by simp [ckL, h1, h2, h3]
theorem fillS_ok {p a b : api_Grid} {pw ph uw uh : Nat} (P : Gr p pw ph) (A : Gr a uw uh) (B : Gr b uw uh) (hW : pw * uw ≤ 64) (hH : ph * uh ≤ 64) : fillS p a b = (gm (fillf p a b pw uw uh) (pw * uw) (ph * uh), 0) := by
  have e1 : p.W * a.W = ((pw * uw : Nat) : Int) := by rw [P.hw, A.hw, Int.natCast_mul]
  have e2 : p.H * a.H = ((ph * uh : Nat) : Int) := by rw [P.hh, A.hh, Int.natCast_mul]
  unfold fillS
  rw [if_pos (ckL3 (gr_err P) (gr_err A) (gr_err B)), if_pos (show a.W = b.W ∧ a.H = b.H from ⟨by rw [A.hw, B.hw], by rw [A.hh, B.hh]⟩), e1, e2, if_neg (by omega), P.W, A.W, P.H, A.H]
theorem fillS_cases {p a b : api_Grid} {pw ph uw uh bw bh : Nat} (P : Gr p pw ph) (A : Gr a uw uh) (B : Gr b bw bh) :
    fillS p a b = (⟨0, 0, []⟩, 26) ∨ fillS p a b = (⟨0, 0, []⟩, 4) ∨ (Gr b uw uh ∧ pw * uw ≤ 64 ∧ ph * uh ≤ 64) := by
  have e1 : p.W * a.W = ((pw * uw : Nat) : Int) := by rw [P.hw, A.hw, Int.natCast_mul]
  have e2 : p.H * a.H = ((ph * uh : Nat) : Int) := by rw [P.hh, A.hh, Int.natCast_mul]
  unfold fillS
  rw [if_pos (ckL3 (gr_err P) (gr_err A) (gr_err B)), e1, e2]
  by_cases h1 : a.W = b.W ∧ a.H = b.H
  · rw [if_pos h1]
    have q1 := A.hw
    have q2 := A.hh
    have q3 := B.hw
    have q4 := B.hh
    obtain ⟨rfl, rfl⟩ : bw = uw ∧ bh = uh := by omega
    by_cases h2 : 64 < ((pw * bw : Nat) : Int) ∨ 64 < ((ph * bh : Nat) : Int)
    · rw [if_pos h2]; exact .inr (.inl rfl)
    · exact .inr (.inr ⟨B, by omega, by omega⟩)
  · rw [if_neg h1]; exact .inl rfl
theorem fill_gr {p a b : api_Grid} {pw ph uw uh : Nat} (P : Gr p pw ph) (A : Gr a uw uh) (hW : pw * uw ≤ 64) (hH : ph * uh ≤ 64) : Gr (gm (fillf p a b pw uw uh) (pw * uw) (ph * uh)) (pw * uw) (ph * uh) :=
  gm_gr _ (Nat.mul_pos P.w0 A.w0) hW (Nat.mul_pos P.h0 A.h0) hH
theorem blk_lt {x w n : Nat} (h : x < n * w) : x / w < n := pl_divlt (by rw [Nat.mul_comm]; exact h)
theorem blk_in {x w n i : Nat} (hx : x < w) (hi : i < n) : i * w + x < n * w := by rw [Nat.mul_comm n w]; exact pl_lt hx hi
theorem fill_not {p a b : api_Grid} {pw ph uw uh : Nat} : gm (fillf (gm (fun x y => !cell p pw x y) pw ph) b a pw uw uh) (pw * uw) (ph * uh) = gm (fillf p a b pw uw uh) (pw * uw) (ph * uh) := by
  refine gm_cong fun x y hx hy => ?_
  unfold fillf
  rw [gm_cell _ (blk_lt hx) (blk_lt hy)]
  cases cell p pw (x / uw) (y / uh) <;> rfl
theorem fill_prt {p a b : api_Grid} {pw ph uw uh : Nat} (A : Gr a uw uh) (B : Gr b uw uh) {i j : Nat} (hi : i < pw) (hj : j < ph) :
    prt (gm (fillf p a b pw uw uh) (pw * uw) (ph * uh)) (pw * uw) uw uh i j = if cell p pw i j = true then a else b := by
  have key : ∀ x y, x < uw → y < uh → cell (gm (fillf p a b pw uw uh) (pw * uw) (ph * uh)) (pw * uw) (i * uw + x) (j * uh + y) = if cell p pw i j = true then cell a uw x y else cell b uw x y := by
    intro x y hx hy
    rw [gm_cell _ (blk_in hx hi) (blk_in hy hj)]
    unfold fillf
    rw [pl_div hx, pl_mod hx, pl_div hy, pl_mod hy]
  unfold prt
  cases hc : cell p pw i j with
  | true =>
    rw [if_pos rfl]
    refine Eq.trans (gm_cong fun x y hx hy => ?_) A.eq.symm
    rw [key x y hx hy, hc, if_pos rfl]
  | false =>
    rw [if_neg (by decide)]
    refine Eq.trans (gm_cong fun x y hx hy => ?_) B.eq.symm
    rw [key x y hx hy, hc, if_neg (by decide)]
theorem prof_of {g a b p : api_Grid} {pw ph uw uh : Nat} (G : Gr g (pw * uw) (ph * uh)) (P : Gr p pw ph) (A : Gr a uw uh) (B : Gr b uw uh) (hab : ¬ a = b)
    (h : ∀ i j, i < pw → j < ph → prt g (pw * uw) uw uh i j = if cell p pw i j = true then a else b) : profS g a b = (p, 0) := by
  have d1 : g.W % a.W = 0 := by rw [G.hw, A.hw, ← Int.natCast_emod, Nat.mul_mod_left]; rfl
  have d2 : g.H % a.H = 0 := by rw [G.hh, A.hh, ← Int.natCast_emod, Nat.mul_mod_left]; rfl
  unfold profS
  rw [if_pos (ckL3 (gr_err G) (gr_err A) (gr_err B)), if_pos (show a.W = b.W ∧ a.H = b.H ∧ g.W % a.W = 0 ∧ g.H % a.H = 0 from ⟨by rw [A.hw, B.hw], by rw [A.hh, B.hh], d1, d2⟩), if_neg hab, G.W, G.H, A.W, A.H, Nat.mul_div_cancel pw A.w0, Nat.mul_div_cancel ph A.h0]
  have ha : (List.range (ph * pw)).all (pgood g a b (pw * uw) uw uh pw) = true := by
    refine List.all_eq_true.2 fun t ht => ?_
    have ht := List.mem_range.1 ht
    unfold pgood
    rw [h _ _ (pl_modlt P.w0) (pl_divlt (by rw [Nat.mul_comm]; exact ht))]
    split
    · exact decide_eq_true (.inl rfl)
    · exact decide_eq_true (.inr rfl)
  rw [if_pos ha]
  refine congrArg (fun z => (z, (0 : Int))) (Eq.trans (gm_cong fun x y hx hy => ?_) P.eq.symm)
  unfold proff
  rw [h x y hx hy]
  cases cell p pw x y with
  | true => rw [if_pos rfl]; exact decide_eq_true rfl
  | false => rw [if_neg (by decide)]; exact decide_eq_false (fun e => hab e.symm)
theorem prof_same {g a : api_Grid} {pw ph uw uh : Nat} (G : Gr g (pw * uw) (ph * uh)) (A : Gr a uw uh) : profS g a a = (⟨0, 0, []⟩, 14) := by
  have d1 : g.W % a.W = 0 := by rw [G.hw, A.hw, ← Int.natCast_emod, Nat.mul_mod_left]; rfl
  have d2 : g.H % a.H = 0 := by rw [G.hh, A.hh, ← Int.natCast_emod, Nat.mul_mod_left]; rfl
  unfold profS
  rw [if_pos (ckL3 (gr_err G) (gr_err A) (gr_err A)), if_pos (show a.W = a.W ∧ a.H = a.H ∧ g.W % a.W = 0 ∧ g.H % a.H = 0 from ⟨rfl, rfl, d1, d2⟩), if_pos rfl]
end Go.Proofs.Ythfifeabomdlpaa
namespace Go.Proofs.Ythfifeabomdlpaa
open Go.RowKit
set_option linter.unusedVariables false

noncomputable def F_raddlelaw13_fit (p0 : api_Grid) : Option Bool :=
  Option.bind (α := Bool) (
    Option.bind (F_raddleref01_Great p0) fun r10 =>
    if !r10 then
      Option.bind (F_raddleref01_Check p0) fun r13 =>
      some (r13 == 0)
    else
      some false) fun o7 =>
  some o7
set_option maxHeartbeats 4000000 in
set_option maxRecDepth 100000 in
theorem c_raddlelaw13_fit (E : Nat → Prop) (w0 : World) (p0 : api_Grid) (v0 : Value) (r : Bool) (h : F_raddlelaw13_fit p0 = some r) (S : St0 E [] w0 w0 [] [fRep r_api_Grid (v0) p0]) :
    Calls Try.prog 32 #[v0] w0 (Ret (X := Unit) E [] w0 (fun _ => .bool r) (fun _ => []) (fun _ => [])) := by
  unfold F_raddlelaw13_fit at h
  obtain ⟨u1, rfl, hu2⟩ := S.know (i := 0) (e := fRep r_api_Grid (v0) p0) rfl
  have S := S.learn (fRep (rL rB) u1 p0.Bits) hu2
  obtain ⟨ad3, cp4, _, rfl, _⟩ := hu2
  refine sEnter (args := [.agg #[iv p0.W, iv p0.H, .slice ad3 p0.Bits.length cp4]]) 11 Try.func32 rfl rfl (by simp) S (fun a S => ?_)
  refine sSeq (fun K5 hK5 => ?_)
  refine sRegion ?_
  refine sBox (v := .agg #[iv p0.W, iv p0.H, .slice ad3 p0.Bits.length cp4]) S (wN rfl) rfl rfl [iv p0.W, iv p0.H, .slice ad3 p0.Bits.length cp4] rfl rfl (lb rfl) fun a b6 w S => ?_
  refine sMove (.bool false) S (wN rfl) (.inr rfl) rfl rfl (lb rfl) fun a S => ?_
  refine leafL (leafT (hK5 _ _ ?_))
  obtain ⟨t8, h, g9⟩ := bindSome h
  refine sCut (fun a w => ∃ o7, o7 = t8 ∧ St [] E [] w0 11 a w [(2, .bool o7)] [] []) ?_ (fun a w hI => ?_)
  rotate_left
  · obtain ⟨o7, rfl, S⟩ := hI
    have h := g9
    clear g9
    try dsimp only at h
    obtain rfl := Option.some.inj h
    exact wp_ret (sRet (.bool o7) S (rsl1 rfl (rvT (t := 2) (v := .bool o7) S rfl)) ⟨(), rfl, S.mem.sel [] [] (by decide) rfl rfl⟩)
  refine sRegion ?_
  refine sLoadN (p := b6) (off := 0) (T := 24) (vs := [iv p0.W, iv p0.H, .slice ad3 p0.Bits.length cp4]) 0 [iv p0.W, iv p0.H, .slice ad3 p0.Bits.length cp4] S (wN rfl) rfl rfl rfl rfl rfl rfl rfl (lb rfl) fun a S => ?_
  obtain ⟨r10, hx11, h⟩ := bindSome h
  have S1 := S.mem
  refine sCallQ (X := Unit) (f := 11) (vs := [.agg #[iv p0.W, iv p0.H, .slice ad3 p0.Bits.length cp4]]) (val := fun _ => .bool r10) S (wN rfl) rfl callee11 rfl (S1.quiet [1] rfl) (fun E1 w1 S1 => c_raddleref01_Great E1 w1 p0 (.agg #[iv p0.W, iv p0.H, .slice ad3 p0.Bits.length cp4]) r10 hx11 S1) rfl (lb rfl) fun _ a w S => ?_
  refine sNot (b := r10) S (wN rfl) rfl rfl rfl (lb rfl) fun a S => ?_
  refine sMove (.bool (!r10)) S (wN rfl) (.inl rfl) rfl rfl (lb rfl) fun a S => ?_
  rcases iteSome h with ⟨hc12, h⟩ | ⟨hc12, h⟩
  rotate_left
  · refine sSkip 3 true 6 7 S rfl rfl rfl hc12 rfl (lb rfl) fun a S => ?_
    refine sSkip 3 true 6 8 S rfl rfl rfl hc12 rfl (lb rfl) fun a S => ?_
    refine sSkip 3 true 6 9 S rfl rfl rfl hc12 rfl (lb rfl) fun a S => ?_
    refine sPickF (.bool false) S (wN rfl) rfl rfl hc12 rfl rfl (lb rfl) fun a S => ?_
    refine sMove (.bool false) S (wN rfl) (.inr rfl) rfl rfl (lb rfl) fun a S => ?_
    exact leafL (leafT (⟨false, Option.some.inj h, S.fix [] [] (by decide) rfl rfl rfl⟩))
  refine sLoadN (p := b6) (off := 0) (T := 24) (vs := [iv p0.W, iv p0.H, .slice ad3 p0.Bits.length cp4]) 0 [iv p0.W, iv p0.H, .slice ad3 p0.Bits.length cp4] S (wG 3 true 6 rfl rfl rfl hc12) rfl rfl rfl rfl rfl rfl rfl (lb rfl) fun a S => ?_
  obtain ⟨r13, hx14, h⟩ := bindSome h
  have S1 := S.mem
  refine sCallQ (X := Unit) (f := 53) (vs := [.agg #[iv p0.W, iv p0.H, .slice ad3 p0.Bits.length cp4]]) (val := fun _ => iv r13) S (wG 3 true 6 rfl rfl rfl hc12) rfl callee53 rfl (S1.quiet [1] rfl) (fun E1 w1 S1 => c_raddleref01_Check E1 w1 p0 (.agg #[iv p0.W, iv p0.H, .slice ad3 p0.Bits.length cp4]) r13 hx14 S1) rfl (lb rfl) fun _ a w S => ?_
  refine sBin (.bool (r13 == 0)) S (wG 3 true 6 rfl rfl rfl hc12) rfl rfl rfl (bEq _ _ _ _ .i64 r13 0) rfl (lb rfl) fun a S => ?_
  refine sPickT (.bool (r13 == 0)) S (wN rfl) rfl rfl hc12 rfl rfl (lb rfl) fun a S => ?_
  refine sMove (.bool (r13 == 0)) S (wN rfl) (.inr rfl) rfl rfl (lb rfl) fun a S => ?_
  exact leafL (leafT (⟨r13 == 0, Option.some.inj h, S.fix [] [] (by decide) rfl rfl rfl⟩))

end Go.Proofs.Ythfifeabomdlpaa
namespace Go.Proofs.Ythfifeabomdlpaa
open Go.RowKit
set_option linter.unusedVariables false

noncomputable def F_grid_Not_1_s0 (p0 : Int) (p1 : Int) (p2 : api_Grid) : Option Bool :=
  Option.bind (idxO p2.Bits (w64 ((w64 (p1 * p2.W)) + p0))) fun x11 =>
  some (!x11)
set_option maxHeartbeats 4000000 in
set_option maxRecDepth 100000 in
theorem c_grid_Not_1_s0 (E : Nat → Prop) (w0 : World) (p0 : Int) (p1 : Int) (p2 : api_Grid) (v2 : Value) (r : Bool) (h : F_grid_Not_1_s0 p0 p1 p2 = some r) (S : St0 E [] w0 w0 [] [fPtr r_api_Grid (v2) p2]) :
    Calls Try.prog 68 #[iv p0, iv p1, v2] w0 (Ret (X := Unit) E [] w0 (fun _ => .bool r) (fun _ => []) (fun _ => [])) := by
  unfold F_grid_Not_1_s0 at h
  refine sEnter (args := [iv p0, iv p1, v2]) 17 Try.func68 rfl rfl (by simp) S (fun a S => ?_)
  refine sSeq (fun K1 hK1 => ?_)
  refine sRegion ?_
  refine sMove (.bool false) S (wN rfl) (.inr rfl) rfl rfl (lb rfl) fun a S => ?_
  refine leafL (leafT (hK1 _ _ ?_))
  refine sSeq (fun K2 hK2 => ?_)
  refine sRegion ?_
  obtain ⟨q3, hq4, S⟩ := pFld (P := Try.prog) (r := r_api_Grid) (s2 := (rL rB)) (g := (·.Bits)) (q := v2) (z := p2) 24 2 0 2 S rfl rfl comp_api_Grid_Bits
  refine sFldV (q := v2) S (wN rfl) rfl rfl hq4 rfl (lb rfl) fun a S => ?_
  obtain ⟨u5, S⟩ := pLoad (r := (rL rB)) (q := q3) (x := p2.Bits) 0 S rfl
  obtain ⟨ad6, cp7, _, rfl, _⟩ := S.mem.know (i := 1) (e := fRep (rL rB) (u5) p2.Bits) rfl
  refine sLoadV1 (vq := q3) 0 (.slice ad6 p2.Bits.length cp7) S (wN rfl) rfl rfl rfl rfl rfl (lb rfl) fun a S => ?_
  refine sMove (iv p1) S (wN rfl) (.inl rfl) rfl rfl (lb rfl) fun a S => ?_
  obtain ⟨q8, hq9, S⟩ := pFld (P := Try.prog) (r := r_api_Grid) (s2 := (rI .i64)) (g := (·.W)) (q := v2) (z := p2) 24 0 3 0 S rfl rfl comp_api_Grid_W
  refine sFldV (q := v2) S (wN rfl) rfl rfl hq9 rfl (lb rfl) fun a S => ?_
  obtain ⟨u10, S⟩ := pLoad (r := (rI .i64)) (q := q8) (x := p2.W) 0 S rfl
  obtain rfl : u10 = iv p2.W := S.mem.know (i := 1) (e := fRep (rI .i64) (u10) p2.W) rfl
  refine sLoadV1 (vq := q8) 0 (iv p2.W) S (wN rfl) rfl rfl rfl rfl rfl (lb rfl) fun a S => ?_
  refine sBin (iv (w64 (p1 * p2.W))) S (wN rfl) rfl rfl rfl (bMul _ _ _ _ p1 p2.W) rfl (lb rfl) fun a S => ?_
  refine sMove (iv p0) S (wN rfl) (.inl rfl) rfl rfl (lb rfl) fun a S => ?_
  refine sBin (iv (w64 ((w64 (p1 * p2.W)) + p0))) S (wN rfl) rfl rfl rfl (bAdd _ _ _ _ (w64 (p1 * p2.W)) p0) rfl (lb rfl) fun a S => ?_
  obtain ⟨x11, hx12, h⟩ := bindSome h
  obtain ⟨q13, hq14, S⟩ := pIdx (P := Try.prog) (r := rB) (v := .slice ad6 p2.Bits.length cp7) (xs := p2.Bits) (j := w64 ((w64 (p1 * p2.W)) + p0)) 22 4 4 S Try.underlying22 rfl rfl hx12
  refine sIdxV (v := .slice ad6 p2.Bits.length cp7) (k := .i64) (j := w64 ((w64 (p1 * p2.W)) + p0)) S (wN rfl) rfl rfl rfl hq14 rfl (lb rfl) fun a S => ?_
  obtain ⟨u15, S⟩ := pLoad (r := rB) (q := q13) (x := x11) 0 S rfl
  obtain rfl : u15 = .bool x11 := S.mem.know (i := 1) (e := fRep rB (u15) x11) rfl
  refine sLoadV1 (vq := q13) 0 (.bool x11) S (wN rfl) rfl rfl rfl rfl rfl (lb rfl) fun a S => ?_
  refine sNot (b := x11) S (wN rfl) rfl rfl rfl (lb rfl) fun a S => ?_
  refine sMove (.bool (!x11)) S (wN rfl) (.inr rfl) rfl rfl (lb rfl) fun a S => ?_
  refine leafL (leafT (hK2 _ _ ?_))
  obtain rfl := Option.some.inj h
  exact wp_ret (sRet (.bool (!x11)) S (rsl1 rfl (rvT (t := 5) (v := .bool (!x11)) S rfl)) ⟨(), rfl, S.mem.sel [] [] (by decide) rfl rfl⟩)

end Go.Proofs.Ythfifeabomdlpaa
namespace Go.Proofs.Ythfifeabomdlpaa
open Go.RowKit
set_option linter.unusedVariables false

def anc_grid_build_s2_0 : List (List Nat) := [[], [0], [], [], [], [2, 3, 4], [2, 3, 4, 5], [0, 1, 2, 3, 4, 5, 6], [0, 1, 2, 3, 4, 5, 6, 7], [0, 1, 2, 3, 4, 5, 6, 7, 8]]
noncomputable def grid_build_s2_l1 (p0 : Int) (s15 : Int) (p2 : api_Grid) : (Int × List Bool) → Option ((Int × List Bool) ⊕ List Bool) := fun s0 => match s0 with
  | (s35, s36) =>
    if decide (s35 < p0) then
      Option.bind (F_grid_Not_1_s0 s35 s15 p2) fun r50 =>
      Option.bind (appO s36 [r50]) fun l54 =>
      some (.inl (w64 (s35 + 1), l54))
    else
      some (.inr s36)
noncomputable def grid_build_s2_l2 (p1 : Int) (p0 : Int) (p2 : api_Grid) : (Int × List Bool) → Option ((Int × List Bool) ⊕ List Bool) := fun s0 => match s0 with
  | (s15, s16) =>
    if decide (s15 < p1) then
      Option.bind (α := List Bool) (
        Option.bind (whileO (grid_build_s2_l1 p0 s15 p2) (0, s16)) fun e42 =>
          some e42) fun o28 =>
      some (.inl (w64 (s15 + 1), o28))
    else
      some (.inr s16)
noncomputable def F_grid_build_s2 (p0 : Int) (p1 : Int) (p2 : api_Grid) : Option api_Grid :=
  Option.bind (capO (w64 (p0 * p1))) fun z6 =>
  Option.bind (α := List Bool) (
    Option.bind (whileO (grid_build_s2_l2 p1 p0 p2) (0, ([] : List Bool))) fun e22 =>
      some e22) fun o9 =>
  some (api_Grid.mk p0 p1 o9)
def c_grid_build_s2_val (r : api_Grid) (x : Value) : Value := x
def c_grid_build_s2_D (r : api_Grid) (x : Value) : List Fact := [fRep r_api_Grid x r]
set_option maxHeartbeats 4000000 in
set_option maxRecDepth 100000 in
theorem c_grid_build_s2 (E : Nat → Prop) (w0 : World) (p0 : Int) (p1 : Int) (p2 : api_Grid) (v2 : Value) (r : api_Grid) (h : F_grid_build_s2 p0 p1 p2 = some r) (S : St0 E [] w0 w0 [] [fPtr r_api_Grid (v2) p2]) :
    Calls Try.prog 64 #[iv p0, iv p1, .func (.func 68) #[] #[v2]] w0 (Ret (X := Value) E [] w0 (c_grid_build_s2_val r) (fun _ => []) (c_grid_build_s2_D r)) := by
  unfold F_grid_build_s2 at h
  refine sEnter (args := [iv p0, iv p1, .func (.func 68) #[] #[v2]]) 37 Try.func64 rfl rfl (by simp) S (fun a S => ?_)
  refine sSeq (fun K1 hK1 => ?_)
  refine sRegion ?_
  refine sAlloc (.agg #[iv 0, iv 0, .slice none 0 0]) S (wN rfl) rfl rfl [iv 0, iv 0, .slice none 0 0] rfl rfl (lb rfl) fun a b2 w S => ?_
  refine leafL (leafT (hK1 _ _ ?_))
  refine sSeq (fun K3 hK3 => ?_)
  refine sRegion ?_
  refine sMove (iv p0) S (wN rfl) (.inl rfl) rfl rfl (lb rfl) fun a S => ?_
  refine sMove (iv p1) S (wN rfl) (.inl rfl) rfl rfl (lb rfl) fun a S => ?_
  refine sMove (iv p0) S (wN rfl) (.inl rfl) rfl rfl (lb rfl) fun a S => ?_
  refine sMove (iv p1) S (wN rfl) (.inl rfl) rfl rfl (lb rfl) fun a S => ?_
  refine sBin (iv (w64 (p0 * p1))) S (wN rfl) rfl rfl rfl (bMul _ _ _ _ p0 p1) rfl (lb rfl) fun a S => ?_
  obtain ⟨z6, hx7, h⟩ := bindSome h
  refine sMake0 rB (m := w64 (p0 * p1)) (u := z6) (.bool false) 1 S (wN rfl) rfl Try.underlying22 rfl (by decide) rfl rfl hx7 rfl (lb rfl) fun a w ad4 cp5 S => ?_
  refine sBuild [(0, iv p0), (1, iv p1), (2, .slice ad4 ([] : List Bool).length cp5)] [iv p0, iv p1, .slice ad4 ([] : List Bool).length cp5] S (wN rfl) rfl rfl rfl rfl (lb rfl) fun a S => ?_
  refine sAlloc (.agg #[iv 0, iv 0, .slice none 0 0]) S (wN rfl) rfl rfl [iv 0, iv 0, .slice none 0 0] rfl rfl (lb rfl) fun a b8 w S => ?_
  refine sStore (p := b8) (off := 0) (T := 24) (vs := [iv 0, iv 0, .slice none 0 0]) (v := .agg #[iv p0, iv p1, .slice ad4 ([] : List Bool).length cp5]) 0 [iv p0, iv p1, .slice ad4 ([] : List Bool).length cp5] S (wN rfl) rfl rfl rfl rfl rfl rfl rfl (by simp) rfl fun a w S => ?_
  refine leafL (leafT (hK3 _ _ ?_))
  obtain ⟨t12, h, g13⟩ := bindSome h
  refine sCut (fun a w => ∃ o9, o9 = t12 ∧ ∃ ad10, ∃ cp11, St [] E [] w0 37 a w [(6, .pointer (some ⟨b2, 0, none⟩)), (7, .pointer (some ⟨b8, 0, none⟩))] [eBox b2 24 [iv 0, iv 0, .slice none 0 0], eBox b8 24 [iv p0, iv p1, .slice ad10 o9.length cp11], eRow rB 4 (.slice ad10 o9.length cp11) o9] []) ?_ (fun a w hI => ?_)
  rotate_left
  · obtain ⟨o9, rfl, ad10, cp11, S⟩ := hI
    have h := g13
    clear g13
    try dsimp only at h
    refine sSeq (fun K62 hK62 => ?_)
    refine sRegion ?_
    refine sLoadN (p := b8) (off := 0) (T := 24) (vs := [iv p0, iv p1, .slice ad10 o9.length cp11]) 1 [iv p0, iv p1, .slice ad10 o9.length cp11] S (wN rfl) rfl rfl rfl rfl rfl rfl rfl (lb rfl) fun a S => ?_
    refine sStore (p := b2) (off := 0) (T := 24) (vs := [iv 0, iv 0, .slice none 0 0]) (v := .agg #[iv p0, iv p1, .slice ad10 o9.length cp11]) 0 [iv p0, iv p1, .slice ad10 o9.length cp11] S (wN rfl) rfl rfl rfl rfl rfl rfl rfl (by simp) rfl fun a w S => ?_
    refine leafL (leafT (hK62 _ _ ?_))
    obtain rfl := Option.some.inj h
    have S := S.shutR (r := rB) (T := 4) (v := .slice ad10 o9.length cp11) (xs := o9) 2 rfl
    have S := S.learn (fRep r_api_Grid (.agg #[iv p0, iv p1, .slice ad10 o9.length cp11]) (api_Grid.mk p0 p1 o9)) ⟨_, rfl, S.mem.know (i := 0) (e := fRep (rL rB) (.slice ad10 o9.length cp11) o9) rfl⟩
    exact wp_ret (sRet (.agg #[iv p0, iv p1, .slice ad10 o9.length cp11]) S (rsl1 rfl (rvN (c := 6) (t := 24) (T := 24) (p := b2) 0 [iv p0, iv p1, .slice ad10 o9.length cp11] S rfl rfl rfl rfl)) ⟨(.agg #[iv p0, iv p1, .slice ad10 o9.length cp11]), rfl, S.mem.sel [] [0] (by decide) rfl rfl⟩)
  refine sSeq (fun K14 hK14 => ?_)
  refine sRegion ?_
  refine sMove (iv p1) S (wN rfl) (.inl rfl) rfl rfl (lb rfl) fun a S => ?_
  refine sMove (iv 0) S (wN rfl) (.inl rfl) rfl rfl (lb rfl) fun a S => ?_
  refine leafL (leafT (hK14 _ _ ?_))
  refine wp_block ?_
  obtain ⟨t21, hl, g20⟩ := bindSome h
  refine sLoop hl (fun s0 a w => match s0 with | (s15, s16) => ∃ ad17, ∃ cp18, St [] E [] w0 37 a w [(0, iv p0), (2, .func (.func 68) #[] #[v2]), (6, .pointer (some ⟨b2, 0, none⟩)), (7, .pointer (some ⟨b8, 0, none⟩)), (17, iv p1), (18, iv s15)] [eBox b2 24 [iv 0, iv 0, .slice none 0 0], eBox b8 24 [iv p0, iv p1, .slice ad17 s16.length cp18], eRow rB 4 (.slice ad17 s16.length cp18) s16] [fPtr r_api_Grid (v2) p2]) ⟨ad4, cp5, S.fix [2, 0, 1] [0] (by decide) rfl rfl rfl⟩ ?_
  clear hl h
  intro s0 a w c0 hI h hu19
  obtain ⟨s15, s16⟩ := s0
  unfold grid_build_s2_l2 at h
  dsimp only at h hI
  obtain ⟨ad17, cp18, S⟩ := hI
  refine sSeq (fun K25 hK25 => ?_)
  refine sRegion ?_
  refine sBin (.bool (decide (s15 < p1))) S (wN rfl) rfl rfl rfl (bLt _ _ _ _ .i64 s15 p1) rfl (lb rfl) fun a S => ?_
  refine leafL (leafT (hK25 _ _ ?_))
  refine sSeq (fun K26 hK26 => ?_)
  rcases iteSome h with ⟨hc27, h⟩ | ⟨hc27, h⟩
  rotate_left
  · refine sCondF S rfl hc27 ?_
    obtain rfl := Option.some.inj h
    obtain rfl := hu19 _ rfl
    have h := g20
    clear g20
    try dsimp only at h
    exact wp_exit (xThen (xThen (xHit (leafT (⟨s16, Option.some.inj h, ad17, cp18, S.fix [0, 1, 2] [] (by decide) rfl rfl rfl⟩)))))
  refine sCondT S rfl hc27 ?_
  refine wp_skip (leafT (hK26 _ _ ?_))
  obtain ⟨t31, h, g32⟩ := bindSome h
  refine sCut (fun a w => ∃ o28, o28 = t31 ∧ ∃ ad29, ∃ cp30, St [] E [] w0 37 a w [(0, iv p0), (2, .func (.func 68) #[] #[v2]), (6, .pointer (some ⟨b2, 0, none⟩)), (7, .pointer (some ⟨b8, 0, none⟩)), (17, iv p1), (18, iv s15)] [eBox b2 24 [iv 0, iv 0, .slice none 0 0], eBox b8 24 [iv p0, iv p1, .slice ad29 o28.length cp30], eRow rB 4 (.slice ad29 o28.length cp30) o28] [fPtr r_api_Grid (v2) p2]) ?_ (fun a w hI => ?_)
  rotate_left
  · obtain ⟨o28, rfl, ad29, cp30, S⟩ := hI
    have h := g32
    clear g32
    try dsimp only at h
    refine sRegion ?_
    refine sBin (iv (w64 (s15 + 1))) S (wN rfl) rfl rfl rfl (bAdd _ _ _ _ s15 1) rfl (lb rfl) fun a S => ?_
    refine sMove (iv (w64 (s15 + 1))) S (wN rfl) (.inl rfl) rfl rfl (lb rfl) fun a S => ?_
    exact leafL (leafT (⟨(w64 (s15 + 1), o28), (Option.some.inj h).symm, ⟨ad29, cp30, S.fix [0, 1, 2] [0] (by decide) rfl rfl rfl⟩⟩))
  refine wp_block ?_
  refine sSeq (fun K33 hK33 => ?_)
  refine sRegion ?_
  refine sMove (iv s15) S (wN rfl) (.inl rfl) rfl rfl (lb rfl) fun a S => ?_
  refine sMove (iv s15) S (wN rfl) (.inr rfl) rfl rfl (lb rfl) fun a S => ?_
  refine leafL (leafT (hK33 _ _ ?_))
  refine sSeq (fun K34 hK34 => ?_)
  refine sRegion ?_
  refine sMove (iv p0) S (wN rfl) (.inl rfl) rfl rfl (lb rfl) fun a S => ?_
  refine sMove (iv 0) S (wN rfl) (.inl rfl) rfl rfl (lb rfl) fun a S => ?_
  refine leafL (leafT (hK34 _ _ ?_))
  refine wp_block ?_
  obtain ⟨t41, hl, g40⟩ := bindSome h
  refine sLoop hl (fun s0 a w => match s0 with | (s35, s36) => ∃ ad37, ∃ cp38, St [] E [] w0 37 a w [(0, iv p0), (2, .func (.func 68) #[] #[v2]), (6, .pointer (some ⟨b2, 0, none⟩)), (7, .pointer (some ⟨b8, 0, none⟩)), (8, iv s15), (17, iv p1), (18, iv s15), (21, iv p0), (22, iv s35)] [eBox b2 24 [iv 0, iv 0, .slice none 0 0], eBox b8 24 [iv p0, iv p1, .slice ad37 s36.length cp38], eRow rB 4 (.slice ad37 s36.length cp38) s36] [fPtr r_api_Grid (v2) p2]) ⟨ad17, cp18, S.fix [0, 1, 2] [0] (by decide) rfl rfl rfl⟩ ?_
  clear hl h
  intro s0 a w c0 hI h hu39
  obtain ⟨s35, s36⟩ := s0
  unfold grid_build_s2_l1 at h
  dsimp only at h hI
  obtain ⟨ad37, cp38, S⟩ := hI
  refine sSeq (fun K45 hK45 => ?_)
  refine sRegion ?_
  refine sBin (.bool (decide (s35 < p0))) S (wN rfl) rfl rfl rfl (bLt _ _ _ _ .i64 s35 p0) rfl (lb rfl) fun a S => ?_
  refine leafL (leafT (hK45 _ _ ?_))
  refine sSeq (fun K46 hK46 => ?_)
  rcases iteSome h with ⟨hc47, h⟩ | ⟨hc47, h⟩
  rotate_left
  · refine sCondF S rfl hc47 ?_
    obtain rfl := Option.some.inj h
    obtain rfl := hu39 _ rfl
    have h := g40
    clear g40
    try dsimp only at h
    exact wp_exit (xThen (xThen (xHit (leafB (leafT (⟨s36, Option.some.inj h, ad37, cp38, S.fix [0, 1, 2] [0] (by decide) rfl rfl rfl⟩))))))
  refine sCondT S rfl hc47 ?_
  refine wp_skip (leafT (hK46 _ _ ?_))
  refine sSeq (fun K48 hK48 => ?_)
  refine wp_block ?_
  refine sSeq (fun K49 hK49 => ?_)
  refine sRegion ?_
  refine sMove (iv s35) S (wN rfl) (.inl rfl) rfl rfl (lb rfl) fun a S => ?_
  refine sMove (iv s35) S (wN rfl) (.inr rfl) rfl rfl (lb rfl) fun a S => ?_
  refine leafL (leafT (hK49 _ _ ?_))
  obtain ⟨r50, hx51, h⟩ := bindSome h
  obtain ⟨l54, hx55, h⟩ := bindSome h
  refine sDraw (nf := [6, 7, 9]) (W := [(0, 25, .pointer (some ⟨b8, 2, none⟩)), (1, 26, .slice ad37 s36.length cp38), (2, 27, .func (.func 68) #[] #[v2]), (3, 28, iv s35), (4, 29, iv s15), (5, 30, .bool r50)]) rfl S ?_
  refine node_by (A := anc_grid_build_s2_0) (nf := [6, 7, 9]) (Y := []) (W := [(0, 25, .pointer (some ⟨b8, 2, none⟩)), (1, 26, .slice ad37 s36.length cp38), (2, 27, .func (.func 68) #[] #[v2]), (3, 28, iv s35), (4, 29, iv s15), (5, 30, .bool r50)]) 10 (by kernel_rfl) (by kernel_rfl) (by kernel_rfl) (by kernel_rfl) (by kernel_rfl) [0, 1, 2, 3, 4, 5] (by kernel_rfl) (by decide) (by decide) (aF 0 9 (by decide) ?_ (aF 1 8 (by decide) ?_ (aF 2 7 (by decide) ?_ (aF 3 6 (by decide) ?_ (aF 4 5 (by decide) ?_ (aF 5 4 (by decide) ?_ (aN 6 3 (by decide) ?_ (aB 7 2 6 (by decide) (aE 8 1 6 (by decide) (aB 9 0 6 (by decide) (trivial))))))))))) [] (fun q hq => by cases hq) (fun hY => absurd (hY 6 (by decide)) (by decide))
  · refine fI 25 (.pointer (some ⟨b8, 2, none⟩)) [(7, .pointer (some ⟨b8, 0, none⟩))] 0 [none] rfl rfl rfl rfl rfl rfl fun G a w S => ?_
    refine sField (b := b8) (off := 0) 2 2 S (wN rfl) rfl rfl rfl rfl rfl (lb rfl) fun a S => ?_
    exact leafL ⟨rfl, S⟩
  · refine fI 26 (.slice ad37 s36.length cp38) [(25, .pointer (some ⟨b8, 2, none⟩))] 1 [some 0] rfl rfl rfl rfl rfl rfl fun G a w S => ?_
    refine sLoad1 (p := b8) (off := 2) (T := 24) (vs := [iv p0, iv p1, .slice ad37 s36.length cp38]) 1 (.slice ad37 s36.length cp38) S (wN rfl) rfl rfl rfl rfl rfl rfl (lb rfl) fun a S => ?_
    exact leafL ⟨rfl, S⟩
  · refine fI 27 (.func (.func 68) #[] #[v2]) [(2, .func (.func 68) #[] #[v2])] 2 [none] rfl rfl rfl rfl rfl rfl fun G a w S => ?_
    refine sMove (.func (.func 68) #[] #[v2]) S (wN rfl) (.inl rfl) rfl rfl (lb rfl) fun a S => ?_
    exact leafL ⟨rfl, S⟩
  · refine fI 28 (iv s35) [(9, iv s35)] 3 [none] rfl rfl rfl rfl rfl rfl fun G a w S => ?_
    refine sMove (iv s35) S (wN rfl) (.inl rfl) rfl rfl (lb rfl) fun a S => ?_
    exact leafL ⟨rfl, S⟩
  · refine fI 29 (iv s15) [(8, iv s15)] 4 [none] rfl rfl rfl rfl rfl rfl fun G a w S => ?_
    refine sMove (iv s15) S (wN rfl) (.inl rfl) rfl rfl (lb rfl) fun a S => ?_
    exact leafL ⟨rfl, S⟩
  · refine fI 30 (.bool r50) [(27, .func (.func 68) #[] #[v2]), (28, iv s35), (29, iv s15)] 5 [some 2, some 3, some 4] rfl rfl rfl rfl rfl rfl fun G a w S => ?_
    have S1 := S.mem
    refine sCallVQ (X := Unit) (g := 68) (vs := [iv s35, iv s15]) (caps := [v2]) (val := fun _ => .bool r50) S (wN rfl) rfl rfl callee68 rfl (S1.quiet [0] rfl) (fun E1 w1 S1 => c_grid_Not_1_s0 E1 w1 s35 s15 p2 v2 r50 hx51 S1) rfl (lb rfl) fun _ a w S => ?_
    exact leafL ⟨rfl, S⟩
  refine ⟨_, [(30, .bool r50)], rfl, (srcs_of [some 5] rfl rfl rfl), fun G a w S => ?_⟩
  refine sLit (r := rB) (T := 4) (xs := [r50]) [(0, .bool r50)] 1 [.bool r50] [.bool r50] (.bool false) 1 S (wN rfl) rfl rfl Try.underlying22 rfl (by decide) (by decide) (by kernel_rfl) rfl (fun E1 w1 hE => All.cons rfl (All.nil _ _ _)) rfl rfl (lb rfl) fun a w ad58 cp59 S => ?_
  refine leafL ⟨rfl, _, _, .inl ⟨31, (.slice ad58 [r50].length cp59), [], rfl, S, hz_of rfl, ?_⟩⟩
  refine node_by (A := anc_grid_build_s2_0) (nf := [6, 7, 9]) (Y := [6]) 10 (by kernel_rfl) (by kernel_rfl) (by kernel_rfl) (by kernel_rfl) (by kernel_rfl) [6, 0, 1, 2, 3, 4, 5] (by kernel_rfl) (by decide) (by decide) (aF 0 9 (by decide) ?_ (aF 1 8 (by decide) ?_ (aD 2 7 6 (by decide) (aD 3 6 6 (by decide) (aD 4 5 6 (by decide) (aD 5 4 6 (by decide) (aY 6 3 (by decide) (aN 7 2 (by decide) ?_ (aE 8 1 7 (by decide) (aB 9 0 7 (by decide) (trivial))))))))))) [] (fun q hq => by cases hq) (fun hY => absurd (hY 7 (by decide)) (by decide))
  · refine fI 25 (.pointer (some ⟨b8, 2, none⟩)) [(7, .pointer (some ⟨b8, 0, none⟩))] 1 [none] rfl rfl rfl rfl rfl rfl fun G a w S => ?_
    refine sField (b := b8) (off := 0) 2 2 S (wN rfl) rfl rfl rfl rfl rfl (lb rfl) fun a S => ?_
    exact leafL ⟨rfl, S⟩
  · refine fI 26 (.slice ad37 s36.length cp38) [(25, .pointer (some ⟨b8, 2, none⟩))] 2 [some 1] rfl rfl rfl rfl rfl rfl fun G a w S => ?_
    refine sLoad1 (p := b8) (off := 2) (T := 24) (vs := [iv p0, iv p1, .slice ad37 s36.length cp38]) 2 (.slice ad37 s36.length cp38) S (wN rfl) rfl rfl rfl rfl rfl rfl (lb rfl) fun a S => ?_
    exact leafL ⟨rfl, S⟩
  refine ⟨_, [(26, .slice ad37 s36.length cp38), (31, .slice ad58 [r50].length cp59)], rfl, (srcs_of [some 2, some 0] rfl rfl rfl), fun G a w S => ?_⟩
  refine sApp (r := rB) (T := 4) (xs := s36) (ys := [r50]) (v := .slice ad37 s36.length cp38) (u := .slice ad58 [r50].length cp59) 3 (.bool false) 1 S (wN rfl) rfl Try.underlying22 rfl rfl (by decide) rfl rfl rfl (src_R (T := 4) 0 S.mem rfl) hx55 rfl (lb rfl) fun a w ad60 cp61 S => ?_
  refine leafL ⟨rfl, _, _, .inl ⟨32, (.slice ad60 l54.length cp61), [(8, 33, .pointer (some ⟨b8, 2, none⟩))], rfl, S, hz_of rfl, ?_⟩⟩
  refine node_by (A := anc_grid_build_s2_0) (nf := [6, 7, 9]) (Y := [7, 6]) 10 (by kernel_rfl) (by kernel_rfl) (by kernel_rfl) (by kernel_rfl) (by kernel_rfl) [8, 7, 6, 0, 1, 2, 3, 4, 5] (by kernel_rfl) (by decide) (by decide) (aD 0 9 7 (by decide) (aD 1 8 7 (by decide) (aD 2 7 7 (by decide) (aD 3 6 7 (by decide) (aD 4 5 7 (by decide) (aD 5 4 7 (by decide) (aY 6 3 (by decide) (aY 7 2 (by decide) (aF 8 1 (by decide) ?_ (aN 9 0 (by decide) ?_ (trivial))))))))))) [] (fun q hq => by cases hq) (fun hY => absurd (hY 9 (by decide)) (by decide))
  · refine fI 33 (.pointer (some ⟨b8, 2, none⟩)) [(7, .pointer (some ⟨b8, 0, none⟩))] 0 [none] rfl rfl rfl rfl rfl rfl fun G a w S => ?_
    refine sField (b := b8) (off := 0) 2 2 S (wN rfl) rfl rfl rfl rfl rfl (lb rfl) fun a S => ?_
    exact leafL ⟨rfl, S⟩
  refine ⟨_, [(32, .slice ad60 l54.length cp61), (33, .pointer (some ⟨b8, 2, none⟩))], rfl, (srcs_of [some 1, some 0] rfl rfl rfl), fun G a w S => ?_⟩
  refine sStore (p := b8) (off := 2) (T := 24) (vs := [iv p0, iv p1, .slice ad37 s36.length cp38]) (v := .slice ad60 l54.length cp61) 3 [.slice ad60 l54.length cp61] S (wN rfl) rfl rfl rfl rfl rfl rfl rfl (by simp) rfl fun a w S => ?_
  refine leafL ⟨rfl, _, _, .inr ⟨[], rfl, S, hz_of rfl, ?_⟩⟩
  refine node_by (A := anc_grid_build_s2_0) (nf := [6, 7, 9]) (Y := [9, 7, 6]) 10 (by kernel_rfl) (by kernel_rfl) (by kernel_rfl) (by kernel_rfl) (by kernel_rfl) [8, 7, 6, 0, 1, 2, 3, 4, 5] (by kernel_rfl) (by decide) (by decide) (aD 0 9 9 (by decide) (aD 1 8 9 (by decide) (aD 2 7 9 (by decide) (aD 3 6 9 (by decide) (aD 4 5 9 (by decide) (aD 5 4 9 (by decide) (aY 6 3 (by decide) (aY 7 2 (by decide) (aD 8 1 9 (by decide) (aY 9 0 (by decide) (trivial))))))))))) [(0, iv p0), (2, .func (.func 68) #[] #[v2]), (6, .pointer (some ⟨b2, 0, none⟩)), (7, .pointer (some ⟨b8, 0, none⟩)), (8, iv s15), (17, iv p1), (18, iv s15), (21, iv p0), (22, iv s35)] (fin_of [none, none, none, none, none, none, none, none, none] rfl (by kernel_rfl) (by kernel_rfl)) (fun _ a w S => ?_)
  refine leafB (leafT (hK48 _ _ ?_))
  refine sRegion ?_
  refine sBin (iv (w64 (s35 + 1))) S (wN rfl) rfl rfl rfl (bAdd _ _ _ _ s35 1) rfl (lb rfl) fun a S => ?_
  refine sMove (iv (w64 (s35 + 1))) S (wN rfl) (.inl rfl) rfl rfl (lb rfl) fun a S => ?_
  exact leafL (leafT (⟨(w64 (s35 + 1), l54), (Option.some.inj h).symm, ⟨ad60, cp61, S.fix [3, 0, 1] [0] (by decide) rfl rfl rfl⟩⟩))

end Go.Proofs.Ythfifeabomdlpaa
namespace Go.Proofs.Ythfifeabomdlpaa
open Go.RowKit
set_option linter.unusedVariables false

noncomputable def F_grid_Not (p0 : api_Grid) : Option (api_Grid × Int) :=
  Option.bind (F_grid_Check p0) fun r10 =>
  if r10 != 0 then
    some ((api_Grid.mk 0 0 ([] : (List Bool))), r10)
  else
    Option.bind (F_grid_build_s2 p0.W p0.H p0) fun r16 =>
    some (r16, 0)
def c_grid_Not_val (r : (api_Grid × Int)) (x : Value) : Value := .tuple #[x, .int .i64 r.2]
def c_grid_Not_D (r : (api_Grid × Int)) (x : Value) : List Fact := [fRep r_api_Grid x r.1]
set_option maxHeartbeats 4000000 in
set_option maxRecDepth 100000 in
theorem c_grid_Not (E : Nat → Prop) (w0 : World) (p0 : api_Grid) (v0 : Value) (r : (api_Grid × Int)) (h : F_grid_Not p0 = some r) (S : St0 E [] w0 w0 [] [fRep r_api_Grid (v0) p0]) :
    Calls Try.prog 35 #[v0] w0 (Ret (X := Value) E [] w0 (c_grid_Not_val r) (fun _ => []) (c_grid_Not_D r)) := by
  unfold F_grid_Not at h
  obtain ⟨u1, rfl, hu2⟩ := S.know (i := 0) (e := fRep r_api_Grid (v0) p0) rfl
  have S := S.learn (fRep (rL rB) u1 p0.Bits) hu2
  obtain ⟨ad3, cp4, _, rfl, _⟩ := hu2
  refine sEnter (args := [.agg #[iv p0.W, iv p0.H, .slice ad3 p0.Bits.length cp4]]) 17 Try.func35 rfl rfl (by simp) S (fun a S => ?_)
  refine sSeq (fun K5 hK5 => ?_)
  refine sRegion ?_
  refine sBox (v := .agg #[iv p0.W, iv p0.H, .slice ad3 p0.Bits.length cp4]) S (wN rfl) rfl rfl [iv p0.W, iv p0.H, .slice ad3 p0.Bits.length cp4] rfl rfl (lb rfl) fun a b6 w S => ?_
  refine sAlloc (.agg #[iv 0, iv 0, .slice none 0 0]) S (wN rfl) rfl rfl [iv 0, iv 0, .slice none 0 0] rfl rfl (lb rfl) fun a b7 w S => ?_
  refine sMove (iv 0) S (wN rfl) (.inr rfl) rfl rfl (lb rfl) fun a S => ?_
  refine leafL (leafT (hK5 _ _ ?_))
  refine sSeq (fun K8 hK8 => ?_)
  refine sSeq (fun K9 hK9 => ?_)
  refine sRegion ?_
  refine sLoadN (p := b6) (off := 0) (T := 24) (vs := [iv p0.W, iv p0.H, .slice ad3 p0.Bits.length cp4]) 1 [iv p0.W, iv p0.H, .slice ad3 p0.Bits.length cp4] S (wN rfl) rfl rfl rfl rfl rfl rfl rfl (lb rfl) fun a S => ?_
  obtain ⟨r10, hx11, h⟩ := bindSome h
  have S1 := S.mem
  refine sCallQ (X := Unit) (f := 63) (vs := [.agg #[iv p0.W, iv p0.H, .slice ad3 p0.Bits.length cp4]]) (val := fun _ => iv r10) S (wN rfl) rfl callee63 rfl (S1.quiet [1] rfl) (fun E1 w1 S1 => c_grid_Check E1 w1 p0 (.agg #[iv p0.W, iv p0.H, .slice ad3 p0.Bits.length cp4]) r10 hx11 S1) rfl (lb rfl) fun _ a w S => ?_
  refine sMove (iv r10) S (wN rfl) (.inr rfl) rfl rfl (lb rfl) fun a S => ?_
  refine leafL (leafT (hK9 _ _ ?_))
  refine sSeq (fun K12 hK12 => ?_)
  refine sRegion ?_
  refine sMove (iv r10) S (wN rfl) (.inl rfl) rfl rfl (lb rfl) fun a S => ?_
  refine sBin (.bool (r10 != 0)) S (wN rfl) rfl rfl rfl (bNe _ _ _ _ .i64 r10 0) rfl (lb rfl) fun a S => ?_
  refine leafL (leafT (hK12 _ _ ?_))
  rcases iteSome h with ⟨hc13, h⟩ | ⟨hc13, h⟩
  · refine sCondT S rfl hc13 ?_
    refine sSeq (fun K14 hK14 => ?_)
    refine sRegion ?_
    refine sBuild [] [iv 0, iv 0, .slice none 0 0] S (wN rfl) rfl rfl rfl rfl (lb rfl) fun a S => ?_
    refine sMove (iv r10) S (wN rfl) (.inl rfl) rfl rfl (lb rfl) fun a S => ?_
    refine sStore (p := b7) (off := 0) (T := 24) (vs := [iv 0, iv 0, .slice none 0 0]) (v := .agg #[iv 0, iv 0, .slice none 0 0]) 0 [iv 0, iv 0, .slice none 0 0] S (wN rfl) rfl rfl rfl rfl rfl rfl rfl (by simp) rfl fun a w S => ?_
    refine sMove (iv r10) S (wN rfl) (.inr rfl) rfl rfl (lb rfl) fun a S => ?_
    refine leafL (leafT (hK14 _ _ ?_))
    obtain rfl := Option.some.inj h
    have S := S.learn (fRep (rL rB) (.slice none 0 0) ([] : (List Bool))) (rL_nil _ _ _)
    have S := S.learn (fRep r_api_Grid (.agg #[iv 0, iv 0, .slice none 0 0]) (api_Grid.mk 0 0 ([] : (List Bool)))) ⟨_, rfl, S.mem.know (i := 0) (e := fRep (rL rB) (.slice none 0 0) ([] : (List Bool))) rfl⟩
    exact wp_ret (rThen (sRet (.tuple #[.agg #[iv 0, iv 0, .slice none 0 0], iv r10]) S (rsl2 rfl (rvN (c := 2) (t := 24) (T := 24) (p := b7) 0 [iv 0, iv 0, .slice none 0 0] S rfl rfl rfl rfl) (rvT (t := 3) (v := iv r10) S rfl)) ⟨(.agg #[iv 0, iv 0, .slice none 0 0]), rfl, S.mem.sel [] [0] (by decide) rfl rfl⟩))
  refine sCondF S rfl hc13 ?_
  refine wp_skip (leafT (hK8 _ _ ?_))
  refine sSeq (fun K15 hK15 => ?_)
  refine sRegion ?_
  refine sField (b := b6) (off := 0) 0 0 S (wN rfl) rfl rfl rfl rfl rfl (lb rfl) fun a S => ?_
  refine sLoad1 (p := b6) (off := 0) (T := 24) (vs := [iv p0.W, iv p0.H, .slice ad3 p0.Bits.length cp4]) 1 (iv p0.W) S (wN rfl) rfl rfl rfl rfl rfl rfl (lb rfl) fun a S => ?_
  refine sField (b := b6) (off := 0) 1 1 S (wN rfl) rfl rfl rfl rfl rfl (lb rfl) fun a S => ?_
  refine sLoad1 (p := b6) (off := 1) (T := 24) (vs := [iv p0.W, iv p0.H, .slice ad3 p0.Bits.length cp4]) 1 (iv p0.H) S (wN rfl) rfl rfl rfl rfl rfl rfl (lb rfl) fun a S => ?_
  refine sFunc (g := 68) (vs := [.pointer (some ⟨b6, 0, none⟩)]) S (wN rfl) rfl rfl rfl (lb rfl) fun a S => ?_
  obtain ⟨r16, hx17, h⟩ := bindSome h
  have S := S.shutB (r := r_api_Grid) (T := 24) (b := b6) (cs := [iv p0.W, iv p0.H, .slice ad3 p0.Bits.length cp4]) 1 (.agg #[iv p0.W, iv p0.H, .slice ad3 p0.Bits.length cp4]) p0 rfl rfl (S.mem.know (i := 1) (e := fRep r_api_Grid (.agg #[iv p0.W, iv p0.H, .slice ad3 p0.Bits.length cp4]) p0) rfl)
  refine sCall (X := Value) (f := 64) (vs := [iv p0.W, iv p0.H, .func (.func 68) #[] #[.pointer (some ⟨b6, 0, none⟩)]]) (val := c_grid_build_s2_val r16) (B' := fun _ => []) (D' := c_grid_build_s2_D r16) [] [eBox b7 24 [iv 0, iv 0, .slice none 0 0]] [fPtr r_api_Grid (.pointer (some ⟨b6, 0, none⟩)) p0] [0] [0] S (wN rfl) rfl callee64 rfl (by decide) rfl rfl (fun E1 w1 S1 => c_grid_build_s2 E1 w1 p0.W p0.H p0 (.pointer (some ⟨b6, 0, none⟩)) r16 hx17 S1) rfl (lb rfl) fun u18 a w S => ?_
  obtain ⟨u19, rfl, hu20⟩ := S.mem.know (i := 0) (e := fRep r_api_Grid (u18) r16) rfl
  have S := S.learn (fRep (rL rB) u19 r16.Bits) hu20
  obtain ⟨ad21, cp22, _, rfl, _⟩ := hu20
  refine sStore (p := b7) (off := 0) (T := 24) (vs := [iv 0, iv 0, .slice none 0 0]) (v := .agg #[iv r16.W, iv r16.H, .slice ad21 r16.Bits.length cp22]) 0 [iv r16.W, iv r16.H, .slice ad21 r16.Bits.length cp22] S (wN rfl) rfl rfl rfl rfl rfl rfl rfl (by simp) rfl fun a w S => ?_
  refine sMove (iv 0) S (wN rfl) (.inr rfl) rfl rfl (lb rfl) fun a S => ?_
  refine leafL (leafT (hK15 _ _ ?_))
  obtain rfl := Option.some.inj h
  exact wp_ret (sRet (.tuple #[.agg #[iv r16.W, iv r16.H, .slice ad21 r16.Bits.length cp22], iv 0]) S (rsl2 rfl (rvN (c := 2) (t := 24) (T := 24) (p := b7) 0 [iv r16.W, iv r16.H, .slice ad21 r16.Bits.length cp22] S rfl rfl rfl rfl) (rvT (t := 3) (v := iv 0) S rfl)) ⟨(.agg #[iv r16.W, iv r16.H, .slice ad21 r16.Bits.length cp22]), rfl, S.mem.sel [] [1] (by decide) rfl rfl⟩)

end Go.Proofs.Ythfifeabomdlpaa
namespace Go.Proofs.Ythfifeabomdlpaa
open Go.RowKit
set_option linter.unusedVariables false

noncomputable def F_raddlelaw13_BlockBack (p0 : api_Grid) (p1 : api_Grid) (p2 : api_Grid) : Option Bool :=
  Option.bind (F_raddlelaw13_alive) fun r18 =>
  Option.bind (α := Bool) (
    Option.bind (F_raddlelaw13_fit p0) fun r24 =>
    if !r24 then
      some true
    else
      Option.bind (F_raddlelaw13_fit p1) fun r27 =>
      if !r27 then
        some true
      else
        Option.bind (F_raddlelaw13_fit p2) fun r30 =>
        if !r30 then
          some true
        else
          some (!r18)) fun o21 =>
  if o21 then
    some r18
  else
    Option.bind (F_block_Fill p0 p1 p2) fun r36 =>
    if r36.2 != 0 then
      Option.bind (α := Bool) (
        if r18 then
          if r36.2 == 26 then
            some true
          else
            some (r36.2 == 4)
        else
          some false) fun o47 =>
      some o47
    else
      Option.bind (α := Bool) (
        Option.bind (F_raddlelaw13_fit r36.1) fun r56 =>
        if !r56 then
          some true
        else
          if r36.1.W != (w64 (p0.W * p1.W)) then
            some true
          else
            some (r36.1.H != (w64 (p0.H * p1.H)))) fun o53 =>
      if o53 then
        some false
      else
        Option.bind (F_grid_Not p0) fun r63 =>
        Option.bind (F_block_Fill r63.1 p2 p1) fun r72 =>
        Option.bind (α := Bool) (
          if r63.2 != 0 then
            some true
          else
            if r72.2 != 0 then
              some true
            else
              Option.bind (F_raddleref01_Same r72.1 r36.1) fun r86 =>
              some (!r86)) fun o81 =>
        if o81 then
          some false
        else
          Option.bind (F_block_Profile r36.1 p1 p2) fun r91 =>
          Option.bind (F_raddleref01_Same p1 p2) fun r101 =>
          if r101 then
            Option.bind (α := Bool) (
              if r18 then
                some (r91.2 == 14)
              else
                some false) fun o104 =>
            some o104
          else
            Option.bind (α := Bool) (
              if r18 then
                if r91.2 == 0 then
                  Option.bind (F_raddleref01_Same r91.1 p0) fun r113 =>
                  some r113
                else
                  some false
              else
                some false) fun o108 =>
            some o108
set_option maxHeartbeats 4000000 in
set_option maxRecDepth 100000 in
theorem c_raddlelaw13_BlockBack (E : Nat → Prop) (w0 : World) (p0 : api_Grid) (v0 : Value) (p1 : api_Grid) (v1 : Value) (p2 : api_Grid) (v2 : Value) (r : Bool) (h : F_raddlelaw13_BlockBack p0 p1 p2 = some r) (S : St0 E [] w0 w0 [] [fRep r_api_Grid (v0) p0, fRep r_api_Grid (v1) p1, fRep r_api_Grid (v2) p2]) :
    Calls Try.prog 7 #[v0, v1, v2] w0 (Ret (X := Unit) E [] w0 (fun _ => .bool r) (fun _ => []) (fun _ => [])) := by
  unfold F_raddlelaw13_BlockBack at h
  obtain ⟨u1, rfl, hu2⟩ := S.know (i := 0) (e := fRep r_api_Grid (v0) p0) rfl
  have S := S.learn (fRep (rL rB) u1 p0.Bits) hu2
  obtain ⟨ad3, cp4, _, rfl, _⟩ := hu2
  obtain ⟨u5, rfl, hu6⟩ := S.know (i := 2) (e := fRep r_api_Grid (v1) p1) rfl
  have S := S.learn (fRep (rL rB) u5 p1.Bits) hu6
  obtain ⟨ad7, cp8, _, rfl, _⟩ := hu6
  obtain ⟨u9, rfl, hu10⟩ := S.know (i := 4) (e := fRep r_api_Grid (v2) p2) rfl
  have S := S.learn (fRep (rL rB) u9 p2.Bits) hu10
  obtain ⟨ad11, cp12, _, rfl, _⟩ := hu10
  refine sEnter (args := [.agg #[iv p0.W, iv p0.H, .slice ad3 p0.Bits.length cp4], .agg #[iv p1.W, iv p1.H, .slice ad7 p1.Bits.length cp8], .agg #[iv p2.W, iv p2.H, .slice ad11 p2.Bits.length cp12]]) 125 Try.func7 rfl rfl (by simp) S (fun a S => ?_)
  refine sSeq (fun K13 hK13 => ?_)
  refine sRegion ?_
  refine sBox (v := .agg #[iv p0.W, iv p0.H, .slice ad3 p0.Bits.length cp4]) S (wN rfl) rfl rfl [iv p0.W, iv p0.H, .slice ad3 p0.Bits.length cp4] rfl rfl (lb rfl) fun a b14 w S => ?_
  refine sBox (v := .agg #[iv p1.W, iv p1.H, .slice ad7 p1.Bits.length cp8]) S (wN rfl) rfl rfl [iv p1.W, iv p1.H, .slice ad7 p1.Bits.length cp8] rfl rfl (lb rfl) fun a b15 w S => ?_
  refine sBox (v := .agg #[iv p2.W, iv p2.H, .slice ad11 p2.Bits.length cp12]) S (wN rfl) rfl rfl [iv p2.W, iv p2.H, .slice ad11 p2.Bits.length cp12] rfl rfl (lb rfl) fun a b16 w S => ?_
  refine sMove (.bool false) S (wN rfl) (.inr rfl) rfl rfl (lb rfl) fun a S => ?_
  refine leafL (leafT (hK13 _ _ ?_))
  refine sSeq (fun K17 hK17 => ?_)
  refine sRegion ?_
  obtain ⟨r18, hx19, h⟩ := bindSome h
  have S1 := S.mem
  refine sCallQ (X := Unit) (f := 31) (vs := []) (val := fun _ => .bool r18) S (wN rfl) rfl callee31 rfl (S1.quiet [] rfl) (fun E1 w1 S1 => c_raddlelaw13_alive E1 w1  r18 hx19 S1) rfl (lb rfl) fun _ a w S => ?_
  refine sMove (.bool r18) S (wN rfl) (.inr rfl) rfl rfl (lb rfl) fun a S => ?_
  refine leafL (leafT (hK17 _ _ ?_))
  refine sSeq (fun K20 hK20 => ?_)
  obtain ⟨t22, h, g23⟩ := bindSome h
  refine sCut (fun a w => ∃ o21, o21 = t22 ∧ St [] E [] w0 125 a w [(3, .pointer (some ⟨b14, 0, none⟩)), (4, .pointer (some ⟨b15, 0, none⟩)), (5, .pointer (some ⟨b16, 0, none⟩)), (7, .bool r18), (33, .bool o21)] [eBox b14 24 [iv p0.W, iv p0.H, .slice ad3 p0.Bits.length cp4], eBox b15 24 [iv p1.W, iv p1.H, .slice ad7 p1.Bits.length cp8], eBox b16 24 [iv p2.W, iv p2.H, .slice ad11 p2.Bits.length cp12]] [fRep (rL rB) (.slice ad3 p0.Bits.length cp4) p0.Bits, fRep (rL rB) (.slice ad7 p1.Bits.length cp8) p1.Bits, fRep (rL rB) (.slice ad11 p2.Bits.length cp12) p2.Bits]) ?_ (fun a w hI => ?_)
  · refine sRegion ?_
    refine sLoadN (p := b14) (off := 0) (T := 24) (vs := [iv p0.W, iv p0.H, .slice ad3 p0.Bits.length cp4]) 2 [iv p0.W, iv p0.H, .slice ad3 p0.Bits.length cp4] S (wN rfl) rfl rfl rfl rfl rfl rfl rfl (lb rfl) fun a S => ?_
    obtain ⟨r24, hx25, h⟩ := bindSome h
    have S1 := S.mem
    refine sCallQ (X := Unit) (f := 32) (vs := [.agg #[iv p0.W, iv p0.H, .slice ad3 p0.Bits.length cp4]]) (val := fun _ => .bool r24) S (wN rfl) rfl callee32 rfl (S1.quiet [3] rfl) (fun E1 w1 S1 => c_raddlelaw13_fit E1 w1 p0 (.agg #[iv p0.W, iv p0.H, .slice ad3 p0.Bits.length cp4]) r24 hx25 S1) rfl (lb rfl) fun _ a w S => ?_
    refine sNot (b := r24) S (wN rfl) rfl rfl rfl (lb rfl) fun a S => ?_
    refine sMove (.bool (!r24)) S (wN rfl) (.inl rfl) rfl rfl (lb rfl) fun a S => ?_
    rcases iteSome h with ⟨hc26, h⟩ | ⟨hc26, h⟩
    · refine sSkip 3 false 20 21 S rfl rfl rfl hc26 rfl (lb rfl) fun a S => ?_
      refine sSkip 3 false 20 22 S rfl rfl rfl hc26 rfl (lb rfl) fun a S => ?_
      refine sSkip 3 false 20 23 S rfl rfl rfl hc26 rfl (lb rfl) fun a S => ?_
      refine sPickT (.bool true) S (wN rfl) rfl rfl hc26 rfl rfl (lb rfl) fun a S => ?_
      refine sMove (.bool true) S (wN rfl) (.inl rfl) rfl rfl (lb rfl) fun a S => ?_
      refine sSkip 8 false 25 26 S rfl rfl rfl rfl rfl (lb rfl) fun a S => ?_
      refine sSkip 8 false 25 27 S rfl rfl rfl rfl rfl (lb rfl) fun a S => ?_
      refine sSkip 8 false 25 28 S rfl rfl rfl rfl rfl (lb rfl) fun a S => ?_
      refine sPickT (.bool true) S (wN rfl) rfl rfl rfl rfl rfl (lb rfl) fun a S => ?_
      refine sMove (.bool true) S (wN rfl) (.inl rfl) rfl rfl (lb rfl) fun a S => ?_
      refine sSkip 13 false 30 31 S rfl rfl rfl rfl rfl (lb rfl) fun a S => ?_
      refine sSkip 13 false 30 32 S rfl rfl rfl rfl rfl (lb rfl) fun a S => ?_
      refine sPickT (.bool true) S (wN rfl) rfl rfl rfl rfl rfl (lb rfl) fun a S => ?_
      exact leafL (leafT (⟨true, Option.some.inj h, S.fix [2, 1, 0] [2, 1, 0] (by decide) rfl rfl rfl⟩))
    refine sLoadN (p := b15) (off := 0) (T := 24) (vs := [iv p1.W, iv p1.H, .slice ad7 p1.Bits.length cp8]) 1 [iv p1.W, iv p1.H, .slice ad7 p1.Bits.length cp8] S (wG 3 false 20 rfl rfl rfl hc26) rfl rfl rfl rfl rfl rfl rfl (lb rfl) fun a S => ?_
    obtain ⟨r27, hx28, h⟩ := bindSome h
    have S1 := S.mem
    refine sCallQ (X := Unit) (f := 32) (vs := [.agg #[iv p1.W, iv p1.H, .slice ad7 p1.Bits.length cp8]]) (val := fun _ => .bool r27) S (wG 3 false 20 rfl rfl rfl hc26) rfl callee32 rfl (S1.quiet [4] rfl) (fun E1 w1 S1 => c_raddlelaw13_fit E1 w1 p1 (.agg #[iv p1.W, iv p1.H, .slice ad7 p1.Bits.length cp8]) r27 hx28 S1) rfl (lb rfl) fun _ a w S => ?_
    refine sNot (b := r27) S (wG 3 false 20 rfl rfl rfl hc26) rfl rfl rfl (lb rfl) fun a S => ?_
    refine sPickF (.bool (!r27)) S (wN rfl) rfl rfl hc26 rfl rfl (lb rfl) fun a S => ?_
    refine sMove (.bool (!r27)) S (wN rfl) (.inl rfl) rfl rfl (lb rfl) fun a S => ?_
    rcases iteSome h with ⟨hc29, h⟩ | ⟨hc29, h⟩
    · refine sSkip 8 false 25 26 S rfl rfl rfl hc29 rfl (lb rfl) fun a S => ?_
      refine sSkip 8 false 25 27 S rfl rfl rfl hc29 rfl (lb rfl) fun a S => ?_
      refine sSkip 8 false 25 28 S rfl rfl rfl hc29 rfl (lb rfl) fun a S => ?_
      refine sPickT (.bool true) S (wN rfl) rfl rfl hc29 rfl rfl (lb rfl) fun a S => ?_
      refine sMove (.bool true) S (wN rfl) (.inl rfl) rfl rfl (lb rfl) fun a S => ?_
      refine sSkip 13 false 30 31 S rfl rfl rfl rfl rfl (lb rfl) fun a S => ?_
      refine sSkip 13 false 30 32 S rfl rfl rfl rfl rfl (lb rfl) fun a S => ?_
      refine sPickT (.bool true) S (wN rfl) rfl rfl rfl rfl rfl (lb rfl) fun a S => ?_
      exact leafL (leafT (⟨true, Option.some.inj h, S.fix [2, 1, 0] [2, 1, 0] (by decide) rfl rfl rfl⟩))
    refine sLoadN (p := b16) (off := 0) (T := 24) (vs := [iv p2.W, iv p2.H, .slice ad11 p2.Bits.length cp12]) 0 [iv p2.W, iv p2.H, .slice ad11 p2.Bits.length cp12] S (wG 8 false 25 rfl rfl rfl hc29) rfl rfl rfl rfl rfl rfl rfl (lb rfl) fun a S => ?_
    obtain ⟨r30, hx31, h⟩ := bindSome h
    have S1 := S.mem
    refine sCallQ (X := Unit) (f := 32) (vs := [.agg #[iv p2.W, iv p2.H, .slice ad11 p2.Bits.length cp12]]) (val := fun _ => .bool r30) S (wG 8 false 25 rfl rfl rfl hc29) rfl callee32 rfl (S1.quiet [5] rfl) (fun E1 w1 S1 => c_raddlelaw13_fit E1 w1 p2 (.agg #[iv p2.W, iv p2.H, .slice ad11 p2.Bits.length cp12]) r30 hx31 S1) rfl (lb rfl) fun _ a w S => ?_
    refine sNot (b := r30) S (wG 8 false 25 rfl rfl rfl hc29) rfl rfl rfl (lb rfl) fun a S => ?_
    refine sPickF (.bool (!r30)) S (wN rfl) rfl rfl hc29 rfl rfl (lb rfl) fun a S => ?_
    refine sMove (.bool (!r30)) S (wN rfl) (.inl rfl) rfl rfl (lb rfl) fun a S => ?_
    rcases iteSome h with ⟨hc32, h⟩ | ⟨hc32, h⟩
    · refine sSkip 13 false 30 31 S rfl rfl rfl hc32 rfl (lb rfl) fun a S => ?_
      refine sSkip 13 false 30 32 S rfl rfl rfl hc32 rfl (lb rfl) fun a S => ?_
      refine sPickT (.bool true) S (wN rfl) rfl rfl hc32 rfl rfl (lb rfl) fun a S => ?_
      exact leafL (leafT (⟨true, Option.some.inj h, S.fix [2, 1, 0] [2, 1, 0] (by decide) rfl rfl rfl⟩))
    refine sMove (.bool r18) S (wG 13 false 30 rfl rfl rfl hc32) (.inl rfl) rfl rfl (lb rfl) fun a S => ?_
    refine sNot (b := r18) S (wG 13 false 30 rfl rfl rfl hc32) rfl rfl rfl (lb rfl) fun a S => ?_
    refine sPickF (.bool (!r18)) S (wN rfl) rfl rfl hc32 rfl rfl (lb rfl) fun a S => ?_
    exact leafL (leafT (⟨!r18, Option.some.inj h, S.fix [2, 1, 0] [2, 1, 0] (by decide) rfl rfl rfl⟩))
  obtain ⟨o21, rfl, S⟩ := hI
  have h := g23
  clear g23
  try dsimp only at h
  rcases iteSome h with ⟨hc33, h⟩ | ⟨hc33, h⟩
  · refine sCondT S rfl hc33 ?_
    refine sSeq (fun K34 hK34 => ?_)
    refine sRegion ?_
    refine sMove (.bool r18) S (wN rfl) (.inl rfl) rfl rfl (lb rfl) fun a S => ?_
    refine sMove (.bool r18) S (wN rfl) (.inr rfl) rfl rfl (lb rfl) fun a S => ?_
    refine leafL (leafT (hK34 _ _ ?_))
    obtain rfl := Option.some.inj h
    exact wp_ret (rThen (sRet (.bool r18) S (rsl1 rfl (rvT (t := 6) (v := .bool r18) S rfl)) ⟨(), rfl, S.mem.sel [] [] (by decide) rfl rfl⟩))
  refine sCondF S rfl hc33 ?_
  refine wp_skip (leafT (hK20 _ _ ?_))
  refine sSeq (fun K35 hK35 => ?_)
  refine sRegion ?_
  refine sLoadN (p := b14) (off := 0) (T := 24) (vs := [iv p0.W, iv p0.H, .slice ad3 p0.Bits.length cp4]) 0 [iv p0.W, iv p0.H, .slice ad3 p0.Bits.length cp4] S (wN rfl) rfl rfl rfl rfl rfl rfl rfl (lb rfl) fun a S => ?_
  refine sLoadN (p := b15) (off := 0) (T := 24) (vs := [iv p1.W, iv p1.H, .slice ad7 p1.Bits.length cp8]) 1 [iv p1.W, iv p1.H, .slice ad7 p1.Bits.length cp8] S (wN rfl) rfl rfl rfl rfl rfl rfl rfl (lb rfl) fun a S => ?_
  refine sLoadN (p := b16) (off := 0) (T := 24) (vs := [iv p2.W, iv p2.H, .slice ad11 p2.Bits.length cp12]) 2 [iv p2.W, iv p2.H, .slice ad11 p2.Bits.length cp12] S (wN rfl) rfl rfl rfl rfl rfl rfl rfl (lb rfl) fun a S => ?_
  obtain ⟨r36, hx37, h⟩ := bindSome h
  have S := S.learn (fRep r_api_Grid (.agg #[iv p0.W, iv p0.H, .slice ad3 p0.Bits.length cp4]) p0) ⟨_, rfl, S.mem.know (i := 0) (e := fRep (rL rB) (.slice ad3 p0.Bits.length cp4) p0.Bits) rfl⟩
  have S := S.learn (fRep r_api_Grid (.agg #[iv p1.W, iv p1.H, .slice ad7 p1.Bits.length cp8]) p1) ⟨_, rfl, S.mem.know (i := 2) (e := fRep (rL rB) (.slice ad7 p1.Bits.length cp8) p1.Bits) rfl⟩
  have S := S.learn (fRep r_api_Grid (.agg #[iv p2.W, iv p2.H, .slice ad11 p2.Bits.length cp12]) p2) ⟨_, rfl, S.mem.know (i := 4) (e := fRep (rL rB) (.slice ad11 p2.Bits.length cp12) p2.Bits) rfl⟩
  refine sCall (X := Value) (f := 13) (vs := [.agg #[iv p0.W, iv p0.H, .slice ad3 p0.Bits.length cp4], .agg #[iv p1.W, iv p1.H, .slice ad7 p1.Bits.length cp8], .agg #[iv p2.W, iv p2.H, .slice ad11 p2.Bits.length cp12]]) (val := c_block_Fill_val r36) (B' := fun _ => []) (D' := c_block_Fill_D r36) [] [eBox b14 24 [iv p0.W, iv p0.H, .slice ad3 p0.Bits.length cp4], eBox b15 24 [iv p1.W, iv p1.H, .slice ad7 p1.Bits.length cp8], eBox b16 24 [iv p2.W, iv p2.H, .slice ad11 p2.Bits.length cp12]] [fRep r_api_Grid (.agg #[iv p0.W, iv p0.H, .slice ad3 p0.Bits.length cp4]) p0, fRep r_api_Grid (.agg #[iv p1.W, iv p1.H, .slice ad7 p1.Bits.length cp8]) p1, fRep r_api_Grid (.agg #[iv p2.W, iv p2.H, .slice ad11 p2.Bits.length cp12]) p2] [0, 1, 2] [2, 1, 0] S (wN rfl) rfl callee13 rfl (by decide) rfl rfl (fun E1 w1 S1 => c_block_Fill E1 w1 p0 (.agg #[iv p0.W, iv p0.H, .slice ad3 p0.Bits.length cp4]) p1 (.agg #[iv p1.W, iv p1.H, .slice ad7 p1.Bits.length cp8]) p2 (.agg #[iv p2.W, iv p2.H, .slice ad11 p2.Bits.length cp12]) r36 hx37 S1) rfl (lb rfl) fun u38 a w S => ?_
  obtain ⟨u39, rfl, hu40⟩ := S.mem.know (i := 0) (e := fRep r_api_Grid (u38) r36.1) rfl
  have S := S.learn (fRep (rL rB) u39 r36.1.Bits) hu40
  obtain ⟨ad41, cp42, _, rfl, _⟩ := hu40
  refine sMove (.tuple #[.agg #[iv r36.1.W, iv r36.1.H, .slice ad41 r36.1.Bits.length cp42], iv r36.2]) S (wN rfl) (.inl rfl) rfl rfl (lb rfl) fun a S => ?_
  refine sExtract (vs := [.agg #[iv r36.1.W, iv r36.1.H, .slice ad41 r36.1.Bits.length cp42], iv r36.2]) (.agg #[iv r36.1.W, iv r36.1.H, .slice ad41 r36.1.Bits.length cp42]) S (wN rfl) rfl rfl rfl rfl (lb rfl) fun a S => ?_
  refine sExtract (vs := [.agg #[iv r36.1.W, iv r36.1.H, .slice ad41 r36.1.Bits.length cp42], iv r36.2]) (iv r36.2) S (wN rfl) rfl rfl rfl rfl (lb rfl) fun a S => ?_
  refine sAlloc (.agg #[iv 0, iv 0, .slice none 0 0]) S (wN rfl) rfl rfl [iv 0, iv 0, .slice none 0 0] rfl rfl (lb rfl) fun a b43 w S => ?_
  refine sStore (p := b43) (off := 0) (T := 24) (vs := [iv 0, iv 0, .slice none 0 0]) (v := .agg #[iv r36.1.W, iv r36.1.H, .slice ad41 r36.1.Bits.length cp42]) 0 [iv r36.1.W, iv r36.1.H, .slice ad41 r36.1.Bits.length cp42] S (wN rfl) rfl rfl rfl rfl rfl rfl rfl (by simp) rfl fun a w S => ?_
  refine sMove (iv r36.2) S (wN rfl) (.inr rfl) rfl rfl (lb rfl) fun a S => ?_
  refine leafL (leafT (hK35 _ _ ?_))
  refine sSeq (fun K44 hK44 => ?_)
  refine sSeq (fun K45 hK45 => ?_)
  refine sRegion ?_
  refine sMove (iv r36.2) S (wN rfl) (.inl rfl) rfl rfl (lb rfl) fun a S => ?_
  refine sBin (.bool (r36.2 != 0)) S (wN rfl) rfl rfl rfl (bNe _ _ _ _ .i64 r36.2 0) rfl (lb rfl) fun a S => ?_
  refine leafL (leafT (hK45 _ _ ?_))
  rcases iteSome h with ⟨hc46, h⟩ | ⟨hc46, h⟩
  · refine sCondT S rfl hc46 ?_
    obtain ⟨t48, h, g49⟩ := bindSome h
    refine sCut (fun a w => ∃ o47, o47 = t48 ∧ St [] E [] w0 125 a w [(6, .bool o47)] [] []) ?_ (fun a w hI => ?_)
    rotate_left
    · obtain ⟨o47, rfl, S⟩ := hI
      have h := g49
      clear g49
      try dsimp only at h
      obtain rfl := Option.some.inj h
      exact wp_ret (rThen (sRet (.bool o47) S (rsl1 rfl (rvT (t := 6) (v := .bool o47) S rfl)) ⟨(), rfl, S.mem.sel [] [] (by decide) rfl rfl⟩))
    refine sRegion ?_
    refine sMove (.bool r18) S (wN rfl) (.inl rfl) rfl rfl (lb rfl) fun a S => ?_
    refine sMove (.bool r18) S (wN rfl) (.inl rfl) rfl rfl (lb rfl) fun a S => ?_
    rcases iteSome h with ⟨hc50, h⟩ | ⟨hc50, h⟩
    rotate_left
    · refine sSkip 1 true 45 46 S rfl rfl rfl hc50 rfl (lb rfl) fun a S => ?_
      refine sSkip 1 true 45 47 S rfl rfl rfl hc50 rfl (lb rfl) fun a S => ?_
      refine sSkip 1 true 45 48 S rfl rfl rfl hc50 rfl (lb rfl) fun a S => ?_
      refine sSkipU 4 false 48 49 S rfl rfl rfl rfl (lb rfl) fun a S => ?_
      refine sSkipU 4 false 48 50 S rfl rfl rfl rfl (lb rfl) fun a S => ?_
      refine sSkip 1 true 45 51 S rfl rfl rfl hc50 rfl (lb rfl) fun a S => ?_
      refine sPickF (.bool false) S (wN rfl) rfl rfl hc50 rfl rfl (lb rfl) fun a S => ?_
      refine sMove (.bool false) S (wN rfl) (.inr rfl) rfl rfl (lb rfl) fun a S => ?_
      exact leafL (leafT (⟨false, Option.some.inj h, S.fix [] [] (by decide) rfl rfl rfl⟩))
    refine sMove (iv r36.2) S (wG 1 true 45 rfl rfl rfl hc50) (.inl rfl) rfl rfl (lb rfl) fun a S => ?_
    refine sBin (.bool (r36.2 == 26)) S (wG 1 true 45 rfl rfl rfl hc50) rfl rfl rfl (bEq _ _ _ _ .i64 r36.2 26) rfl (lb rfl) fun a S => ?_
    refine sMove (.bool (r36.2 == 26)) S (wG 1 true 45 rfl rfl rfl hc50) (.inl rfl) rfl rfl (lb rfl) fun a S => ?_
    rcases iteSome h with ⟨hc51, h⟩ | ⟨hc51, h⟩
    · refine sSkip 4 false 48 49 S rfl rfl rfl hc51 rfl (lb rfl) fun a S => ?_
      refine sSkip 4 false 48 50 S rfl rfl rfl hc51 rfl (lb rfl) fun a S => ?_
      refine sPickT (.bool true) S (wG 1 true 45 rfl rfl rfl hc50) rfl rfl hc51 rfl rfl (lb rfl) fun a S => ?_
      refine sPickT (.bool true) S (wN rfl) rfl rfl hc50 rfl rfl (lb rfl) fun a S => ?_
      refine sMove (.bool true) S (wN rfl) (.inr rfl) rfl rfl (lb rfl) fun a S => ?_
      exact leafL (leafT (⟨true, Option.some.inj h, S.fix [] [] (by decide) rfl rfl rfl⟩))
    refine sMove (iv r36.2) S (wG 4 false 48 rfl rfl rfl hc51) (.inl rfl) rfl rfl (lb rfl) fun a S => ?_
    refine sBin (.bool (r36.2 == 4)) S (wG 4 false 48 rfl rfl rfl hc51) rfl rfl rfl (bEq _ _ _ _ .i64 r36.2 4) rfl (lb rfl) fun a S => ?_
    refine sPickF (.bool (r36.2 == 4)) S (wG 1 true 45 rfl rfl rfl hc50) rfl rfl hc51 rfl rfl (lb rfl) fun a S => ?_
    refine sPickT (.bool (r36.2 == 4)) S (wN rfl) rfl rfl hc50 rfl rfl (lb rfl) fun a S => ?_
    refine sMove (.bool (r36.2 == 4)) S (wN rfl) (.inr rfl) rfl rfl (lb rfl) fun a S => ?_
    exact leafL (leafT (⟨r36.2 == 4, Option.some.inj h, S.fix [] [] (by decide) rfl rfl rfl⟩))
  refine sCondF S rfl hc46 ?_
  refine wp_skip (leafT (hK44 _ _ ?_))
  refine sSeq (fun K52 hK52 => ?_)
  obtain ⟨t54, h, g55⟩ := bindSome h
  refine sCut (fun a w => ∃ o53, o53 = t54 ∧ St [] E [] w0 125 a w [(3, .pointer (some ⟨b14, 0, none⟩)), (4, .pointer (some ⟨b15, 0, none⟩)), (5, .pointer (some ⟨b16, 0, none⟩)), (7, .bool r18), (8, .pointer (some ⟨b43, 0, none⟩)), (75, .bool o53)] [eBox b14 24 [iv p0.W, iv p0.H, .slice ad3 p0.Bits.length cp4], eBox b15 24 [iv p1.W, iv p1.H, .slice ad7 p1.Bits.length cp8], eBox b16 24 [iv p2.W, iv p2.H, .slice ad11 p2.Bits.length cp12], eBox b43 24 [iv r36.1.W, iv r36.1.H, .slice ad41 r36.1.Bits.length cp42]] [fRep (rL rB) (.slice ad3 p0.Bits.length cp4) p0.Bits, fRep (rL rB) (.slice ad7 p1.Bits.length cp8) p1.Bits, fRep (rL rB) (.slice ad11 p2.Bits.length cp12) p2.Bits, fRep (rL rB) (.slice ad41 r36.1.Bits.length cp42) r36.1.Bits]) ?_ (fun a w hI => ?_)
  · refine sRegion ?_
    refine sLoadN (p := b43) (off := 0) (T := 24) (vs := [iv r36.1.W, iv r36.1.H, .slice ad41 r36.1.Bits.length cp42]) 0 [iv r36.1.W, iv r36.1.H, .slice ad41 r36.1.Bits.length cp42] S (wN rfl) rfl rfl rfl rfl rfl rfl rfl (lb rfl) fun a S => ?_
    obtain ⟨r56, hx57, h⟩ := bindSome h
    have S1 := S.mem
    refine sCallQ (X := Unit) (f := 32) (vs := [.agg #[iv r36.1.W, iv r36.1.H, .slice ad41 r36.1.Bits.length cp42]]) (val := fun _ => .bool r56) S (wN rfl) rfl callee32 rfl (S1.quiet [1] rfl) (fun E1 w1 S1 => c_raddlelaw13_fit E1 w1 r36.1 (.agg #[iv r36.1.W, iv r36.1.H, .slice ad41 r36.1.Bits.length cp42]) r56 hx57 S1) rfl (lb rfl) fun _ a w S => ?_
    refine sNot (b := r56) S (wN rfl) rfl rfl rfl (lb rfl) fun a S => ?_
    refine sMove (.bool (!r56)) S (wN rfl) (.inl rfl) rfl rfl (lb rfl) fun a S => ?_
    rcases iteSome h with ⟨hc58, h⟩ | ⟨hc58, h⟩
    · refine sSkip 3 false 56 57 S rfl rfl rfl hc58 rfl (lb rfl) fun a S => ?_
      refine sSkip 3 false 56 58 S rfl rfl rfl hc58 rfl (lb rfl) fun a S => ?_
      refine sSkip 3 false 56 59 S rfl rfl rfl hc58 rfl (lb rfl) fun a S => ?_
      refine sSkip 3 false 56 60 S rfl rfl rfl hc58 rfl (lb rfl) fun a S => ?_
      refine sSkip 3 false 56 61 S rfl rfl rfl hc58 rfl (lb rfl) fun a S => ?_
      refine sSkip 3 false 56 62 S rfl rfl rfl hc58 rfl (lb rfl) fun a S => ?_
      refine sSkip 3 false 56 63 S rfl rfl rfl hc58 rfl (lb rfl) fun a S => ?_
      refine sSkip 3 false 56 64 S rfl rfl rfl hc58 rfl (lb rfl) fun a S => ?_
      refine sPickT (.bool true) S (wN rfl) rfl rfl hc58 rfl rfl (lb rfl) fun a S => ?_
      refine sMove (.bool true) S (wN rfl) (.inl rfl) rfl rfl (lb rfl) fun a S => ?_
      refine sSkip 13 false 66 67 S rfl rfl rfl rfl rfl (lb rfl) fun a S => ?_
      refine sSkip 13 false 66 68 S rfl rfl rfl rfl rfl (lb rfl) fun a S => ?_
      refine sSkip 13 false 66 69 S rfl rfl rfl rfl rfl (lb rfl) fun a S => ?_
      refine sSkip 13 false 66 70 S rfl rfl rfl rfl rfl (lb rfl) fun a S => ?_
      refine sSkip 13 false 66 71 S rfl rfl rfl rfl rfl (lb rfl) fun a S => ?_
      refine sSkip 13 false 66 72 S rfl rfl rfl rfl rfl (lb rfl) fun a S => ?_
      refine sSkip 13 false 66 73 S rfl rfl rfl rfl rfl (lb rfl) fun a S => ?_
      refine sSkip 13 false 66 74 S rfl rfl rfl rfl rfl (lb rfl) fun a S => ?_
      refine sPickT (.bool true) S (wN rfl) rfl rfl rfl rfl rfl (lb rfl) fun a S => ?_
      exact leafL (leafT (⟨true, Option.some.inj h, S.fix [1, 2, 3, 0] [5, 6, 7, 0] (by decide) rfl rfl rfl⟩))
    refine sField (b := b43) (off := 0) 0 0 S (wG 3 false 56 rfl rfl rfl hc58) rfl rfl rfl rfl rfl (lb rfl) fun a S => ?_
    refine sLoad1 (p := b43) (off := 0) (T := 24) (vs := [iv r36.1.W, iv r36.1.H, .slice ad41 r36.1.Bits.length cp42]) 0 (iv r36.1.W) S (wG 3 false 56 rfl rfl rfl hc58) rfl rfl rfl rfl rfl rfl (lb rfl) fun a S => ?_
    refine sField (b := b14) (off := 0) 0 0 S (wG 3 false 56 rfl rfl rfl hc58) rfl rfl rfl rfl rfl (lb rfl) fun a S => ?_
    refine sLoad1 (p := b14) (off := 0) (T := 24) (vs := [iv p0.W, iv p0.H, .slice ad3 p0.Bits.length cp4]) 1 (iv p0.W) S (wG 3 false 56 rfl rfl rfl hc58) rfl rfl rfl rfl rfl rfl (lb rfl) fun a S => ?_
    refine sField (b := b15) (off := 0) 0 0 S (wG 3 false 56 rfl rfl rfl hc58) rfl rfl rfl rfl rfl (lb rfl) fun a S => ?_
    refine sLoad1 (p := b15) (off := 0) (T := 24) (vs := [iv p1.W, iv p1.H, .slice ad7 p1.Bits.length cp8]) 2 (iv p1.W) S (wG 3 false 56 rfl rfl rfl hc58) rfl rfl rfl rfl rfl rfl (lb rfl) fun a S => ?_
    refine sBin (iv (w64 (p0.W * p1.W))) S (wG 3 false 56 rfl rfl rfl hc58) rfl rfl rfl (bMul _ _ _ _ p0.W p1.W) rfl (lb rfl) fun a S => ?_
    refine sBin (.bool (r36.1.W != (w64 (p0.W * p1.W)))) S (wG 3 false 56 rfl rfl rfl hc58) rfl rfl rfl (bNe _ _ _ _ .i64 r36.1.W (w64 (p0.W * p1.W))) rfl (lb rfl) fun a S => ?_
    refine sPickF (.bool (r36.1.W != (w64 (p0.W * p1.W)))) S (wN rfl) rfl rfl hc58 rfl rfl (lb rfl) fun a S => ?_
    refine sMove (.bool (r36.1.W != (w64 (p0.W * p1.W)))) S (wN rfl) (.inl rfl) rfl rfl (lb rfl) fun a S => ?_
    rcases iteSome h with ⟨hc59, h⟩ | ⟨hc59, h⟩
    · refine sSkip 13 false 66 67 S rfl rfl rfl hc59 rfl (lb rfl) fun a S => ?_
      refine sSkip 13 false 66 68 S rfl rfl rfl hc59 rfl (lb rfl) fun a S => ?_
      refine sSkip 13 false 66 69 S rfl rfl rfl hc59 rfl (lb rfl) fun a S => ?_
      refine sSkip 13 false 66 70 S rfl rfl rfl hc59 rfl (lb rfl) fun a S => ?_
      refine sSkip 13 false 66 71 S rfl rfl rfl hc59 rfl (lb rfl) fun a S => ?_
      refine sSkip 13 false 66 72 S rfl rfl rfl hc59 rfl (lb rfl) fun a S => ?_
      refine sSkip 13 false 66 73 S rfl rfl rfl hc59 rfl (lb rfl) fun a S => ?_
      refine sSkip 13 false 66 74 S rfl rfl rfl hc59 rfl (lb rfl) fun a S => ?_
      refine sPickT (.bool true) S (wN rfl) rfl rfl hc59 rfl rfl (lb rfl) fun a S => ?_
      exact leafL (leafT (⟨true, Option.some.inj h, S.fix [1, 2, 3, 0] [5, 6, 7, 0] (by decide) rfl rfl rfl⟩))
    refine sField (b := b43) (off := 0) 1 1 S (wG 13 false 66 rfl rfl rfl hc59) rfl rfl rfl rfl rfl (lb rfl) fun a S => ?_
    refine sLoad1 (p := b43) (off := 1) (T := 24) (vs := [iv r36.1.W, iv r36.1.H, .slice ad41 r36.1.Bits.length cp42]) 0 (iv r36.1.H) S (wG 13 false 66 rfl rfl rfl hc59) rfl rfl rfl rfl rfl rfl (lb rfl) fun a S => ?_
    refine sField (b := b14) (off := 0) 1 1 S (wG 13 false 66 rfl rfl rfl hc59) rfl rfl rfl rfl rfl (lb rfl) fun a S => ?_
    refine sLoad1 (p := b14) (off := 1) (T := 24) (vs := [iv p0.W, iv p0.H, .slice ad3 p0.Bits.length cp4]) 1 (iv p0.H) S (wG 13 false 66 rfl rfl rfl hc59) rfl rfl rfl rfl rfl rfl (lb rfl) fun a S => ?_
    refine sField (b := b15) (off := 0) 1 1 S (wG 13 false 66 rfl rfl rfl hc59) rfl rfl rfl rfl rfl (lb rfl) fun a S => ?_
    refine sLoad1 (p := b15) (off := 1) (T := 24) (vs := [iv p1.W, iv p1.H, .slice ad7 p1.Bits.length cp8]) 2 (iv p1.H) S (wG 13 false 66 rfl rfl rfl hc59) rfl rfl rfl rfl rfl rfl (lb rfl) fun a S => ?_
    refine sBin (iv (w64 (p0.H * p1.H))) S (wG 13 false 66 rfl rfl rfl hc59) rfl rfl rfl (bMul _ _ _ _ p0.H p1.H) rfl (lb rfl) fun a S => ?_
    refine sBin (.bool (r36.1.H != (w64 (p0.H * p1.H)))) S (wG 13 false 66 rfl rfl rfl hc59) rfl rfl rfl (bNe _ _ _ _ .i64 r36.1.H (w64 (p0.H * p1.H))) rfl (lb rfl) fun a S => ?_
    refine sPickF (.bool (r36.1.H != (w64 (p0.H * p1.H)))) S (wN rfl) rfl rfl hc59 rfl rfl (lb rfl) fun a S => ?_
    exact leafL (leafT (⟨r36.1.H != (w64 (p0.H * p1.H)), Option.some.inj h, S.fix [1, 2, 3, 0] [5, 6, 7, 0] (by decide) rfl rfl rfl⟩))
  obtain ⟨o53, rfl, S⟩ := hI
  have h := g55
  clear g55
  try dsimp only at h
  rcases iteSome h with ⟨hc60, h⟩ | ⟨hc60, h⟩
  · refine sCondT S rfl hc60 ?_
    refine sSeq (fun K61 hK61 => ?_)
    refine sRegion ?_
    refine sMove (.bool false) S (wN rfl) (.inr rfl) rfl rfl (lb rfl) fun a S => ?_
    refine leafL (leafT (hK61 _ _ ?_))
    obtain rfl := Option.some.inj h
    exact wp_ret (rThen (sRet (.bool false) S (rsl1 rfl (rvT (t := 6) (v := .bool false) S rfl)) ⟨(), rfl, S.mem.sel [] [] (by decide) rfl rfl⟩))
  refine sCondF S rfl hc60 ?_
  refine wp_skip (leafT (hK52 _ _ ?_))
  refine sSeq (fun K62 hK62 => ?_)
  refine sRegion ?_
  refine sLoadN (p := b14) (off := 0) (T := 24) (vs := [iv p0.W, iv p0.H, .slice ad3 p0.Bits.length cp4]) 0 [iv p0.W, iv p0.H, .slice ad3 p0.Bits.length cp4] S (wN rfl) rfl rfl rfl rfl rfl rfl rfl (lb rfl) fun a S => ?_
  obtain ⟨r63, hx64, h⟩ := bindSome h
  have S := S.learn (fRep r_api_Grid (.agg #[iv p0.W, iv p0.H, .slice ad3 p0.Bits.length cp4]) p0) ⟨_, rfl, S.mem.know (i := 0) (e := fRep (rL rB) (.slice ad3 p0.Bits.length cp4) p0.Bits) rfl⟩
  refine sCall (X := Value) (f := 35) (vs := [.agg #[iv p0.W, iv p0.H, .slice ad3 p0.Bits.length cp4]]) (val := c_grid_Not_val r63) (B' := fun _ => []) (D' := c_grid_Not_D r63) [] [eBox b14 24 [iv p0.W, iv p0.H, .slice ad3 p0.Bits.length cp4], eBox b15 24 [iv p1.W, iv p1.H, .slice ad7 p1.Bits.length cp8], eBox b16 24 [iv p2.W, iv p2.H, .slice ad11 p2.Bits.length cp12], eBox b43 24 [iv r36.1.W, iv r36.1.H, .slice ad41 r36.1.Bits.length cp42]] [fRep r_api_Grid (.agg #[iv p0.W, iv p0.H, .slice ad3 p0.Bits.length cp4]) p0] [0, 1, 2, 3] [0] S (wN rfl) rfl callee35 rfl (by decide) rfl rfl (fun E1 w1 S1 => c_grid_Not E1 w1 p0 (.agg #[iv p0.W, iv p0.H, .slice ad3 p0.Bits.length cp4]) r63 hx64 S1) rfl (lb rfl) fun u65 a w S => ?_
  obtain ⟨u66, rfl, hu67⟩ := S.mem.know (i := 0) (e := fRep r_api_Grid (u65) r63.1) rfl
  have S := S.learn (fRep (rL rB) u66 r63.1.Bits) hu67
  obtain ⟨ad68, cp69, _, rfl, _⟩ := hu67
  refine sMove (.tuple #[.agg #[iv r63.1.W, iv r63.1.H, .slice ad68 r63.1.Bits.length cp69], iv r63.2]) S (wN rfl) (.inl rfl) rfl rfl (lb rfl) fun a S => ?_
  refine sExtract (vs := [.agg #[iv r63.1.W, iv r63.1.H, .slice ad68 r63.1.Bits.length cp69], iv r63.2]) (.agg #[iv r63.1.W, iv r63.1.H, .slice ad68 r63.1.Bits.length cp69]) S (wN rfl) rfl rfl rfl rfl (lb rfl) fun a S => ?_
  refine sExtract (vs := [.agg #[iv r63.1.W, iv r63.1.H, .slice ad68 r63.1.Bits.length cp69], iv r63.2]) (iv r63.2) S (wN rfl) rfl rfl rfl rfl (lb rfl) fun a S => ?_
  refine sAlloc (.agg #[iv 0, iv 0, .slice none 0 0]) S (wN rfl) rfl rfl [iv 0, iv 0, .slice none 0 0] rfl rfl (lb rfl) fun a b70 w S => ?_
  refine sStore (p := b70) (off := 0) (T := 24) (vs := [iv 0, iv 0, .slice none 0 0]) (v := .agg #[iv r63.1.W, iv r63.1.H, .slice ad68 r63.1.Bits.length cp69]) 0 [iv r63.1.W, iv r63.1.H, .slice ad68 r63.1.Bits.length cp69] S (wN rfl) rfl rfl rfl rfl rfl rfl rfl (by simp) rfl fun a w S => ?_
  refine sMove (iv r63.2) S (wN rfl) (.inr rfl) rfl rfl (lb rfl) fun a S => ?_
  refine leafL (leafT (hK62 _ _ ?_))
  refine sSeq (fun K71 hK71 => ?_)
  refine sRegion ?_
  refine sLoadN (p := b70) (off := 0) (T := 24) (vs := [iv r63.1.W, iv r63.1.H, .slice ad68 r63.1.Bits.length cp69]) 0 [iv r63.1.W, iv r63.1.H, .slice ad68 r63.1.Bits.length cp69] S (wN rfl) rfl rfl rfl rfl rfl rfl rfl (lb rfl) fun a S => ?_
  refine sLoadN (p := b16) (off := 0) (T := 24) (vs := [iv p2.W, iv p2.H, .slice ad11 p2.Bits.length cp12]) 3 [iv p2.W, iv p2.H, .slice ad11 p2.Bits.length cp12] S (wN rfl) rfl rfl rfl rfl rfl rfl rfl (lb rfl) fun a S => ?_
  refine sLoadN (p := b15) (off := 0) (T := 24) (vs := [iv p1.W, iv p1.H, .slice ad7 p1.Bits.length cp8]) 2 [iv p1.W, iv p1.H, .slice ad7 p1.Bits.length cp8] S (wN rfl) rfl rfl rfl rfl rfl rfl rfl (lb rfl) fun a S => ?_
  obtain ⟨r72, hx73, h⟩ := bindSome h
  have S := S.learn (fRep r_api_Grid (.agg #[iv p2.W, iv p2.H, .slice ad11 p2.Bits.length cp12]) p2) ⟨_, rfl, S.mem.know (i := 5) (e := fRep (rL rB) (.slice ad11 p2.Bits.length cp12) p2.Bits) rfl⟩
  have S := S.learn (fRep r_api_Grid (.agg #[iv p1.W, iv p1.H, .slice ad7 p1.Bits.length cp8]) p1) ⟨_, rfl, S.mem.know (i := 5) (e := fRep (rL rB) (.slice ad7 p1.Bits.length cp8) p1.Bits) rfl⟩
  refine sCall (X := Value) (f := 13) (vs := [.agg #[iv r63.1.W, iv r63.1.H, .slice ad68 r63.1.Bits.length cp69], .agg #[iv p2.W, iv p2.H, .slice ad11 p2.Bits.length cp12], .agg #[iv p1.W, iv p1.H, .slice ad7 p1.Bits.length cp8]]) (val := c_block_Fill_val r72) (B' := fun _ => []) (D' := c_block_Fill_D r72) [] [eBox b70 24 [iv r63.1.W, iv r63.1.H, .slice ad68 r63.1.Bits.length cp69], eBox b14 24 [iv p0.W, iv p0.H, .slice ad3 p0.Bits.length cp4], eBox b15 24 [iv p1.W, iv p1.H, .slice ad7 p1.Bits.length cp8], eBox b16 24 [iv p2.W, iv p2.H, .slice ad11 p2.Bits.length cp12], eBox b43 24 [iv r36.1.W, iv r36.1.H, .slice ad41 r36.1.Bits.length cp42]] [fRep r_api_Grid (.agg #[iv r63.1.W, iv r63.1.H, .slice ad68 r63.1.Bits.length cp69]) r63.1, fRep r_api_Grid (.agg #[iv p2.W, iv p2.H, .slice ad11 p2.Bits.length cp12]) p2, fRep r_api_Grid (.agg #[iv p1.W, iv p1.H, .slice ad7 p1.Bits.length cp8]) p1] [0, 1, 2, 3, 4] [3, 1, 0] S (wN rfl) rfl callee13 rfl (by decide) rfl rfl (fun E1 w1 S1 => c_block_Fill E1 w1 r63.1 (.agg #[iv r63.1.W, iv r63.1.H, .slice ad68 r63.1.Bits.length cp69]) p2 (.agg #[iv p2.W, iv p2.H, .slice ad11 p2.Bits.length cp12]) p1 (.agg #[iv p1.W, iv p1.H, .slice ad7 p1.Bits.length cp8]) r72 hx73 S1) rfl (lb rfl) fun u74 a w S => ?_
  obtain ⟨u75, rfl, hu76⟩ := S.mem.know (i := 0) (e := fRep r_api_Grid (u74) r72.1) rfl
  have S := S.learn (fRep (rL rB) u75 r72.1.Bits) hu76
  obtain ⟨ad77, cp78, _, rfl, _⟩ := hu76
  refine sMove (.tuple #[.agg #[iv r72.1.W, iv r72.1.H, .slice ad77 r72.1.Bits.length cp78], iv r72.2]) S (wN rfl) (.inl rfl) rfl rfl (lb rfl) fun a S => ?_
  refine sExtract (vs := [.agg #[iv r72.1.W, iv r72.1.H, .slice ad77 r72.1.Bits.length cp78], iv r72.2]) (.agg #[iv r72.1.W, iv r72.1.H, .slice ad77 r72.1.Bits.length cp78]) S (wN rfl) rfl rfl rfl rfl (lb rfl) fun a S => ?_
  refine sExtract (vs := [.agg #[iv r72.1.W, iv r72.1.H, .slice ad77 r72.1.Bits.length cp78], iv r72.2]) (iv r72.2) S (wN rfl) rfl rfl rfl rfl (lb rfl) fun a S => ?_
  refine sAlloc (.agg #[iv 0, iv 0, .slice none 0 0]) S (wN rfl) rfl rfl [iv 0, iv 0, .slice none 0 0] rfl rfl (lb rfl) fun a b79 w S => ?_
  refine sStore (p := b79) (off := 0) (T := 24) (vs := [iv 0, iv 0, .slice none 0 0]) (v := .agg #[iv r72.1.W, iv r72.1.H, .slice ad77 r72.1.Bits.length cp78]) 0 [iv r72.1.W, iv r72.1.H, .slice ad77 r72.1.Bits.length cp78] S (wN rfl) rfl rfl rfl rfl rfl rfl rfl (by simp) rfl fun a w S => ?_
  refine sMove (iv r72.2) S (wN rfl) (.inr rfl) rfl rfl (lb rfl) fun a S => ?_
  refine leafL (leafT (hK71 _ _ ?_))
  refine sSeq (fun K80 hK80 => ?_)
  obtain ⟨t82, h, g83⟩ := bindSome h
  refine sCut (fun a w => ∃ o81, o81 = t82 ∧ St [] E [] w0 125 a w [(3, .pointer (some ⟨b14, 0, none⟩)), (4, .pointer (some ⟨b15, 0, none⟩)), (5, .pointer (some ⟨b16, 0, none⟩)), (7, .bool r18), (8, .pointer (some ⟨b43, 0, none⟩)), (99, .bool o81)] [eBox b14 24 [iv p0.W, iv p0.H, .slice ad3 p0.Bits.length cp4], eBox b15 24 [iv p1.W, iv p1.H, .slice ad7 p1.Bits.length cp8], eBox b16 24 [iv p2.W, iv p2.H, .slice ad11 p2.Bits.length cp12], eBox b43 24 [iv r36.1.W, iv r36.1.H, .slice ad41 r36.1.Bits.length cp42]] [fRep (rL rB) (.slice ad3 p0.Bits.length cp4) p0.Bits, fRep (rL rB) (.slice ad7 p1.Bits.length cp8) p1.Bits, fRep (rL rB) (.slice ad11 p2.Bits.length cp12) p2.Bits, fRep (rL rB) (.slice ad41 r36.1.Bits.length cp42) r36.1.Bits]) ?_ (fun a w hI => ?_)
  · refine sRegion ?_
    refine sMove (iv r63.2) S (wN rfl) (.inl rfl) rfl rfl (lb rfl) fun a S => ?_
    refine sBin (.bool (r63.2 != 0)) S (wN rfl) rfl rfl rfl (bNe _ _ _ _ .i64 r63.2 0) rfl (lb rfl) fun a S => ?_
    refine sMove (.bool (r63.2 != 0)) S (wN rfl) (.inl rfl) rfl rfl (lb rfl) fun a S => ?_
    rcases iteSome h with ⟨hc84, h⟩ | ⟨hc84, h⟩
    · refine sSkip 2 false 90 91 S rfl rfl rfl hc84 rfl (lb rfl) fun a S => ?_
      refine sSkip 2 false 90 92 S rfl rfl rfl hc84 rfl (lb rfl) fun a S => ?_
      refine sPickT (.bool true) S (wN rfl) rfl rfl hc84 rfl rfl (lb rfl) fun a S => ?_
      refine sMove (.bool true) S (wN rfl) (.inl rfl) rfl rfl (lb rfl) fun a S => ?_
      refine sSkip 6 false 94 95 S rfl rfl rfl rfl rfl (lb rfl) fun a S => ?_
      refine sSkip 6 false 94 96 S rfl rfl rfl rfl rfl (lb rfl) fun a S => ?_
      refine sSkip 6 false 94 97 S rfl rfl rfl rfl rfl (lb rfl) fun a S => ?_
      refine sSkip 6 false 94 98 S rfl rfl rfl rfl rfl (lb rfl) fun a S => ?_
      refine sPickT (.bool true) S (wN rfl) rfl rfl rfl rfl rfl (lb rfl) fun a S => ?_
      exact leafL (leafT (⟨true, Option.some.inj h, S.fix [2, 3, 4, 5] [7, 8, 9, 10] (by decide) rfl rfl rfl⟩))
    refine sMove (iv r72.2) S (wG 2 false 90 rfl rfl rfl hc84) (.inl rfl) rfl rfl (lb rfl) fun a S => ?_
    refine sBin (.bool (r72.2 != 0)) S (wG 2 false 90 rfl rfl rfl hc84) rfl rfl rfl (bNe _ _ _ _ .i64 r72.2 0) rfl (lb rfl) fun a S => ?_
    refine sPickF (.bool (r72.2 != 0)) S (wN rfl) rfl rfl hc84 rfl rfl (lb rfl) fun a S => ?_
    refine sMove (.bool (r72.2 != 0)) S (wN rfl) (.inl rfl) rfl rfl (lb rfl) fun a S => ?_
    rcases iteSome h with ⟨hc85, h⟩ | ⟨hc85, h⟩
    · refine sSkip 6 false 94 95 S rfl rfl rfl hc85 rfl (lb rfl) fun a S => ?_
      refine sSkip 6 false 94 96 S rfl rfl rfl hc85 rfl (lb rfl) fun a S => ?_
      refine sSkip 6 false 94 97 S rfl rfl rfl hc85 rfl (lb rfl) fun a S => ?_
      refine sSkip 6 false 94 98 S rfl rfl rfl hc85 rfl (lb rfl) fun a S => ?_
      refine sPickT (.bool true) S (wN rfl) rfl rfl hc85 rfl rfl (lb rfl) fun a S => ?_
      exact leafL (leafT (⟨true, Option.some.inj h, S.fix [2, 3, 4, 5] [7, 8, 9, 10] (by decide) rfl rfl rfl⟩))
    refine sLoadN (p := b79) (off := 0) (T := 24) (vs := [iv r72.1.W, iv r72.1.H, .slice ad77 r72.1.Bits.length cp78]) 0 [iv r72.1.W, iv r72.1.H, .slice ad77 r72.1.Bits.length cp78] S (wG 6 false 94 rfl rfl rfl hc85) rfl rfl rfl rfl rfl rfl rfl (lb rfl) fun a S => ?_
    refine sLoadN (p := b43) (off := 0) (T := 24) (vs := [iv r36.1.W, iv r36.1.H, .slice ad41 r36.1.Bits.length cp42]) 5 [iv r36.1.W, iv r36.1.H, .slice ad41 r36.1.Bits.length cp42] S (wG 6 false 94 rfl rfl rfl hc85) rfl rfl rfl rfl rfl rfl rfl (lb rfl) fun a S => ?_
    obtain ⟨r86, hx87, h⟩ := bindSome h
    have S1 := S.mem
    have S1 := S1.learn (fRep r_api_Grid (.agg #[iv r36.1.W, iv r36.1.H, .slice ad41 r36.1.Bits.length cp42]) r36.1) ⟨_, rfl, S1.know (i := 10) (e := fRep (rL rB) (.slice ad41 r36.1.Bits.length cp42) r36.1.Bits) rfl⟩
    refine sCallQ (X := Unit) (f := 17) (vs := [.agg #[iv r72.1.W, iv r72.1.H, .slice ad77 r72.1.Bits.length cp78], .agg #[iv r36.1.W, iv r36.1.H, .slice ad41 r36.1.Bits.length cp42]]) (val := fun _ => .bool r86) S (wG 6 false 94 rfl rfl rfl hc85) rfl callee17 rfl (S1.quiet [2, 0] rfl) (fun E1 w1 S1 => c_raddleref01_Same E1 w1 r72.1 (.agg #[iv r72.1.W, iv r72.1.H, .slice ad77 r72.1.Bits.length cp78]) r36.1 (.agg #[iv r36.1.W, iv r36.1.H, .slice ad41 r36.1.Bits.length cp42]) r86 hx87 S1) rfl (lb rfl) fun _ a w S => ?_
    refine sNot (b := r86) S (wG 6 false 94 rfl rfl rfl hc85) rfl rfl rfl (lb rfl) fun a S => ?_
    refine sPickF (.bool (!r86)) S (wN rfl) rfl rfl hc85 rfl rfl (lb rfl) fun a S => ?_
    exact leafL (leafT (⟨!r86, Option.some.inj h, S.fix [2, 3, 4, 5] [7, 8, 9, 10] (by decide) rfl rfl rfl⟩))
  obtain ⟨o81, rfl, S⟩ := hI
  have h := g83
  clear g83
  try dsimp only at h
  rcases iteSome h with ⟨hc88, h⟩ | ⟨hc88, h⟩
  · refine sCondT S rfl hc88 ?_
    refine sSeq (fun K89 hK89 => ?_)
    refine sRegion ?_
    refine sMove (.bool false) S (wN rfl) (.inr rfl) rfl rfl (lb rfl) fun a S => ?_
    refine leafL (leafT (hK89 _ _ ?_))
    obtain rfl := Option.some.inj h
    exact wp_ret (rThen (sRet (.bool false) S (rsl1 rfl (rvT (t := 6) (v := .bool false) S rfl)) ⟨(), rfl, S.mem.sel [] [] (by decide) rfl rfl⟩))
  refine sCondF S rfl hc88 ?_
  refine wp_skip (leafT (hK80 _ _ ?_))
  refine sSeq (fun K90 hK90 => ?_)
  refine sRegion ?_
  refine sLoadN (p := b43) (off := 0) (T := 24) (vs := [iv r36.1.W, iv r36.1.H, .slice ad41 r36.1.Bits.length cp42]) 3 [iv r36.1.W, iv r36.1.H, .slice ad41 r36.1.Bits.length cp42] S (wN rfl) rfl rfl rfl rfl rfl rfl rfl (lb rfl) fun a S => ?_
  refine sLoadN (p := b15) (off := 0) (T := 24) (vs := [iv p1.W, iv p1.H, .slice ad7 p1.Bits.length cp8]) 1 [iv p1.W, iv p1.H, .slice ad7 p1.Bits.length cp8] S (wN rfl) rfl rfl rfl rfl rfl rfl rfl (lb rfl) fun a S => ?_
  refine sLoadN (p := b16) (off := 0) (T := 24) (vs := [iv p2.W, iv p2.H, .slice ad11 p2.Bits.length cp12]) 2 [iv p2.W, iv p2.H, .slice ad11 p2.Bits.length cp12] S (wN rfl) rfl rfl rfl rfl rfl rfl rfl (lb rfl) fun a S => ?_
  obtain ⟨r91, hx92, h⟩ := bindSome h
  have S := S.learn (fRep r_api_Grid (.agg #[iv r36.1.W, iv r36.1.H, .slice ad41 r36.1.Bits.length cp42]) r36.1) ⟨_, rfl, S.mem.know (i := 3) (e := fRep (rL rB) (.slice ad41 r36.1.Bits.length cp42) r36.1.Bits) rfl⟩
  have S := S.learn (fRep r_api_Grid (.agg #[iv p1.W, iv p1.H, .slice ad7 p1.Bits.length cp8]) p1) ⟨_, rfl, S.mem.know (i := 2) (e := fRep (rL rB) (.slice ad7 p1.Bits.length cp8) p1.Bits) rfl⟩
  have S := S.learn (fRep r_api_Grid (.agg #[iv p2.W, iv p2.H, .slice ad11 p2.Bits.length cp12]) p2) ⟨_, rfl, S.mem.know (i := 4) (e := fRep (rL rB) (.slice ad11 p2.Bits.length cp12) p2.Bits) rfl⟩
  refine sCall (X := Value) (f := 15) (vs := [.agg #[iv r36.1.W, iv r36.1.H, .slice ad41 r36.1.Bits.length cp42], .agg #[iv p1.W, iv p1.H, .slice ad7 p1.Bits.length cp8], .agg #[iv p2.W, iv p2.H, .slice ad11 p2.Bits.length cp12]]) (val := c_block_Profile_val r91) (B' := fun _ => []) (D' := c_block_Profile_D r91) [] [eBox b14 24 [iv p0.W, iv p0.H, .slice ad3 p0.Bits.length cp4], eBox b15 24 [iv p1.W, iv p1.H, .slice ad7 p1.Bits.length cp8], eBox b16 24 [iv p2.W, iv p2.H, .slice ad11 p2.Bits.length cp12], eBox b43 24 [iv r36.1.W, iv r36.1.H, .slice ad41 r36.1.Bits.length cp42]] [fRep r_api_Grid (.agg #[iv r36.1.W, iv r36.1.H, .slice ad41 r36.1.Bits.length cp42]) r36.1, fRep r_api_Grid (.agg #[iv p1.W, iv p1.H, .slice ad7 p1.Bits.length cp8]) p1, fRep r_api_Grid (.agg #[iv p2.W, iv p2.H, .slice ad11 p2.Bits.length cp12]) p2] [0, 1, 2, 3] [2, 1, 0] S (wN rfl) rfl callee15 rfl (by decide) rfl rfl (fun E1 w1 S1 => c_block_Profile E1 w1 r36.1 (.agg #[iv r36.1.W, iv r36.1.H, .slice ad41 r36.1.Bits.length cp42]) p1 (.agg #[iv p1.W, iv p1.H, .slice ad7 p1.Bits.length cp8]) p2 (.agg #[iv p2.W, iv p2.H, .slice ad11 p2.Bits.length cp12]) r91 hx92 S1) rfl (lb rfl) fun u93 a w S => ?_
  obtain ⟨u94, rfl, hu95⟩ := S.mem.know (i := 0) (e := fRep r_api_Grid (u93) r91.1) rfl
  have S := S.learn (fRep (rL rB) u94 r91.1.Bits) hu95
  obtain ⟨ad96, cp97, _, rfl, _⟩ := hu95
  refine sMove (.tuple #[.agg #[iv r91.1.W, iv r91.1.H, .slice ad96 r91.1.Bits.length cp97], iv r91.2]) S (wN rfl) (.inl rfl) rfl rfl (lb rfl) fun a S => ?_
  refine sExtract (vs := [.agg #[iv r91.1.W, iv r91.1.H, .slice ad96 r91.1.Bits.length cp97], iv r91.2]) (.agg #[iv r91.1.W, iv r91.1.H, .slice ad96 r91.1.Bits.length cp97]) S (wN rfl) rfl rfl rfl rfl (lb rfl) fun a S => ?_
  refine sExtract (vs := [.agg #[iv r91.1.W, iv r91.1.H, .slice ad96 r91.1.Bits.length cp97], iv r91.2]) (iv r91.2) S (wN rfl) rfl rfl rfl rfl (lb rfl) fun a S => ?_
  refine sAlloc (.agg #[iv 0, iv 0, .slice none 0 0]) S (wN rfl) rfl rfl [iv 0, iv 0, .slice none 0 0] rfl rfl (lb rfl) fun a b98 w S => ?_
  refine sStore (p := b98) (off := 0) (T := 24) (vs := [iv 0, iv 0, .slice none 0 0]) (v := .agg #[iv r91.1.W, iv r91.1.H, .slice ad96 r91.1.Bits.length cp97]) 0 [iv r91.1.W, iv r91.1.H, .slice ad96 r91.1.Bits.length cp97] S (wN rfl) rfl rfl rfl rfl rfl rfl rfl (by simp) rfl fun a w S => ?_
  refine sMove (iv r91.2) S (wN rfl) (.inr rfl) rfl rfl (lb rfl) fun a S => ?_
  refine leafL (leafT (hK90 _ _ ?_))
  refine sSeq (fun K99 hK99 => ?_)
  refine sSeq (fun K100 hK100 => ?_)
  refine sRegion ?_
  refine sLoadN (p := b15) (off := 0) (T := 24) (vs := [iv p1.W, iv p1.H, .slice ad7 p1.Bits.length cp8]) 2 [iv p1.W, iv p1.H, .slice ad7 p1.Bits.length cp8] S (wN rfl) rfl rfl rfl rfl rfl rfl rfl (lb rfl) fun a S => ?_
  refine sLoadN (p := b16) (off := 0) (T := 24) (vs := [iv p2.W, iv p2.H, .slice ad11 p2.Bits.length cp12]) 3 [iv p2.W, iv p2.H, .slice ad11 p2.Bits.length cp12] S (wN rfl) rfl rfl rfl rfl rfl rfl rfl (lb rfl) fun a S => ?_
  obtain ⟨r101, hx102, h⟩ := bindSome h
  have S1 := S.mem
  refine sCallQ (X := Unit) (f := 17) (vs := [.agg #[iv p1.W, iv p1.H, .slice ad7 p1.Bits.length cp8], .agg #[iv p2.W, iv p2.H, .slice ad11 p2.Bits.length cp12]]) (val := fun _ => .bool r101) S (wN rfl) rfl callee17 rfl (S1.quiet [3, 2] rfl) (fun E1 w1 S1 => c_raddleref01_Same E1 w1 p1 (.agg #[iv p1.W, iv p1.H, .slice ad7 p1.Bits.length cp8]) p2 (.agg #[iv p2.W, iv p2.H, .slice ad11 p2.Bits.length cp12]) r101 hx102 S1) rfl (lb rfl) fun _ a w S => ?_
  refine leafL (leafT (hK100 _ _ ?_))
  rcases iteSome h with ⟨hc103, h⟩ | ⟨hc103, h⟩
  · refine sCondT S rfl hc103 ?_
    obtain ⟨t105, h, g106⟩ := bindSome h
    refine sCut (fun a w => ∃ o104, o104 = t105 ∧ St [] E [] w0 125 a w [(6, .bool o104)] [] []) ?_ (fun a w hI => ?_)
    rotate_left
    · obtain ⟨o104, rfl, S⟩ := hI
      have h := g106
      clear g106
      try dsimp only at h
      obtain rfl := Option.some.inj h
      exact wp_ret (rThen (sRet (.bool o104) S (rsl1 rfl (rvT (t := 6) (v := .bool o104) S rfl)) ⟨(), rfl, S.mem.sel [] [] (by decide) rfl rfl⟩))
    refine sRegion ?_
    refine sMove (.bool r18) S (wN rfl) (.inl rfl) rfl rfl (lb rfl) fun a S => ?_
    refine sMove (.bool r18) S (wN rfl) (.inl rfl) rfl rfl (lb rfl) fun a S => ?_
    rcases iteSome h with ⟨hc107, h⟩ | ⟨hc107, h⟩
    rotate_left
    · refine sSkip 1 true 111 112 S rfl rfl rfl hc107 rfl (lb rfl) fun a S => ?_
      refine sSkip 1 true 111 113 S rfl rfl rfl hc107 rfl (lb rfl) fun a S => ?_
      refine sPickF (.bool false) S (wN rfl) rfl rfl hc107 rfl rfl (lb rfl) fun a S => ?_
      refine sMove (.bool false) S (wN rfl) (.inr rfl) rfl rfl (lb rfl) fun a S => ?_
      exact leafL (leafT (⟨false, Option.some.inj h, S.fix [] [] (by decide) rfl rfl rfl⟩))
    refine sMove (iv r91.2) S (wG 1 true 111 rfl rfl rfl hc107) (.inl rfl) rfl rfl (lb rfl) fun a S => ?_
    refine sBin (.bool (r91.2 == 14)) S (wG 1 true 111 rfl rfl rfl hc107) rfl rfl rfl (bEq _ _ _ _ .i64 r91.2 14) rfl (lb rfl) fun a S => ?_
    refine sPickT (.bool (r91.2 == 14)) S (wN rfl) rfl rfl hc107 rfl rfl (lb rfl) fun a S => ?_
    refine sMove (.bool (r91.2 == 14)) S (wN rfl) (.inr rfl) rfl rfl (lb rfl) fun a S => ?_
    exact leafL (leafT (⟨r91.2 == 14, Option.some.inj h, S.fix [] [] (by decide) rfl rfl rfl⟩))
  refine sCondF S rfl hc103 ?_
  refine wp_skip (leafT (hK99 _ _ ?_))
  obtain ⟨t109, h, g110⟩ := bindSome h
  refine sCut (fun a w => ∃ o108, o108 = t109 ∧ St [] E [] w0 125 a w [(6, .bool o108)] [] []) ?_ (fun a w hI => ?_)
  rotate_left
  · obtain ⟨o108, rfl, S⟩ := hI
    have h := g110
    clear g110
    try dsimp only at h
    obtain rfl := Option.some.inj h
    exact wp_ret (sRet (.bool o108) S (rsl1 rfl (rvT (t := 6) (v := .bool o108) S rfl)) ⟨(), rfl, S.mem.sel [] [] (by decide) rfl rfl⟩)
  refine sRegion ?_
  refine sMove (.bool r18) S (wN rfl) (.inl rfl) rfl rfl (lb rfl) fun a S => ?_
  refine sMove (.bool r18) S (wN rfl) (.inl rfl) rfl rfl (lb rfl) fun a S => ?_
  rcases iteSome h with ⟨hc111, h⟩ | ⟨hc111, h⟩
  rotate_left
  · refine sSkip 1 true 116 117 S rfl rfl rfl hc111 rfl (lb rfl) fun a S => ?_
    refine sSkip 1 true 116 118 S rfl rfl rfl hc111 rfl (lb rfl) fun a S => ?_
    refine sPickF (.bool false) S (wN rfl) rfl rfl hc111 rfl rfl (lb rfl) fun a S => ?_
    refine sMove (.bool false) S (wN rfl) (.inl rfl) rfl rfl (lb rfl) fun a S => ?_
    refine sSkip 5 true 120 121 S rfl rfl rfl rfl rfl (lb rfl) fun a S => ?_
    refine sSkip 5 true 120 122 S rfl rfl rfl rfl rfl (lb rfl) fun a S => ?_
    refine sSkip 5 true 120 123 S rfl rfl rfl rfl rfl (lb rfl) fun a S => ?_
    refine sPickF (.bool false) S (wN rfl) rfl rfl rfl rfl rfl (lb rfl) fun a S => ?_
    refine sMove (.bool false) S (wN rfl) (.inr rfl) rfl rfl (lb rfl) fun a S => ?_
    exact leafL (leafT (⟨false, Option.some.inj h, S.fix [] [] (by decide) rfl rfl rfl⟩))
  refine sMove (iv r91.2) S (wG 1 true 116 rfl rfl rfl hc111) (.inl rfl) rfl rfl (lb rfl) fun a S => ?_
  refine sBin (.bool (r91.2 == 0)) S (wG 1 true 116 rfl rfl rfl hc111) rfl rfl rfl (bEq _ _ _ _ .i64 r91.2 0) rfl (lb rfl) fun a S => ?_
  refine sPickT (.bool (r91.2 == 0)) S (wN rfl) rfl rfl hc111 rfl rfl (lb rfl) fun a S => ?_
  refine sMove (.bool (r91.2 == 0)) S (wN rfl) (.inl rfl) rfl rfl (lb rfl) fun a S => ?_
  rcases iteSome h with ⟨hc112, h⟩ | ⟨hc112, h⟩
  rotate_left
  · refine sSkip 5 true 120 121 S rfl rfl rfl hc112 rfl (lb rfl) fun a S => ?_
    refine sSkip 5 true 120 122 S rfl rfl rfl hc112 rfl (lb rfl) fun a S => ?_
    refine sSkip 5 true 120 123 S rfl rfl rfl hc112 rfl (lb rfl) fun a S => ?_
    refine sPickF (.bool false) S (wN rfl) rfl rfl hc112 rfl rfl (lb rfl) fun a S => ?_
    refine sMove (.bool false) S (wN rfl) (.inr rfl) rfl rfl (lb rfl) fun a S => ?_
    exact leafL (leafT (⟨false, Option.some.inj h, S.fix [] [] (by decide) rfl rfl rfl⟩))
  refine sLoadN (p := b98) (off := 0) (T := 24) (vs := [iv r91.1.W, iv r91.1.H, .slice ad96 r91.1.Bits.length cp97]) 0 [iv r91.1.W, iv r91.1.H, .slice ad96 r91.1.Bits.length cp97] S (wG 5 true 120 rfl rfl rfl hc112) rfl rfl rfl rfl rfl rfl rfl (lb rfl) fun a S => ?_
  refine sLoadN (p := b14) (off := 0) (T := 24) (vs := [iv p0.W, iv p0.H, .slice ad3 p0.Bits.length cp4]) 1 [iv p0.W, iv p0.H, .slice ad3 p0.Bits.length cp4] S (wG 5 true 120 rfl rfl rfl hc112) rfl rfl rfl rfl rfl rfl rfl (lb rfl) fun a S => ?_
  obtain ⟨r113, hx114, h⟩ := bindSome h
  have S1 := S.mem
  have S1 := S1.learn (fRep r_api_Grid (.agg #[iv p0.W, iv p0.H, .slice ad3 p0.Bits.length cp4]) p0) ⟨_, rfl, S1.know (i := 5) (e := fRep (rL rB) (.slice ad3 p0.Bits.length cp4) p0.Bits) rfl⟩
  refine sCallQ (X := Unit) (f := 17) (vs := [.agg #[iv r91.1.W, iv r91.1.H, .slice ad96 r91.1.Bits.length cp97], .agg #[iv p0.W, iv p0.H, .slice ad3 p0.Bits.length cp4]]) (val := fun _ => .bool r113) S (wG 5 true 120 rfl rfl rfl hc112) rfl callee17 rfl (S1.quiet [2, 0] rfl) (fun E1 w1 S1 => c_raddleref01_Same E1 w1 r91.1 (.agg #[iv r91.1.W, iv r91.1.H, .slice ad96 r91.1.Bits.length cp97]) p0 (.agg #[iv p0.W, iv p0.H, .slice ad3 p0.Bits.length cp4]) r113 hx114 S1) rfl (lb rfl) fun _ a w S => ?_
  refine sPickT (.bool r113) S (wN rfl) rfl rfl hc112 rfl rfl (lb rfl) fun a S => ?_
  refine sMove (.bool r113) S (wN rfl) (.inr rfl) rfl rfl (lb rfl) fun a S => ?_
  exact leafL (leafT (⟨r113, Option.some.inj h, S.fix [] [] (by decide) rfl rfl rfl⟩))

end Go.Proofs.Ythfifeabomdlpaa
namespace Go.Proofs.Ythfifeabomdlpaa
open Go.RowKit
set_option linter.unusedVariables false

theorem build_eq {l1 : Int → Int × List Bool → Option ((Int × List Bool) ⊕ List Bool)} {l2 : Int × List Bool → Option ((Int × List Bool) ⊕ List Bool)} (f : Nat → Nat → Bool) (w h : Nat) (hw : w ≤ 64) (hh : h ≤ 64)
    (h1 : ∀ y x s, y < h → x < w → l1 (y : Int) ((x : Int), s) = Option.bind (appO s [f x y]) fun l => some (.inl (w64 ((x : Int) + 1), l))) (h1e : ∀ (y : Nat) s, l1 (y : Int) ((w : Int), s) = some (.inr s))
    (h2 : ∀ (y : Nat) s, y < h → l2 ((y : Int), s) = Option.bind (Option.bind (whileO (l1 (y : Int)) (0, s)) fun e => some e) fun o => some (.inl (w64 ((y : Int) + 1), o))) (h2e : ∀ s, l2 ((h : Int), s) = some (.inr s)) :
    whileO l2 (0, ([] : List Bool)) = some (gl f w h) := by
  have this := loop2 (l1 := fun y => l1 (y : Int)) (l2 := l2) (fun y x => ((x : Int), glf f w (y * w + x))) (fun y => ((y : Int), glf f w (y * w))) (fun y => glf f w (y * w + w)) w h (t := glf f w (h * w))
    (fun y x hy hx => by
      have hlt := pl_lt hx hy
      have hp : w * h ≤ 64 * 64 := Nat.mul_le_mul hw hh
      rw [h1 y x _ hy hx, appO_of (by simp [glf]; omega), Option.bind_some, w64_succ (by omega), show y * w + (x + 1) = y * w + x + 1 from rfl, glf_succ, pl_mod hx, pl_div hx])
    (fun y hy => h1e y _)
    (fun y hy hl => by
      have e0 : (((0 : Nat) : Int), glf f w (y * w + 0)) = ((0 : Int), glf f w (y * w)) := rfl
      rw [e0] at hl
      rw [h2 y _ hy, hl]
      simp only [Option.bind_some, w64_succ (show y < 9223372036854775807 by omega)]
      rw [show (y + 1) * w = y * w + w by rw [Nat.add_mul, Nat.one_mul]])
    (h2e _)
  have e0 : (((0 : Nat) : Int), glf f w (0 * w)) = ((0 : Int), ([] : List Bool)) := by simp [glf]
  simp only [e0] at this
  rw [this, Nat.mul_comm h w]
  rfl
theorem cap_ok {w h : Nat} (hw : w ≤ 64) (hh : h ≤ 64) : capO (w64 ((w : Int) * (h : Int))) = some () := by
  have hp : w * h ≤ 64 * 64 := Nat.mul_le_mul hw hh
  rw [wmul (by omega)]
  exact capO_of rfl (by omega)
theorem not_eq {g : api_Grid} {w h : Nat} (G : Gr g w h) : F_grid_Not g = some (gm (fun x y => !cell g w x y) w h, 0) := by
  have hb : whileO (grid_build_s2_l2 (h : Int) (w : Int) g) (0, ([] : List Bool)) = some (gl (fun x y => !cell g w x y) w h) := by
    refine build_eq (l1 := fun y => grid_build_s2_l1 (w : Int) y g) (fun x y => !cell g w x y) w h G.w1 G.h1 (fun y x s hy hx => ?_) (fun y s => ?_) (fun y s hy => ?_) (fun s => ?_)
    · unfold grid_build_s2_l1 F_grid_Not_1_s0
      simp only [dT (show (x : Int) < (w : Int) by omega), if_true, G.at hx hy, Option.bind_some]
    · unfold grid_build_s2_l1
      simp only [dF (show ¬ (w : Int) < (w : Int) by omega), Bool.false_eq_true, if_false]
    · unfold grid_build_s2_l2
      simp only [dT (show (y : Int) < (h : Int) by omega), if_true]
    · unfold grid_build_s2_l2
      simp only [dF (show ¬ (h : Int) < (h : Int) by omega), Bool.false_eq_true, if_false]
  unfold F_grid_Not F_grid_build_s2
  simp only [(gcheck_eq g).1, gr_err G, Option.bind_some, bne_self_eq_false, Bool.false_eq_true, if_false, G.hw, G.hh, cap_ok G.w1 G.h1, hb]
  rfl

end Go.Proofs.Ythfifeabomdlpaa
namespace Go.Proofs.Ythfifeabomdlpaa
open Go.RowKit
set_option linter.unusedVariables false

theorem fit_eq (g : api_Grid) : F_raddlelaw13_fit g = some (!decide (4200 < g.Bits.length) && decide (gerr g = 0)) := by
  unfold F_raddlelaw13_fit
  simp only [rgreat_eq, (gcheck_eq g).2, Option.bind_some]
  by_cases h : 4200 < g.Bits.length
  · simp only [dT h, Bool.not_true, Bool.false_eq_true, if_false, Option.bind_some, Bool.false_and]
  · simp only [dF h, Bool.not_false, if_true, Option.bind_some, Bool.true_and]
    by_cases h0 : gerr g = 0
    · rw [dT h0, h0]; rfl
    · rw [dF h0, bF h0]
theorem fit_gr {g : api_Grid} {w h : Nat} (G : Gr g w h) : F_raddlelaw13_fit g = some true := by
  have := G.bits
  rw [fit_eq, dF (show ¬ 4200 < g.Bits.length by omega), dT (gr_err G)]; rfl
theorem fit_no {g : api_Grid} (h : ¬ gerr g = 0) : F_raddlelaw13_fit g = some false := by
  rw [fit_eq, dF h, Bool.and_false]

end Go.Proofs.Ythfifeabomdlpaa
namespace Go.Proofs.Ythfifeabomdlpaa
open Go.RowKit
set_option linter.unusedVariables false

theorem law_BlockBack' (ha : F_raddlelaw13_alive = some true) (p a b : api_Grid) (wp : wf_api_Grid p) (wa : wf_api_Grid a) (wb : wf_api_Grid b) : F_raddlelaw13_BlockBack p a b = some true := by
  unfold F_raddlelaw13_BlockBack
  rw [ha]
  by_cases g1 : gerr p = 0
  case neg => simp only [Option.bind_some, fit_no g1, Bool.not_false, if_true]
  obtain ⟨pw, ph, P⟩ := gerr_zero g1
  by_cases g2 : gerr a = 0
  case neg => simp only [Option.bind_some, fit_gr P, fit_no g2, Bool.not_true, Bool.not_false, Bool.false_eq_true, if_false, if_true]
  obtain ⟨uw, uh, A⟩ := gerr_zero g2
  by_cases g3 : gerr b = 0
  case neg => simp only [Option.bind_some, fit_gr P, fit_gr A, fit_no g3, Bool.not_true, Bool.not_false, Bool.false_eq_true, if_false, if_true]
  obtain ⟨bw, bh, B⟩ := gerr_zero g3
  simp only [Option.bind_some, fit_gr P, fit_gr A, fit_gr B, Bool.not_true, Bool.false_eq_true, if_false, fill_eq]
  rcases fillS_cases P A B with h | h | ⟨B', hW, hH⟩
  · rw [h]; rfl
  · rw [h]; rfl
  have hN := gm_gr (fun x y => !cell p pw x y) P.w0 P.w1 P.h0 P.h1
  have G := fill_gr (b := b) P A hW hH
  have e1 : w64 (p.W * a.W) = ((pw * uw : Nat) : Int) := by rw [P.hw, A.hw]; exact wmul (by omega)
  have e2 : w64 (p.H * a.H) = ((ph * uh : Nat) : Int) := by rw [P.hh, A.hh]; exact wmul (by omega)
  have hn := fillS_ok hN B' A hW hH
  rw [fill_not] at hn
  have hp := fun h => prof_of G P A B' h fun i j hi hj => fill_prt A B' hi hj
  have hs := prof_same G A
  have hgl := G.bits
  have hal := A.bits
  have hpl := P.bits
  rw [fillS_ok P A B' hW hH]
  generalize gm (fillf p a b pw uw uh) (pw * uw) (ph * uh) = g at *
  simp only [bne_self_eq_false, Bool.false_eq_true, if_false, Option.bind_some, fit_gr G, Bool.not_true, e1, e2, G.hw, G.hh, not_eq P, hn, rsame_grid g g (by omega), decide_true, prof_eq, rsame_grid a b (by omega)]
  by_cases hab : a = b
  · subst hab
    simp only [decide_true, if_true, hs, Option.bind_some, beq_self_eq_true]
  · simp only [dF hab, Bool.false_eq_true, if_false, hp hab, beq_self_eq_true, if_true, Option.bind_some, rsame_grid p p (by omega), decide_true]

end Go.Proofs.Ythfifeabomdlpaa
namespace Go.Proofs.Ythfifeabomdlpaa
open Go.RowKit
set_option linter.unusedVariables false

theorem law_BlockBack (p a b : api_Grid) (wp : wf_api_Grid p) (wa : wf_api_Grid a) (wb : wf_api_Grid b) : F_raddlelaw13_BlockBack p a b = some true := law_BlockBack' k_raddlelaw13_alive p a b wp wa wb

end Go.Proofs.Ythfifeabomdlpaa
namespace Go.Proofs.Ythfifeabomdlpaa
open Go.RowKit
set_option linter.unusedVariables false

namespace frameBlockBack
open Go.ChangeShapes Go.WideShapes Go.ChangeAt Go.Joins
theorem own : ownKnob Try.prog.godebug = none := by kernel_rfl
theorem laidOut : laidOutB Try.prog = true := by kernel_rfl
set_option maxRecDepth 100000 in
theorem lifted (os : Os) (started : os.Started) (H : Type) (enc : TypeId × Value → H) :
    ReturnsInHanded {} Try.checked os 7 .any (Rows.blockBackSpec.pre6 enc Try.prog Try.f7 Rows.blockBackRow.domain false) (Rows.blockBackSpec.post enc Try.prog Try.f7 false true false false) := by
  refine returnsInHanded_of_change (C := Try.checked) own started (by kernel_rfl) Try.func7
    (ChangeSpec.witness6 (enc := enc) (C := Try.checked) false ⟨#[], #[.agg #[iv 0, iv 0, .slice none 0 0], .agg #[iv 0, iv 0, .slice none 0 0], .agg #[iv 0, iv 0, .slice none 0 0]], []⟩ 8 (by kernel_rfl) (by kernel_rfl) (by kernel_rfl) (by kernel_rfl)) ?_
  intro W base args ds gs before hval0 hW hcnd _
  have hval : ∀ (j : Nat) t v, Try.f7.params[j]? = some t → args[j]? = some v → Value.okWide Try.prog W .any base t v := hval0
  have hW' := hW
  obtain ⟨p, q, hA0, hV, rfl, hfz, hnd⟩ := hW
  have hA : DataW.TrodAll enc Try.prog W 0 (fun _ => true) true Try.f7.params.toList args.toList ds p := hA0
  rw [Try.params7] at hA hval
  obtain ⟨v0, vs0, d0, ds0, p0, q0, hargs, rfl, rfl, h0, r0⟩ := trodAll_cons hA
  obtain ⟨v1, vs1, d1, ds1, p1, q1, rfl, rfl, rfl, h1, r1⟩ := trodAll_cons r0
  obtain ⟨v2, vs2, d2, ds2, p2, q2, rfl, rfl, rfl, h2, r2⟩ := trodAll_cons r1
  obtain ⟨rfl, rfl, rfl⟩ := trodAll_nil r2
  obtain rfl : args = #[v0, v1, v2] := by cases args; simp_all
  obtain ⟨rfl, rfl⟩ := trodVars_none hV
  have k0 := h0
  have lt0 : ∀ x ∈ p0, x.block < W.heap.size := by obtain ⟨m, hm⟩ := k0; exact DataW.trod_lt m _ _ _ hm
  have k1 := h1
  have lt1 : ∀ x ∈ p1, x.block < W.heap.size := by obtain ⟨m, hm⟩ := k1; exact DataW.trod_lt m _ _ _ hm
  have k2 := h2
  have lt2 : ∀ x ∈ p2, x.block < W.heap.size := by obtain ⟨m, hm⟩ := k2; exact DataW.trod_lt m _ _ _ hm
  obtain ⟨x0, rep0, wf0⟩ := top_agg Try.underlying24 aggr_api_Grid op_api_Grid (hval 0 _ v0 rfl rfl) h0
  obtain ⟨x1, rep1, wf1⟩ := top_agg Try.underlying24 aggr_api_Grid op_api_Grid (hval 1 _ v1 rfl rfl) h1
  obtain ⟨x2, rep2, wf2⟩ := top_agg Try.underlying24 aggr_api_Grid op_api_Grid (hval 2 _ v2 rfl rfl) h2
  clear hA0 hval0
  refine (c_raddlelaw13_BlockBack (fun _ => False) W x0 v0 x1 v1 x2 v2 true (law_BlockBack x0 x1 x2 wf0 wf1 wf2) (St0.start (by intro d hd; simp only [List.mem_cons, List.not_mem_nil, or_false] at hd; rcases hd with rfl | rfl | rfl; exact rep0; exact rep1; exact rep2))).mono fun e W' hr => ?_
  obtain ⟨_, he, hS⟩ := hr
  have bel := hS.chg.below
  subst he
  exact ⟨_, rfl, _, _, _, [], _, [], hW', trodAll_mk1 (shut_bool Try.underlying4 _), (trodAll_cons_mk (Below.trod laidOut (by kernel_rfl) (of_decide_eq_true (by kernel_rfl)) k0 bel lt0) (trodAll_cons_mk (Below.trod laidOut (by kernel_rfl) (of_decide_eq_true (by kernel_rfl)) k1 bel lt1) (trodAll_cons_mk (Below.trod laidOut (by kernel_rfl) (of_decide_eq_true (by kernel_rfl)) k2 bel lt2) trodAll_mk0))), rfl, bel.frame _, fun h => by cases h⟩
theorem over : Rows.blockBackRow.holds Try.pinned (OpenSpec.ofChange Rows.blockBackSpec) :=
  OpenClaim.holds_of_wide 7 Try.f7 rfl rfl rfl rfl rfl rfl rfl ⟨rfl, rfl, rfl, rfl, rfl⟩ rfl rfl rfl rfl rfl (by kernel_rfl) Try.func7 (by kernel_rfl)
    (of_decide_eq_true (by kernel_rfl)) (by unfold Func.isWrapper; first | (rw [if_pos (by decide +kernel)]; kernel_rfl) | (rw [if_neg (by decide +kernel)]; exact ⟨rfl, rfl⟩))
    (fun os started H enc _ => lifted os started H enc)
end frameBlockBack
theorem blockBack_holds : Rows.BlockBackSaid := frameBlockBack.over

end Go.Proofs.Ythfifeabomdlpaa
