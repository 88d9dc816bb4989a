/- Several texts in one: G15 G17 G50s0 G16 -/
import Derived.WalkKit
import Derived.Maps.AppendAt
import Derived.Deep.AppendLies
import Derived.KernelRfl
import Derived.Laws.OwnMore
import Derived.Great.BuildSlice
import Derived.Orders
import Derived.Laws.StructEq
import Derived.ChangeKeysEq
import Derived.Defers
import Derived.Laws.BytesString
import Derived.RangeFuncNested
import Derived.RangeFuncBound
import Derived.RangeFuncCalls
import Derived.RangeFuncLeaves
import Derived.OrdersIn
import Derived.LoopNIn
import Derived.ArgAppend
import Derived.Test.YthfifeabomdlpaaProg
import Derived.ProofKit
import Derived.OpenShut
import Derived.ChangeOld
import Derived.Deep.Slices
import Derived.Lib.SmallJoins
import Derived.JoinedOf
import Derived.JoinedAt
import Derived.Below
import Derived.Test.YthfifeabomdlpaaRows
import Derived.Test.YthfifeabomdlpaaMBlockFills2
namespace Go.Proofs.Ythfifeabomdlpaa
open Go.RowKit
set_option linter.unusedVariables false

def anc_block_Profile_0 : List (List Nat) := [[], [0], [], [0, 1, 2], [], [4], [], [4, 5, 6], [0, 1, 2, 3, 4, 5, 6, 7], [], [0, 1, 2, 3, 4, 5, 6, 7, 8, 9]]
noncomputable def block_Profile_l1 (z49 : Int) (p0 : api_Grid) (p1 : api_Grid) (s61 : Int) (p2 : api_Grid) : (Int × List Bool) → Option ((Int × List Bool) ⊕ ((api_Grid × Int) ⊕ (List Bool))) := fun s0 => match s0 with
  | (s81, s82) =>
    if decide (s81 < z49) then
      Option.bind (F_block_part p0 p1.W p1.H s81 s61) fun r97 =>
      Option.bind (F_grid_Same r97 p1) fun r106 =>
      Option.bind (α := Bool) (
        if !r106 then
          Option.bind (F_grid_Same r97 p2) fun r113 =>
          some (!r113)
        else
          some false) fun o109 =>
      if o109 then
        some (.inr (.inl ((api_Grid.mk 0 0 ([] : (List Bool))), 6)))
      else
        Option.bind (appO s82 [r106]) fun l119 =>
        some (.inl (w64 (s81 + 1), l119))
    else
      some (.inr (.inr s82))
noncomputable def block_Profile_l2 (z51 : Int) (z49 : Int) (p0 : api_Grid) (p1 : api_Grid) (p2 : api_Grid) : (Int × List Bool) → Option ((Int × List Bool) ⊕ ((api_Grid × Int) ⊕ (List Bool))) := fun s0 => match s0 with
  | (s61, s62) =>
    if decide (s61 < z51) then
      Option.bind (α := List Bool ⊕ (api_Grid × Int)) (
        Option.bind (whileO (block_Profile_l1 z49 p0 p1 s61 p2) (0, s62)) fun z0 => match z0 with
          | .inl z =>
            some (.inr z)
          | .inr e88 =>
            some (.inl e88)) fun z0 => match z0 with
        | .inl o74 =>
          some (.inl (w64 (s61 + 1), o74))
        | .inr z =>
          some (.inr (.inl z))
    else
      some (.inr (.inr s62))
noncomputable def F_block_Profile (p0 : api_Grid) (p1 : api_Grid) (p2 : api_Grid) : Option (api_Grid × Int) :=
  Option.bind (F_block_checked [p0, p1, p2]) fun r22 =>
  if r22 != 0 then
    some ((api_Grid.mk 0 0 ([] : (List Bool))), r22)
  else
    Option.bind (α := Bool) (
      Option.bind (F_block_alike p1 p2) fun r32 =>
      if !r32 then
        some true
      else
        Option.bind (remI p0.W p1.W) fun z35 =>
        if z35 != 0 then
          some true
        else
          Option.bind (remI p0.H p1.H) fun z38 =>
          some (z38 != 0)) fun o29 =>
    if o29 then
      some ((api_Grid.mk 0 0 ([] : (List Bool))), 26)
    else
      Option.bind (F_grid_Same p1 p2) fun r44 =>
      if r44 then
        some ((api_Grid.mk 0 0 ([] : (List Bool))), 14)
      else
        Option.bind (quoI p0.W p1.W) fun z49 =>
        Option.bind (quoI p0.H p1.H) fun z51 =>
        Option.bind (α := List Bool ⊕ (api_Grid × Int)) (
          Option.bind (whileO (block_Profile_l2 z51 z49 p0 p1 p2) (0, ([] : List Bool))) fun z0 => match z0 with
            | .inl z =>
              some (.inr z)
            | .inr e68 =>
              some (.inl e68)) fun z0 => match z0 with
          | .inl o55 =>
            some ((api_Grid.mk z49 z51 o55), 0)
          | .inr z =>
            some z
def c_block_Profile_val (r : (api_Grid × Int)) (x : Value) : Value := .tuple #[x, .int .i64 r.2]
def c_block_Profile_D (r : (api_Grid × Int)) (x : Value) : List Fact := [fRep r_api_Grid x r.1]
set_option maxHeartbeats 4000000 in
set_option maxRecDepth 100000 in
theorem c_block_Profile (E : Nat → Prop) (w0 : World) (p0 : api_Grid) (v0 : Value) (p1 : api_Grid) (v1 : Value) (p2 : api_Grid) (v2 : Value) (r : (api_Grid × Int)) (h : F_block_Profile p0 p1 p2 = some r) (S : St0 E [] w0 w0 [] [fRep r_api_Grid (v0) p0, fRep r_api_Grid (v1) p1, fRep r_api_Grid (v2) p2]) :
    Calls Try.prog 15 #[v0, v1, v2] w0 (Ret (X := Value) E [] w0 (c_block_Profile_val r) (fun _ => []) (c_block_Profile_D r)) := by
  unfold F_block_Profile at h
  obtain ⟨u1, rfl, hu2⟩ := S.know (i := 0) (e := fRep r_api_Grid (v0) p0) rfl
  have S := S.learn (fRep (rL rB) u1 p0.Bits) hu2
  obtain ⟨ad3, cp4, _, rfl, _⟩ := hu2
  obtain ⟨u5, rfl, hu6⟩ := S.know (i := 2) (e := fRep r_api_Grid (v1) p1) rfl
  have S := S.learn (fRep (rL rB) u5 p1.Bits) hu6
  obtain ⟨ad7, cp8, _, rfl, _⟩ := hu6
  obtain ⟨u9, rfl, hu10⟩ := S.know (i := 4) (e := fRep r_api_Grid (v2) p2) rfl
  have S := S.learn (fRep (rL rB) u9 p2.Bits) hu10
  obtain ⟨ad11, cp12, _, rfl, _⟩ := hu10
  refine sEnter (args := [.agg #[iv p0.W, iv p0.H, .slice ad3 p0.Bits.length cp4], .agg #[iv p1.W, iv p1.H, .slice ad7 p1.Bits.length cp8], .agg #[iv p2.W, iv p2.H, .slice ad11 p2.Bits.length cp12]]) 98 Try.func15 rfl rfl (by simp) S (fun a S => ?_)
  refine sSeq (fun K13 hK13 => ?_)
  refine sRegion ?_
  refine sBox (v := .agg #[iv p0.W, iv p0.H, .slice ad3 p0.Bits.length cp4]) S (wN rfl) rfl rfl [iv p0.W, iv p0.H, .slice ad3 p0.Bits.length cp4] rfl rfl (lb rfl) fun a b14 w S => ?_
  refine sBox (v := .agg #[iv p1.W, iv p1.H, .slice ad7 p1.Bits.length cp8]) S (wN rfl) rfl rfl [iv p1.W, iv p1.H, .slice ad7 p1.Bits.length cp8] rfl rfl (lb rfl) fun a b15 w S => ?_
  refine sBox (v := .agg #[iv p2.W, iv p2.H, .slice ad11 p2.Bits.length cp12]) S (wN rfl) rfl rfl [iv p2.W, iv p2.H, .slice ad11 p2.Bits.length cp12] rfl rfl (lb rfl) fun a b16 w S => ?_
  refine sAlloc (.agg #[iv 0, iv 0, .slice none 0 0]) S (wN rfl) rfl rfl [iv 0, iv 0, .slice none 0 0] rfl rfl (lb rfl) fun a b17 w S => ?_
  refine sMove (iv 0) S (wN rfl) (.inr rfl) rfl rfl (lb rfl) fun a S => ?_
  refine leafL (leafT (hK13 _ _ ?_))
  refine sSeq (fun K18 hK18 => ?_)
  refine sSeq (fun K19 hK19 => ?_)
  refine sRegion ?_
  refine sLoadN (p := b14) (off := 0) (T := 24) (vs := [iv p0.W, iv p0.H, .slice ad3 p0.Bits.length cp4]) 3 [iv p0.W, iv p0.H, .slice ad3 p0.Bits.length cp4] S (wN rfl) rfl rfl rfl rfl rfl rfl rfl (lb rfl) fun a S => ?_
  refine sLoadN (p := b15) (off := 0) (T := 24) (vs := [iv p1.W, iv p1.H, .slice ad7 p1.Bits.length cp8]) 2 [iv p1.W, iv p1.H, .slice ad7 p1.Bits.length cp8] S (wN rfl) rfl rfl rfl rfl rfl rfl rfl (lb rfl) fun a S => ?_
  refine sLoadN (p := b16) (off := 0) (T := 24) (vs := [iv p2.W, iv p2.H, .slice ad11 p2.Bits.length cp12]) 1 [iv p2.W, iv p2.H, .slice ad11 p2.Bits.length cp12] S (wN rfl) rfl rfl rfl rfl rfl rfl rfl (lb rfl) fun a S => ?_
  refine sLit (r := r_api_Grid) (T := 24) (xs := [p0, p1, p2]) [(0, .agg #[iv p0.W, iv p0.H, .slice ad3 p0.Bits.length cp4]), (1, .agg #[iv p1.W, iv p1.H, .slice ad7 p1.Bits.length cp8]), (2, .agg #[iv p2.W, iv p2.H, .slice ad11 p2.Bits.length cp12])] 3 [.agg #[iv p0.W, iv p0.H, .slice ad3 p0.Bits.length cp4], .agg #[iv p1.W, iv p1.H, .slice ad7 p1.Bits.length cp8], .agg #[iv p2.W, iv p2.H, .slice ad11 p2.Bits.length cp12]] [iv p0.W, iv p0.H, .slice ad3 p0.Bits.length cp4, iv p1.W, iv p1.H, .slice ad7 p1.Bits.length cp8, iv p2.W, iv p2.H, .slice ad11 p2.Bits.length cp12] (.agg #[iv 0, iv 0, .slice none 0 0]) 40 S (wN rfl) rfl rfl Try.underlying34 rfl (by decide) (by decide) (by kernel_rfl) rfl (fun E1 w1 hE => All.cons (r_api_Grid.mono hE (S.mem.know (i := 3) (e := fRep r_api_Grid (.agg #[iv p0.W, iv p0.H, .slice ad3 p0.Bits.length cp4]) p0) rfl)) (All.cons (r_api_Grid.mono hE (S.mem.know (i := 4) (e := fRep r_api_Grid (.agg #[iv p1.W, iv p1.H, .slice ad7 p1.Bits.length cp8]) p1) rfl)) (All.cons (r_api_Grid.mono hE (S.mem.know (i := 5) (e := fRep r_api_Grid (.agg #[iv p2.W, iv p2.H, .slice ad11 p2.Bits.length cp12]) p2) rfl)) (All.nil _ _ _)))) rfl rfl (lb rfl) fun a w ad20 cp21 S => ?_
  obtain ⟨r22, hx23, h⟩ := bindSome h
  have S1 := S.mem
  have S1 := S1.shutR (r := r_api_Grid) (T := 24) (v := .slice ad20 [p0, p1, p2].length cp21) (xs := [p0, p1, p2]) 0 rfl
  refine sCallQ (X := Unit) (f := 41) (vs := [.slice ad20 [p0, p1, p2].length cp21]) (val := fun _ => iv r22) S (wN rfl) rfl callee41 rfl (S1.quiet [0] rfl) (fun E1 w1 S1 => c_block_checked E1 w1 [p0, p1, p2] (.slice ad20 [p0, p1, p2].length cp21) r22 hx23 S1) rfl (lb rfl) fun _ a w S => ?_
  refine sMove (iv r22) S (wN rfl) (.inr rfl) rfl rfl (lb rfl) fun a S => ?_
  refine leafL (leafT (hK19 _ _ ?_))
  refine sSeq (fun K24 hK24 => ?_)
  refine sRegion ?_
  refine sMove (iv r22) S (wN rfl) (.inl rfl) rfl rfl (lb rfl) fun a S => ?_
  refine sBin (.bool (r22 != 0)) S (wN rfl) rfl rfl rfl (bNe _ _ _ _ .i64 r22 0) rfl (lb rfl) fun a S => ?_
  refine leafL (leafT (hK24 _ _ ?_))
  rcases iteSome h with ⟨hc25, h⟩ | ⟨hc25, h⟩
  · refine sCondT S rfl hc25 ?_
    refine sSeq (fun K26 hK26 => ?_)
    refine sRegion ?_
    refine sBuild [] [iv 0, iv 0, .slice none 0 0] S (wN rfl) rfl rfl rfl rfl (lb rfl) fun a S => ?_
    refine sMove (iv r22) S (wN rfl) (.inl rfl) rfl rfl (lb rfl) fun a S => ?_
    refine sStore (p := b17) (off := 0) (T := 24) (vs := [iv 0, iv 0, .slice none 0 0]) (v := .agg #[iv 0, iv 0, .slice none 0 0]) 1 [iv 0, iv 0, .slice none 0 0] S (wN rfl) rfl rfl rfl rfl rfl rfl rfl (by simp) rfl fun a w S => ?_
    refine sMove (iv r22) S (wN rfl) (.inr rfl) rfl rfl (lb rfl) fun a S => ?_
    refine leafL (leafT (hK26 _ _ ?_))
    obtain rfl := Option.some.inj h
    have S := S.learn (fRep (rL rB) (.slice none 0 0) ([] : (List Bool))) (rL_nil _ _ _)
    have S := S.learn (fRep r_api_Grid (.agg #[iv 0, iv 0, .slice none 0 0]) (api_Grid.mk 0 0 ([] : (List Bool)))) ⟨_, rfl, S.mem.know (i := 0) (e := fRep (rL rB) (.slice none 0 0) ([] : (List Bool))) rfl⟩
    exact wp_ret (rThen (sRet (.tuple #[.agg #[iv 0, iv 0, .slice none 0 0], iv r22]) S (rsl2 rfl (rvN (c := 6) (t := 24) (T := 24) (p := b17) 0 [iv 0, iv 0, .slice none 0 0] S rfl rfl rfl rfl) (rvT (t := 7) (v := iv r22) S rfl)) ⟨(.agg #[iv 0, iv 0, .slice none 0 0]), rfl, S.mem.sel [] [0] (by decide) rfl rfl⟩))
  refine sCondF S rfl hc25 ?_
  refine wp_skip (leafT (hK18 _ _ ?_))
  refine sSeq (fun K27 hK27 => ?_)
  refine sDraw (nf := []) (W := [(0, 25, .pointer (some ⟨b15, 0, none⟩)), (1, 26, iv p1.W), (2, 27, .pointer (some ⟨b15, 1, none⟩)), (3, 28, iv p1.H), (4, 9, iv p1.W), (5, 10, iv p1.H)]) rfl S ?_
  refine node_by (A := [[], [0], [], [2], [0, 1], [0, 1, 2, 3, 4]]) (nf := []) (Y := []) (W := [(0, 25, .pointer (some ⟨b15, 0, none⟩)), (1, 26, iv p1.W), (2, 27, .pointer (some ⟨b15, 1, none⟩)), (3, 28, iv p1.H), (4, 9, iv p1.W), (5, 10, iv p1.H)]) 6 (by kernel_rfl) (by kernel_rfl) (by kernel_rfl) (by kernel_rfl) (by kernel_rfl) [0, 1, 2, 3, 4, 5] (by kernel_rfl) (by decide) (by decide) (aF 0 5 (by decide) ?_ (aF 1 4 (by decide) ?_ (aF 2 3 (by decide) ?_ (aF 3 2 (by decide) ?_ (aF 4 1 (by decide) ?_ (aF 5 0 (by decide) ?_ (trivial))))))) [(3, .pointer (some ⟨b14, 0, none⟩)), (4, .pointer (some ⟨b15, 0, none⟩)), (5, .pointer (some ⟨b16, 0, none⟩)), (6, .pointer (some ⟨b17, 0, none⟩)), (9, iv p1.W), (10, iv p1.H)] (fin_of [none, none, none, none, some 4, some 5] rfl (by kernel_rfl) (by kernel_rfl)) (fun _ a w S => ?_)
  · refine fI 25 (.pointer (some ⟨b15, 0, none⟩)) [(4, .pointer (some ⟨b15, 0, none⟩))] 0 [none] rfl rfl rfl rfl rfl rfl fun G a w S => ?_
    refine sField (b := b15) (off := 0) 0 0 S (wN rfl) rfl rfl rfl rfl rfl (lb rfl) fun a S => ?_
    exact leafL ⟨rfl, S⟩
  · refine fI 26 (iv p1.W) [(25, .pointer (some ⟨b15, 0, none⟩))] 1 [some 0] rfl rfl rfl rfl rfl rfl fun G a w S => ?_
    refine sLoad1 (p := b15) (off := 0) (T := 24) (vs := [iv p1.W, iv p1.H, .slice ad7 p1.Bits.length cp8]) 3 (iv p1.W) S (wN rfl) rfl rfl rfl rfl rfl rfl (lb rfl) fun a S => ?_
    exact leafL ⟨rfl, S⟩
  · refine fI 27 (.pointer (some ⟨b15, 1, none⟩)) [(4, .pointer (some ⟨b15, 0, none⟩))] 2 [none] rfl rfl rfl rfl rfl rfl fun G a w S => ?_
    refine sField (b := b15) (off := 0) 1 1 S (wN rfl) rfl rfl rfl rfl rfl (lb rfl) fun a S => ?_
    exact leafL ⟨rfl, S⟩
  · refine fI 28 (iv p1.H) [(27, .pointer (some ⟨b15, 1, none⟩))] 3 [some 2] rfl rfl rfl rfl rfl rfl fun G a w S => ?_
    refine sLoad1 (p := b15) (off := 1) (T := 24) (vs := [iv p1.W, iv p1.H, .slice ad7 p1.Bits.length cp8]) 3 (iv p1.H) S (wN rfl) rfl rfl rfl rfl rfl rfl (lb rfl) fun a S => ?_
    exact leafL ⟨rfl, S⟩
  · refine fI 9 (iv p1.W) [(26, iv p1.W)] 4 [some 1] rfl rfl rfl rfl rfl rfl fun G a w S => ?_
    refine sMove (iv p1.W) S (wN rfl) (.inr rfl) rfl rfl (lb rfl) fun a S => ?_
    exact leafL ⟨rfl, S⟩
  · refine fI 10 (iv p1.H) [(28, iv p1.H)] 5 [some 3] rfl rfl rfl rfl rfl rfl fun G a w S => ?_
    refine sMove (iv p1.H) S (wN rfl) (.inr rfl) rfl rfl (lb rfl) fun a S => ?_
    exact leafL ⟨rfl, S⟩
  refine leafT (hK27 _ _ ?_)
  refine sSeq (fun K28 hK28 => ?_)
  obtain ⟨t30, h, g31⟩ := bindSome h
  refine sCut (fun a w => ∃ o29, o29 = t30 ∧ St [] E [] w0 98 a w [(3, .pointer (some ⟨b14, 0, none⟩)), (4, .pointer (some ⟨b15, 0, none⟩)), (5, .pointer (some ⟨b16, 0, none⟩)), (6, .pointer (some ⟨b17, 0, none⟩)), (9, iv p1.W), (10, iv p1.H), (46, .bool o29)] [eBox b14 24 [iv p0.W, iv p0.H, .slice ad3 p0.Bits.length cp4], eBox b15 24 [iv p1.W, iv p1.H, .slice ad7 p1.Bits.length cp8], eBox b16 24 [iv p2.W, iv p2.H, .slice ad11 p2.Bits.length cp12], eBox b17 24 [iv 0, iv 0, .slice none 0 0]] [fRep (rL rB) (.slice ad3 p0.Bits.length cp4) p0.Bits, fRep (rL rB) (.slice ad7 p1.Bits.length cp8) p1.Bits, fRep (rL rB) (.slice ad11 p2.Bits.length cp12) p2.Bits]) ?_ (fun a w hI => ?_)
  · refine sRegion ?_
    refine sLoadN (p := b15) (off := 0) (T := 24) (vs := [iv p1.W, iv p1.H, .slice ad7 p1.Bits.length cp8]) 3 [iv p1.W, iv p1.H, .slice ad7 p1.Bits.length cp8] S (wN rfl) rfl rfl rfl rfl rfl rfl rfl (lb rfl) fun a S => ?_
    refine sLoadN (p := b16) (off := 0) (T := 24) (vs := [iv p2.W, iv p2.H, .slice ad11 p2.Bits.length cp12]) 2 [iv p2.W, iv p2.H, .slice ad11 p2.Bits.length cp12] S (wN rfl) rfl rfl rfl rfl rfl rfl rfl (lb rfl) fun a S => ?_
    obtain ⟨r32, hx33, h⟩ := bindSome h
    have S1 := S.mem
    refine sCallQ (X := Unit) (f := 42) (vs := [.agg #[iv p1.W, iv p1.H, .slice ad7 p1.Bits.length cp8], .agg #[iv p2.W, iv p2.H, .slice ad11 p2.Bits.length cp12]]) (val := fun _ => .bool r32) S (wN rfl) rfl callee42 rfl (S1.quiet [4, 5] rfl) (fun E1 w1 S1 => c_block_alike E1 w1 p1 (.agg #[iv p1.W, iv p1.H, .slice ad7 p1.Bits.length cp8]) p2 (.agg #[iv p2.W, iv p2.H, .slice ad11 p2.Bits.length cp12]) r32 hx33 S1) rfl (lb rfl) fun _ a w S => ?_
    refine sNot (b := r32) S (wN rfl) rfl rfl rfl (lb rfl) fun a S => ?_
    refine sMove (.bool (!r32)) S (wN rfl) (.inl rfl) rfl rfl (lb rfl) fun a S => ?_
    rcases iteSome h with ⟨hc34, h⟩ | ⟨hc34, h⟩
    · refine sSkip 4 false 33 34 S rfl rfl rfl hc34 rfl (lb rfl) fun a S => ?_
      refine sSkip 4 false 33 35 S rfl rfl rfl hc34 rfl (lb rfl) fun a S => ?_
      refine sSkip 4 false 33 36 S rfl rfl rfl hc34 rfl (lb rfl) fun a S => ?_
      refine sSkip 4 false 33 37 S rfl rfl rfl hc34 rfl (lb rfl) fun a S => ?_
      refine sSkip 4 false 33 38 S rfl rfl rfl hc34 rfl (lb rfl) fun a S => ?_
      refine sPickT (.bool true) S (wN rfl) rfl rfl hc34 rfl rfl (lb rfl) fun a S => ?_
      refine sMove (.bool true) S (wN rfl) (.inl rfl) rfl rfl (lb rfl) fun a S => ?_
      refine sSkip 11 false 40 41 S rfl rfl rfl rfl rfl (lb rfl) fun a S => ?_
      refine sSkip 11 false 40 42 S rfl rfl rfl rfl rfl (lb rfl) fun a S => ?_
      refine sSkip 11 false 40 43 S rfl rfl rfl rfl rfl (lb rfl) fun a S => ?_
      refine sSkip 11 false 40 44 S rfl rfl rfl rfl rfl (lb rfl) fun a S => ?_
      refine sSkip 11 false 40 45 S rfl rfl rfl rfl rfl (lb rfl) fun a S => ?_
      refine sPickT (.bool true) S (wN rfl) rfl rfl rfl rfl rfl (lb rfl) fun a S => ?_
      exact leafL (leafT (⟨true, Option.some.inj h, S.fix [4, 3, 2, 1] [2, 1, 0] (by decide) rfl rfl rfl⟩))
    refine sField (b := b14) (off := 0) 0 0 S (wG 4 false 33 rfl rfl rfl hc34) rfl rfl rfl rfl rfl (lb rfl) fun a S => ?_
    refine sLoad1 (p := b14) (off := 0) (T := 24) (vs := [iv p0.W, iv p0.H, .slice ad3 p0.Bits.length cp4]) 4 (iv p0.W) S (wG 4 false 33 rfl rfl rfl hc34) rfl rfl rfl rfl rfl rfl (lb rfl) fun a S => ?_
    refine sMove (iv p1.W) S (wG 4 false 33 rfl rfl rfl hc34) (.inl rfl) rfl rfl (lb rfl) fun a S => ?_
    obtain ⟨z35, hx36, h⟩ := bindSome h
    refine sBin (iv z35) S (wG 4 false 33 rfl rfl rfl hc34) rfl rfl rfl (bRem _ _ _ _ (x := p0.W) (y := p1.W) hx36) rfl (lb rfl) fun a S => ?_
    refine sBin (.bool (z35 != 0)) S (wG 4 false 33 rfl rfl rfl hc34) rfl rfl rfl (bNe _ _ _ _ .i64 z35 0) rfl (lb rfl) fun a S => ?_
    refine sPickF (.bool (z35 != 0)) S (wN rfl) rfl rfl hc34 rfl rfl (lb rfl) fun a S => ?_
    refine sMove (.bool (z35 != 0)) S (wN rfl) (.inl rfl) rfl rfl (lb rfl) fun a S => ?_
    rcases iteSome h with ⟨hc37, h⟩ | ⟨hc37, h⟩
    · refine sSkip 11 false 40 41 S rfl rfl rfl hc37 rfl (lb rfl) fun a S => ?_
      refine sSkip 11 false 40 42 S rfl rfl rfl hc37 rfl (lb rfl) fun a S => ?_
      refine sSkip 11 false 40 43 S rfl rfl rfl hc37 rfl (lb rfl) fun a S => ?_
      refine sSkip 11 false 40 44 S rfl rfl rfl hc37 rfl (lb rfl) fun a S => ?_
      refine sSkip 11 false 40 45 S rfl rfl rfl hc37 rfl (lb rfl) fun a S => ?_
      refine sPickT (.bool true) S (wN rfl) rfl rfl hc37 rfl rfl (lb rfl) fun a S => ?_
      exact leafL (leafT (⟨true, Option.some.inj h, S.fix [4, 3, 2, 1] [2, 1, 0] (by decide) rfl rfl rfl⟩))
    refine sField (b := b14) (off := 0) 1 1 S (wG 11 false 40 rfl rfl rfl hc37) rfl rfl rfl rfl rfl (lb rfl) fun a S => ?_
    refine sLoad1 (p := b14) (off := 1) (T := 24) (vs := [iv p0.W, iv p0.H, .slice ad3 p0.Bits.length cp4]) 4 (iv p0.H) S (wG 11 false 40 rfl rfl rfl hc37) rfl rfl rfl rfl rfl rfl (lb rfl) fun a S => ?_
    refine sMove (iv p1.H) S (wG 11 false 40 rfl rfl rfl hc37) (.inl rfl) rfl rfl (lb rfl) fun a S => ?_
    obtain ⟨z38, hx39, h⟩ := bindSome h
    refine sBin (iv z38) S (wG 11 false 40 rfl rfl rfl hc37) rfl rfl rfl (bRem _ _ _ _ (x := p0.H) (y := p1.H) hx39) rfl (lb rfl) fun a S => ?_
    refine sBin (.bool (z38 != 0)) S (wG 11 false 40 rfl rfl rfl hc37) rfl rfl rfl (bNe _ _ _ _ .i64 z38 0) rfl (lb rfl) fun a S => ?_
    refine sPickF (.bool (z38 != 0)) S (wN rfl) rfl rfl hc37 rfl rfl (lb rfl) fun a S => ?_
    exact leafL (leafT (⟨z38 != 0, Option.some.inj h, S.fix [4, 3, 2, 1] [2, 1, 0] (by decide) rfl rfl rfl⟩))
  obtain ⟨o29, rfl, S⟩ := hI
  have h := g31
  clear g31
  try dsimp only at h
  rcases iteSome h with ⟨hc40, h⟩ | ⟨hc40, h⟩
  · refine sCondT S rfl hc40 ?_
    refine sSeq (fun K41 hK41 => ?_)
    refine sRegion ?_
    refine sBuild [] [iv 0, iv 0, .slice none 0 0] S (wN rfl) rfl rfl rfl rfl (lb rfl) fun a S => ?_
    refine sStore (p := b17) (off := 0) (T := 24) (vs := [iv 0, iv 0, .slice none 0 0]) (v := .agg #[iv 0, iv 0, .slice none 0 0]) 3 [iv 0, iv 0, .slice none 0 0] S (wN rfl) rfl rfl rfl rfl rfl rfl rfl (by simp) rfl fun a w S => ?_
    refine sMove (iv 26) S (wN rfl) (.inr rfl) rfl rfl (lb rfl) fun a S => ?_
    refine leafL (leafT (hK41 _ _ ?_))
    obtain rfl := Option.some.inj h
    have S := S.learn (fRep (rL rB) (.slice none 0 0) ([] : (List Bool))) (rL_nil _ _ _)
    have S := S.learn (fRep r_api_Grid (.agg #[iv 0, iv 0, .slice none 0 0]) (api_Grid.mk 0 0 ([] : (List Bool)))) ⟨_, rfl, S.mem.know (i := 0) (e := fRep (rL rB) (.slice none 0 0) ([] : (List Bool))) rfl⟩
    exact wp_ret (rThen (sRet (.tuple #[.agg #[iv 0, iv 0, .slice none 0 0], iv 26]) S (rsl2 rfl (rvN (c := 6) (t := 24) (T := 24) (p := b17) 0 [iv 0, iv 0, .slice none 0 0] S rfl rfl rfl rfl) (rvT (t := 7) (v := iv 26) S rfl)) ⟨(.agg #[iv 0, iv 0, .slice none 0 0]), rfl, S.mem.sel [] [0] (by decide) rfl rfl⟩))
  refine sCondF S rfl hc40 ?_
  refine wp_skip (leafT (hK28 _ _ ?_))
  refine sSeq (fun K42 hK42 => ?_)
  refine sSeq (fun K43 hK43 => ?_)
  refine sRegion ?_
  refine sLoadN (p := b15) (off := 0) (T := 24) (vs := [iv p1.W, iv p1.H, .slice ad7 p1.Bits.length cp8]) 1 [iv p1.W, iv p1.H, .slice ad7 p1.Bits.length cp8] S (wN rfl) rfl rfl rfl rfl rfl rfl rfl (lb rfl) fun a S => ?_
  refine sLoadN (p := b16) (off := 0) (T := 24) (vs := [iv p2.W, iv p2.H, .slice ad11 p2.Bits.length cp12]) 2 [iv p2.W, iv p2.H, .slice ad11 p2.Bits.length cp12] S (wN rfl) rfl rfl rfl rfl rfl rfl rfl (lb rfl) fun a S => ?_
  obtain ⟨r44, hx45, h⟩ := bindSome h
  have S1 := S.mem
  have S1 := S1.learn (fRep r_api_Grid (.agg #[iv p1.W, iv p1.H, .slice ad7 p1.Bits.length cp8]) p1) ⟨_, rfl, S1.know (i := 1) (e := fRep (rL rB) (.slice ad7 p1.Bits.length cp8) p1.Bits) rfl⟩
  have S1 := S1.learn (fRep r_api_Grid (.agg #[iv p2.W, iv p2.H, .slice ad11 p2.Bits.length cp12]) p2) ⟨_, rfl, S1.know (i := 3) (e := fRep (rL rB) (.slice ad11 p2.Bits.length cp12) p2.Bits) rfl⟩
  refine sCallQ (X := Unit) (f := 48) (vs := [.agg #[iv p1.W, iv p1.H, .slice ad7 p1.Bits.length cp8], .agg #[iv p2.W, iv p2.H, .slice ad11 p2.Bits.length cp12]]) (val := fun _ => .bool r44) S (wN rfl) rfl callee48 rfl (S1.quiet [1, 0] rfl) (fun E1 w1 S1 => c_grid_Same E1 w1 p1 (.agg #[iv p1.W, iv p1.H, .slice ad7 p1.Bits.length cp8]) p2 (.agg #[iv p2.W, iv p2.H, .slice ad11 p2.Bits.length cp12]) r44 hx45 S1) rfl (lb rfl) fun _ a w S => ?_
  refine leafL (leafT (hK43 _ _ ?_))
  rcases iteSome h with ⟨hc46, h⟩ | ⟨hc46, h⟩
  · refine sCondT S rfl hc46 ?_
    refine sSeq (fun K47 hK47 => ?_)
    refine sRegion ?_
    refine sBuild [] [iv 0, iv 0, .slice none 0 0] S (wN rfl) rfl rfl rfl rfl (lb rfl) fun a S => ?_
    refine sStore (p := b17) (off := 0) (T := 24) (vs := [iv 0, iv 0, .slice none 0 0]) (v := .agg #[iv 0, iv 0, .slice none 0 0]) 3 [iv 0, iv 0, .slice none 0 0] S (wN rfl) rfl rfl rfl rfl rfl rfl rfl (by simp) rfl fun a w S => ?_
    refine sMove (iv 14) S (wN rfl) (.inr rfl) rfl rfl (lb rfl) fun a S => ?_
    refine leafL (leafT (hK47 _ _ ?_))
    obtain rfl := Option.some.inj h
    have S := S.learn (fRep (rL rB) (.slice none 0 0) ([] : (List Bool))) (rL_nil _ _ _)
    have S := S.learn (fRep r_api_Grid (.agg #[iv 0, iv 0, .slice none 0 0]) (api_Grid.mk 0 0 ([] : (List Bool)))) ⟨_, rfl, S.mem.know (i := 0) (e := fRep (rL rB) (.slice none 0 0) ([] : (List Bool))) rfl⟩
    exact wp_ret (rThen (sRet (.tuple #[.agg #[iv 0, iv 0, .slice none 0 0], iv 14]) S (rsl2 rfl (rvN (c := 6) (t := 24) (T := 24) (p := b17) 0 [iv 0, iv 0, .slice none 0 0] S rfl rfl rfl rfl) (rvT (t := 7) (v := iv 14) S rfl)) ⟨(.agg #[iv 0, iv 0, .slice none 0 0]), rfl, S.mem.sel [] [0] (by decide) rfl rfl⟩))
  refine sCondF S rfl hc46 ?_
  refine wp_skip (leafT (hK42 _ _ ?_))
  refine sSeq (fun K48 hK48 => ?_)
  obtain ⟨z49, hx50, h⟩ := bindSome h
  obtain ⟨z51, hx52, h⟩ := bindSome h
  refine sDraw (nf := [9, 10]) (W := [(0, 52, .pointer (some ⟨b14, 0, none⟩)), (1, 53, iv p0.W), (2, 54, iv p1.W), (3, 55, iv z49), (4, 56, .pointer (some ⟨b14, 1, none⟩)), (5, 57, iv p0.H), (6, 58, iv p1.H), (7, 59, iv z51), (8, 60, .agg #[iv z49, iv z51, .slice none 0 0])]) rfl S ?_
  refine node_by (A := anc_block_Profile_0) (nf := [9, 10]) (Y := []) (W := [(0, 52, .pointer (some ⟨b14, 0, none⟩)), (1, 53, iv p0.W), (2, 54, iv p1.W), (3, 55, iv z49), (4, 56, .pointer (some ⟨b14, 1, none⟩)), (5, 57, iv p0.H), (6, 58, iv p1.H), (7, 59, iv z51), (8, 60, .agg #[iv z49, iv z51, .slice none 0 0])]) 11 (by kernel_rfl) (by kernel_rfl) (by kernel_rfl) (by kernel_rfl) (by kernel_rfl) [0, 1, 2, 3, 4, 5, 6, 7, 8] (by kernel_rfl) (by decide) (by decide) (aF 0 10 (by decide) ?_ (aF 1 9 (by decide) ?_ (aF 2 8 (by decide) ?_ (aF 3 7 (by decide) ?_ (aF 4 6 (by decide) ?_ (aF 5 5 (by decide) ?_ (aF 6 4 (by decide) ?_ (aF 7 3 (by decide) ?_ (aF 8 2 (by decide) ?_ (aN 9 1 (by decide) ?_ (aB 10 0 9 (by decide) (trivial)))))))))))) [] (fun q hq => by cases hq) (fun hY => absurd (hY 9 (by decide)) (by decide))
  · refine fI 52 (.pointer (some ⟨b14, 0, none⟩)) [(3, .pointer (some ⟨b14, 0, none⟩))] 0 [none] rfl rfl rfl rfl rfl rfl fun G a w S => ?_
    refine sField (b := b14) (off := 0) 0 0 S (wN rfl) rfl rfl rfl rfl rfl (lb rfl) fun a S => ?_
    exact leafL ⟨rfl, S⟩
  · refine fI 53 (iv p0.W) [(52, .pointer (some ⟨b14, 0, none⟩))] 1 [some 0] rfl rfl rfl rfl rfl rfl fun G a w S => ?_
    refine sLoad1 (p := b14) (off := 0) (T := 24) (vs := [iv p0.W, iv p0.H, .slice ad3 p0.Bits.length cp4]) 0 (iv p0.W) S (wN rfl) rfl rfl rfl rfl rfl rfl (lb rfl) fun a S => ?_
    exact leafL ⟨rfl, S⟩
  · refine fI 54 (iv p1.W) [(9, iv p1.W)] 2 [none] rfl rfl rfl rfl rfl rfl fun G a w S => ?_
    refine sMove (iv p1.W) S (wN rfl) (.inl rfl) rfl rfl (lb rfl) fun a S => ?_
    exact leafL ⟨rfl, S⟩
  · refine fI 55 (iv z49) [(53, iv p0.W), (54, iv p1.W)] 3 [some 1, some 2] rfl rfl rfl rfl rfl rfl fun G a w S => ?_
    refine sBin (iv z49) S (wN rfl) rfl rfl rfl (bQuo _ _ _ _ (x := p0.W) (y := p1.W) hx50) rfl (lb rfl) fun a S => ?_
    exact leafL ⟨rfl, S⟩
  · refine fI 56 (.pointer (some ⟨b14, 1, none⟩)) [(3, .pointer (some ⟨b14, 0, none⟩))] 4 [none] rfl rfl rfl rfl rfl rfl fun G a w S => ?_
    refine sField (b := b14) (off := 0) 1 1 S (wN rfl) rfl rfl rfl rfl rfl (lb rfl) fun a S => ?_
    exact leafL ⟨rfl, S⟩
  · refine fI 57 (iv p0.H) [(56, .pointer (some ⟨b14, 1, none⟩))] 5 [some 4] rfl rfl rfl rfl rfl rfl fun G a w S => ?_
    refine sLoad1 (p := b14) (off := 1) (T := 24) (vs := [iv p0.W, iv p0.H, .slice ad3 p0.Bits.length cp4]) 0 (iv p0.H) S (wN rfl) rfl rfl rfl rfl rfl rfl (lb rfl) fun a S => ?_
    exact leafL ⟨rfl, S⟩
  · refine fI 58 (iv p1.H) [(10, iv p1.H)] 6 [none] rfl rfl rfl rfl rfl rfl fun G a w S => ?_
    refine sMove (iv p1.H) S (wN rfl) (.inl rfl) rfl rfl (lb rfl) fun a S => ?_
    exact leafL ⟨rfl, S⟩
  · refine fI 59 (iv z51) [(57, iv p0.H), (58, iv p1.H)] 7 [some 5, some 6] rfl rfl rfl rfl rfl rfl fun G a w S => ?_
    refine sBin (iv z51) S (wN rfl) rfl rfl rfl (bQuo _ _ _ _ (x := p0.H) (y := p1.H) hx52) rfl (lb rfl) fun a S => ?_
    exact leafL ⟨rfl, S⟩
  · refine fI 60 (.agg #[iv z49, iv z51, .slice none 0 0]) [(55, iv z49), (59, iv z51)] 8 [some 3, some 7] rfl rfl rfl rfl rfl rfl fun G a w S => ?_
    refine sBuild [(0, iv z49), (1, iv z51)] [iv z49, iv z51, .slice none 0 0] S (wN rfl) rfl rfl rfl rfl (lb rfl) fun a S => ?_
    exact leafL ⟨rfl, S⟩
  refine ⟨_, [], rfl, (srcs_of [] rfl rfl rfl), fun G a w S => ?_⟩
  refine sAlloc (.agg #[iv 0, iv 0, .slice none 0 0]) S (wN rfl) rfl rfl [iv 0, iv 0, .slice none 0 0] rfl rfl (lb rfl) fun a b54 w S => ?_
  refine leafL ⟨rfl, _, _, .inl ⟨11, (.pointer (some ⟨b54, 0, none⟩)), [], rfl, S, hz_of rfl, ?_⟩⟩
  refine node_by (A := anc_block_Profile_0) (nf := [9, 10]) (Y := [9]) 11 (by kernel_rfl) (by kernel_rfl) (by kernel_rfl) (by kernel_rfl) (by kernel_rfl) [9, 0, 1, 2, 3, 4, 5, 6, 7, 8] (by kernel_rfl) (by decide) (by decide) (aF 0 10 (by decide) ?_ (aF 1 9 (by decide) ?_ (aF 2 8 (by decide) ?_ (aF 3 7 (by decide) ?_ (aF 4 6 (by decide) ?_ (aF 5 5 (by decide) ?_ (aF 6 4 (by decide) ?_ (aF 7 3 (by decide) ?_ (aF 8 2 (by decide) ?_ (aY 9 1 (by decide) (aN 10 0 (by decide) ?_ (trivial)))))))))))) [] (fun q hq => by cases hq) (fun hY => absurd (hY 10 (by decide)) (by decide))
  · refine fI 52 (.pointer (some ⟨b14, 0, none⟩)) [(3, .pointer (some ⟨b14, 0, none⟩))] 1 [none] rfl rfl rfl rfl rfl rfl fun G a w S => ?_
    refine sField (b := b14) (off := 0) 0 0 S (wN rfl) rfl rfl rfl rfl rfl (lb rfl) fun a S => ?_
    exact leafL ⟨rfl, S⟩
  · refine fI 53 (iv p0.W) [(52, .pointer (some ⟨b14, 0, none⟩))] 2 [some 1] rfl rfl rfl rfl rfl rfl fun G a w S => ?_
    refine sLoad1 (p := b14) (off := 0) (T := 24) (vs := [iv p0.W, iv p0.H, .slice ad3 p0.Bits.length cp4]) 1 (iv p0.W) S (wN rfl) rfl rfl rfl rfl rfl rfl (lb rfl) fun a S => ?_
    exact leafL ⟨rfl, S⟩
  · refine fI 54 (iv p1.W) [(9, iv p1.W)] 3 [none] rfl rfl rfl rfl rfl rfl fun G a w S => ?_
    refine sMove (iv p1.W) S (wN rfl) (.inl rfl) rfl rfl (lb rfl) fun a S => ?_
    exact leafL ⟨rfl, S⟩
  · refine fI 55 (iv z49) [(53, iv p0.W), (54, iv p1.W)] 4 [some 2, some 3] rfl rfl rfl rfl rfl rfl fun G a w S => ?_
    refine sBin (iv z49) S (wN rfl) rfl rfl rfl (bQuo _ _ _ _ (x := p0.W) (y := p1.W) hx50) rfl (lb rfl) fun a S => ?_
    exact leafL ⟨rfl, S⟩
  · refine fI 56 (.pointer (some ⟨b14, 1, none⟩)) [(3, .pointer (some ⟨b14, 0, none⟩))] 5 [none] rfl rfl rfl rfl rfl rfl fun G a w S => ?_
    refine sField (b := b14) (off := 0) 1 1 S (wN rfl) rfl rfl rfl rfl rfl (lb rfl) fun a S => ?_
    exact leafL ⟨rfl, S⟩
  · refine fI 57 (iv p0.H) [(56, .pointer (some ⟨b14, 1, none⟩))] 6 [some 5] rfl rfl rfl rfl rfl rfl fun G a w S => ?_
    refine sLoad1 (p := b14) (off := 1) (T := 24) (vs := [iv p0.W, iv p0.H, .slice ad3 p0.Bits.length cp4]) 1 (iv p0.H) S (wN rfl) rfl rfl rfl rfl rfl rfl (lb rfl) fun a S => ?_
    exact leafL ⟨rfl, S⟩
  · refine fI 58 (iv p1.H) [(10, iv p1.H)] 7 [none] rfl rfl rfl rfl rfl rfl fun G a w S => ?_
    refine sMove (iv p1.H) S (wN rfl) (.inl rfl) rfl rfl (lb rfl) fun a S => ?_
    exact leafL ⟨rfl, S⟩
  · refine fI 59 (iv z51) [(57, iv p0.H), (58, iv p1.H)] 8 [some 6, some 7] rfl rfl rfl rfl rfl rfl fun G a w S => ?_
    refine sBin (iv z51) S (wN rfl) rfl rfl rfl (bQuo _ _ _ _ (x := p0.H) (y := p1.H) hx52) rfl (lb rfl) fun a S => ?_
    exact leafL ⟨rfl, S⟩
  · refine fI 60 (.agg #[iv z49, iv z51, .slice none 0 0]) [(55, iv z49), (59, iv z51)] 9 [some 4, some 8] rfl rfl rfl rfl rfl rfl fun G a w S => ?_
    refine sBuild [(0, iv z49), (1, iv z51)] [iv z49, iv z51, .slice none 0 0] S (wN rfl) rfl rfl rfl rfl (lb rfl) fun a S => ?_
    exact leafL ⟨rfl, S⟩
  refine ⟨_, [(11, .pointer (some ⟨b54, 0, none⟩)), (60, .agg #[iv z49, iv z51, .slice none 0 0])], rfl, (srcs_of [some 0, some 9] rfl rfl rfl), fun G a w S => ?_⟩
  refine sStore (p := b54) (off := 0) (T := 24) (vs := [iv 0, iv 0, .slice none 0 0]) (v := .agg #[iv z49, iv z51, .slice none 0 0]) 0 [iv z49, iv z51, .slice none 0 0] S (wN rfl) rfl rfl rfl rfl rfl rfl rfl (by simp) rfl fun a w S => ?_
  refine leafL ⟨rfl, _, _, .inr ⟨[], rfl, S, hz_of rfl, ?_⟩⟩
  refine node_by (A := anc_block_Profile_0) (nf := [9, 10]) (Y := [10, 9]) 11 (by kernel_rfl) (by kernel_rfl) (by kernel_rfl) (by kernel_rfl) (by kernel_rfl) [9, 0, 1, 2, 3, 4, 5, 6, 7, 8] (by kernel_rfl) (by decide) (by decide) (aD 0 10 10 (by decide) (aD 1 9 10 (by decide) (aD 2 8 10 (by decide) (aD 3 7 10 (by decide) (aD 4 6 10 (by decide) (aD 5 5 10 (by decide) (aD 6 4 10 (by decide) (aD 7 3 10 (by decide) (aD 8 2 10 (by decide) (aY 9 1 (by decide) (aY 10 0 (by decide) (trivial)))))))))))) [(3, .pointer (some ⟨b14, 0, none⟩)), (4, .pointer (some ⟨b15, 0, none⟩)), (5, .pointer (some ⟨b16, 0, none⟩)), (6, .pointer (some ⟨b17, 0, none⟩)), (9, iv p1.W), (10, iv p1.H), (11, .pointer (some ⟨b54, 0, none⟩))] (fin_of [none, none, none, none, none, none, some 0] rfl (by kernel_rfl) (by kernel_rfl)) (fun _ a w S => ?_)
  refine leafT (hK48 _ _ ?_)
  obtain ⟨t58, h, g59⟩ := bindSome h
  refine sCut (fun a w => ∃ o55, .inl o55 = t58 ∧ ∃ ad56, ∃ cp57, St [] E [] w0 98 a w [(6, .pointer (some ⟨b17, 0, none⟩)), (11, .pointer (some ⟨b54, 0, none⟩))] [eBox b17 24 [iv 0, iv 0, .slice none 0 0], eBox b54 24 [iv z49, iv z51, .slice ad56 o55.length cp57], eRow rB 4 (.slice ad56 o55.length cp57) o55] []) ?_ (fun a w hI => ?_)
  rotate_left
  · obtain ⟨o55, rfl, ad56, cp57, S⟩ := hI
    have h := g59
    clear g59
    try dsimp only at h
    refine sSeq (fun K123 hK123 => ?_)
    refine sRegion ?_
    refine sLoadN (p := b54) (off := 0) (T := 24) (vs := [iv z49, iv z51, .slice ad56 o55.length cp57]) 1 [iv z49, iv z51, .slice ad56 o55.length cp57] S (wN rfl) rfl rfl rfl rfl rfl rfl rfl (lb rfl) fun a S => ?_
    refine sStore (p := b17) (off := 0) (T := 24) (vs := [iv 0, iv 0, .slice none 0 0]) (v := .agg #[iv z49, iv z51, .slice ad56 o55.length cp57]) 0 [iv z49, iv z51, .slice ad56 o55.length cp57] S (wN rfl) rfl rfl rfl rfl rfl rfl rfl (by simp) rfl fun a w S => ?_
    refine sMove (iv 0) S (wN rfl) (.inr rfl) rfl rfl (lb rfl) fun a S => ?_
    refine leafL (leafT (hK123 _ _ ?_))
    obtain rfl := Option.some.inj h
    have S := S.shutR (r := rB) (T := 4) (v := .slice ad56 o55.length cp57) (xs := o55) 2 rfl
    have S := S.learn (fRep r_api_Grid (.agg #[iv z49, iv z51, .slice ad56 o55.length cp57]) (api_Grid.mk z49 z51 o55)) ⟨_, rfl, S.mem.know (i := 0) (e := fRep (rL rB) (.slice ad56 o55.length cp57) o55) rfl⟩
    exact wp_ret (sRet (.tuple #[.agg #[iv z49, iv z51, .slice ad56 o55.length cp57], iv 0]) S (rsl2 rfl (rvN (c := 6) (t := 24) (T := 24) (p := b17) 0 [iv z49, iv z51, .slice ad56 o55.length cp57] S rfl rfl rfl rfl) (rvT (t := 7) (v := iv 0) S rfl)) ⟨(.agg #[iv z49, iv z51, .slice ad56 o55.length cp57]), rfl, S.mem.sel [] [0] (by decide) rfl rfl⟩)
  refine sSeq (fun K60 hK60 => ?_)
  refine sRegion ?_
  refine sField (b := b54) (off := 0) 1 1 S (wN rfl) rfl rfl rfl rfl rfl (lb rfl) fun a S => ?_
  refine sLoad1 (p := b54) (off := 1) (T := 24) (vs := [iv z49, iv z51, .slice none 0 0]) 0 (iv z51) S (wN rfl) rfl rfl rfl rfl rfl rfl (lb rfl) fun a S => ?_
  refine sMove (iv 0) S (wN rfl) (.inl rfl) rfl rfl (lb rfl) fun a S => ?_
  refine leafL (leafT (hK60 _ _ ?_))
  refine wp_block ?_
  have S := S.nilRow rB 4 (α := Bool)
  obtain ⟨t67, hl, g66⟩ := bindSome h
  refine sLoop hl (fun s0 a w => match s0 with | (s61, s62) => ∃ ad63, ∃ cp64, St [] E [] w0 98 a w [(3, .pointer (some ⟨b14, 0, none⟩)), (4, .pointer (some ⟨b15, 0, none⟩)), (5, .pointer (some ⟨b16, 0, none⟩)), (6, .pointer (some ⟨b17, 0, none⟩)), (9, iv p1.W), (10, iv p1.H), (11, .pointer (some ⟨b54, 0, none⟩)), (62, iv z51), (63, iv s61)] [eBox b14 24 [iv p0.W, iv p0.H, .slice ad3 p0.Bits.length cp4], eBox b15 24 [iv p1.W, iv p1.H, .slice ad7 p1.Bits.length cp8], eBox b16 24 [iv p2.W, iv p2.H, .slice ad11 p2.Bits.length cp12], eBox b17 24 [iv 0, iv 0, .slice none 0 0], eBox b54 24 [iv z49, iv z51, .slice ad63 s62.length cp64], eRow rB 4 (.slice ad63 s62.length cp64) s62] [fRep (rL rB) (.slice ad3 p0.Bits.length cp4) p0.Bits, fRep (rL rB) (.slice ad7 p1.Bits.length cp8) p1.Bits, fRep (rL rB) (.slice ad11 p2.Bits.length cp12) p2.Bits]) ⟨none, 0, S.fix [2, 3, 4, 5, 1, 0] [0, 1, 2] (by decide) rfl rfl rfl⟩ ?_
  clear hl h
  intro s0 a w c0 hI h hu65
  obtain ⟨s61, s62⟩ := s0
  unfold block_Profile_l2 at h
  dsimp only at h hI
  obtain ⟨ad63, cp64, S⟩ := hI
  refine sSeq (fun K71 hK71 => ?_)
  refine sRegion ?_
  refine sBin (.bool (decide (s61 < z51))) S (wN rfl) rfl rfl rfl (bLt _ _ _ _ .i64 s61 z51) rfl (lb rfl) fun a S => ?_
  refine leafL (leafT (hK71 _ _ ?_))
  refine sSeq (fun K72 hK72 => ?_)
  rcases iteSome h with ⟨hc73, h⟩ | ⟨hc73, h⟩
  rotate_left
  · refine sCondF S rfl hc73 ?_
    obtain rfl := Option.some.inj h
    obtain rfl := hu65 _ rfl
    have h := g66
    clear g66
    try dsimp only at h
    exact wp_exit (xThen (xThen (xHit (leafT (⟨s62, Option.some.inj h, ad63, cp64, S.fix [3, 4, 5] [] (by decide) rfl rfl rfl⟩)))))
  refine sCondT S rfl hc73 ?_
  refine wp_skip (leafT (hK72 _ _ ?_))
  obtain ⟨t77, h, g78⟩ := bindSome h
  refine sCut (fun a w => ∃ o74, .inl o74 = t77 ∧ ∃ ad75, ∃ cp76, St [] E [] w0 98 a w [(3, .pointer (some ⟨b14, 0, none⟩)), (4, .pointer (some ⟨b15, 0, none⟩)), (5, .pointer (some ⟨b16, 0, none⟩)), (6, .pointer (some ⟨b17, 0, none⟩)), (9, iv p1.W), (10, iv p1.H), (11, .pointer (some ⟨b54, 0, none⟩)), (62, iv z51), (63, iv s61)] [eBox b14 24 [iv p0.W, iv p0.H, .slice ad3 p0.Bits.length cp4], eBox b15 24 [iv p1.W, iv p1.H, .slice ad7 p1.Bits.length cp8], eBox b16 24 [iv p2.W, iv p2.H, .slice ad11 p2.Bits.length cp12], eBox b17 24 [iv 0, iv 0, .slice none 0 0], eBox b54 24 [iv z49, iv z51, .slice ad75 o74.length cp76], eRow rB 4 (.slice ad75 o74.length cp76) o74] [fRep (rL rB) (.slice ad3 p0.Bits.length cp4) p0.Bits, fRep (rL rB) (.slice ad7 p1.Bits.length cp8) p1.Bits, fRep (rL rB) (.slice ad11 p2.Bits.length cp12) p2.Bits]) ?_ (fun a w hI => ?_)
  rotate_left
  · obtain ⟨o74, rfl, ad75, cp76, S⟩ := hI
    have h := g78
    clear g78
    try dsimp only at h
    refine sRegion ?_
    refine sBin (iv (w64 (s61 + 1))) S (wN rfl) rfl rfl rfl (bAdd _ _ _ _ s61 1) rfl (lb rfl) fun a S => ?_
    refine sMove (iv (w64 (s61 + 1))) S (wN rfl) (.inl rfl) rfl rfl (lb rfl) fun a S => ?_
    exact leafL (leafT (⟨(w64 (s61 + 1), o74), (Option.some.inj h).symm, ⟨ad75, cp76, S.fix [0, 1, 2, 3, 4, 5] [0, 1, 2] (by decide) rfl rfl rfl⟩⟩))
  refine wp_block ?_
  refine sSeq (fun K79 hK79 => ?_)
  refine sRegion ?_
  refine sMove (iv s61) S (wN rfl) (.inl rfl) rfl rfl (lb rfl) fun a S => ?_
  refine sMove (iv s61) S (wN rfl) (.inr rfl) rfl rfl (lb rfl) fun a S => ?_
  refine leafL (leafT (hK79 _ _ ?_))
  refine sSeq (fun K80 hK80 => ?_)
  refine sRegion ?_
  refine sField (b := b54) (off := 0) 0 0 S (wN rfl) rfl rfl rfl rfl rfl (lb rfl) fun a S => ?_
  refine sLoad1 (p := b54) (off := 0) (T := 24) (vs := [iv z49, iv z51, .slice ad63 s62.length cp64]) 4 (iv z49) S (wN rfl) rfl rfl rfl rfl rfl rfl (lb rfl) fun a S => ?_
  refine sMove (iv 0) S (wN rfl) (.inl rfl) rfl rfl (lb rfl) fun a S => ?_
  refine leafL (leafT (hK80 _ _ ?_))
  refine wp_block ?_
  obtain ⟨t87, hl, g86⟩ := bindSome h
  refine sLoop hl (fun s0 a w => match s0 with | (s81, s82) => ∃ ad83, ∃ cp84, St [] E [] w0 98 a w [(3, .pointer (some ⟨b14, 0, none⟩)), (4, .pointer (some ⟨b15, 0, none⟩)), (5, .pointer (some ⟨b16, 0, none⟩)), (6, .pointer (some ⟨b17, 0, none⟩)), (9, iv p1.W), (10, iv p1.H), (11, .pointer (some ⟨b54, 0, none⟩)), (12, iv s61), (62, iv z51), (63, iv s61), (67, iv z49), (68, iv s81)] [eBox b14 24 [iv p0.W, iv p0.H, .slice ad3 p0.Bits.length cp4], eBox b15 24 [iv p1.W, iv p1.H, .slice ad7 p1.Bits.length cp8], eBox b16 24 [iv p2.W, iv p2.H, .slice ad11 p2.Bits.length cp12], eBox b17 24 [iv 0, iv 0, .slice none 0 0], eBox b54 24 [iv z49, iv z51, .slice ad83 s82.length cp84], eRow rB 4 (.slice ad83 s82.length cp84) s82] [fRep (rL rB) (.slice ad3 p0.Bits.length cp4) p0.Bits, fRep (rL rB) (.slice ad7 p1.Bits.length cp8) p1.Bits, fRep (rL rB) (.slice ad11 p2.Bits.length cp12) p2.Bits]) ⟨ad63, cp64, S.fix [0, 1, 2, 3, 4, 5] [0, 1, 2] (by decide) rfl rfl rfl⟩ ?_
  clear hl h
  intro s0 a w c0 hI h hu85
  obtain ⟨s81, s82⟩ := s0
  unfold block_Profile_l1 at h
  dsimp only at h hI
  obtain ⟨ad83, cp84, S⟩ := hI
  refine sSeq (fun K91 hK91 => ?_)
  refine sRegion ?_
  refine sBin (.bool (decide (s81 < z49))) S (wN rfl) rfl rfl rfl (bLt _ _ _ _ .i64 s81 z49) rfl (lb rfl) fun a S => ?_
  refine leafL (leafT (hK91 _ _ ?_))
  refine sSeq (fun K92 hK92 => ?_)
  rcases iteSome h with ⟨hc93, h⟩ | ⟨hc93, h⟩
  rotate_left
  · refine sCondF S rfl hc93 ?_
    obtain rfl := Option.some.inj h
    obtain rfl := hu85 _ rfl
    have h := g86
    clear g86
    try dsimp only at h
    exact wp_exit (xThen (xThen (xHit (leafB (leafT (⟨s82, Option.some.inj h, ad83, cp84, S.fix [0, 1, 2, 3, 4, 5] [0, 1, 2] (by decide) rfl rfl rfl⟩))))))
  refine sCondT S rfl hc93 ?_
  refine wp_skip (leafT (hK92 _ _ ?_))
  refine sSeq (fun K94 hK94 => ?_)
  refine wp_block ?_
  refine sSeq (fun K95 hK95 => ?_)
  refine sRegion ?_
  refine sMove (iv s81) S (wN rfl) (.inl rfl) rfl rfl (lb rfl) fun a S => ?_
  refine sMove (iv s81) S (wN rfl) (.inr rfl) rfl rfl (lb rfl) fun a S => ?_
  refine leafL (leafT (hK95 _ _ ?_))
  refine sSeq (fun K96 hK96 => ?_)
  refine sRegion ?_
  refine sLoadN (p := b14) (off := 0) (T := 24) (vs := [iv p0.W, iv p0.H, .slice ad3 p0.Bits.length cp4]) 0 [iv p0.W, iv p0.H, .slice ad3 p0.Bits.length cp4] S (wN rfl) rfl rfl rfl rfl rfl rfl rfl (lb rfl) fun a S => ?_
  refine sMove (iv p1.W) S (wN rfl) (.inl rfl) rfl rfl (lb rfl) fun a S => ?_
  refine sMove (iv p1.H) S (wN rfl) (.inl rfl) rfl rfl (lb rfl) fun a S => ?_
  refine sMove (iv s81) S (wN rfl) (.inl rfl) rfl rfl (lb rfl) fun a S => ?_
  refine sMove (iv s61) S (wN rfl) (.inl rfl) rfl rfl (lb rfl) fun a S => ?_
  obtain ⟨r97, hx98, h⟩ := bindSome h
  have S := S.learn (fRep r_api_Grid (.agg #[iv p0.W, iv p0.H, .slice ad3 p0.Bits.length cp4]) p0) ⟨_, rfl, S.mem.know (i := 0) (e := fRep (rL rB) (.slice ad3 p0.Bits.length cp4) p0.Bits) rfl⟩
  refine sCall (X := Value) (f := 49) (vs := [.agg #[iv p0.W, iv p0.H, .slice ad3 p0.Bits.length cp4], iv p1.W, iv p1.H, iv s81, iv s61]) (val := c_block_part_val r97) (B' := fun _ => []) (D' := c_block_part_D r97) [] [eBox b14 24 [iv p0.W, iv p0.H, .slice ad3 p0.Bits.length cp4], eBox b15 24 [iv p1.W, iv p1.H, .slice ad7 p1.Bits.length cp8], eBox b16 24 [iv p2.W, iv p2.H, .slice ad11 p2.Bits.length cp12], eBox b17 24 [iv 0, iv 0, .slice none 0 0], eBox b54 24 [iv z49, iv z51, .slice ad83 s82.length cp84], eRow rB 4 (.slice ad83 s82.length cp84) s82] [fRep r_api_Grid (.agg #[iv p0.W, iv p0.H, .slice ad3 p0.Bits.length cp4]) p0] [0, 1, 2, 3, 4, 5] [0] S (wN rfl) rfl callee49 rfl (by decide) rfl rfl (fun E1 w1 S1 => c_block_part E1 w1 p0 (.agg #[iv p0.W, iv p0.H, .slice ad3 p0.Bits.length cp4]) p1.W p1.H s81 s61 r97 hx98 S1) rfl (lb rfl) fun u99 a w S => ?_
  obtain ⟨u100, rfl, hu101⟩ := S.mem.know (i := 0) (e := fRep r_api_Grid (u99) r97) rfl
  have S := S.learn (fRep (rL rB) u100 r97.Bits) hu101
  obtain ⟨ad102, cp103, _, rfl, _⟩ := hu101
  refine sAlloc (.agg #[iv 0, iv 0, .slice none 0 0]) S (wN rfl) rfl rfl [iv 0, iv 0, .slice none 0 0] rfl rfl (lb rfl) fun a b104 w S => ?_
  refine sStore (p := b104) (off := 0) (T := 24) (vs := [iv 0, iv 0, .slice none 0 0]) (v := .agg #[iv r97.W, iv r97.H, .slice ad102 r97.Bits.length cp103]) 0 [iv r97.W, iv r97.H, .slice ad102 r97.Bits.length cp103] S (wN rfl) rfl rfl rfl rfl rfl rfl rfl (by simp) rfl fun a w S => ?_
  refine leafL (leafT (hK96 _ _ ?_))
  refine sSeq (fun K105 hK105 => ?_)
  refine sRegion ?_
  refine sLoadN (p := b104) (off := 0) (T := 24) (vs := [iv r97.W, iv r97.H, .slice ad102 r97.Bits.length cp103]) 0 [iv r97.W, iv r97.H, .slice ad102 r97.Bits.length cp103] S (wN rfl) rfl rfl rfl rfl rfl rfl rfl (lb rfl) fun a S => ?_
  refine sLoadN (p := b15) (off := 0) (T := 24) (vs := [iv p1.W, iv p1.H, .slice ad7 p1.Bits.length cp8]) 2 [iv p1.W, iv p1.H, .slice ad7 p1.Bits.length cp8] S (wN rfl) rfl rfl rfl rfl rfl rfl rfl (lb rfl) fun a S => ?_
  obtain ⟨r106, hx107, h⟩ := bindSome h
  have S1 := S.mem
  have S1 := S1.learn (fRep r_api_Grid (.agg #[iv p1.W, iv p1.H, .slice ad7 p1.Bits.length cp8]) p1) ⟨_, rfl, S1.know (i := 4) (e := fRep (rL rB) (.slice ad7 p1.Bits.length cp8) p1.Bits) rfl⟩
  refine sCallQ (X := Unit) (f := 48) (vs := [.agg #[iv r97.W, iv r97.H, .slice ad102 r97.Bits.length cp103], .agg #[iv p1.W, iv p1.H, .slice ad7 p1.Bits.length cp8]]) (val := fun _ => .bool r106) S (wN rfl) rfl callee48 rfl (S1.quiet [2, 0] rfl) (fun E1 w1 S1 => c_grid_Same E1 w1 r97 (.agg #[iv r97.W, iv r97.H, .slice ad102 r97.Bits.length cp103]) p1 (.agg #[iv p1.W, iv p1.H, .slice ad7 p1.Bits.length cp8]) r106 hx107 S1) rfl (lb rfl) fun _ a w S => ?_
  refine sMove (.bool r106) S (wN rfl) (.inr rfl) rfl rfl (lb rfl) fun a S => ?_
  refine leafL (leafT (hK105 _ _ ?_))
  refine sSeq (fun K108 hK108 => ?_)
  obtain ⟨t110, h, g111⟩ := bindSome h
  refine sCut (fun a w => ∃ o109, o109 = t110 ∧ St [] E [] w0 98 a w [(3, .pointer (some ⟨b14, 0, none⟩)), (4, .pointer (some ⟨b15, 0, none⟩)), (5, .pointer (some ⟨b16, 0, none⟩)), (6, .pointer (some ⟨b17, 0, none⟩)), (9, iv p1.W), (10, iv p1.H), (11, .pointer (some ⟨b54, 0, none⟩)), (12, iv s61), (15, .bool r106), (62, iv z51), (63, iv s61), (67, iv z49), (68, iv s81), (87, .bool o109)] [eBox b14 24 [iv p0.W, iv p0.H, .slice ad3 p0.Bits.length cp4], eBox b15 24 [iv p1.W, iv p1.H, .slice ad7 p1.Bits.length cp8], eBox b16 24 [iv p2.W, iv p2.H, .slice ad11 p2.Bits.length cp12], eBox b17 24 [iv 0, iv 0, .slice none 0 0], eBox b54 24 [iv z49, iv z51, .slice ad83 s82.length cp84], eRow rB 4 (.slice ad83 s82.length cp84) s82] [fRep (rL rB) (.slice ad3 p0.Bits.length cp4) p0.Bits, fRep (rL rB) (.slice ad7 p1.Bits.length cp8) p1.Bits, fRep (rL rB) (.slice ad11 p2.Bits.length cp12) p2.Bits]) ?_ (fun a w hI => ?_)
  · refine sRegion ?_
    refine sMove (.bool r106) S (wN rfl) (.inl rfl) rfl rfl (lb rfl) fun a S => ?_
    refine sNot (b := r106) S (wN rfl) rfl rfl rfl (lb rfl) fun a S => ?_
    refine sMove (.bool (!r106)) S (wN rfl) (.inl rfl) rfl rfl (lb rfl) fun a S => ?_
    rcases iteSome h with ⟨hc112, h⟩ | ⟨hc112, h⟩
    rotate_left
    · refine sSkip 2 true 82 83 S rfl rfl rfl hc112 rfl (lb rfl) fun a S => ?_
      refine sSkip 2 true 82 84 S rfl rfl rfl hc112 rfl (lb rfl) fun a S => ?_
      refine sSkip 2 true 82 85 S rfl rfl rfl hc112 rfl (lb rfl) fun a S => ?_
      refine sSkip 2 true 82 86 S rfl rfl rfl hc112 rfl (lb rfl) fun a S => ?_
      refine sPickF (.bool false) S (wN rfl) rfl rfl hc112 rfl rfl (lb rfl) fun a S => ?_
      exact leafL (leafT (⟨false, Option.some.inj h, S.fix [1, 2, 3, 4, 5, 6] [3, 4, 5] (by decide) rfl rfl rfl⟩))
    refine sLoadN (p := b104) (off := 0) (T := 24) (vs := [iv r97.W, iv r97.H, .slice ad102 r97.Bits.length cp103]) 0 [iv r97.W, iv r97.H, .slice ad102 r97.Bits.length cp103] S (wG 2 true 82 rfl rfl rfl hc112) rfl rfl rfl rfl rfl rfl rfl (lb rfl) fun a S => ?_
    refine sLoadN (p := b16) (off := 0) (T := 24) (vs := [iv p2.W, iv p2.H, .slice ad11 p2.Bits.length cp12]) 3 [iv p2.W, iv p2.H, .slice ad11 p2.Bits.length cp12] S (wG 2 true 82 rfl rfl rfl hc112) rfl rfl rfl rfl rfl rfl rfl (lb rfl) fun a S => ?_
    obtain ⟨r113, hx114, h⟩ := bindSome h
    have S1 := S.mem
    have S1 := S1.learn (fRep r_api_Grid (.agg #[iv p2.W, iv p2.H, .slice ad11 p2.Bits.length cp12]) p2) ⟨_, rfl, S1.know (i := 5) (e := fRep (rL rB) (.slice ad11 p2.Bits.length cp12) p2.Bits) rfl⟩
    refine sCallQ (X := Unit) (f := 48) (vs := [.agg #[iv r97.W, iv r97.H, .slice ad102 r97.Bits.length cp103], .agg #[iv p2.W, iv p2.H, .slice ad11 p2.Bits.length cp12]]) (val := fun _ => .bool r113) S (wG 2 true 82 rfl rfl rfl hc112) rfl callee48 rfl (S1.quiet [2, 0] rfl) (fun E1 w1 S1 => c_grid_Same E1 w1 r97 (.agg #[iv r97.W, iv r97.H, .slice ad102 r97.Bits.length cp103]) p2 (.agg #[iv p2.W, iv p2.H, .slice ad11 p2.Bits.length cp12]) r113 hx114 S1) rfl (lb rfl) fun _ a w S => ?_
    refine sNot (b := r113) S (wG 2 true 82 rfl rfl rfl hc112) rfl rfl rfl (lb rfl) fun a S => ?_
    refine sPickT (.bool (!r113)) S (wN rfl) rfl rfl hc112 rfl rfl (lb rfl) fun a S => ?_
    exact leafL (leafT (⟨!r113, Option.some.inj h, S.fix [1, 2, 3, 4, 5, 6] [3, 4, 5] (by decide) rfl rfl rfl⟩))
  obtain ⟨o109, rfl, S⟩ := hI
  have h := g111
  clear g111
  try dsimp only at h
  rcases iteSome h with ⟨hc115, h⟩ | ⟨hc115, h⟩
  · refine sCondT S rfl hc115 ?_
    refine sSeq (fun K116 hK116 => ?_)
    refine sRegion ?_
    refine sBuild [] [iv 0, iv 0, .slice none 0 0] S (wN rfl) rfl rfl rfl rfl (lb rfl) fun a S => ?_
    refine sStore (p := b17) (off := 0) (T := 24) (vs := [iv 0, iv 0, .slice none 0 0]) (v := .agg #[iv 0, iv 0, .slice none 0 0]) 3 [iv 0, iv 0, .slice none 0 0] S (wN rfl) rfl rfl rfl rfl rfl rfl rfl (by simp) rfl fun a w S => ?_
    refine sMove (iv 6) S (wN rfl) (.inr rfl) rfl rfl (lb rfl) fun a S => ?_
    refine leafL (leafT (hK116 _ _ ?_))
    obtain rfl := Option.some.inj h
    obtain rfl := hu85 _ rfl
    have h := g86
    clear g86
    try dsimp only at h
    obtain rfl := Option.some.inj h
    have h := g78
    clear g78
    try dsimp only at h
    obtain rfl := Option.some.inj h
    obtain rfl := hu65 _ rfl
    have h := g66
    clear g66
    try dsimp only at h
    obtain rfl := Option.some.inj h
    have h := g59
    clear g59
    try dsimp only at h
    obtain rfl := Option.some.inj h
    have S := S.learn (fRep (rL rB) (.slice none 0 0) ([] : (List Bool))) (rL_nil _ _ _)
    have S := S.learn (fRep r_api_Grid (.agg #[iv 0, iv 0, .slice none 0 0]) (api_Grid.mk 0 0 ([] : (List Bool)))) ⟨_, rfl, S.mem.know (i := 0) (e := fRep (rL rB) (.slice none 0 0) ([] : (List Bool))) rfl⟩
    exact wp_ret (rThen (rBlock (rThen (rThen (rBlock (rBlock (rThen (rThen (rBlock (rThen (sRet (.tuple #[.agg #[iv 0, iv 0, .slice none 0 0], iv 6]) S (rsl2 rfl (rvN (c := 6) (t := 24) (T := 24) (p := b17) 0 [iv 0, iv 0, .slice none 0 0] S rfl rfl rfl rfl) (rvT (t := 7) (v := iv 6) S rfl)) ⟨(.agg #[iv 0, iv 0, .slice none 0 0]), rfl, S.mem.sel [] [0] (by decide) rfl rfl⟩)))))))))))
  refine sCondF S rfl hc115 ?_
  refine wp_skip (leafT (hK108 _ _ ?_))
  refine sRegion ?_
  refine sField (b := b54) (off := 0) 2 2 S (wN rfl) rfl rfl rfl rfl rfl (lb rfl) fun a S => ?_
  refine sLoad1 (p := b54) (off := 2) (T := 24) (vs := [iv z49, iv z51, .slice ad83 s82.length cp84]) 4 (.slice ad83 s82.length cp84) S (wN rfl) rfl rfl rfl rfl rfl rfl (lb rfl) fun a S => ?_
  refine sMove (.bool r106) S (wN rfl) (.inl rfl) rfl rfl (lb rfl) fun a S => ?_
  refine sLit (r := rB) (T := 4) (xs := [r106]) [(0, .bool r106)] 1 [.bool r106] [.bool r106] (.bool false) 1 S (wN rfl) rfl rfl Try.underlying22 rfl (by decide) (by decide) (by kernel_rfl) rfl (fun E1 w1 hE => All.cons rfl (All.nil _ _ _)) rfl rfl (lb rfl) fun a w ad117 cp118 S => ?_
  obtain ⟨l119, hx120, h⟩ := bindSome h
  refine sApp (r := rB) (T := 4) (xs := s82) (ys := [r106]) (v := .slice ad83 s82.length cp84) (u := .slice ad117 [r106].length cp118) 6 (.bool false) 1 S (wN rfl) rfl Try.underlying22 rfl rfl (by decide) rfl rfl rfl (src_R (T := 4) 0 S.mem rfl) hx120 rfl (lb rfl) fun a w ad121 cp122 S => ?_
  refine sField (b := b54) (off := 0) 2 2 S (wN rfl) rfl rfl rfl rfl rfl (lb rfl) fun a S => ?_
  refine sStore (p := b54) (off := 2) (T := 24) (vs := [iv z49, iv z51, .slice ad83 s82.length cp84]) (v := .slice ad121 l119.length cp122) 6 [.slice ad121 l119.length cp122] S (wN rfl) rfl rfl rfl rfl rfl rfl rfl (by simp) rfl fun a w S => ?_
  refine leafL (leafB (leafT (hK94 _ _ ?_)))
  refine sRegion ?_
  refine sBin (iv (w64 (s81 + 1))) S (wN rfl) rfl rfl rfl (bAdd _ _ _ _ s81 1) rfl (lb rfl) fun a S => ?_
  refine sMove (iv (w64 (s81 + 1))) S (wN rfl) (.inl rfl) rfl rfl (lb rfl) fun a S => ?_
  exact leafL (leafT (⟨(w64 (s81 + 1), l119), (Option.some.inj h).symm, ⟨ad121, cp122, S.fix [3, 4, 5, 6, 0, 1] [0, 1, 2] (by decide) rfl rfl rfl⟩⟩))

end Go.Proofs.Ythfifeabomdlpaa
namespace Go.Proofs.Ythfifeabomdlpaa
open Go.RowKit
set_option linter.unusedVariables false

def anc_raddleref01_Same_0 : List (List Nat) := [[], [0], [], [0, 1, 2], [0, 1, 2, 3], [], [5], [], [5, 6, 7], [5, 6, 7, 8], [0, 1, 2, 3, 4, 5, 6, 7, 8, 9]]
noncomputable def raddleref01_Same_l1 (p0 : api_Grid) (p1 : api_Grid) : Int → Option (Int ⊕ (Bool ⊕ Unit)) := fun s0 => match s0 with
  | s23 =>
    if decide (s23 < (p0.Bits.length : Int)) then
      Option.bind (idxO p0.Bits s23) fun x32 =>
      Option.bind (idxO p1.Bits s23) fun x37 =>
      if x32 != x37 then
        some (.inr (.inl false))
      else
        some (.inl (w64 (s23 + 1)))
    else
      some (.inr (.inr ()))
noncomputable def F_raddleref01_Same (p0 : api_Grid) (p1 : api_Grid) : Option Bool :=
  Option.bind (α := Bool) (
    if p0.W != p1.W then
      some true
    else
      if p0.H != p1.H then
        some true
      else
        some ((p0.Bits.length : Int) != (p1.Bits.length : Int))) fun o13 =>
  if o13 then
    some false
  else
    Option.bind (α := Unit ⊕ Bool) (
      Option.bind (whileO (raddleref01_Same_l1 p0 p1) 0) fun z0 => match z0 with
        | .inl z =>
          some (.inr z)
        | .inr _ =>
          some (.inl ())) fun z0 => match z0 with
      | .inl _ =>
        some true
      | .inr z =>
        some z
set_option maxHeartbeats 4000000 in
set_option maxRecDepth 100000 in
theorem c_raddleref01_Same (E : Nat → Prop) (w0 : World) (p0 : api_Grid) (v0 : Value) (p1 : api_Grid) (v1 : Value) (r : Bool) (h : F_raddleref01_Same p0 p1 = some r) (S : St0 E [] w0 w0 [] [fRep r_api_Grid (v0) p0, fRep r_api_Grid (v1) p1]) :
    Calls Try.prog 17 #[v0, v1] w0 (Ret (X := Unit) E [] w0 (fun _ => .bool r) (fun _ => []) (fun _ => [])) := by
  unfold F_raddleref01_Same at h
  obtain ⟨u1, rfl, hu2⟩ := S.know (i := 0) (e := fRep r_api_Grid (v0) p0) rfl
  have S := S.learn (fRep (rL rB) u1 p0.Bits) hu2
  obtain ⟨ad3, cp4, _, rfl, _⟩ := hu2
  obtain ⟨u5, rfl, hu6⟩ := S.know (i := 2) (e := fRep r_api_Grid (v1) p1) rfl
  have S := S.learn (fRep (rL rB) u5 p1.Bits) hu6
  obtain ⟨ad7, cp8, _, rfl, _⟩ := hu6
  refine sEnter (args := [.agg #[iv p0.W, iv p0.H, .slice ad3 p0.Bits.length cp4], .agg #[iv p1.W, iv p1.H, .slice ad7 p1.Bits.length cp8]]) 45 Try.func17 rfl rfl (by simp) S (fun a S => ?_)
  refine sSeq (fun K9 hK9 => ?_)
  refine sRegion ?_
  refine sBox (v := .agg #[iv p0.W, iv p0.H, .slice ad3 p0.Bits.length cp4]) S (wN rfl) rfl rfl [iv p0.W, iv p0.H, .slice ad3 p0.Bits.length cp4] rfl rfl (lb rfl) fun a b10 w S => ?_
  refine sBox (v := .agg #[iv p1.W, iv p1.H, .slice ad7 p1.Bits.length cp8]) S (wN rfl) rfl rfl [iv p1.W, iv p1.H, .slice ad7 p1.Bits.length cp8] rfl rfl (lb rfl) fun a b11 w S => ?_
  refine sMove (.bool false) S (wN rfl) (.inr rfl) rfl rfl (lb rfl) fun a S => ?_
  refine leafL (leafT (hK9 _ _ ?_))
  refine sSeq (fun K12 hK12 => ?_)
  obtain ⟨t14, h, g15⟩ := bindSome h
  refine sCut (fun a w => ∃ o13, o13 = t14 ∧ St [] E [] w0 45 a w [(2, .pointer (some ⟨b10, 0, none⟩)), (3, .pointer (some ⟨b11, 0, none⟩)), (26, .bool o13)] [eBox b10 24 [iv p0.W, iv p0.H, .slice ad3 p0.Bits.length cp4], eBox b11 24 [iv p1.W, iv p1.H, .slice ad7 p1.Bits.length cp8]] [fRep (rL rB) (.slice ad3 p0.Bits.length cp4) p0.Bits, fRep (rL rB) (.slice ad7 p1.Bits.length cp8) p1.Bits]) ?_ (fun a w hI => ?_)
  · refine sRegion ?_
    refine sField (b := b10) (off := 0) 0 0 S (wN rfl) rfl rfl rfl rfl rfl (lb rfl) fun a S => ?_
    refine sLoad1 (p := b10) (off := 0) (T := 24) (vs := [iv p0.W, iv p0.H, .slice ad3 p0.Bits.length cp4]) 1 (iv p0.W) S (wN rfl) rfl rfl rfl rfl rfl rfl (lb rfl) fun a S => ?_
    refine sField (b := b11) (off := 0) 0 0 S (wN rfl) rfl rfl rfl rfl rfl (lb rfl) fun a S => ?_
    refine sLoad1 (p := b11) (off := 0) (T := 24) (vs := [iv p1.W, iv p1.H, .slice ad7 p1.Bits.length cp8]) 0 (iv p1.W) S (wN rfl) rfl rfl rfl rfl rfl rfl (lb rfl) fun a S => ?_
    refine sBin (.bool (p0.W != p1.W)) S (wN rfl) rfl rfl rfl (bNe _ _ _ _ .i64 p0.W p1.W) rfl (lb rfl) fun a S => ?_
    refine sMove (.bool (p0.W != p1.W)) S (wN rfl) (.inl rfl) rfl rfl (lb rfl) fun a S => ?_
    rcases iteSome h with ⟨hc16, h⟩ | ⟨hc16, h⟩
    · refine sSkip 5 false 11 12 S rfl rfl rfl hc16 rfl (lb rfl) fun a S => ?_
      refine sSkip 5 false 11 13 S rfl rfl rfl hc16 rfl (lb rfl) fun a S => ?_
      refine sSkip 5 false 11 14 S rfl rfl rfl hc16 rfl (lb rfl) fun a S => ?_
      refine sSkip 5 false 11 15 S rfl rfl rfl hc16 rfl (lb rfl) fun a S => ?_
      refine sSkip 5 false 11 16 S rfl rfl rfl hc16 rfl (lb rfl) fun a S => ?_
      refine sPickT (.bool true) S (wN rfl) rfl rfl hc16 rfl rfl (lb rfl) fun a S => ?_
      refine sMove (.bool true) S (wN rfl) (.inl rfl) rfl rfl (lb rfl) fun a S => ?_
      refine sSkip 12 false 18 19 S rfl rfl rfl rfl rfl (lb rfl) fun a S => ?_
      refine sSkip 12 false 18 20 S rfl rfl rfl rfl rfl (lb rfl) fun a S => ?_
      refine sSkip 12 false 18 21 S rfl rfl rfl rfl rfl (lb rfl) fun a S => ?_
      refine sSkip 12 false 18 22 S rfl rfl rfl rfl rfl (lb rfl) fun a S => ?_
      refine sSkip 12 false 18 23 S rfl rfl rfl rfl rfl (lb rfl) fun a S => ?_
      refine sSkip 12 false 18 24 S rfl rfl rfl rfl rfl (lb rfl) fun a S => ?_
      refine sSkip 12 false 18 25 S rfl rfl rfl rfl rfl (lb rfl) fun a S => ?_
      refine sPickT (.bool true) S (wN rfl) rfl rfl rfl rfl rfl (lb rfl) fun a S => ?_
      exact leafL (leafT (⟨true, Option.some.inj h, S.fix [1, 0] [1, 0] (by decide) rfl rfl rfl⟩))
    refine sField (b := b10) (off := 0) 1 1 S (wG 5 false 11 rfl rfl rfl hc16) rfl rfl rfl rfl rfl (lb rfl) fun a S => ?_
    refine sLoad1 (p := b10) (off := 1) (T := 24) (vs := [iv p0.W, iv p0.H, .slice ad3 p0.Bits.length cp4]) 1 (iv p0.H) S (wG 5 false 11 rfl rfl rfl hc16) rfl rfl rfl rfl rfl rfl (lb rfl) fun a S => ?_
    refine sField (b := b11) (off := 0) 1 1 S (wG 5 false 11 rfl rfl rfl hc16) rfl rfl rfl rfl rfl (lb rfl) fun a S => ?_
    refine sLoad1 (p := b11) (off := 1) (T := 24) (vs := [iv p1.W, iv p1.H, .slice ad7 p1.Bits.length cp8]) 0 (iv p1.H) S (wG 5 false 11 rfl rfl rfl hc16) rfl rfl rfl rfl rfl rfl (lb rfl) fun a S => ?_
    refine sBin (.bool (p0.H != p1.H)) S (wG 5 false 11 rfl rfl rfl hc16) rfl rfl rfl (bNe _ _ _ _ .i64 p0.H p1.H) rfl (lb rfl) fun a S => ?_
    refine sPickF (.bool (p0.H != p1.H)) S (wN rfl) rfl rfl hc16 rfl rfl (lb rfl) fun a S => ?_
    refine sMove (.bool (p0.H != p1.H)) S (wN rfl) (.inl rfl) rfl rfl (lb rfl) fun a S => ?_
    rcases iteSome h with ⟨hc17, h⟩ | ⟨hc17, h⟩
    · refine sSkip 12 false 18 19 S rfl rfl rfl hc17 rfl (lb rfl) fun a S => ?_
      refine sSkip 12 false 18 20 S rfl rfl rfl hc17 rfl (lb rfl) fun a S => ?_
      refine sSkip 12 false 18 21 S rfl rfl rfl hc17 rfl (lb rfl) fun a S => ?_
      refine sSkip 12 false 18 22 S rfl rfl rfl hc17 rfl (lb rfl) fun a S => ?_
      refine sSkip 12 false 18 23 S rfl rfl rfl hc17 rfl (lb rfl) fun a S => ?_
      refine sSkip 12 false 18 24 S rfl rfl rfl hc17 rfl (lb rfl) fun a S => ?_
      refine sSkip 12 false 18 25 S rfl rfl rfl hc17 rfl (lb rfl) fun a S => ?_
      refine sPickT (.bool true) S (wN rfl) rfl rfl hc17 rfl rfl (lb rfl) fun a S => ?_
      exact leafL (leafT (⟨true, Option.some.inj h, S.fix [1, 0] [1, 0] (by decide) rfl rfl rfl⟩))
    refine sField (b := b10) (off := 0) 2 2 S (wG 12 false 18 rfl rfl rfl hc17) rfl rfl rfl rfl rfl (lb rfl) fun a S => ?_
    refine sLoad1 (p := b10) (off := 2) (T := 24) (vs := [iv p0.W, iv p0.H, .slice ad3 p0.Bits.length cp4]) 1 (.slice ad3 p0.Bits.length cp4) S (wG 12 false 18 rfl rfl rfl hc17) rfl rfl rfl rfl rfl rfl (lb rfl) fun a S => ?_
    refine sLen (ad := ad3) (m := p0.Bits.length) (c := cp4) S (wG 12 false 18 rfl rfl rfl hc17) rfl Try.underlying22 rfl rfl (lb rfl) fun a S => ?_
    refine sField (b := b11) (off := 0) 2 2 S (wG 12 false 18 rfl rfl rfl hc17) rfl rfl rfl rfl rfl (lb rfl) fun a S => ?_
    refine sLoad1 (p := b11) (off := 2) (T := 24) (vs := [iv p1.W, iv p1.H, .slice ad7 p1.Bits.length cp8]) 0 (.slice ad7 p1.Bits.length cp8) S (wG 12 false 18 rfl rfl rfl hc17) rfl rfl rfl rfl rfl rfl (lb rfl) fun a S => ?_
    refine sLen (ad := ad7) (m := p1.Bits.length) (c := cp8) S (wG 12 false 18 rfl rfl rfl hc17) rfl Try.underlying22 rfl rfl (lb rfl) fun a S => ?_
    refine sBin (.bool ((p0.Bits.length : Int) != (p1.Bits.length : Int))) S (wG 12 false 18 rfl rfl rfl hc17) rfl rfl rfl (bNe _ _ _ _ .i64 (p0.Bits.length : Int) (p1.Bits.length : Int)) rfl (lb rfl) fun a S => ?_
    refine sPickF (.bool ((p0.Bits.length : Int) != (p1.Bits.length : Int))) S (wN rfl) rfl rfl hc17 rfl rfl (lb rfl) fun a S => ?_
    exact leafL (leafT (⟨(p0.Bits.length : Int) != (p1.Bits.length : Int), Option.some.inj h, S.fix [1, 0] [1, 0] (by decide) rfl rfl rfl⟩))
  obtain ⟨o13, rfl, S⟩ := hI
  have h := g15
  clear g15
  try dsimp only at h
  rcases iteSome h with ⟨hc18, h⟩ | ⟨hc18, h⟩
  · refine sCondT S rfl hc18 ?_
    refine sSeq (fun K19 hK19 => ?_)
    refine sRegion ?_
    refine sMove (.bool false) S (wN rfl) (.inr rfl) rfl rfl (lb rfl) fun a S => ?_
    refine leafL (leafT (hK19 _ _ ?_))
    obtain rfl := Option.some.inj h
    exact wp_ret (rThen (sRet (.bool false) S (rsl1 rfl (rvT (t := 4) (v := .bool false) S rfl)) ⟨(), rfl, S.mem.sel [] [] (by decide) rfl rfl⟩))
  refine sCondF S rfl hc18 ?_
  refine wp_skip (leafT (hK12 _ _ ?_))
  obtain ⟨t20, h, g21⟩ := bindSome h
  refine sCut (fun a w => .inl () = t20 ∧ St [] E [] w0 45 a w [] [] []) ?_ (fun a w hI => ?_)
  rotate_left
  · obtain ⟨rfl, S⟩ := hI
    have h := g21
    clear g21
    try dsimp only at h
    refine sSeq (fun K50 hK50 => ?_)
    refine sRegion ?_
    refine sMove (.bool true) S (wN rfl) (.inr rfl) rfl rfl (lb rfl) fun a S => ?_
    refine leafL (leafT (hK50 _ _ ?_))
    obtain rfl := Option.some.inj h
    exact wp_ret (sRet (.bool true) S (rsl1 rfl (rvT (t := 4) (v := .bool true) S rfl)) ⟨(), rfl, S.mem.sel [] [] (by decide) rfl rfl⟩)
  refine sSeq (fun K22 hK22 => ?_)
  refine sRegion ?_
  refine sMove (iv 0) S (wN rfl) (.inr rfl) rfl rfl (lb rfl) fun a S => ?_
  refine leafL (leafT (hK22 _ _ ?_))
  refine wp_block ?_
  obtain ⟨t26, hl, g25⟩ := bindSome h
  refine sLoop hl (fun s0 a w => match s0 with | s23 => St [] E [] w0 45 a w [(2, .pointer (some ⟨b10, 0, none⟩)), (3, .pointer (some ⟨b11, 0, none⟩)), (5, iv s23)] [eBox b10 24 [iv p0.W, iv p0.H, .slice ad3 p0.Bits.length cp4], eBox b11 24 [iv p1.W, iv p1.H, .slice ad7 p1.Bits.length cp8]] [fRep (rL rB) (.slice ad3 p0.Bits.length cp4) p0.Bits, fRep (rL rB) (.slice ad7 p1.Bits.length cp8) p1.Bits]) (S.fix [0, 1] [0, 1] (by decide) rfl rfl rfl) ?_
  clear hl h
  intro s23 a w c0 hI h hu24
  unfold raddleref01_Same_l1 at h
  dsimp only at h hI
  have S := hI
  refine sSeq (fun K27 hK27 => ?_)
  refine sSeq (fun K28 hK28 => ?_)
  refine sRegion ?_
  refine sMove (iv s23) S (wN rfl) (.inl rfl) rfl rfl (lb rfl) fun a S => ?_
  refine sField (b := b10) (off := 0) 2 2 S (wN rfl) rfl rfl rfl rfl rfl (lb rfl) fun a S => ?_
  refine sLoad1 (p := b10) (off := 2) (T := 24) (vs := [iv p0.W, iv p0.H, .slice ad3 p0.Bits.length cp4]) 0 (.slice ad3 p0.Bits.length cp4) S (wN rfl) rfl rfl rfl rfl rfl rfl (lb rfl) fun a S => ?_
  refine sLen (ad := ad3) (m := p0.Bits.length) (c := cp4) S (wN rfl) rfl Try.underlying22 rfl rfl (lb rfl) fun a S => ?_
  refine sBin (.bool (decide (s23 < (p0.Bits.length : Int)))) S (wN rfl) rfl rfl rfl (bLt _ _ _ _ .i64 s23 (p0.Bits.length : Int)) rfl (lb rfl) fun a S => ?_
  refine leafL (leafT (hK28 _ _ ?_))
  rcases iteSome h with ⟨hc29, h⟩ | ⟨hc29, h⟩
  rotate_left
  · refine sCondF S rfl hc29 ?_
    obtain rfl := Option.some.inj h
    obtain rfl := hu24 _ rfl
    have h := g25
    clear g25
    try dsimp only at h
    exact wp_exit (xThen (xThen (xHit (leafT (⟨Option.some.inj h, S.fix [] [] (by decide) rfl rfl rfl⟩)))))
  refine sCondT S rfl hc29 ?_
  refine wp_skip (leafT (hK27 _ _ ?_))
  refine sSeq (fun K30 hK30 => ?_)
  refine wp_block ?_
  refine sSeq (fun K31 hK31 => ?_)
  obtain ⟨x32, hx33, h⟩ := bindSome h
  obtain ⟨x37, hx38, h⟩ := bindSome h
  obtain ⟨q42, hq43, S⟩ := pIdx (P := Try.prog) (r := rB) (v := .slice ad3 p0.Bits.length cp4) (xs := p0.Bits) (j := s23) 22 4 0 S Try.underlying22 rfl rfl hx33
  obtain ⟨u44, S⟩ := pLoad (r := rB) (q := q42) (x := x32) 0 S rfl
  obtain rfl : u44 = .bool x32 := S.mem.know (i := 1) (e := fRep rB (u44) x32) rfl
  obtain ⟨q45, hq46, S⟩ := pIdx (P := Try.prog) (r := rB) (v := .slice ad7 p1.Bits.length cp8) (xs := p1.Bits) (j := s23) 22 4 4 S Try.underlying22 rfl rfl hx38
  obtain ⟨u47, S⟩ := pLoad (r := rB) (q := q45) (x := x37) 0 S rfl
  obtain rfl : u47 = .bool x37 := S.mem.know (i := 1) (e := fRep rB (u47) x37) rfl
  refine sDraw (nf := []) (W := [(0, 34, .pointer (some ⟨b10, 2, none⟩)), (1, 35, .slice ad3 p0.Bits.length cp4), (2, 36, iv s23), (3, 37, q42), (4, 38, .bool x32), (5, 39, .pointer (some ⟨b11, 2, none⟩)), (6, 40, .slice ad7 p1.Bits.length cp8), (7, 41, iv s23), (8, 42, q45), (9, 43, .bool x37), (10, 44, .bool (x32 != x37))]) rfl S ?_
  refine node_by (A := anc_raddleref01_Same_0) (nf := []) (Y := []) (W := [(0, 34, .pointer (some ⟨b10, 2, none⟩)), (1, 35, .slice ad3 p0.Bits.length cp4), (2, 36, iv s23), (3, 37, q42), (4, 38, .bool x32), (5, 39, .pointer (some ⟨b11, 2, none⟩)), (6, 40, .slice ad7 p1.Bits.length cp8), (7, 41, iv s23), (8, 42, q45), (9, 43, .bool x37), (10, 44, .bool (x32 != x37))]) 11 (by kernel_rfl) (by kernel_rfl) (by kernel_rfl) (by kernel_rfl) (by kernel_rfl) [0, 1, 2, 3, 4, 5, 6, 7, 8, 9, 10] (by kernel_rfl) (by decide) (by decide) (aF 0 10 (by decide) ?_ (aF 1 9 (by decide) ?_ (aF 2 8 (by decide) ?_ (aF 3 7 (by decide) ?_ (aF 4 6 (by decide) ?_ (aF 5 5 (by decide) ?_ (aF 6 4 (by decide) ?_ (aF 7 3 (by decide) ?_ (aF 8 2 (by decide) ?_ (aF 9 1 (by decide) ?_ (aF 10 0 (by decide) ?_ (trivial)))))))))))) [(2, .pointer (some ⟨b10, 0, none⟩)), (3, .pointer (some ⟨b11, 0, none⟩)), (5, iv s23), (44, .bool (x32 != x37))] (fin_of [none, none, none, some 10] rfl (by kernel_rfl) (by kernel_rfl)) (fun _ a w S => ?_)
  · refine fI 34 (.pointer (some ⟨b10, 2, none⟩)) [(2, .pointer (some ⟨b10, 0, none⟩))] 0 [none] rfl rfl rfl rfl rfl rfl fun G a w S => ?_
    refine sField (b := b10) (off := 0) 2 2 S (wN rfl) rfl rfl rfl rfl rfl (lb rfl) fun a S => ?_
    exact leafL ⟨rfl, S⟩
  · refine fI 35 (.slice ad3 p0.Bits.length cp4) [(34, .pointer (some ⟨b10, 2, none⟩))] 1 [some 0] rfl rfl rfl rfl rfl rfl fun G a w S => ?_
    refine sLoad1 (p := b10) (off := 2) (T := 24) (vs := [iv p0.W, iv p0.H, .slice ad3 p0.Bits.length cp4]) 0 (.slice ad3 p0.Bits.length cp4) S (wN rfl) rfl rfl rfl rfl rfl rfl (lb rfl) fun a S => ?_
    exact leafL ⟨rfl, S⟩
  · refine fI 36 (iv s23) [(5, iv s23)] 2 [none] rfl rfl rfl rfl rfl rfl fun G a w S => ?_
    refine sMove (iv s23) S (wN rfl) (.inl rfl) rfl rfl (lb rfl) fun a S => ?_
    exact leafL ⟨rfl, S⟩
  · refine fI 37 q42 [(35, .slice ad3 p0.Bits.length cp4), (36, iv s23)] 3 [some 1, some 2] rfl rfl rfl rfl rfl rfl fun G a w S => ?_
    refine sIdxV (v := .slice ad3 p0.Bits.length cp4) (k := .i64) (j := s23) S (wN rfl) rfl rfl rfl hq43 rfl (lb rfl) fun a S => ?_
    exact leafL ⟨rfl, S⟩
  · refine fI 38 (.bool x32) [(37, q42)] 4 [some 3] rfl rfl rfl rfl rfl rfl fun G a w S => ?_
    refine sLoadV1 (vq := q42) 3 (.bool x32) S (wN rfl) rfl rfl rfl rfl rfl (lb rfl) fun a S => ?_
    exact leafL ⟨rfl, S⟩
  · refine fI 39 (.pointer (some ⟨b11, 2, none⟩)) [(3, .pointer (some ⟨b11, 0, none⟩))] 5 [none] rfl rfl rfl rfl rfl rfl fun G a w S => ?_
    refine sField (b := b11) (off := 0) 2 2 S (wN rfl) rfl rfl rfl rfl rfl (lb rfl) fun a S => ?_
    exact leafL ⟨rfl, S⟩
  · refine fI 40 (.slice ad7 p1.Bits.length cp8) [(39, .pointer (some ⟨b11, 2, none⟩))] 6 [some 5] rfl rfl rfl rfl rfl rfl fun G a w S => ?_
    refine sLoad1 (p := b11) (off := 2) (T := 24) (vs := [iv p1.W, iv p1.H, .slice ad7 p1.Bits.length cp8]) 1 (.slice ad7 p1.Bits.length cp8) S (wN rfl) rfl rfl rfl rfl rfl rfl (lb rfl) fun a S => ?_
    exact leafL ⟨rfl, S⟩
  · refine fI 41 (iv s23) [(5, iv s23)] 7 [none] rfl rfl rfl rfl rfl rfl fun G a w S => ?_
    refine sMove (iv s23) S (wN rfl) (.inl rfl) rfl rfl (lb rfl) fun a S => ?_
    exact leafL ⟨rfl, S⟩
  · refine fI 42 q45 [(40, .slice ad7 p1.Bits.length cp8), (41, iv s23)] 8 [some 6, some 7] rfl rfl rfl rfl rfl rfl fun G a w S => ?_
    refine sIdxV (v := .slice ad7 p1.Bits.length cp8) (k := .i64) (j := s23) S (wN rfl) rfl rfl rfl hq46 rfl (lb rfl) fun a S => ?_
    exact leafL ⟨rfl, S⟩
  · refine fI 43 (.bool x37) [(42, q45)] 9 [some 8] rfl rfl rfl rfl rfl rfl fun G a w S => ?_
    refine sLoadV1 (vq := q45) 0 (.bool x37) S (wN rfl) rfl rfl rfl rfl rfl (lb rfl) fun a S => ?_
    exact leafL ⟨rfl, S⟩
  · refine fI 44 (.bool (x32 != x37)) [(38, .bool x32), (43, .bool x37)] 10 [some 4, some 9] rfl rfl rfl rfl rfl rfl fun G a w S => ?_
    refine sBin (.bool (x32 != x37)) S (wN rfl) rfl rfl rfl (bNeB _ _ _ _ Try.underlying4 x32 x37) rfl (lb rfl) fun a S => ?_
    exact leafL ⟨rfl, S⟩
  refine leafT (hK31 _ _ ?_)
  rcases iteSome h with ⟨hc48, h⟩ | ⟨hc48, h⟩
  rotate_left
  · refine sCondF S rfl hc48 ?_
    refine wp_skip (leafB (leafT (hK30 _ _ ?_)))
    refine sRegion ?_
    refine sMove (iv s23) S (wN rfl) (.inl rfl) rfl rfl (lb rfl) fun a S => ?_
    refine sBin (iv (w64 (s23 + 1))) S (wN rfl) rfl rfl rfl (bAdd _ _ _ _ s23 1) rfl (lb rfl) fun a S => ?_
    refine sMove (iv (w64 (s23 + 1))) S (wN rfl) (.inr rfl) rfl rfl (lb rfl) fun a S => ?_
    exact leafL (leafT (⟨w64 (s23 + 1), (Option.some.inj h).symm, (S.fix [0, 1] [6, 7] (by decide) rfl rfl rfl)⟩))
  refine sCondT S rfl hc48 ?_
  refine sSeq (fun K49 hK49 => ?_)
  refine sRegion ?_
  refine sMove (.bool false) S (wN rfl) (.inr rfl) rfl rfl (lb rfl) fun a S => ?_
  refine leafL (leafT (hK49 _ _ ?_))
  obtain rfl := Option.some.inj h
  obtain rfl := hu24 _ rfl
  have h := g25
  clear g25
  try dsimp only at h
  obtain rfl := Option.some.inj h
  have h := g21
  clear g21
  try dsimp only at h
  obtain rfl := Option.some.inj h
  exact wp_ret (rBlock (rThen (rThen (rBlock (rThen (sRet (.bool false) S (rsl1 rfl (rvT (t := 4) (v := .bool false) S rfl)) ⟨(), rfl, S.mem.sel [] [] (by decide) rfl rfl⟩))))))

end Go.Proofs.Ythfifeabomdlpaa
namespace Go.Proofs.Ythfifeabomdlpaa
open Go.RowKit
set_option linter.unusedVariables false

def anc_raddleref13_Part_s0_0 : List (List Nat) := [[], [], [], [], [], [], [4, 5], [], [4, 5, 6, 7], [], [], [9, 10], [], [9, 10, 11, 12], [3, 4, 5, 6, 7, 8, 9, 10, 11, 12, 13], [0, 1, 2, 3, 4, 5, 6, 7, 8, 9, 10, 11, 12, 13, 14]]
noncomputable def raddleref13_Part_s0_l1 (p1 : Int) (p0 : api_Grid) (p3 : Int) (p4 : Int) (p2 : Int) (s18 : Int) (r9 : api_Grid) : (Int × List Bool) → Option ((Int × List Bool) ⊕ List Bool) := fun s0 => match s0 with
  | (s31, s32) =>
    if decide (s31 < p1) then
      Option.bind (F_raddleref01_At p0 (w64 ((w64 (p3 * p1)) + s31)) (w64 ((w64 (p4 * p2)) + s18))) fun r41 =>
      Option.bind (F_raddleref01_Set_s0 r9.W r9.H s32 s31 s18 r41) fun r43 =>
      some (.inl (w64 (s31 + 1), r43))
    else
      some (.inr s32)
noncomputable def raddleref13_Part_s0_l2 (p2 : Int) (p1 : Int) (p0 : api_Grid) (p3 : Int) (p4 : Int) (r9 : api_Grid) : (Int × List Bool) → Option ((Int × List Bool) ⊕ List Bool) := fun s0 => match s0 with
  | (s18, s19) =>
    if decide (s18 < p2) then
      Option.bind (α := List Bool) (
        Option.bind (whileO (raddleref13_Part_s0_l1 p1 p0 p3 p4 p2 s18 r9) (0, s19)) fun e36 =>
          some e36) fun o27 =>
      some (.inl (w64 (s18 + 1), o27))
    else
      some (.inr s19)
noncomputable def F_raddleref13_Part_s0 (p0 : api_Grid) (p1 : Int) (p2 : Int) (p3 : Int) (p4 : Int) : Option api_Grid :=
  Option.bind (F_raddleref01_Zero_s0 p1 p2) fun r9 =>
  Option.bind (α := List Bool) (
    Option.bind (whileO (raddleref13_Part_s0_l2 p2 p1 p0 p3 p4 r9) (0, r9.Bits)) fun e23 =>
      some e23) fun o14 =>
  some (api_Grid.mk r9.W r9.H o14)
set_option maxHeartbeats 4000000 in
set_option maxRecDepth 100000 in
theorem c_raddleref13_Part_s0 (E : Nat → Prop) (w0 : World) (p0 : api_Grid) (v0 : Value) (p1 : Int) (p2 : Int) (p3 : Int) (p4 : Int) (r : api_Grid) (h : F_raddleref13_Part_s0 p0 p1 p2 p3 p4 = some r) (S : St0 E [] w0 w0 [] [fRep r_api_Grid (v0) p0]) :
    Calls Try.prog 50 #[v0, iv p1, iv p2, iv p3, iv p4] w0 (Ret (X := Option Addr × Nat) E [] w0 (fun x => .agg #[iv r.W, iv r.H, .slice x.1 r.Bits.length x.2]) (fun x => [eRow rB 4 (.slice x.1 r.Bits.length x.2) r.Bits]) (fun _ => [])) := by
  unfold F_raddleref13_Part_s0 at h
  obtain ⟨u1, rfl, hu2⟩ := S.know (i := 0) (e := fRep r_api_Grid (v0) p0) rfl
  have S := S.learn (fRep (rL rB) u1 p0.Bits) hu2
  obtain ⟨ad3, cp4, _, rfl, _⟩ := hu2
  refine sEnter (args := [.agg #[iv p0.W, iv p0.H, .slice ad3 p0.Bits.length cp4], iv p1, iv p2, iv p3, iv p4]) 44 Try.func50 rfl rfl (by simp) S (fun a S => ?_)
  refine sSeq (fun K5 hK5 => ?_)
  refine sRegion ?_
  refine sBox (v := .agg #[iv p0.W, iv p0.H, .slice ad3 p0.Bits.length cp4]) S (wN rfl) rfl rfl [iv p0.W, iv p0.H, .slice ad3 p0.Bits.length cp4] rfl rfl (lb rfl) fun a b6 w S => ?_
  refine sAlloc (.agg #[iv 0, iv 0, .slice none 0 0]) S (wN rfl) rfl rfl [iv 0, iv 0, .slice none 0 0] rfl rfl (lb rfl) fun a b7 w S => ?_
  refine leafL (leafT (hK5 _ _ ?_))
  refine sSeq (fun K8 hK8 => ?_)
  refine sRegion ?_
  refine sMove (iv p1) S (wN rfl) (.inl rfl) rfl rfl (lb rfl) fun a S => ?_
  refine sMove (iv p2) S (wN rfl) (.inl rfl) rfl rfl (lb rfl) fun a S => ?_
  obtain ⟨r9, hx10, h⟩ := bindSome h
  refine sCall (X := Option Addr × Nat) (f := 40) (vs := [iv p1, iv p2]) (val := fun x => .agg #[iv r9.W, iv r9.H, .slice x.1 r9.Bits.length x.2]) (B' := fun x => [eRow rB 4 (.slice x.1 r9.Bits.length x.2) r9.Bits]) (D' := fun _ => []) [] [eBox b7 24 [iv 0, iv 0, .slice none 0 0], eBox b6 24 [iv p0.W, iv p0.H, .slice ad3 p0.Bits.length cp4]] [] [0, 1] [] S (wN rfl) rfl callee40 rfl (by decide) rfl rfl (fun E1 w1 S1 => c_raddleref01_Zero_s0 E1 w1 p1 p2 r9 hx10 S1) rfl (lb rfl) fun xx a w S => ?_
  obtain ⟨ad11, cp12⟩ := xx
  dsimp only at S
  refine sAlloc (.agg #[iv 0, iv 0, .slice none 0 0]) S (wN rfl) rfl rfl [iv 0, iv 0, .slice none 0 0] rfl rfl (lb rfl) fun a b13 w S => ?_
  refine sStore (p := b13) (off := 0) (T := 24) (vs := [iv 0, iv 0, .slice none 0 0]) (v := .agg #[iv r9.W, iv r9.H, .slice ad11 r9.Bits.length cp12]) 0 [iv r9.W, iv r9.H, .slice ad11 r9.Bits.length cp12] S (wN rfl) rfl rfl rfl rfl rfl rfl rfl (by simp) rfl fun a w S => ?_
  refine leafL (leafT (hK8 _ _ ?_))
  obtain ⟨t15, h, g16⟩ := bindSome h
  refine sCut (fun a w => ∃ o14, o14 = t15 ∧ St [] E [] w0 44 a w [(10, .pointer (some ⟨b7, 0, none⟩)), (11, .pointer (some ⟨b13, 0, none⟩))] [eBox b7 24 [iv 0, iv 0, .slice none 0 0], eBox b13 24 [iv r9.W, iv r9.H, .slice ad11 o14.length cp12], eRow rB 4 (.slice ad11 o14.length cp12) o14] []) ?_ (fun a w hI => ?_)
  rotate_left
  · obtain ⟨o14, rfl, S⟩ := hI
    have h := g16
    clear g16
    try dsimp only at h
    refine sSeq (fun K46 hK46 => ?_)
    refine sRegion ?_
    refine sLoadN (p := b13) (off := 0) (T := 24) (vs := [iv r9.W, iv r9.H, .slice ad11 o14.length cp12]) 1 [iv r9.W, iv r9.H, .slice ad11 o14.length cp12] S (wN rfl) rfl rfl rfl rfl rfl rfl rfl (lb rfl) fun a S => ?_
    refine sStore (p := b7) (off := 0) (T := 24) (vs := [iv 0, iv 0, .slice none 0 0]) (v := .agg #[iv r9.W, iv r9.H, .slice ad11 o14.length cp12]) 0 [iv r9.W, iv r9.H, .slice ad11 o14.length cp12] S (wN rfl) rfl rfl rfl rfl rfl rfl rfl (by simp) rfl fun a w S => ?_
    refine leafL (leafT (hK46 _ _ ?_))
    obtain rfl := Option.some.inj h
    exact wp_ret (sRet (.agg #[iv r9.W, iv r9.H, .slice ad11 o14.length cp12]) S (rsl1 rfl (rvN (c := 10) (t := 24) (T := 24) (p := b7) 0 [iv r9.W, iv r9.H, .slice ad11 o14.length cp12] S rfl rfl rfl rfl)) ⟨(ad11, cp12), rfl, S.mem.sel [2] [] (by decide) rfl rfl⟩)
  refine sSeq (fun K17 hK17 => ?_)
  refine sRegion ?_
  refine sMove (iv 0) S (wN rfl) (.inr rfl) rfl rfl (lb rfl) fun a S => ?_
  refine leafL (leafT (hK17 _ _ ?_))
  refine wp_block ?_
  obtain ⟨t22, hl, g21⟩ := bindSome h
  refine sLoop hl (fun s0 a w => match s0 with | (s18, s19) => St [] E [] w0 44 a w [(1, iv p1), (2, iv p2), (3, iv p3), (4, iv p4), (5, .pointer (some ⟨b6, 0, none⟩)), (10, .pointer (some ⟨b7, 0, none⟩)), (11, .pointer (some ⟨b13, 0, none⟩)), (12, iv s18)] [eBox b6 24 [iv p0.W, iv p0.H, .slice ad3 p0.Bits.length cp4], eBox b7 24 [iv 0, iv 0, .slice none 0 0], eBox b13 24 [iv r9.W, iv r9.H, .slice ad11 s19.length cp12], eRow rB 4 (.slice ad11 s19.length cp12) s19] [fRep (rL rB) (.slice ad3 p0.Bits.length cp4) p0.Bits]) (S.fix [3, 2, 0, 1] [0] (by decide) rfl rfl rfl) ?_
  clear hl h
  intro s0 a w c0 hI h hu20
  obtain ⟨s18, s19⟩ := s0
  unfold raddleref13_Part_s0_l2 at h
  dsimp only at h hI
  have S := hI
  refine sSeq (fun K24 hK24 => ?_)
  refine sSeq (fun K25 hK25 => ?_)
  refine sRegion ?_
  refine sMove (iv s18) S (wN rfl) (.inl rfl) rfl rfl (lb rfl) fun a S => ?_
  refine sMove (iv p2) S (wN rfl) (.inl rfl) rfl rfl (lb rfl) fun a S => ?_
  refine sBin (.bool (decide (s18 < p2))) S (wN rfl) rfl rfl rfl (bLt _ _ _ _ .i64 s18 p2) rfl (lb rfl) fun a S => ?_
  refine leafL (leafT (hK25 _ _ ?_))
  rcases iteSome h with ⟨hc26, h⟩ | ⟨hc26, h⟩
  rotate_left
  · refine sCondF S rfl hc26 ?_
    obtain rfl := Option.some.inj h
    obtain rfl := hu20 _ rfl
    have h := g21
    clear g21
    try dsimp only at h
    exact wp_exit (xThen (xThen (xHit (leafT (⟨s19, Option.some.inj h, S.fix [1, 2, 3] [] (by decide) rfl rfl rfl⟩)))))
  refine sCondT S rfl hc26 ?_
  refine wp_skip (leafT (hK24 _ _ ?_))
  obtain ⟨t28, h, g29⟩ := bindSome h
  refine sCut (fun a w => ∃ o27, o27 = t28 ∧ St [] E [] w0 44 a w [(1, iv p1), (2, iv p2), (3, iv p3), (4, iv p4), (5, .pointer (some ⟨b6, 0, none⟩)), (10, .pointer (some ⟨b7, 0, none⟩)), (11, .pointer (some ⟨b13, 0, none⟩)), (12, iv s18)] [eBox b6 24 [iv p0.W, iv p0.H, .slice ad3 p0.Bits.length cp4], eBox b7 24 [iv 0, iv 0, .slice none 0 0], eBox b13 24 [iv r9.W, iv r9.H, .slice ad11 o27.length cp12], eRow rB 4 (.slice ad11 o27.length cp12) o27] [fRep (rL rB) (.slice ad3 p0.Bits.length cp4) p0.Bits]) ?_ (fun a w hI => ?_)
  rotate_left
  · obtain ⟨o27, rfl, S⟩ := hI
    have h := g29
    clear g29
    try dsimp only at h
    refine sRegion ?_
    refine sMove (iv s18) S (wN rfl) (.inl rfl) rfl rfl (lb rfl) fun a S => ?_
    refine sBin (iv (w64 (s18 + 1))) S (wN rfl) rfl rfl rfl (bAdd _ _ _ _ s18 1) rfl (lb rfl) fun a S => ?_
    refine sMove (iv (w64 (s18 + 1))) S (wN rfl) (.inr rfl) rfl rfl (lb rfl) fun a S => ?_
    exact leafL (leafT (⟨(w64 (s18 + 1), o27), (Option.some.inj h).symm, (S.fix [0, 1, 2, 3] [0] (by decide) rfl rfl rfl)⟩))
  refine wp_block ?_
  refine sSeq (fun K30 hK30 => ?_)
  refine sRegion ?_
  refine sMove (iv 0) S (wN rfl) (.inr rfl) rfl rfl (lb rfl) fun a S => ?_
  refine leafL (leafT (hK30 _ _ ?_))
  refine wp_block ?_
  obtain ⟨t35, hl, g34⟩ := bindSome h
  refine sLoop hl (fun s0 a w => match s0 with | (s31, s32) => St [] E [] w0 44 a w [(1, iv p1), (2, iv p2), (3, iv p3), (4, iv p4), (5, .pointer (some ⟨b6, 0, none⟩)), (10, .pointer (some ⟨b7, 0, none⟩)), (11, .pointer (some ⟨b13, 0, none⟩)), (12, iv s18), (13, iv s31)] [eBox b6 24 [iv p0.W, iv p0.H, .slice ad3 p0.Bits.length cp4], eBox b7 24 [iv 0, iv 0, .slice none 0 0], eBox b13 24 [iv r9.W, iv r9.H, .slice ad11 s32.length cp12], eRow rB 4 (.slice ad11 s32.length cp12) s32] [fRep (rL rB) (.slice ad3 p0.Bits.length cp4) p0.Bits]) (S.fix [0, 1, 2, 3] [0] (by decide) rfl rfl rfl) ?_
  clear hl h
  intro s0 a w c0 hI h hu33
  obtain ⟨s31, s32⟩ := s0
  unfold raddleref13_Part_s0_l1 at h
  dsimp only at h hI
  have S := hI
  refine sSeq (fun K37 hK37 => ?_)
  refine sSeq (fun K38 hK38 => ?_)
  refine sRegion ?_
  refine sMove (iv s31) S (wN rfl) (.inl rfl) rfl rfl (lb rfl) fun a S => ?_
  refine sMove (iv p1) S (wN rfl) (.inl rfl) rfl rfl (lb rfl) fun a S => ?_
  refine sBin (.bool (decide (s31 < p1))) S (wN rfl) rfl rfl rfl (bLt _ _ _ _ .i64 s31 p1) rfl (lb rfl) fun a S => ?_
  refine leafL (leafT (hK38 _ _ ?_))
  rcases iteSome h with ⟨hc39, h⟩ | ⟨hc39, h⟩
  rotate_left
  · refine sCondF S rfl hc39 ?_
    obtain rfl := Option.some.inj h
    obtain rfl := hu33 _ rfl
    have h := g34
    clear g34
    try dsimp only at h
    exact wp_exit (xThen (xThen (xHit (leafB (leafT (⟨s32, Option.some.inj h, S.fix [0, 1, 2, 3] [0] (by decide) rfl rfl rfl⟩))))))
  refine sCondT S rfl hc39 ?_
  refine wp_skip (leafT (hK37 _ _ ?_))
  refine sSeq (fun K40 hK40 => ?_)
  refine wp_block ?_
  obtain ⟨r41, hx42, h⟩ := bindSome h
  obtain ⟨r43, hx44, h⟩ := bindSome h
  refine sDraw (nf := [15]) (W := [(0, 27, .agg #[iv r9.W, iv r9.H, .slice ad11 s32.length cp12]), (1, 28, iv s31), (2, 29, iv s18), (3, 30, .agg #[iv p0.W, iv p0.H, .slice ad3 p0.Bits.length cp4]), (4, 31, iv p3), (5, 32, iv p1), (6, 33, iv (w64 (p3 * p1))), (7, 34, iv s31), (8, 35, iv (w64 ((w64 (p3 * p1)) + s31))), (9, 36, iv p4), (10, 37, iv p2), (11, 38, iv (w64 (p4 * p2))), (12, 39, iv s18), (13, 40, iv (w64 ((w64 (p4 * p2)) + s18))), (14, 41, .bool r41)]) rfl S ?_
  refine node_by (A := anc_raddleref13_Part_s0_0) (nf := [15]) (Y := []) (W := [(0, 27, .agg #[iv r9.W, iv r9.H, .slice ad11 s32.length cp12]), (1, 28, iv s31), (2, 29, iv s18), (3, 30, .agg #[iv p0.W, iv p0.H, .slice ad3 p0.Bits.length cp4]), (4, 31, iv p3), (5, 32, iv p1), (6, 33, iv (w64 (p3 * p1))), (7, 34, iv s31), (8, 35, iv (w64 ((w64 (p3 * p1)) + s31))), (9, 36, iv p4), (10, 37, iv p2), (11, 38, iv (w64 (p4 * p2))), (12, 39, iv s18), (13, 40, iv (w64 ((w64 (p4 * p2)) + s18))), (14, 41, .bool r41)]) 16 (by kernel_rfl) (by kernel_rfl) (by kernel_rfl) (by kernel_rfl) (by kernel_rfl) [0, 1, 2, 3, 4, 5, 6, 7, 8, 9, 10, 11, 12, 13, 14] (by kernel_rfl) (by decide) (by decide) (aF 0 15 (by decide) ?_ (aF 1 14 (by decide) ?_ (aF 2 13 (by decide) ?_ (aF 3 12 (by decide) ?_ (aF 4 11 (by decide) ?_ (aF 5 10 (by decide) ?_ (aF 6 9 (by decide) ?_ (aF 7 8 (by decide) ?_ (aF 8 7 (by decide) ?_ (aF 9 6 (by decide) ?_ (aF 10 5 (by decide) ?_ (aF 11 4 (by decide) ?_ (aF 12 3 (by decide) ?_ (aF 13 2 (by decide) ?_ (aF 14 1 (by decide) ?_ (aN 15 0 (by decide) ?_ (trivial))))))))))))))))) [] (fun q hq => by cases hq) (fun hY => absurd (hY 15 (by decide)) (by decide))
  · refine fI 27 (.agg #[iv r9.W, iv r9.H, .slice ad11 s32.length cp12]) [(11, .pointer (some ⟨b13, 0, none⟩))] 0 [none] rfl rfl rfl rfl rfl rfl fun G a w S => ?_
    refine sLoadN (p := b13) (off := 0) (T := 24) (vs := [iv r9.W, iv r9.H, .slice ad11 s32.length cp12]) 2 [iv r9.W, iv r9.H, .slice ad11 s32.length cp12] S (wN rfl) rfl rfl rfl rfl rfl rfl rfl (lb rfl) fun a S => ?_
    exact leafL ⟨rfl, S⟩
  · refine fI 28 (iv s31) [(13, iv s31)] 1 [none] rfl rfl rfl rfl rfl rfl fun G a w S => ?_
    refine sMove (iv s31) S (wN rfl) (.inl rfl) rfl rfl (lb rfl) fun a S => ?_
    exact leafL ⟨rfl, S⟩
  · refine fI 29 (iv s18) [(12, iv s18)] 2 [none] rfl rfl rfl rfl rfl rfl fun G a w S => ?_
    refine sMove (iv s18) S (wN rfl) (.inl rfl) rfl rfl (lb rfl) fun a S => ?_
    exact leafL ⟨rfl, S⟩
  · refine fI 30 (.agg #[iv p0.W, iv p0.H, .slice ad3 p0.Bits.length cp4]) [(5, .pointer (some ⟨b6, 0, none⟩))] 3 [none] rfl rfl rfl rfl rfl rfl fun G a w S => ?_
    refine sLoadN (p := b6) (off := 0) (T := 24) (vs := [iv p0.W, iv p0.H, .slice ad3 p0.Bits.length cp4]) 0 [iv p0.W, iv p0.H, .slice ad3 p0.Bits.length cp4] S (wN rfl) rfl rfl rfl rfl rfl rfl rfl (lb rfl) fun a S => ?_
    exact leafL ⟨rfl, S⟩
  · refine fI 31 (iv p3) [(3, iv p3)] 4 [none] rfl rfl rfl rfl rfl rfl fun G a w S => ?_
    refine sMove (iv p3) S (wN rfl) (.inl rfl) rfl rfl (lb rfl) fun a S => ?_
    exact leafL ⟨rfl, S⟩
  · refine fI 32 (iv p1) [(1, iv p1)] 5 [none] rfl rfl rfl rfl rfl rfl fun G a w S => ?_
    refine sMove (iv p1) S (wN rfl) (.inl rfl) rfl rfl (lb rfl) fun a S => ?_
    exact leafL ⟨rfl, S⟩
  · refine fI 33 (iv (w64 (p3 * p1))) [(31, iv p3), (32, iv p1)] 6 [some 4, some 5] rfl rfl rfl rfl rfl rfl fun G a w S => ?_
    refine sBin (iv (w64 (p3 * p1))) S (wN rfl) rfl rfl rfl (bMul _ _ _ _ p3 p1) rfl (lb rfl) fun a S => ?_
    exact leafL ⟨rfl, S⟩
  · refine fI 34 (iv s31) [(13, iv s31)] 7 [none] rfl rfl rfl rfl rfl rfl fun G a w S => ?_
    refine sMove (iv s31) S (wN rfl) (.inl rfl) rfl rfl (lb rfl) fun a S => ?_
    exact leafL ⟨rfl, S⟩
  · refine fI 35 (iv (w64 ((w64 (p3 * p1)) + s31))) [(33, iv (w64 (p3 * p1))), (34, iv s31)] 8 [some 6, some 7] rfl rfl rfl rfl rfl rfl fun G a w S => ?_
    refine sBin (iv (w64 ((w64 (p3 * p1)) + s31))) S (wN rfl) rfl rfl rfl (bAdd _ _ _ _ (w64 (p3 * p1)) s31) rfl (lb rfl) fun a S => ?_
    exact leafL ⟨rfl, S⟩
  · refine fI 36 (iv p4) [(4, iv p4)] 9 [none] rfl rfl rfl rfl rfl rfl fun G a w S => ?_
    refine sMove (iv p4) S (wN rfl) (.inl rfl) rfl rfl (lb rfl) fun a S => ?_
    exact leafL ⟨rfl, S⟩
  · refine fI 37 (iv p2) [(2, iv p2)] 10 [none] rfl rfl rfl rfl rfl rfl fun G a w S => ?_
    refine sMove (iv p2) S (wN rfl) (.inl rfl) rfl rfl (lb rfl) fun a S => ?_
    exact leafL ⟨rfl, S⟩
  · refine fI 38 (iv (w64 (p4 * p2))) [(36, iv p4), (37, iv p2)] 11 [some 9, some 10] rfl rfl rfl rfl rfl rfl fun G a w S => ?_
    refine sBin (iv (w64 (p4 * p2))) S (wN rfl) rfl rfl rfl (bMul _ _ _ _ p4 p2) rfl (lb rfl) fun a S => ?_
    exact leafL ⟨rfl, S⟩
  · refine fI 39 (iv s18) [(12, iv s18)] 12 [none] rfl rfl rfl rfl rfl rfl fun G a w S => ?_
    refine sMove (iv s18) S (wN rfl) (.inl rfl) rfl rfl (lb rfl) fun a S => ?_
    exact leafL ⟨rfl, S⟩
  · refine fI 40 (iv (w64 ((w64 (p4 * p2)) + s18))) [(38, iv (w64 (p4 * p2))), (39, iv s18)] 13 [some 11, some 12] rfl rfl rfl rfl rfl rfl fun G a w S => ?_
    refine sBin (iv (w64 ((w64 (p4 * p2)) + s18))) S (wN rfl) rfl rfl rfl (bAdd _ _ _ _ (w64 (p4 * p2)) s18) rfl (lb rfl) fun a S => ?_
    exact leafL ⟨rfl, S⟩
  · refine fI 41 (.bool r41) [(30, .agg #[iv p0.W, iv p0.H, .slice ad3 p0.Bits.length cp4]), (35, iv (w64 ((w64 (p3 * p1)) + s31))), (40, iv (w64 ((w64 (p4 * p2)) + s18)))] 14 [some 3, some 8, some 13] rfl rfl rfl rfl rfl rfl fun G a w S => ?_
    have S1 := S.mem
    have S1 := S1.learn (fRep r_api_Grid (.agg #[iv p0.W, iv p0.H, .slice ad3 p0.Bits.length cp4]) p0) ⟨_, rfl, S1.know (i := 0) (e := fRep (rL rB) (.slice ad3 p0.Bits.length cp4) p0.Bits) rfl⟩
    refine sCallQ (X := Unit) (f := 46) (vs := [.agg #[iv p0.W, iv p0.H, .slice ad3 p0.Bits.length cp4], iv (w64 ((w64 (p3 * p1)) + s31)), iv (w64 ((w64 (p4 * p2)) + s18))]) (val := fun _ => .bool r41) S (wN rfl) rfl callee46 rfl (S1.quiet [0] rfl) (fun E1 w1 S1 => c_raddleref01_At E1 w1 p0 (.agg #[iv p0.W, iv p0.H, .slice ad3 p0.Bits.length cp4]) (w64 ((w64 (p3 * p1)) + s31)) (w64 ((w64 (p4 * p2)) + s18)) r41 hx42 S1) rfl (lb rfl) fun _ a w S => ?_
    exact leafL ⟨rfl, S⟩
  refine ⟨_, [(27, .agg #[iv r9.W, iv r9.H, .slice ad11 s32.length cp12]), (28, iv s31), (29, iv s18), (41, .bool r41)], rfl, (srcs_of [some 0, some 1, some 2, some 14] rfl rfl rfl), fun G a w S => ?_⟩
  refine sCall (X := Unit) (f := 47) (vs := [.agg #[iv r9.W, iv r9.H, .slice ad11 s32.length cp12], iv s31, iv s18, .bool r41]) (val := fun _ => .tuple #[]) (B' := fun _ => [eRow rB 4 (.slice ad11 s32.length cp12) r43]) (D' := fun _ => []) [eRow rB 4 (.slice ad11 s32.length cp12) s32] [eBox b6 24 [iv p0.W, iv p0.H, .slice ad3 p0.Bits.length cp4], eBox b7 24 [iv 0, iv 0, .slice none 0 0], eBox b13 24 [iv r9.W, iv r9.H, .slice ad11 s32.length cp12]] [] [3, 0, 1, 2] [] S (wN rfl) rfl callee47 rfl (by decide) rfl rfl (fun E1 w1 S1 => c_raddleref01_Set_s0 E1 w1 r9.W r9.H s32 ad11 cp12 s31 s18 r41 r43 hx44 S1) rfl (lb rfl) fun _ a w S => ?_
  refine leafL ⟨rfl, _, _, .inl ⟨42, (.tuple #[]), [], rfl, S, hz_of rfl, ?_⟩⟩
  refine node_by (A := anc_raddleref13_Part_s0_0) (nf := [15]) (Y := [15]) 16 (by kernel_rfl) (by kernel_rfl) (by kernel_rfl) (by kernel_rfl) (by kernel_rfl) [15, 0, 1, 2, 3, 4, 5, 6, 7, 8, 9, 10, 11, 12, 13, 14] (by kernel_rfl) (by decide) (by decide) (aD 0 15 15 (by decide) (aD 1 14 15 (by decide) (aD 2 13 15 (by decide) (aD 3 12 15 (by decide) (aD 4 11 15 (by decide) (aD 5 10 15 (by decide) (aD 6 9 15 (by decide) (aD 7 8 15 (by decide) (aD 8 7 15 (by decide) (aD 9 6 15 (by decide) (aD 10 5 15 (by decide) (aD 11 4 15 (by decide) (aD 12 3 15 (by decide) (aD 13 2 15 (by decide) (aD 14 1 15 (by decide) (aY 15 0 (by decide) (trivial))))))))))))))))) [(1, iv p1), (2, iv p2), (3, iv p3), (4, iv p4), (5, .pointer (some ⟨b6, 0, none⟩)), (10, .pointer (some ⟨b7, 0, none⟩)), (11, .pointer (some ⟨b13, 0, none⟩)), (12, iv s18), (13, iv s31)] (fin_of [none, none, none, none, none, none, none, none, none] rfl (by kernel_rfl) (by kernel_rfl)) (fun _ a w S => ?_)
  have hr45 := row_v (S.mem.hold (i := 0) (e := eRow rB 4 (.slice ad11 s32.length cp12) r43) rfl)
  rw [hr45] at S
  refine leafB (leafT (hK40 _ _ ?_))
  refine sRegion ?_
  refine sMove (iv s31) S (wN rfl) (.inl rfl) rfl rfl (lb rfl) fun a S => ?_
  refine sBin (iv (w64 (s31 + 1))) S (wN rfl) rfl rfl rfl (bAdd _ _ _ _ s31 1) rfl (lb rfl) fun a S => ?_
  refine sMove (iv (w64 (s31 + 1))) S (wN rfl) (.inr rfl) rfl rfl (lb rfl) fun a S => ?_
  exact leafL (leafT (⟨(w64 (s31 + 1), r43), (Option.some.inj h).symm, (S.fix [1, 2, 3, 0] [0] (by decide) rfl rfl rfl)⟩))

end Go.Proofs.Ythfifeabomdlpaa
namespace Go.Proofs.Ythfifeabomdlpaa
open Go.RowKit
set_option linter.unusedVariables false

def anc_raddleref13_Profile_0 : List (List Nat) := [[], [0], [], [0, 1, 2], [], [4], [], [4, 5, 6], [0, 1, 2, 3, 4, 5, 6, 7], [], [0, 1, 2, 3, 4, 5, 6, 7, 8, 9]]
noncomputable def raddleref13_Profile_l1 (r49 : api_Grid) (p0 : api_Grid) (p1 : api_Grid) (s61 : Int) (p2 : api_Grid) : (Int × List Bool) → Option ((Int × List Bool) ⊕ ((api_Grid × Int) ⊕ (List Bool))) := fun s0 => match s0 with
  | (s74, s75) =>
    if decide (s74 < r49.W) then
      Option.bind (α := List Bool ⊕ (api_Grid × Int)) (
        Option.bind (F_raddleref13_Part_s0 p0 p1.W p1.H s74 s61) fun r87 =>
        Option.bind (F_raddleref01_Same r87 p1) fun r93 =>
        if r93 then
          Option.bind (F_raddleref01_Set_s0 r49.W r49.H s75 s74 s61 true) fun r96 =>
          some (.inl r96)
        else
          Option.bind (F_raddleref01_Same r87 p2) fun r100 =>
          if !r100 then
            some (.inr ((api_Grid.mk 0 0 ([] : (List Bool))), 6))
          else
            some (.inl s75)) fun z0 => match z0 with
        | .inl o83 =>
          some (.inl (w64 (s74 + 1), o83))
        | .inr z =>
          some (.inr (.inl z))
    else
      some (.inr (.inr s75))
noncomputable def raddleref13_Profile_l2 (r49 : api_Grid) (p0 : api_Grid) (p1 : api_Grid) (p2 : api_Grid) : (Int × List Bool) → Option ((Int × List Bool) ⊕ ((api_Grid × Int) ⊕ (List Bool))) := fun s0 => match s0 with
  | (s61, s62) =>
    if decide (s61 < r49.H) then
      Option.bind (α := List Bool ⊕ (api_Grid × Int)) (
        Option.bind (whileO (raddleref13_Profile_l1 r49 p0 p1 s61 p2) (0, s62)) fun z0 => match z0 with
          | .inl z =>
            some (.inr z)
          | .inr e79 =>
            some (.inl e79)) fun z0 => match z0 with
        | .inl o70 =>
          some (.inl (w64 (s61 + 1), o70))
        | .inr z =>
          some (.inr (.inl z))
    else
      some (.inr (.inr s62))
noncomputable def F_raddleref13_Profile (p0 : api_Grid) (p1 : api_Grid) (p2 : api_Grid) : Option (api_Grid × Int) :=
  Option.bind (F_raddleref13_three p0 p1 p2) fun r20 =>
  if r20 != 0 then
    some ((api_Grid.mk 0 0 ([] : (List Bool))), r20)
  else
    Option.bind (α := Bool) (
      if p1.W != p2.W then
        some true
      else
        if p1.H != p2.H then
          some true
        else
          Option.bind (remI p0.W p1.W) fun z31 =>
          if decide (0 < z31) then
            some true
          else
            Option.bind (remI p0.H p1.H) fun z34 =>
            some (decide (0 < z34))) fun o26 =>
    if o26 then
      some ((api_Grid.mk 0 0 ([] : (List Bool))), 26)
    else
      Option.bind (F_raddleref01_Same p1 p2) fun r40 =>
      if r40 then
        some ((api_Grid.mk 0 0 ([] : (List Bool))), 14)
      else
        Option.bind (quoI p0.W p1.W) fun z45 =>
        Option.bind (quoI p0.H p1.H) fun z47 =>
        Option.bind (F_raddleref01_Zero_s0 z45 z47) fun r49 =>
        Option.bind (α := List Bool ⊕ (api_Grid × Int)) (
          Option.bind (whileO (raddleref13_Profile_l2 r49 p0 p1 p2) (0, r49.Bits)) fun z0 => match z0 with
            | .inl z =>
              some (.inr z)
            | .inr e66 =>
              some (.inl e66)) fun z0 => match z0 with
          | .inl o57 =>
            some ((api_Grid.mk r49.W r49.H o57), 0)
          | .inr z =>
            some z
def c_raddleref13_Profile_val (r : (api_Grid × Int)) (x : Value) : Value := .tuple #[x, .int .i64 r.2]
def c_raddleref13_Profile_D (r : (api_Grid × Int)) (x : Value) : List Fact := [fRep r_api_Grid x r.1]
set_option maxHeartbeats 4000000 in
set_option maxRecDepth 100000 in
theorem c_raddleref13_Profile (E : Nat → Prop) (w0 : World) (p0 : api_Grid) (v0 : Value) (p1 : api_Grid) (v1 : Value) (p2 : api_Grid) (v2 : Value) (r : (api_Grid × Int)) (h : F_raddleref13_Profile p0 p1 p2 = some r) (S : St0 E [] w0 w0 [] [fRep r_api_Grid (v0) p0, fRep r_api_Grid (v1) p1, fRep r_api_Grid (v2) p2]) :
    Calls Try.prog 16 #[v0, v1, v2] w0 (Ret (X := Value) E [] w0 (c_raddleref13_Profile_val r) (fun _ => []) (c_raddleref13_Profile_D r)) := by
  unfold F_raddleref13_Profile at h
  obtain ⟨u1, rfl, hu2⟩ := S.know (i := 0) (e := fRep r_api_Grid (v0) p0) rfl
  have S := S.learn (fRep (rL rB) u1 p0.Bits) hu2
  obtain ⟨ad3, cp4, _, rfl, _⟩ := hu2
  obtain ⟨u5, rfl, hu6⟩ := S.know (i := 2) (e := fRep r_api_Grid (v1) p1) rfl
  have S := S.learn (fRep (rL rB) u5 p1.Bits) hu6
  obtain ⟨ad7, cp8, _, rfl, _⟩ := hu6
  obtain ⟨u9, rfl, hu10⟩ := S.know (i := 4) (e := fRep r_api_Grid (v2) p2) rfl
  have S := S.learn (fRep (rL rB) u9 p2.Bits) hu10
  obtain ⟨ad11, cp12, _, rfl, _⟩ := hu10
  refine sEnter (args := [.agg #[iv p0.W, iv p0.H, .slice ad3 p0.Bits.length cp4], .agg #[iv p1.W, iv p1.H, .slice ad7 p1.Bits.length cp8], .agg #[iv p2.W, iv p2.H, .slice ad11 p2.Bits.length cp12]]) 97 Try.func16 rfl rfl (by simp) S (fun a S => ?_)
  refine sSeq (fun K13 hK13 => ?_)
  refine sRegion ?_
  refine sBox (v := .agg #[iv p0.W, iv p0.H, .slice ad3 p0.Bits.length cp4]) S (wN rfl) rfl rfl [iv p0.W, iv p0.H, .slice ad3 p0.Bits.length cp4] rfl rfl (lb rfl) fun a b14 w S => ?_
  refine sBox (v := .agg #[iv p1.W, iv p1.H, .slice ad7 p1.Bits.length cp8]) S (wN rfl) rfl rfl [iv p1.W, iv p1.H, .slice ad7 p1.Bits.length cp8] rfl rfl (lb rfl) fun a b15 w S => ?_
  refine sBox (v := .agg #[iv p2.W, iv p2.H, .slice ad11 p2.Bits.length cp12]) S (wN rfl) rfl rfl [iv p2.W, iv p2.H, .slice ad11 p2.Bits.length cp12] rfl rfl (lb rfl) fun a b16 w S => ?_
  refine sAlloc (.agg #[iv 0, iv 0, .slice none 0 0]) S (wN rfl) rfl rfl [iv 0, iv 0, .slice none 0 0] rfl rfl (lb rfl) fun a b17 w S => ?_
  refine sMove (iv 0) S (wN rfl) (.inr rfl) rfl rfl (lb rfl) fun a S => ?_
  refine leafL (leafT (hK13 _ _ ?_))
  refine sSeq (fun K18 hK18 => ?_)
  refine sSeq (fun K19 hK19 => ?_)
  refine sRegion ?_
  refine sLoadN (p := b14) (off := 0) (T := 24) (vs := [iv p0.W, iv p0.H, .slice ad3 p0.Bits.length cp4]) 3 [iv p0.W, iv p0.H, .slice ad3 p0.Bits.length cp4] S (wN rfl) rfl rfl rfl rfl rfl rfl rfl (lb rfl) fun a S => ?_
  refine sLoadN (p := b15) (off := 0) (T := 24) (vs := [iv p1.W, iv p1.H, .slice ad7 p1.Bits.length cp8]) 2 [iv p1.W, iv p1.H, .slice ad7 p1.Bits.length cp8] S (wN rfl) rfl rfl rfl rfl rfl rfl rfl (lb rfl) fun a S => ?_
  refine sLoadN (p := b16) (off := 0) (T := 24) (vs := [iv p2.W, iv p2.H, .slice ad11 p2.Bits.length cp12]) 1 [iv p2.W, iv p2.H, .slice ad11 p2.Bits.length cp12] S (wN rfl) rfl rfl rfl rfl rfl rfl rfl (lb rfl) fun a S => ?_
  obtain ⟨r20, hx21, h⟩ := bindSome h
  have S1 := S.mem
  refine sCallQ (X := Unit) (f := 45) (vs := [.agg #[iv p0.W, iv p0.H, .slice ad3 p0.Bits.length cp4], .agg #[iv p1.W, iv p1.H, .slice ad7 p1.Bits.length cp8], .agg #[iv p2.W, iv p2.H, .slice ad11 p2.Bits.length cp12]]) (val := fun _ => iv r20) S (wN rfl) rfl callee45 rfl (S1.quiet [3, 4, 5] rfl) (fun E1 w1 S1 => c_raddleref13_three E1 w1 p0 (.agg #[iv p0.W, iv p0.H, .slice ad3 p0.Bits.length cp4]) p1 (.agg #[iv p1.W, iv p1.H, .slice ad7 p1.Bits.length cp8]) p2 (.agg #[iv p2.W, iv p2.H, .slice ad11 p2.Bits.length cp12]) r20 hx21 S1) rfl (lb rfl) fun _ a w S => ?_
  refine sBin (.bool (r20 != 0)) S (wN rfl) rfl rfl rfl (bNe _ _ _ _ .i64 r20 0) rfl (lb rfl) fun a S => ?_
  refine leafL (leafT (hK19 _ _ ?_))
  rcases iteSome h with ⟨hc22, h⟩ | ⟨hc22, h⟩
  · refine sCondT S rfl hc22 ?_
    refine sSeq (fun K23 hK23 => ?_)
    refine sRegion ?_
    refine sBuild [] [iv 0, iv 0, .slice none 0 0] S (wN rfl) rfl rfl rfl rfl (lb rfl) fun a S => ?_
    refine sLoadN (p := b14) (off := 0) (T := 24) (vs := [iv p0.W, iv p0.H, .slice ad3 p0.Bits.length cp4]) 3 [iv p0.W, iv p0.H, .slice ad3 p0.Bits.length cp4] S (wN rfl) rfl rfl rfl rfl rfl rfl rfl (lb rfl) fun a S => ?_
    refine sLoadN (p := b15) (off := 0) (T := 24) (vs := [iv p1.W, iv p1.H, .slice ad7 p1.Bits.length cp8]) 2 [iv p1.W, iv p1.H, .slice ad7 p1.Bits.length cp8] S (wN rfl) rfl rfl rfl rfl rfl rfl rfl (lb rfl) fun a S => ?_
    refine sLoadN (p := b16) (off := 0) (T := 24) (vs := [iv p2.W, iv p2.H, .slice ad11 p2.Bits.length cp12]) 1 [iv p2.W, iv p2.H, .slice ad11 p2.Bits.length cp12] S (wN rfl) rfl rfl rfl rfl rfl rfl rfl (lb rfl) fun a S => ?_
    have S1 := S.mem
    refine sCallQ (X := Unit) (f := 45) (vs := [.agg #[iv p0.W, iv p0.H, .slice ad3 p0.Bits.length cp4], .agg #[iv p1.W, iv p1.H, .slice ad7 p1.Bits.length cp8], .agg #[iv p2.W, iv p2.H, .slice ad11 p2.Bits.length cp12]]) (val := fun _ => iv r20) S (wN rfl) rfl callee45 rfl (S1.quiet [3, 4, 5] rfl) (fun E1 w1 S1 => c_raddleref13_three E1 w1 p0 (.agg #[iv p0.W, iv p0.H, .slice ad3 p0.Bits.length cp4]) p1 (.agg #[iv p1.W, iv p1.H, .slice ad7 p1.Bits.length cp8]) p2 (.agg #[iv p2.W, iv p2.H, .slice ad11 p2.Bits.length cp12]) r20 hx21 S1) rfl (lb rfl) fun _ a w S => ?_
    refine sStore (p := b17) (off := 0) (T := 24) (vs := [iv 0, iv 0, .slice none 0 0]) (v := .agg #[iv 0, iv 0, .slice none 0 0]) 0 [iv 0, iv 0, .slice none 0 0] S (wN rfl) rfl rfl rfl rfl rfl rfl rfl (by simp) rfl fun a w S => ?_
    refine sMove (iv r20) S (wN rfl) (.inr rfl) rfl rfl (lb rfl) fun a S => ?_
    refine leafL (leafT (hK23 _ _ ?_))
    obtain rfl := Option.some.inj h
    have S := S.learn (fRep (rL rB) (.slice none 0 0) ([] : (List Bool))) (rL_nil _ _ _)
    have S := S.learn (fRep r_api_Grid (.agg #[iv 0, iv 0, .slice none 0 0]) (api_Grid.mk 0 0 ([] : (List Bool)))) ⟨_, rfl, S.mem.know (i := 0) (e := fRep (rL rB) (.slice none 0 0) ([] : (List Bool))) rfl⟩
    exact wp_ret (rThen (sRet (.tuple #[.agg #[iv 0, iv 0, .slice none 0 0], iv r20]) S (rsl2 rfl (rvN (c := 6) (t := 24) (T := 24) (p := b17) 0 [iv 0, iv 0, .slice none 0 0] S rfl rfl rfl rfl) (rvT (t := 7) (v := iv r20) S rfl)) ⟨(.agg #[iv 0, iv 0, .slice none 0 0]), rfl, S.mem.sel [] [0] (by decide) rfl rfl⟩))
  refine sCondF S rfl hc22 ?_
  refine wp_skip (leafT (hK18 _ _ ?_))
  refine sSeq (fun K24 hK24 => ?_)
  refine sDraw (nf := []) (W := [(0, 24, .pointer (some ⟨b15, 0, none⟩)), (1, 25, iv p1.W), (2, 26, .pointer (some ⟨b15, 1, none⟩)), (3, 27, iv p1.H), (4, 8, iv p1.W), (5, 9, iv p1.H)]) rfl S ?_
  refine node_by (A := [[], [0], [], [2], [0, 1], [0, 1, 2, 3, 4]]) (nf := []) (Y := []) (W := [(0, 24, .pointer (some ⟨b15, 0, none⟩)), (1, 25, iv p1.W), (2, 26, .pointer (some ⟨b15, 1, none⟩)), (3, 27, iv p1.H), (4, 8, iv p1.W), (5, 9, iv p1.H)]) 6 (by kernel_rfl) (by kernel_rfl) (by kernel_rfl) (by kernel_rfl) (by kernel_rfl) [0, 1, 2, 3, 4, 5] (by kernel_rfl) (by decide) (by decide) (aF 0 5 (by decide) ?_ (aF 1 4 (by decide) ?_ (aF 2 3 (by decide) ?_ (aF 3 2 (by decide) ?_ (aF 4 1 (by decide) ?_ (aF 5 0 (by decide) ?_ (trivial))))))) [(3, .pointer (some ⟨b14, 0, none⟩)), (4, .pointer (some ⟨b15, 0, none⟩)), (5, .pointer (some ⟨b16, 0, none⟩)), (6, .pointer (some ⟨b17, 0, none⟩)), (8, iv p1.W), (9, iv p1.H)] (fin_of [none, none, none, none, some 4, some 5] rfl (by kernel_rfl) (by kernel_rfl)) (fun _ a w S => ?_)
  · refine fI 24 (.pointer (some ⟨b15, 0, none⟩)) [(4, .pointer (some ⟨b15, 0, none⟩))] 0 [none] rfl rfl rfl rfl rfl rfl fun G a w S => ?_
    refine sField (b := b15) (off := 0) 0 0 S (wN rfl) rfl rfl rfl rfl rfl (lb rfl) fun a S => ?_
    exact leafL ⟨rfl, S⟩
  · refine fI 25 (iv p1.W) [(24, .pointer (some ⟨b15, 0, none⟩))] 1 [some 0] rfl rfl rfl rfl rfl rfl fun G a w S => ?_
    refine sLoad1 (p := b15) (off := 0) (T := 24) (vs := [iv p1.W, iv p1.H, .slice ad7 p1.Bits.length cp8]) 2 (iv p1.W) S (wN rfl) rfl rfl rfl rfl rfl rfl (lb rfl) fun a S => ?_
    exact leafL ⟨rfl, S⟩
  · refine fI 26 (.pointer (some ⟨b15, 1, none⟩)) [(4, .pointer (some ⟨b15, 0, none⟩))] 2 [none] rfl rfl rfl rfl rfl rfl fun G a w S => ?_
    refine sField (b := b15) (off := 0) 1 1 S (wN rfl) rfl rfl rfl rfl rfl (lb rfl) fun a S => ?_
    exact leafL ⟨rfl, S⟩
  · refine fI 27 (iv p1.H) [(26, .pointer (some ⟨b15, 1, none⟩))] 3 [some 2] rfl rfl rfl rfl rfl rfl fun G a w S => ?_
    refine sLoad1 (p := b15) (off := 1) (T := 24) (vs := [iv p1.W, iv p1.H, .slice ad7 p1.Bits.length cp8]) 2 (iv p1.H) S (wN rfl) rfl rfl rfl rfl rfl rfl (lb rfl) fun a S => ?_
    exact leafL ⟨rfl, S⟩
  · refine fI 8 (iv p1.W) [(25, iv p1.W)] 4 [some 1] rfl rfl rfl rfl rfl rfl fun G a w S => ?_
    refine sMove (iv p1.W) S (wN rfl) (.inr rfl) rfl rfl (lb rfl) fun a S => ?_
    exact leafL ⟨rfl, S⟩
  · refine fI 9 (iv p1.H) [(27, iv p1.H)] 5 [some 3] rfl rfl rfl rfl rfl rfl fun G a w S => ?_
    refine sMove (iv p1.H) S (wN rfl) (.inr rfl) rfl rfl (lb rfl) fun a S => ?_
    exact leafL ⟨rfl, S⟩
  refine leafT (hK24 _ _ ?_)
  refine sSeq (fun K25 hK25 => ?_)
  obtain ⟨t27, h, g28⟩ := bindSome h
  refine sCut (fun a w => ∃ o26, o26 = t27 ∧ St [] E [] w0 97 a w [(3, .pointer (some ⟨b14, 0, none⟩)), (4, .pointer (some ⟨b15, 0, none⟩)), (5, .pointer (some ⟨b16, 0, none⟩)), (6, .pointer (some ⟨b17, 0, none⟩)), (8, iv p1.W), (9, iv p1.H), (51, .bool o26)] [eBox b14 24 [iv p0.W, iv p0.H, .slice ad3 p0.Bits.length cp4], eBox b15 24 [iv p1.W, iv p1.H, .slice ad7 p1.Bits.length cp8], eBox b16 24 [iv p2.W, iv p2.H, .slice ad11 p2.Bits.length cp12], eBox b17 24 [iv 0, iv 0, .slice none 0 0]] [fRep (rL rB) (.slice ad3 p0.Bits.length cp4) p0.Bits, fRep (rL rB) (.slice ad7 p1.Bits.length cp8) p1.Bits, fRep (rL rB) (.slice ad11 p2.Bits.length cp12) p2.Bits]) ?_ (fun a w hI => ?_)
  · refine sRegion ?_
    refine sMove (iv p1.W) S (wN rfl) (.inl rfl) rfl rfl (lb rfl) fun a S => ?_
    refine sField (b := b16) (off := 0) 0 0 S (wN rfl) rfl rfl rfl rfl rfl (lb rfl) fun a S => ?_
    refine sLoad1 (p := b16) (off := 0) (T := 24) (vs := [iv p2.W, iv p2.H, .slice ad11 p2.Bits.length cp12]) 1 (iv p2.W) S (wN rfl) rfl rfl rfl rfl rfl rfl (lb rfl) fun a S => ?_
    refine sBin (.bool (p1.W != p2.W)) S (wN rfl) rfl rfl rfl (bNe _ _ _ _ .i64 p1.W p2.W) rfl (lb rfl) fun a S => ?_
    refine sMove (.bool (p1.W != p2.W)) S (wN rfl) (.inl rfl) rfl rfl (lb rfl) fun a S => ?_
    rcases iteSome h with ⟨hc29, h⟩ | ⟨hc29, h⟩
    · refine sSkip 4 false 32 33 S rfl rfl rfl hc29 rfl (lb rfl) fun a S => ?_
      refine sSkip 4 false 32 34 S rfl rfl rfl hc29 rfl (lb rfl) fun a S => ?_
      refine sSkip 4 false 32 35 S rfl rfl rfl hc29 rfl (lb rfl) fun a S => ?_
      refine sSkip 4 false 32 36 S rfl rfl rfl hc29 rfl (lb rfl) fun a S => ?_
      refine sPickT (.bool true) S (wN rfl) rfl rfl hc29 rfl rfl (lb rfl) fun a S => ?_
      refine sMove (.bool true) S (wN rfl) (.inl rfl) rfl rfl (lb rfl) fun a S => ?_
      refine sSkip 10 false 38 39 S rfl rfl rfl rfl rfl (lb rfl) fun a S => ?_
      refine sSkip 10 false 38 40 S rfl rfl rfl rfl rfl (lb rfl) fun a S => ?_
      refine sSkip 10 false 38 41 S rfl rfl rfl rfl rfl (lb rfl) fun a S => ?_
      refine sSkip 10 false 38 42 S rfl rfl rfl rfl rfl (lb rfl) fun a S => ?_
      refine sSkip 10 false 38 43 S rfl rfl rfl rfl rfl (lb rfl) fun a S => ?_
      refine sPickT (.bool true) S (wN rfl) rfl rfl rfl rfl rfl (lb rfl) fun a S => ?_
      refine sMove (.bool true) S (wN rfl) (.inl rfl) rfl rfl (lb rfl) fun a S => ?_
      refine sSkip 17 false 45 46 S rfl rfl rfl rfl rfl (lb rfl) fun a S => ?_
      refine sSkip 17 false 45 47 S rfl rfl rfl rfl rfl (lb rfl) fun a S => ?_
      refine sSkip 17 false 45 48 S rfl rfl rfl rfl rfl (lb rfl) fun a S => ?_
      refine sSkip 17 false 45 49 S rfl rfl rfl rfl rfl (lb rfl) fun a S => ?_
      refine sSkip 17 false 45 50 S rfl rfl rfl rfl rfl (lb rfl) fun a S => ?_
      refine sPickT (.bool true) S (wN rfl) rfl rfl rfl rfl rfl (lb rfl) fun a S => ?_
      exact leafL (leafT (⟨true, Option.some.inj h, S.fix [3, 2, 1, 0] [2, 1, 0] (by decide) rfl rfl rfl⟩))
    refine sMove (iv p1.H) S (wG 4 false 32 rfl rfl rfl hc29) (.inl rfl) rfl rfl (lb rfl) fun a S => ?_
    refine sField (b := b16) (off := 0) 1 1 S (wG 4 false 32 rfl rfl rfl hc29) rfl rfl rfl rfl rfl (lb rfl) fun a S => ?_
    refine sLoad1 (p := b16) (off := 1) (T := 24) (vs := [iv p2.W, iv p2.H, .slice ad11 p2.Bits.length cp12]) 1 (iv p2.H) S (wG 4 false 32 rfl rfl rfl hc29) rfl rfl rfl rfl rfl rfl (lb rfl) fun a S => ?_
    refine sBin (.bool (p1.H != p2.H)) S (wG 4 false 32 rfl rfl rfl hc29) rfl rfl rfl (bNe _ _ _ _ .i64 p1.H p2.H) rfl (lb rfl) fun a S => ?_
    refine sPickF (.bool (p1.H != p2.H)) S (wN rfl) rfl rfl hc29 rfl rfl (lb rfl) fun a S => ?_
    refine sMove (.bool (p1.H != p2.H)) S (wN rfl) (.inl rfl) rfl rfl (lb rfl) fun a S => ?_
    rcases iteSome h with ⟨hc30, h⟩ | ⟨hc30, h⟩
    · refine sSkip 10 false 38 39 S rfl rfl rfl hc30 rfl (lb rfl) fun a S => ?_
      refine sSkip 10 false 38 40 S rfl rfl rfl hc30 rfl (lb rfl) fun a S => ?_
      refine sSkip 10 false 38 41 S rfl rfl rfl hc30 rfl (lb rfl) fun a S => ?_
      refine sSkip 10 false 38 42 S rfl rfl rfl hc30 rfl (lb rfl) fun a S => ?_
      refine sSkip 10 false 38 43 S rfl rfl rfl hc30 rfl (lb rfl) fun a S => ?_
      refine sPickT (.bool true) S (wN rfl) rfl rfl hc30 rfl rfl (lb rfl) fun a S => ?_
      refine sMove (.bool true) S (wN rfl) (.inl rfl) rfl rfl (lb rfl) fun a S => ?_
      refine sSkip 17 false 45 46 S rfl rfl rfl rfl rfl (lb rfl) fun a S => ?_
      refine sSkip 17 false 45 47 S rfl rfl rfl rfl rfl (lb rfl) fun a S => ?_
      refine sSkip 17 false 45 48 S rfl rfl rfl rfl rfl (lb rfl) fun a S => ?_
      refine sSkip 17 false 45 49 S rfl rfl rfl rfl rfl (lb rfl) fun a S => ?_
      refine sSkip 17 false 45 50 S rfl rfl rfl rfl rfl (lb rfl) fun a S => ?_
      refine sPickT (.bool true) S (wN rfl) rfl rfl rfl rfl rfl (lb rfl) fun a S => ?_
      exact leafL (leafT (⟨true, Option.some.inj h, S.fix [3, 2, 1, 0] [2, 1, 0] (by decide) rfl rfl rfl⟩))
    refine sField (b := b14) (off := 0) 0 0 S (wG 10 false 38 rfl rfl rfl hc30) rfl rfl rfl rfl rfl (lb rfl) fun a S => ?_
    refine sLoad1 (p := b14) (off := 0) (T := 24) (vs := [iv p0.W, iv p0.H, .slice ad3 p0.Bits.length cp4]) 3 (iv p0.W) S (wG 10 false 38 rfl rfl rfl hc30) rfl rfl rfl rfl rfl rfl (lb rfl) fun a S => ?_
    refine sMove (iv p1.W) S (wG 10 false 38 rfl rfl rfl hc30) (.inl rfl) rfl rfl (lb rfl) fun a S => ?_
    obtain ⟨z31, hx32, h⟩ := bindSome h
    refine sBin (iv z31) S (wG 10 false 38 rfl rfl rfl hc30) rfl rfl rfl (bRem _ _ _ _ (x := p0.W) (y := p1.W) hx32) rfl (lb rfl) fun a S => ?_
    refine sBin (.bool (decide (0 < z31))) S (wG 10 false 38 rfl rfl rfl hc30) rfl rfl rfl (bGt _ _ _ _ .i64 z31 0) rfl (lb rfl) fun a S => ?_
    refine sPickF (.bool (decide (0 < z31))) S (wN rfl) rfl rfl hc30 rfl rfl (lb rfl) fun a S => ?_
    refine sMove (.bool (decide (0 < z31))) S (wN rfl) (.inl rfl) rfl rfl (lb rfl) fun a S => ?_
    rcases iteSome h with ⟨hc33, h⟩ | ⟨hc33, h⟩
    · refine sSkip 17 false 45 46 S rfl rfl rfl hc33 rfl (lb rfl) fun a S => ?_
      refine sSkip 17 false 45 47 S rfl rfl rfl hc33 rfl (lb rfl) fun a S => ?_
      refine sSkip 17 false 45 48 S rfl rfl rfl hc33 rfl (lb rfl) fun a S => ?_
      refine sSkip 17 false 45 49 S rfl rfl rfl hc33 rfl (lb rfl) fun a S => ?_
      refine sSkip 17 false 45 50 S rfl rfl rfl hc33 rfl (lb rfl) fun a S => ?_
      refine sPickT (.bool true) S (wN rfl) rfl rfl hc33 rfl rfl (lb rfl) fun a S => ?_
      exact leafL (leafT (⟨true, Option.some.inj h, S.fix [3, 2, 1, 0] [2, 1, 0] (by decide) rfl rfl rfl⟩))
    refine sField (b := b14) (off := 0) 1 1 S (wG 17 false 45 rfl rfl rfl hc33) rfl rfl rfl rfl rfl (lb rfl) fun a S => ?_
    refine sLoad1 (p := b14) (off := 1) (T := 24) (vs := [iv p0.W, iv p0.H, .slice ad3 p0.Bits.length cp4]) 3 (iv p0.H) S (wG 17 false 45 rfl rfl rfl hc33) rfl rfl rfl rfl rfl rfl (lb rfl) fun a S => ?_
    refine sMove (iv p1.H) S (wG 17 false 45 rfl rfl rfl hc33) (.inl rfl) rfl rfl (lb rfl) fun a S => ?_
    obtain ⟨z34, hx35, h⟩ := bindSome h
    refine sBin (iv z34) S (wG 17 false 45 rfl rfl rfl hc33) rfl rfl rfl (bRem _ _ _ _ (x := p0.H) (y := p1.H) hx35) rfl (lb rfl) fun a S => ?_
    refine sBin (.bool (decide (0 < z34))) S (wG 17 false 45 rfl rfl rfl hc33) rfl rfl rfl (bGt _ _ _ _ .i64 z34 0) rfl (lb rfl) fun a S => ?_
    refine sPickF (.bool (decide (0 < z34))) S (wN rfl) rfl rfl hc33 rfl rfl (lb rfl) fun a S => ?_
    exact leafL (leafT (⟨decide (0 < z34), Option.some.inj h, S.fix [3, 2, 1, 0] [2, 1, 0] (by decide) rfl rfl rfl⟩))
  obtain ⟨o26, rfl, S⟩ := hI
  have h := g28
  clear g28
  try dsimp only at h
  rcases iteSome h with ⟨hc36, h⟩ | ⟨hc36, h⟩
  · refine sCondT S rfl hc36 ?_
    refine sSeq (fun K37 hK37 => ?_)
    refine sRegion ?_
    refine sBuild [] [iv 0, iv 0, .slice none 0 0] S (wN rfl) rfl rfl rfl rfl (lb rfl) fun a S => ?_
    refine sStore (p := b17) (off := 0) (T := 24) (vs := [iv 0, iv 0, .slice none 0 0]) (v := .agg #[iv 0, iv 0, .slice none 0 0]) 3 [iv 0, iv 0, .slice none 0 0] S (wN rfl) rfl rfl rfl rfl rfl rfl rfl (by simp) rfl fun a w S => ?_
    refine sMove (iv 26) S (wN rfl) (.inr rfl) rfl rfl (lb rfl) fun a S => ?_
    refine leafL (leafT (hK37 _ _ ?_))
    obtain rfl := Option.some.inj h
    have S := S.learn (fRep (rL rB) (.slice none 0 0) ([] : (List Bool))) (rL_nil _ _ _)
    have S := S.learn (fRep r_api_Grid (.agg #[iv 0, iv 0, .slice none 0 0]) (api_Grid.mk 0 0 ([] : (List Bool)))) ⟨_, rfl, S.mem.know (i := 0) (e := fRep (rL rB) (.slice none 0 0) ([] : (List Bool))) rfl⟩
    exact wp_ret (rThen (sRet (.tuple #[.agg #[iv 0, iv 0, .slice none 0 0], iv 26]) S (rsl2 rfl (rvN (c := 6) (t := 24) (T := 24) (p := b17) 0 [iv 0, iv 0, .slice none 0 0] S rfl rfl rfl rfl) (rvT (t := 7) (v := iv 26) S rfl)) ⟨(.agg #[iv 0, iv 0, .slice none 0 0]), rfl, S.mem.sel [] [0] (by decide) rfl rfl⟩))
  refine sCondF S rfl hc36 ?_
  refine wp_skip (leafT (hK25 _ _ ?_))
  refine sSeq (fun K38 hK38 => ?_)
  refine sSeq (fun K39 hK39 => ?_)
  refine sRegion ?_
  refine sLoadN (p := b15) (off := 0) (T := 24) (vs := [iv p1.W, iv p1.H, .slice ad7 p1.Bits.length cp8]) 1 [iv p1.W, iv p1.H, .slice ad7 p1.Bits.length cp8] S (wN rfl) rfl rfl rfl rfl rfl rfl rfl (lb rfl) fun a S => ?_
  refine sLoadN (p := b16) (off := 0) (T := 24) (vs := [iv p2.W, iv p2.H, .slice ad11 p2.Bits.length cp12]) 2 [iv p2.W, iv p2.H, .slice ad11 p2.Bits.length cp12] S (wN rfl) rfl rfl rfl rfl rfl rfl rfl (lb rfl) fun a S => ?_
  obtain ⟨r40, hx41, h⟩ := bindSome h
  have S1 := S.mem
  have S1 := S1.learn (fRep r_api_Grid (.agg #[iv p1.W, iv p1.H, .slice ad7 p1.Bits.length cp8]) p1) ⟨_, rfl, S1.know (i := 1) (e := fRep (rL rB) (.slice ad7 p1.Bits.length cp8) p1.Bits) rfl⟩
  have S1 := S1.learn (fRep r_api_Grid (.agg #[iv p2.W, iv p2.H, .slice ad11 p2.Bits.length cp12]) p2) ⟨_, rfl, S1.know (i := 3) (e := fRep (rL rB) (.slice ad11 p2.Bits.length cp12) p2.Bits) rfl⟩
  refine sCallQ (X := Unit) (f := 17) (vs := [.agg #[iv p1.W, iv p1.H, .slice ad7 p1.Bits.length cp8], .agg #[iv p2.W, iv p2.H, .slice ad11 p2.Bits.length cp12]]) (val := fun _ => .bool r40) S (wN rfl) rfl callee17 rfl (S1.quiet [1, 0] rfl) (fun E1 w1 S1 => c_raddleref01_Same E1 w1 p1 (.agg #[iv p1.W, iv p1.H, .slice ad7 p1.Bits.length cp8]) p2 (.agg #[iv p2.W, iv p2.H, .slice ad11 p2.Bits.length cp12]) r40 hx41 S1) rfl (lb rfl) fun _ a w S => ?_
  refine leafL (leafT (hK39 _ _ ?_))
  rcases iteSome h with ⟨hc42, h⟩ | ⟨hc42, h⟩
  · refine sCondT S rfl hc42 ?_
    refine sSeq (fun K43 hK43 => ?_)
    refine sRegion ?_
    refine sBuild [] [iv 0, iv 0, .slice none 0 0] S (wN rfl) rfl rfl rfl rfl (lb rfl) fun a S => ?_
    refine sStore (p := b17) (off := 0) (T := 24) (vs := [iv 0, iv 0, .slice none 0 0]) (v := .agg #[iv 0, iv 0, .slice none 0 0]) 3 [iv 0, iv 0, .slice none 0 0] S (wN rfl) rfl rfl rfl rfl rfl rfl rfl (by simp) rfl fun a w S => ?_
    refine sMove (iv 14) S (wN rfl) (.inr rfl) rfl rfl (lb rfl) fun a S => ?_
    refine leafL (leafT (hK43 _ _ ?_))
    obtain rfl := Option.some.inj h
    have S := S.learn (fRep (rL rB) (.slice none 0 0) ([] : (List Bool))) (rL_nil _ _ _)
    have S := S.learn (fRep r_api_Grid (.agg #[iv 0, iv 0, .slice none 0 0]) (api_Grid.mk 0 0 ([] : (List Bool)))) ⟨_, rfl, S.mem.know (i := 0) (e := fRep (rL rB) (.slice none 0 0) ([] : (List Bool))) rfl⟩
    exact wp_ret (rThen (sRet (.tuple #[.agg #[iv 0, iv 0, .slice none 0 0], iv 14]) S (rsl2 rfl (rvN (c := 6) (t := 24) (T := 24) (p := b17) 0 [iv 0, iv 0, .slice none 0 0] S rfl rfl rfl rfl) (rvT (t := 7) (v := iv 14) S rfl)) ⟨(.agg #[iv 0, iv 0, .slice none 0 0]), rfl, S.mem.sel [] [0] (by decide) rfl rfl⟩))
  refine sCondF S rfl hc42 ?_
  refine wp_skip (leafT (hK38 _ _ ?_))
  refine sSeq (fun K44 hK44 => ?_)
  obtain ⟨z45, hx46, h⟩ := bindSome h
  obtain ⟨z47, hx48, h⟩ := bindSome h
  obtain ⟨r49, hx50, h⟩ := bindSome h
  refine sDraw (nf := [8, 9, 10]) (W := [(0, 57, .pointer (some ⟨b14, 0, none⟩)), (1, 58, iv p0.W), (2, 59, iv p1.W), (3, 60, iv z45), (4, 61, .pointer (some ⟨b14, 1, none⟩)), (5, 62, iv p0.H), (6, 63, iv p1.H), (7, 64, iv z47)]) rfl S ?_
  refine nodeCut (fun N W L D => ∀ b56 ad54 cp55, N [9, 8] ((9, 10, .pointer (some ⟨b56, 0, none⟩)) :: (8, 65, .agg #[iv r49.W, iv r49.H, .slice ad54 r49.Bits.length cp55]) :: W) ((eBox b56 24 [iv 0, iv 0, .slice none 0 0]) :: (eRow rB 4 (.slice ad54 r49.Bits.length cp55) r49.Bits) :: L) (D)) (fun b56 ad54 cp55 => ?_) fun nd1 => ?_
  · refine node_by (A := anc_raddleref13_Profile_0) (nf := [8, 9, 10]) (Y := [9, 8]) 11 (by kernel_rfl) (by kernel_rfl) (by kernel_rfl) (by kernel_rfl) (by kernel_rfl) [9, 8, 0, 1, 2, 3, 4, 5, 6, 7] (by kernel_rfl) (by decide) (by decide) (aD 0 10 8 (by decide) (aD 1 9 8 (by decide) (aD 2 8 8 (by decide) (aD 3 7 8 (by decide) (aD 4 6 8 (by decide) (aD 5 5 8 (by decide) (aD 6 4 8 (by decide) (aD 7 3 8 (by decide) (aY 8 2 (by decide) (aY 9 1 (by decide) (aN 10 0 (by decide) ?_ (trivial)))))))))))) [] (fun q hq => by cases hq) (fun hY => absurd (hY 10 (by decide)) (by decide))
    refine ⟨_, [(10, .pointer (some ⟨b56, 0, none⟩)), (65, .agg #[iv r49.W, iv r49.H, .slice ad54 r49.Bits.length cp55])], rfl, (srcs_of [some 0, some 1] rfl rfl rfl), fun G a w S => ?_⟩
    refine sStore (p := b56) (off := 0) (T := 24) (vs := [iv 0, iv 0, .slice none 0 0]) (v := .agg #[iv r49.W, iv r49.H, .slice ad54 r49.Bits.length cp55]) 0 [iv r49.W, iv r49.H, .slice ad54 r49.Bits.length cp55] S (wN rfl) rfl rfl rfl rfl rfl rfl rfl (by simp) rfl fun a w S => ?_
    refine leafL ⟨rfl, _, _, .inr ⟨[], rfl, S, hz_of rfl, ?_⟩⟩
    refine node_by (A := anc_raddleref13_Profile_0) (nf := [8, 9, 10]) (Y := [10, 9, 8]) 11 (by kernel_rfl) (by kernel_rfl) (by kernel_rfl) (by kernel_rfl) (by kernel_rfl) [9, 8, 0, 1, 2, 3, 4, 5, 6, 7] (by kernel_rfl) (by decide) (by decide) (aD 0 10 10 (by decide) (aD 1 9 10 (by decide) (aD 2 8 10 (by decide) (aD 3 7 10 (by decide) (aD 4 6 10 (by decide) (aD 5 5 10 (by decide) (aD 6 4 10 (by decide) (aD 7 3 10 (by decide) (aY 8 2 (by decide) (aY 9 1 (by decide) (aY 10 0 (by decide) (trivial)))))))))))) [(3, .pointer (some ⟨b14, 0, none⟩)), (4, .pointer (some ⟨b15, 0, none⟩)), (5, .pointer (some ⟨b16, 0, none⟩)), (6, .pointer (some ⟨b17, 0, none⟩)), (8, iv p1.W), (9, iv p1.H), (10, .pointer (some ⟨b56, 0, none⟩))] (fin_of [none, none, none, none, none, none, some 0] rfl (by kernel_rfl) (by kernel_rfl)) (fun _ a w S => ?_)
    refine leafT (hK44 _ _ ?_)
    obtain ⟨t58, h, g59⟩ := bindSome h
    refine sCut (fun a w => ∃ o57, .inl o57 = t58 ∧ St [] E [] w0 97 a w [(6, .pointer (some ⟨b17, 0, none⟩)), (10, .pointer (some ⟨b56, 0, none⟩))] [eBox b17 24 [iv 0, iv 0, .slice none 0 0], eBox b56 24 [iv r49.W, iv r49.H, .slice ad54 o57.length cp55], eRow rB 4 (.slice ad54 o57.length cp55) o57] []) ?_ (fun a w hI => ?_)
    rotate_left
    · obtain ⟨o57, rfl, S⟩ := hI
      have h := g59
      clear g59
      try dsimp only at h
      refine sSeq (fun K104 hK104 => ?_)
      refine sRegion ?_
      refine sLoadN (p := b56) (off := 0) (T := 24) (vs := [iv r49.W, iv r49.H, .slice ad54 o57.length cp55]) 1 [iv r49.W, iv r49.H, .slice ad54 o57.length cp55] S (wN rfl) rfl rfl rfl rfl rfl rfl rfl (lb rfl) fun a S => ?_
      refine sStore (p := b17) (off := 0) (T := 24) (vs := [iv 0, iv 0, .slice none 0 0]) (v := .agg #[iv r49.W, iv r49.H, .slice ad54 o57.length cp55]) 0 [iv r49.W, iv r49.H, .slice ad54 o57.length cp55] S (wN rfl) rfl rfl rfl rfl rfl rfl rfl (by simp) rfl fun a w S => ?_
      refine sMove (iv 0) S (wN rfl) (.inr rfl) rfl rfl (lb rfl) fun a S => ?_
      refine leafL (leafT (hK104 _ _ ?_))
      obtain rfl := Option.some.inj h
      have S := S.shutR (r := rB) (T := 4) (v := .slice ad54 o57.length cp55) (xs := o57) 2 rfl
      have S := S.learn (fRep r_api_Grid (.agg #[iv r49.W, iv r49.H, .slice ad54 o57.length cp55]) (api_Grid.mk r49.W r49.H o57)) ⟨_, rfl, S.mem.know (i := 0) (e := fRep (rL rB) (.slice ad54 o57.length cp55) o57) rfl⟩
      exact wp_ret (sRet (.tuple #[.agg #[iv r49.W, iv r49.H, .slice ad54 o57.length cp55], iv 0]) S (rsl2 rfl (rvN (c := 6) (t := 24) (T := 24) (p := b17) 0 [iv r49.W, iv r49.H, .slice ad54 o57.length cp55] S rfl rfl rfl rfl) (rvT (t := 7) (v := iv 0) S rfl)) ⟨(.agg #[iv r49.W, iv r49.H, .slice ad54 o57.length cp55]), rfl, S.mem.sel [] [0] (by decide) rfl rfl⟩)
    refine sSeq (fun K60 hK60 => ?_)
    refine sRegion ?_
    refine sMove (iv 0) S (wN rfl) (.inr rfl) rfl rfl (lb rfl) fun a S => ?_
    refine leafL (leafT (hK60 _ _ ?_))
    refine wp_block ?_
    obtain ⟨t65, hl, g64⟩ := bindSome h
    refine sLoop hl (fun s0 a w => match s0 with | (s61, s62) => St [] E [] w0 97 a w [(3, .pointer (some ⟨b14, 0, none⟩)), (4, .pointer (some ⟨b15, 0, none⟩)), (5, .pointer (some ⟨b16, 0, none⟩)), (6, .pointer (some ⟨b17, 0, none⟩)), (8, iv p1.W), (9, iv p1.H), (10, .pointer (some ⟨b56, 0, none⟩)), (11, iv s61)] [eBox b14 24 [iv p0.W, iv p0.H, .slice ad3 p0.Bits.length cp4], eBox b15 24 [iv p1.W, iv p1.H, .slice ad7 p1.Bits.length cp8], eBox b16 24 [iv p2.W, iv p2.H, .slice ad11 p2.Bits.length cp12], eBox b17 24 [iv 0, iv 0, .slice none 0 0], eBox b56 24 [iv r49.W, iv r49.H, .slice ad54 s62.length cp55], eRow rB 4 (.slice ad54 s62.length cp55) s62] [fRep (rL rB) (.slice ad3 p0.Bits.length cp4) p0.Bits, fRep (rL rB) (.slice ad7 p1.Bits.length cp8) p1.Bits, fRep (rL rB) (.slice ad11 p2.Bits.length cp12) p2.Bits]) (S.fix [2, 3, 4, 5, 0, 1] [0, 1, 2] (by decide) rfl rfl rfl) ?_
    clear hl h
    intro s0 a w c0 hI h hu63
    obtain ⟨s61, s62⟩ := s0
    unfold raddleref13_Profile_l2 at h
    dsimp only at h hI
    have S := hI
    refine sSeq (fun K67 hK67 => ?_)
    refine sSeq (fun K68 hK68 => ?_)
    refine sRegion ?_
    refine sMove (iv s61) S (wN rfl) (.inl rfl) rfl rfl (lb rfl) fun a S => ?_
    refine sField (b := b56) (off := 0) 1 1 S (wN rfl) rfl rfl rfl rfl rfl (lb rfl) fun a S => ?_
    refine sLoad1 (p := b56) (off := 1) (T := 24) (vs := [iv r49.W, iv r49.H, .slice ad54 s62.length cp55]) 4 (iv r49.H) S (wN rfl) rfl rfl rfl rfl rfl rfl (lb rfl) fun a S => ?_
    refine sBin (.bool (decide (s61 < r49.H))) S (wN rfl) rfl rfl rfl (bLt _ _ _ _ .i64 s61 r49.H) rfl (lb rfl) fun a S => ?_
    refine leafL (leafT (hK68 _ _ ?_))
    rcases iteSome h with ⟨hc69, h⟩ | ⟨hc69, h⟩
    rotate_left
    · refine sCondF S rfl hc69 ?_
      obtain rfl := Option.some.inj h
      obtain rfl := hu63 _ rfl
      have h := g64
      clear g64
      try dsimp only at h
      exact wp_exit (xThen (xThen (xHit (leafT (⟨s62, Option.some.inj h, S.fix [3, 4, 5] [] (by decide) rfl rfl rfl⟩)))))
    refine sCondT S rfl hc69 ?_
    refine wp_skip (leafT (hK67 _ _ ?_))
    obtain ⟨t71, h, g72⟩ := bindSome h
    refine sCut (fun a w => ∃ o70, .inl o70 = t71 ∧ St [] E [] w0 97 a w [(3, .pointer (some ⟨b14, 0, none⟩)), (4, .pointer (some ⟨b15, 0, none⟩)), (5, .pointer (some ⟨b16, 0, none⟩)), (6, .pointer (some ⟨b17, 0, none⟩)), (8, iv p1.W), (9, iv p1.H), (10, .pointer (some ⟨b56, 0, none⟩)), (11, iv s61)] [eBox b14 24 [iv p0.W, iv p0.H, .slice ad3 p0.Bits.length cp4], eBox b15 24 [iv p1.W, iv p1.H, .slice ad7 p1.Bits.length cp8], eBox b16 24 [iv p2.W, iv p2.H, .slice ad11 p2.Bits.length cp12], eBox b17 24 [iv 0, iv 0, .slice none 0 0], eBox b56 24 [iv r49.W, iv r49.H, .slice ad54 o70.length cp55], eRow rB 4 (.slice ad54 o70.length cp55) o70] [fRep (rL rB) (.slice ad3 p0.Bits.length cp4) p0.Bits, fRep (rL rB) (.slice ad7 p1.Bits.length cp8) p1.Bits, fRep (rL rB) (.slice ad11 p2.Bits.length cp12) p2.Bits]) ?_ (fun a w hI => ?_)
    rotate_left
    · obtain ⟨o70, rfl, S⟩ := hI
      have h := g72
      clear g72
      try dsimp only at h
      refine sRegion ?_
      refine sMove (iv s61) S (wN rfl) (.inl rfl) rfl rfl (lb rfl) fun a S => ?_
      refine sBin (iv (w64 (s61 + 1))) S (wN rfl) rfl rfl rfl (bAdd _ _ _ _ s61 1) rfl (lb rfl) fun a S => ?_
      refine sMove (iv (w64 (s61 + 1))) S (wN rfl) (.inr rfl) rfl rfl (lb rfl) fun a S => ?_
      exact leafL (leafT (⟨(w64 (s61 + 1), o70), (Option.some.inj h).symm, (S.fix [0, 1, 2, 3, 4, 5] [0, 1, 2] (by decide) rfl rfl rfl)⟩))
    refine wp_block ?_
    refine sSeq (fun K73 hK73 => ?_)
    refine sRegion ?_
    refine sMove (iv 0) S (wN rfl) (.inr rfl) rfl rfl (lb rfl) fun a S => ?_
    refine leafL (leafT (hK73 _ _ ?_))
    refine wp_block ?_
    obtain ⟨t78, hl, g77⟩ := bindSome h
    refine sLoop hl (fun s0 a w => match s0 with | (s74, s75) => St [] E [] w0 97 a w [(3, .pointer (some ⟨b14, 0, none⟩)), (4, .pointer (some ⟨b15, 0, none⟩)), (5, .pointer (some ⟨b16, 0, none⟩)), (6, .pointer (some ⟨b17, 0, none⟩)), (8, iv p1.W), (9, iv p1.H), (10, .pointer (some ⟨b56, 0, none⟩)), (11, iv s61), (12, iv s74)] [eBox b14 24 [iv p0.W, iv p0.H, .slice ad3 p0.Bits.length cp4], eBox b15 24 [iv p1.W, iv p1.H, .slice ad7 p1.Bits.length cp8], eBox b16 24 [iv p2.W, iv p2.H, .slice ad11 p2.Bits.length cp12], eBox b17 24 [iv 0, iv 0, .slice none 0 0], eBox b56 24 [iv r49.W, iv r49.H, .slice ad54 s75.length cp55], eRow rB 4 (.slice ad54 s75.length cp55) s75] [fRep (rL rB) (.slice ad3 p0.Bits.length cp4) p0.Bits, fRep (rL rB) (.slice ad7 p1.Bits.length cp8) p1.Bits, fRep (rL rB) (.slice ad11 p2.Bits.length cp12) p2.Bits]) (S.fix [0, 1, 2, 3, 4, 5] [0, 1, 2] (by decide) rfl rfl rfl) ?_
    clear hl h
    intro s0 a w c0 hI h hu76
    obtain ⟨s74, s75⟩ := s0
    unfold raddleref13_Profile_l1 at h
    dsimp only at h hI
    have S := hI
    refine sSeq (fun K80 hK80 => ?_)
    refine sSeq (fun K81 hK81 => ?_)
    refine sRegion ?_
    refine sMove (iv s74) S (wN rfl) (.inl rfl) rfl rfl (lb rfl) fun a S => ?_
    refine sField (b := b56) (off := 0) 0 0 S (wN rfl) rfl rfl rfl rfl rfl (lb rfl) fun a S => ?_
    refine sLoad1 (p := b56) (off := 0) (T := 24) (vs := [iv r49.W, iv r49.H, .slice ad54 s75.length cp55]) 4 (iv r49.W) S (wN rfl) rfl rfl rfl rfl rfl rfl (lb rfl) fun a S => ?_
    refine sBin (.bool (decide (s74 < r49.W))) S (wN rfl) rfl rfl rfl (bLt _ _ _ _ .i64 s74 r49.W) rfl (lb rfl) fun a S => ?_
    refine leafL (leafT (hK81 _ _ ?_))
    rcases iteSome h with ⟨hc82, h⟩ | ⟨hc82, h⟩
    rotate_left
    · refine sCondF S rfl hc82 ?_
      obtain rfl := Option.some.inj h
      obtain rfl := hu76 _ rfl
      have h := g77
      clear g77
      try dsimp only at h
      exact wp_exit (xThen (xThen (xHit (leafB (leafT (⟨s75, Option.some.inj h, S.fix [0, 1, 2, 3, 4, 5] [0, 1, 2] (by decide) rfl rfl rfl⟩))))))
    refine sCondT S rfl hc82 ?_
    refine wp_skip (leafT (hK80 _ _ ?_))
    obtain ⟨t84, h, g85⟩ := bindSome h
    refine sCut (fun a w => ∃ o83, .inl o83 = t84 ∧ St [] E [] w0 97 a w [(3, .pointer (some ⟨b14, 0, none⟩)), (4, .pointer (some ⟨b15, 0, none⟩)), (5, .pointer (some ⟨b16, 0, none⟩)), (6, .pointer (some ⟨b17, 0, none⟩)), (8, iv p1.W), (9, iv p1.H), (10, .pointer (some ⟨b56, 0, none⟩)), (11, iv s61), (12, iv s74)] [eBox b14 24 [iv p0.W, iv p0.H, .slice ad3 p0.Bits.length cp4], eBox b15 24 [iv p1.W, iv p1.H, .slice ad7 p1.Bits.length cp8], eBox b16 24 [iv p2.W, iv p2.H, .slice ad11 p2.Bits.length cp12], eBox b17 24 [iv 0, iv 0, .slice none 0 0], eBox b56 24 [iv r49.W, iv r49.H, .slice ad54 o83.length cp55], eRow rB 4 (.slice ad54 o83.length cp55) o83] [fRep (rL rB) (.slice ad3 p0.Bits.length cp4) p0.Bits, fRep (rL rB) (.slice ad7 p1.Bits.length cp8) p1.Bits, fRep (rL rB) (.slice ad11 p2.Bits.length cp12) p2.Bits]) ?_ (fun a w hI => ?_)
    rotate_left
    · obtain ⟨o83, rfl, S⟩ := hI
      have h := g85
      clear g85
      try dsimp only at h
      refine sRegion ?_
      refine sMove (iv s74) S (wN rfl) (.inl rfl) rfl rfl (lb rfl) fun a S => ?_
      refine sBin (iv (w64 (s74 + 1))) S (wN rfl) rfl rfl rfl (bAdd _ _ _ _ s74 1) rfl (lb rfl) fun a S => ?_
      refine sMove (iv (w64 (s74 + 1))) S (wN rfl) (.inr rfl) rfl rfl (lb rfl) fun a S => ?_
      exact leafL (leafT (⟨(w64 (s74 + 1), o83), (Option.some.inj h).symm, (S.fix [0, 1, 2, 3, 4, 5] [0, 1, 2] (by decide) rfl rfl rfl)⟩))
    refine wp_block ?_
    refine sSeq (fun K86 hK86 => ?_)
    refine sRegion ?_
    refine sLoadN (p := b14) (off := 0) (T := 24) (vs := [iv p0.W, iv p0.H, .slice ad3 p0.Bits.length cp4]) 0 [iv p0.W, iv p0.H, .slice ad3 p0.Bits.length cp4] S (wN rfl) rfl rfl rfl rfl rfl rfl rfl (lb rfl) fun a S => ?_
    refine sMove (iv p1.W) S (wN rfl) (.inl rfl) rfl rfl (lb rfl) fun a S => ?_
    refine sMove (iv p1.H) S (wN rfl) (.inl rfl) rfl rfl (lb rfl) fun a S => ?_
    refine sMove (iv s74) S (wN rfl) (.inl rfl) rfl rfl (lb rfl) fun a S => ?_
    refine sMove (iv s61) S (wN rfl) (.inl rfl) rfl rfl (lb rfl) fun a S => ?_
    obtain ⟨r87, hx88, h⟩ := bindSome h
    have S := S.learn (fRep r_api_Grid (.agg #[iv p0.W, iv p0.H, .slice ad3 p0.Bits.length cp4]) p0) ⟨_, rfl, S.mem.know (i := 0) (e := fRep (rL rB) (.slice ad3 p0.Bits.length cp4) p0.Bits) rfl⟩
    refine sCall (X := Option Addr × Nat) (f := 50) (vs := [.agg #[iv p0.W, iv p0.H, .slice ad3 p0.Bits.length cp4], iv p1.W, iv p1.H, iv s74, iv s61]) (val := fun x => .agg #[iv r87.W, iv r87.H, .slice x.1 r87.Bits.length x.2]) (B' := fun x => [eRow rB 4 (.slice x.1 r87.Bits.length x.2) r87.Bits]) (D' := fun _ => []) [] [eBox b14 24 [iv p0.W, iv p0.H, .slice ad3 p0.Bits.length cp4], eBox b15 24 [iv p1.W, iv p1.H, .slice ad7 p1.Bits.length cp8], eBox b16 24 [iv p2.W, iv p2.H, .slice ad11 p2.Bits.length cp12], eBox b17 24 [iv 0, iv 0, .slice none 0 0], eBox b56 24 [iv r49.W, iv r49.H, .slice ad54 s75.length cp55], eRow rB 4 (.slice ad54 s75.length cp55) s75] [fRep r_api_Grid (.agg #[iv p0.W, iv p0.H, .slice ad3 p0.Bits.length cp4]) p0] [0, 1, 2, 3, 4, 5] [0] S (wN rfl) rfl callee50 rfl (by decide) rfl rfl (fun E1 w1 S1 => c_raddleref13_Part_s0 E1 w1 p0 (.agg #[iv p0.W, iv p0.H, .slice ad3 p0.Bits.length cp4]) p1.W p1.H s74 s61 r87 hx88 S1) rfl (lb rfl) fun xx a w S => ?_
    obtain ⟨ad89, cp90⟩ := xx
    dsimp only at S
    refine sAlloc (.agg #[iv 0, iv 0, .slice none 0 0]) S (wN rfl) rfl rfl [iv 0, iv 0, .slice none 0 0] rfl rfl (lb rfl) fun a b91 w S => ?_
    refine sStore (p := b91) (off := 0) (T := 24) (vs := [iv 0, iv 0, .slice none 0 0]) (v := .agg #[iv r87.W, iv r87.H, .slice ad89 r87.Bits.length cp90]) 0 [iv r87.W, iv r87.H, .slice ad89 r87.Bits.length cp90] S (wN rfl) rfl rfl rfl rfl rfl rfl rfl (by simp) rfl fun a w S => ?_
    refine leafL (leafT (hK86 _ _ ?_))
    refine sSeq (fun K92 hK92 => ?_)
    refine sRegion ?_
    refine sLoadN (p := b91) (off := 0) (T := 24) (vs := [iv r87.W, iv r87.H, .slice ad89 r87.Bits.length cp90]) 0 [iv r87.W, iv r87.H, .slice ad89 r87.Bits.length cp90] S (wN rfl) rfl rfl rfl rfl rfl rfl rfl (lb rfl) fun a S => ?_
    refine sLoadN (p := b15) (off := 0) (T := 24) (vs := [iv p1.W, iv p1.H, .slice ad7 p1.Bits.length cp8]) 3 [iv p1.W, iv p1.H, .slice ad7 p1.Bits.length cp8] S (wN rfl) rfl rfl rfl rfl rfl rfl rfl (lb rfl) fun a S => ?_
    obtain ⟨r93, hx94, h⟩ := bindSome h
    have S1 := S.mem
    have S1 := S1.shutR (r := rB) (T := 4) (v := .slice ad89 r87.Bits.length cp90) (xs := r87.Bits) 1 rfl
    have S1 := S1.learn (fRep r_api_Grid (.agg #[iv r87.W, iv r87.H, .slice ad89 r87.Bits.length cp90]) r87) ⟨_, rfl, S1.know (i := 0) (e := fRep (rL rB) (.slice ad89 r87.Bits.length cp90) r87.Bits) rfl⟩
    have S1 := S1.learn (fRep r_api_Grid (.agg #[iv p1.W, iv p1.H, .slice ad7 p1.Bits.length cp8]) p1) ⟨_, rfl, S1.know (i := 4) (e := fRep (rL rB) (.slice ad7 p1.Bits.length cp8) p1.Bits) rfl⟩
    refine sCallQ (X := Unit) (f := 17) (vs := [.agg #[iv r87.W, iv r87.H, .slice ad89 r87.Bits.length cp90], .agg #[iv p1.W, iv p1.H, .slice ad7 p1.Bits.length cp8]]) (val := fun _ => .bool r93) S (wN rfl) rfl callee17 rfl (S1.quiet [1, 0] rfl) (fun E1 w1 S1 => c_raddleref01_Same E1 w1 r87 (.agg #[iv r87.W, iv r87.H, .slice ad89 r87.Bits.length cp90]) p1 (.agg #[iv p1.W, iv p1.H, .slice ad7 p1.Bits.length cp8]) r93 hx94 S1) rfl (lb rfl) fun _ a w S => ?_
    refine leafL (leafT (hK92 _ _ ?_))
    rcases iteSome h with ⟨hc95, h⟩ | ⟨hc95, h⟩
    · refine sCondT S rfl hc95 ?_
      refine sRegion ?_
      refine sLoadN (p := b56) (off := 0) (T := 24) (vs := [iv r49.W, iv r49.H, .slice ad54 s75.length cp55]) 6 [iv r49.W, iv r49.H, .slice ad54 s75.length cp55] S (wN rfl) rfl rfl rfl rfl rfl rfl rfl (lb rfl) fun a S => ?_
      refine sMove (iv s74) S (wN rfl) (.inl rfl) rfl rfl (lb rfl) fun a S => ?_
      refine sMove (iv s61) S (wN rfl) (.inl rfl) rfl rfl (lb rfl) fun a S => ?_
      obtain ⟨r96, hx97, h⟩ := bindSome h
      refine sCall (X := Unit) (f := 47) (vs := [.agg #[iv r49.W, iv r49.H, .slice ad54 s75.length cp55], iv s74, iv s61, .bool true]) (val := fun _ => .tuple #[]) (B' := fun _ => [eRow rB 4 (.slice ad54 s75.length cp55) r96]) (D' := fun _ => []) [eRow rB 4 (.slice ad54 s75.length cp55) s75] [eBox b91 24 [iv r87.W, iv r87.H, .slice ad89 r87.Bits.length cp90], eRow rB 4 (.slice ad89 r87.Bits.length cp90) r87.Bits, eBox b14 24 [iv p0.W, iv p0.H, .slice ad3 p0.Bits.length cp4], eBox b15 24 [iv p1.W, iv p1.H, .slice ad7 p1.Bits.length cp8], eBox b16 24 [iv p2.W, iv p2.H, .slice ad11 p2.Bits.length cp12], eBox b17 24 [iv 0, iv 0, .slice none 0 0], eBox b56 24 [iv r49.W, iv r49.H, .slice ad54 s75.length cp55]] [] [7, 0, 1, 2, 3, 4, 5, 6] [] S (wN rfl) rfl callee47 rfl (by decide) rfl rfl (fun E1 w1 S1 => c_raddleref01_Set_s0 E1 w1 r49.W r49.H s75 ad54 cp55 s74 s61 true r96 hx97 S1) rfl (lb rfl) fun _ a w S => ?_
      have hr98 := row_v (S.mem.hold (i := 0) (e := eRow rB 4 (.slice ad54 s75.length cp55) r96) rfl)
      rw [hr98] at S
      exact leafL (leafB (leafT (⟨r96, Option.some.inj h, S.fix [3, 4, 5, 6, 7, 0] [1, 2, 3] (by decide) rfl rfl rfl⟩)))
    refine sCondF S rfl hc95 ?_
    refine sSeq (fun K99 hK99 => ?_)
    refine sRegion ?_
    refine sLoadN (p := b91) (off := 0) (T := 24) (vs := [iv r87.W, iv r87.H, .slice ad89 r87.Bits.length cp90]) 0 [iv r87.W, iv r87.H, .slice ad89 r87.Bits.length cp90] S (wN rfl) rfl rfl rfl rfl rfl rfl rfl (lb rfl) fun a S => ?_
    refine sLoadN (p := b16) (off := 0) (T := 24) (vs := [iv p2.W, iv p2.H, .slice ad11 p2.Bits.length cp12]) 4 [iv p2.W, iv p2.H, .slice ad11 p2.Bits.length cp12] S (wN rfl) rfl rfl rfl rfl rfl rfl rfl (lb rfl) fun a S => ?_
    obtain ⟨r100, hx101, h⟩ := bindSome h
    have S1 := S.mem
    have S1 := S1.shutR (r := rB) (T := 4) (v := .slice ad89 r87.Bits.length cp90) (xs := r87.Bits) 1 rfl
    have S1 := S1.learn (fRep r_api_Grid (.agg #[iv r87.W, iv r87.H, .slice ad89 r87.Bits.length cp90]) r87) ⟨_, rfl, S1.know (i := 0) (e := fRep (rL rB) (.slice ad89 r87.Bits.length cp90) r87.Bits) rfl⟩
    have S1 := S1.learn (fRep r_api_Grid (.agg #[iv p2.W, iv p2.H, .slice ad11 p2.Bits.length cp12]) p2) ⟨_, rfl, S1.know (i := 5) (e := fRep (rL rB) (.slice ad11 p2.Bits.length cp12) p2.Bits) rfl⟩
    refine sCallQ (X := Unit) (f := 17) (vs := [.agg #[iv r87.W, iv r87.H, .slice ad89 r87.Bits.length cp90], .agg #[iv p2.W, iv p2.H, .slice ad11 p2.Bits.length cp12]]) (val := fun _ => .bool r100) S (wN rfl) rfl callee17 rfl (S1.quiet [1, 0] rfl) (fun E1 w1 S1 => c_raddleref01_Same E1 w1 r87 (.agg #[iv r87.W, iv r87.H, .slice ad89 r87.Bits.length cp90]) p2 (.agg #[iv p2.W, iv p2.H, .slice ad11 p2.Bits.length cp12]) r100 hx101 S1) rfl (lb rfl) fun _ a w S => ?_
    refine sNot (b := r100) S (wN rfl) rfl rfl rfl (lb rfl) fun a S => ?_
    refine leafL (leafT (hK99 _ _ ?_))
    rcases iteSome h with ⟨hc102, h⟩ | ⟨hc102, h⟩
    rotate_left
    · refine sCondF S rfl hc102 ?_
      exact wp_skip (leafB (leafT (⟨s75, Option.some.inj h, S.fix [2, 3, 4, 5, 6, 7] [1, 2, 3] (by decide) rfl rfl rfl⟩)))
    refine sCondT S rfl hc102 ?_
    refine sSeq (fun K103 hK103 => ?_)
    refine sRegion ?_
    refine sBuild [] [iv 0, iv 0, .slice none 0 0] S (wN rfl) rfl rfl rfl rfl (lb rfl) fun a S => ?_
    refine sStore (p := b17) (off := 0) (T := 24) (vs := [iv 0, iv 0, .slice none 0 0]) (v := .agg #[iv 0, iv 0, .slice none 0 0]) 5 [iv 0, iv 0, .slice none 0 0] S (wN rfl) rfl rfl rfl rfl rfl rfl rfl (by simp) rfl fun a w S => ?_
    refine sMove (iv 6) S (wN rfl) (.inr rfl) rfl rfl (lb rfl) fun a S => ?_
    refine leafL (leafT (hK103 _ _ ?_))
    obtain rfl := Option.some.inj h
    have h := g85
    clear g85
    try dsimp only at h
    obtain rfl := Option.some.inj h
    obtain rfl := hu76 _ rfl
    have h := g77
    clear g77
    try dsimp only at h
    obtain rfl := Option.some.inj h
    have h := g72
    clear g72
    try dsimp only at h
    obtain rfl := Option.some.inj h
    obtain rfl := hu63 _ rfl
    have h := g64
    clear g64
    try dsimp only at h
    obtain rfl := Option.some.inj h
    have h := g59
    clear g59
    try dsimp only at h
    obtain rfl := Option.some.inj h
    have S := S.learn (fRep (rL rB) (.slice none 0 0) ([] : (List Bool))) (rL_nil _ _ _)
    have S := S.learn (fRep r_api_Grid (.agg #[iv 0, iv 0, .slice none 0 0]) (api_Grid.mk 0 0 ([] : (List Bool)))) ⟨_, rfl, S.mem.know (i := 0) (e := fRep (rL rB) (.slice none 0 0) ([] : (List Bool))) rfl⟩
    exact wp_ret (rBlock (rThen (rThen (rBlock (rBlock (rThen (rThen (rBlock (rThen (sRet (.tuple #[.agg #[iv 0, iv 0, .slice none 0 0], iv 6]) S (rsl2 rfl (rvN (c := 6) (t := 24) (T := 24) (p := b17) 0 [iv 0, iv 0, .slice none 0 0] S rfl rfl rfl rfl) (rvT (t := 7) (v := iv 6) S rfl)) ⟨(.agg #[iv 0, iv 0, .slice none 0 0]), rfl, S.mem.sel [] [0] (by decide) rfl rfl⟩))))))))))
  refine node_by (A := anc_raddleref13_Profile_0) (nf := [8, 9, 10]) (Y := []) (W := [(0, 57, .pointer (some ⟨b14, 0, none⟩)), (1, 58, iv p0.W), (2, 59, iv p1.W), (3, 60, iv z45), (4, 61, .pointer (some ⟨b14, 1, none⟩)), (5, 62, iv p0.H), (6, 63, iv p1.H), (7, 64, iv z47)]) 11 (by kernel_rfl) (by kernel_rfl) (by kernel_rfl) (by kernel_rfl) (by kernel_rfl) [0, 1, 2, 3, 4, 5, 6, 7] (by kernel_rfl) (by decide) (by decide) (aF 0 10 (by decide) ?_ (aF 1 9 (by decide) ?_ (aF 2 8 (by decide) ?_ (aF 3 7 (by decide) ?_ (aF 4 6 (by decide) ?_ (aF 5 5 (by decide) ?_ (aF 6 4 (by decide) ?_ (aF 7 3 (by decide) ?_ (aN 8 2 (by decide) ?_ (aN 9 1 (by decide) ?_ (aB 10 0 8 (by decide) (trivial)))))))))))) [] (fun q hq => by cases hq) (fun hY => absurd (hY 8 (by decide)) (by decide))
  · refine fI 57 (.pointer (some ⟨b14, 0, none⟩)) [(3, .pointer (some ⟨b14, 0, none⟩))] 0 [none] rfl rfl rfl rfl rfl rfl fun G a w S => ?_
    refine sField (b := b14) (off := 0) 0 0 S (wN rfl) rfl rfl rfl rfl rfl (lb rfl) fun a S => ?_
    exact leafL ⟨rfl, S⟩
  · refine fI 58 (iv p0.W) [(57, .pointer (some ⟨b14, 0, none⟩))] 1 [some 0] rfl rfl rfl rfl rfl rfl fun G a w S => ?_
    refine sLoad1 (p := b14) (off := 0) (T := 24) (vs := [iv p0.W, iv p0.H, .slice ad3 p0.Bits.length cp4]) 0 (iv p0.W) S (wN rfl) rfl rfl rfl rfl rfl rfl (lb rfl) fun a S => ?_
    exact leafL ⟨rfl, S⟩
  · refine fI 59 (iv p1.W) [(8, iv p1.W)] 2 [none] rfl rfl rfl rfl rfl rfl fun G a w S => ?_
    refine sMove (iv p1.W) S (wN rfl) (.inl rfl) rfl rfl (lb rfl) fun a S => ?_
    exact leafL ⟨rfl, S⟩
  · refine fI 60 (iv z45) [(58, iv p0.W), (59, iv p1.W)] 3 [some 1, some 2] rfl rfl rfl rfl rfl rfl fun G a w S => ?_
    refine sBin (iv z45) S (wN rfl) rfl rfl rfl (bQuo _ _ _ _ (x := p0.W) (y := p1.W) hx46) rfl (lb rfl) fun a S => ?_
    exact leafL ⟨rfl, S⟩
  · refine fI 61 (.pointer (some ⟨b14, 1, none⟩)) [(3, .pointer (some ⟨b14, 0, none⟩))] 4 [none] rfl rfl rfl rfl rfl rfl fun G a w S => ?_
    refine sField (b := b14) (off := 0) 1 1 S (wN rfl) rfl rfl rfl rfl rfl (lb rfl) fun a S => ?_
    exact leafL ⟨rfl, S⟩
  · refine fI 62 (iv p0.H) [(61, .pointer (some ⟨b14, 1, none⟩))] 5 [some 4] rfl rfl rfl rfl rfl rfl fun G a w S => ?_
    refine sLoad1 (p := b14) (off := 1) (T := 24) (vs := [iv p0.W, iv p0.H, .slice ad3 p0.Bits.length cp4]) 0 (iv p0.H) S (wN rfl) rfl rfl rfl rfl rfl rfl (lb rfl) fun a S => ?_
    exact leafL ⟨rfl, S⟩
  · refine fI 63 (iv p1.H) [(9, iv p1.H)] 6 [none] rfl rfl rfl rfl rfl rfl fun G a w S => ?_
    refine sMove (iv p1.H) S (wN rfl) (.inl rfl) rfl rfl (lb rfl) fun a S => ?_
    exact leafL ⟨rfl, S⟩
  · refine fI 64 (iv z47) [(62, iv p0.H), (63, iv p1.H)] 7 [some 5, some 6] rfl rfl rfl rfl rfl rfl fun G a w S => ?_
    refine sBin (iv z47) S (wN rfl) rfl rfl rfl (bQuo _ _ _ _ (x := p0.H) (y := p1.H) hx48) rfl (lb rfl) fun a S => ?_
    exact leafL ⟨rfl, S⟩
  · refine ⟨_, [(60, iv z45), (64, iv z47)], rfl, (srcs_of [some 3, some 7] rfl rfl rfl), fun G a w S => ?_⟩
    refine sCall (X := Option Addr × Nat) (f := 40) (vs := [iv z45, iv z47]) (val := fun x => .agg #[iv r49.W, iv r49.H, .slice x.1 r49.Bits.length x.2]) (B' := fun x => [eRow rB 4 (.slice x.1 r49.Bits.length x.2) r49.Bits]) (D' := fun _ => []) [] [eBox b14 24 [iv p0.W, iv p0.H, .slice ad3 p0.Bits.length cp4], eBox b15 24 [iv p1.W, iv p1.H, .slice ad7 p1.Bits.length cp8], eBox b16 24 [iv p2.W, iv p2.H, .slice ad11 p2.Bits.length cp12], eBox b17 24 [iv 0, iv 0, .slice none 0 0]] [] [0, 1, 2, 3] [] S (wN rfl) rfl callee40 rfl (by decide) rfl rfl (fun E1 w1 S1 => c_raddleref01_Zero_s0 E1 w1 z45 z47 r49 hx50 S1) rfl (lb rfl) fun xx a w S => ?_
    obtain ⟨ad54, cp55⟩ := xx
    dsimp only at S
    refine leafL ⟨rfl, _, _, .inl ⟨65, (.agg #[iv r49.W, iv r49.H, .slice ad54 r49.Bits.length cp55]), [], rfl, S, hz_of rfl, ?_⟩⟩
    refine node_by (A := anc_raddleref13_Profile_0) (nf := [8, 9, 10]) (Y := [8]) 11 (by kernel_rfl) (by kernel_rfl) (by kernel_rfl) (by kernel_rfl) (by kernel_rfl) [8, 0, 1, 2, 3, 4, 5, 6, 7] (by kernel_rfl) (by decide) (by decide) (aD 0 10 8 (by decide) (aD 1 9 8 (by decide) (aD 2 8 8 (by decide) (aD 3 7 8 (by decide) (aD 4 6 8 (by decide) (aD 5 5 8 (by decide) (aD 6 4 8 (by decide) (aD 7 3 8 (by decide) (aY 8 2 (by decide) (aN 9 1 (by decide) ?_ (aB 10 0 9 (by decide) (trivial)))))))))))) [] (fun q hq => by cases hq) (fun hY => absurd (hY 9 (by decide)) (by decide))
    refine ⟨_, [], rfl, (srcs_of [] rfl rfl rfl), fun G a w S => ?_⟩
    refine sAlloc (.agg #[iv 0, iv 0, .slice none 0 0]) S (wN rfl) rfl rfl [iv 0, iv 0, .slice none 0 0] rfl rfl (lb rfl) fun a b56 w S => ?_
    refine leafL ⟨rfl, _, _, .inl ⟨10, (.pointer (some ⟨b56, 0, none⟩)), [], rfl, S, hz_of rfl, ?_⟩⟩
    exact nd1 b56 ad54 cp55
  refine ⟨_, [], rfl, (srcs_of [] rfl rfl rfl), fun G a w S => ?_⟩
  refine sAlloc (.agg #[iv 0, iv 0, .slice none 0 0]) S (wN rfl) rfl rfl [iv 0, iv 0, .slice none 0 0] rfl rfl (lb rfl) fun a b105 w S => ?_
  refine leafL ⟨rfl, _, _, .inl ⟨10, (.pointer (some ⟨b105, 0, none⟩)), [], rfl, S, hz_of rfl, ?_⟩⟩
  refine node_by (A := anc_raddleref13_Profile_0) (nf := [8, 9, 10]) (Y := [9]) 11 (by kernel_rfl) (by kernel_rfl) (by kernel_rfl) (by kernel_rfl) (by kernel_rfl) [9, 0, 1, 2, 3, 4, 5, 6, 7] (by kernel_rfl) (by decide) (by decide) (aF 0 10 (by decide) ?_ (aF 1 9 (by decide) ?_ (aF 2 8 (by decide) ?_ (aF 3 7 (by decide) ?_ (aF 4 6 (by decide) ?_ (aF 5 5 (by decide) ?_ (aF 6 4 (by decide) ?_ (aF 7 3 (by decide) ?_ (aN 8 2 (by decide) ?_ (aY 9 1 (by decide) (aB 10 0 8 (by decide) (trivial)))))))))))) [] (fun q hq => by cases hq) (fun hY => absurd (hY 8 (by decide)) (by decide))
  · refine fI 57 (.pointer (some ⟨b14, 0, none⟩)) [(3, .pointer (some ⟨b14, 0, none⟩))] 1 [none] rfl rfl rfl rfl rfl rfl fun G a w S => ?_
    refine sField (b := b14) (off := 0) 0 0 S (wN rfl) rfl rfl rfl rfl rfl (lb rfl) fun a S => ?_
    exact leafL ⟨rfl, S⟩
  · refine fI 58 (iv p0.W) [(57, .pointer (some ⟨b14, 0, none⟩))] 2 [some 1] rfl rfl rfl rfl rfl rfl fun G a w S => ?_
    refine sLoad1 (p := b14) (off := 0) (T := 24) (vs := [iv p0.W, iv p0.H, .slice ad3 p0.Bits.length cp4]) 1 (iv p0.W) S (wN rfl) rfl rfl rfl rfl rfl rfl (lb rfl) fun a S => ?_
    exact leafL ⟨rfl, S⟩
  · refine fI 59 (iv p1.W) [(8, iv p1.W)] 3 [none] rfl rfl rfl rfl rfl rfl fun G a w S => ?_
    refine sMove (iv p1.W) S (wN rfl) (.inl rfl) rfl rfl (lb rfl) fun a S => ?_
    exact leafL ⟨rfl, S⟩
  · refine fI 60 (iv z45) [(58, iv p0.W), (59, iv p1.W)] 4 [some 2, some 3] rfl rfl rfl rfl rfl rfl fun G a w S => ?_
    refine sBin (iv z45) S (wN rfl) rfl rfl rfl (bQuo _ _ _ _ (x := p0.W) (y := p1.W) hx46) rfl (lb rfl) fun a S => ?_
    exact leafL ⟨rfl, S⟩
  · refine fI 61 (.pointer (some ⟨b14, 1, none⟩)) [(3, .pointer (some ⟨b14, 0, none⟩))] 5 [none] rfl rfl rfl rfl rfl rfl fun G a w S => ?_
    refine sField (b := b14) (off := 0) 1 1 S (wN rfl) rfl rfl rfl rfl rfl (lb rfl) fun a S => ?_
    exact leafL ⟨rfl, S⟩
  · refine fI 62 (iv p0.H) [(61, .pointer (some ⟨b14, 1, none⟩))] 6 [some 5] rfl rfl rfl rfl rfl rfl fun G a w S => ?_
    refine sLoad1 (p := b14) (off := 1) (T := 24) (vs := [iv p0.W, iv p0.H, .slice ad3 p0.Bits.length cp4]) 1 (iv p0.H) S (wN rfl) rfl rfl rfl rfl rfl rfl (lb rfl) fun a S => ?_
    exact leafL ⟨rfl, S⟩
  · refine fI 63 (iv p1.H) [(9, iv p1.H)] 7 [none] rfl rfl rfl rfl rfl rfl fun G a w S => ?_
    refine sMove (iv p1.H) S (wN rfl) (.inl rfl) rfl rfl (lb rfl) fun a S => ?_
    exact leafL ⟨rfl, S⟩
  · refine fI 64 (iv z47) [(62, iv p0.H), (63, iv p1.H)] 8 [some 6, some 7] rfl rfl rfl rfl rfl rfl fun G a w S => ?_
    refine sBin (iv z47) S (wN rfl) rfl rfl rfl (bQuo _ _ _ _ (x := p0.H) (y := p1.H) hx48) rfl (lb rfl) fun a S => ?_
    exact leafL ⟨rfl, S⟩
  refine ⟨_, [(60, iv z45), (64, iv z47)], rfl, (srcs_of [some 4, some 8] rfl rfl rfl), fun G a w S => ?_⟩
  refine sCall (X := Option Addr × Nat) (f := 40) (vs := [iv z45, iv z47]) (val := fun x => .agg #[iv r49.W, iv r49.H, .slice x.1 r49.Bits.length x.2]) (B' := fun x => [eRow rB 4 (.slice x.1 r49.Bits.length x.2) r49.Bits]) (D' := fun _ => []) [] [eBox b105 24 [iv 0, iv 0, .slice none 0 0], eBox b14 24 [iv p0.W, iv p0.H, .slice ad3 p0.Bits.length cp4], eBox b15 24 [iv p1.W, iv p1.H, .slice ad7 p1.Bits.length cp8], eBox b16 24 [iv p2.W, iv p2.H, .slice ad11 p2.Bits.length cp12], eBox b17 24 [iv 0, iv 0, .slice none 0 0]] [] [0, 1, 2, 3, 4] [] S (wN rfl) rfl callee40 rfl (by decide) rfl rfl (fun E1 w1 S1 => c_raddleref01_Zero_s0 E1 w1 z45 z47 r49 hx50 S1) rfl (lb rfl) fun xx a w S => ?_
  obtain ⟨ad106, cp107⟩ := xx
  dsimp only at S
  refine leafL ⟨rfl, _, _, .inl ⟨65, (.agg #[iv r49.W, iv r49.H, .slice ad106 r49.Bits.length cp107]), [], rfl, S, hz_of rfl, ?_⟩⟩
  exact nodePerm (nd1 b105 ad106 cp107) [1, 0, 2, 3, 4, 5, 6, 7, 8, 9] [1, 0, 2, 3, 4, 5] [0, 1, 2] (by decide) (by decide) rfl rfl rfl

end Go.Proofs.Ythfifeabomdlpaa
