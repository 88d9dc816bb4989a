/- Several texts in one: G15 G50s0 G16 G3 PlGd PlBk G18 G20 G54s0 G51s1 G55s0 G21 G22 G23 G4 PlBu G25 G26 G37 G36 G28 G59 G60 G62s0 G61s1 G76i0 G29 G38 G30 G5 PlIx PlBj PlBp PlFb PlUj G32 G68s0 G64s2 G35 G7 PlFt -/
import Derived.WalkKit
import Derived.Maps.AppendAt
import Derived.Deep.AppendLies
import Derived.KernelRfl
import Derived.Laws.OwnMore
import Derived.Great.BuildSlice
import Derived.Orders
import Derived.Laws.StructEq
import Derived.ChangeKeysEq
import Derived.Defers
import Derived.Laws.BytesString
import Derived.RangeFuncNested
import Derived.RangeFuncBound
import Derived.RangeFuncCalls
import Derived.RangeFuncLeaves
import Derived.OrdersIn
import Derived.LoopNIn
import Derived.ArgAppend
import Derived.Test.YthfifeabomdlpaaProg
import Derived.ProofKit
import Derived.OpenShut
import Derived.ChangeOld
import Derived.Deep.Slices
import Derived.Lib.SmallJoins
import Derived.JoinedOf
import Derived.JoinedAt
import Derived.Below
import Derived.Test.YthfifeabomdlpaaRows
import Derived.Test.YthfifeabomdlpaaMBlockJoins3
namespace Go.Proofs.Ythfifeabomdlpaa
open Go.RowKit
set_option linter.unusedVariables false

def anc_block_Profile_0 : List (List Nat) := [[], [0], [], [0, 1, 2], [], [4], [], [4, 5, 6], [0, 1, 2, 3, 4, 5, 6, 7], [], [0, 1, 2, 3, 4, 5, 6, 7, 8, 9]]
noncomputable def block_Profile_l1 (z49 : Int) (p0 : api_Grid) (p1 : api_Grid) (s61 : Int) (p2 : api_Grid) : (Int × List Bool) → Option ((Int × List Bool) ⊕ ((api_Grid × Int) ⊕ (List Bool))) := fun s0 => match s0 with
  | (s81, s82) =>
    if decide (s81 < z49) then
      Option.bind (F_block_part p0 p1.W p1.H s81 s61) fun r97 =>
      Option.bind (F_grid_Same r97 p1) fun r106 =>
      Option.bind (α := Bool) (
        if !r106 then
          Option.bind (F_grid_Same r97 p2) fun r113 =>
          some (!r113)
        else
          some false) fun o109 =>
      if o109 then
        some (.inr (.inl ((api_Grid.mk 0 0 ([] : (List Bool))), 6)))
      else
        Option.bind (appO s82 [r106]) fun l119 =>
        some (.inl (w64 (s81 + 1), l119))
    else
      some (.inr (.inr s82))
noncomputable def block_Profile_l2 (z51 : Int) (z49 : Int) (p0 : api_Grid) (p1 : api_Grid) (p2 : api_Grid) : (Int × List Bool) → Option ((Int × List Bool) ⊕ ((api_Grid × Int) ⊕ (List Bool))) := fun s0 => match s0 with
  | (s61, s62) =>
    if decide (s61 < z51) then
      Option.bind (α := List Bool ⊕ (api_Grid × Int)) (
        Option.bind (whileO (block_Profile_l1 z49 p0 p1 s61 p2) (0, s62)) fun z0 => match z0 with
          | .inl z =>
            some (.inr z)
          | .inr e88 =>
            some (.inl e88)) fun z0 => match z0 with
        | .inl o74 =>
          some (.inl (w64 (s61 + 1), o74))
        | .inr z =>
          some (.inr (.inl z))
    else
      some (.inr (.inr s62))
noncomputable def F_block_Profile (p0 : api_Grid) (p1 : api_Grid) (p2 : api_Grid) : Option (api_Grid × Int) :=
  Option.bind (F_block_checked [p0, p1, p2]) fun r22 =>
  if r22 != 0 then
    some ((api_Grid.mk 0 0 ([] : (List Bool))), r22)
  else
    Option.bind (α := Bool) (
      Option.bind (F_block_alike p1 p2) fun r32 =>
      if !r32 then
        some true
      else
        Option.bind (remI p0.W p1.W) fun z35 =>
        if z35 != 0 then
          some true
        else
          Option.bind (remI p0.H p1.H) fun z38 =>
          some (z38 != 0)) fun o29 =>
    if o29 then
      some ((api_Grid.mk 0 0 ([] : (List Bool))), 26)
    else
      Option.bind (F_grid_Same p1 p2) fun r44 =>
      if r44 then
        some ((api_Grid.mk 0 0 ([] : (List Bool))), 14)
      else
        Option.bind (quoI p0.W p1.W) fun z49 =>
        Option.bind (quoI p0.H p1.H) fun z51 =>
        Option.bind (α := List Bool ⊕ (api_Grid × Int)) (
          Option.bind (whileO (block_Profile_l2 z51 z49 p0 p1 p2) (0, ([] : List Bool))) fun z0 => match z0 with
            | .inl z =>
              some (.inr z)
            | .inr e68 =>
              some (.inl e68)) fun z0 => match z0 with
          | .inl o55 =>
            some ((api_Grid.mk z49 z51 o55), 0)
          | .inr z =>
            some z
def c_block_Profile_val (r : (api_Grid × Int)) (x : Value) : Value := .tuple #[x, .int .i64 r.2]
def c_block_Profile_D (r : (api_Grid × Int)) (x : Value) : List Fact := [fRep r_api_Grid x r.1]
set_option maxHeartbeats 4000000 in
set_option maxRecDepth 100000 in
theorem c_block_Profile (E : Nat → Prop) (w0 : World) (p0 : api_Grid) (v0 : Value) (p1 : api_Grid) (v1 : Value) (p2 : api_Grid) (v2 : Value) (r : (api_Grid × Int)) (h : F_block_Profile p0 p1 p2 = some r) (S : St0 E [] w0 w0 [] [fRep r_api_Grid (v0) p0, fRep r_api_Grid (v1) p1, fRep r_api_Grid (v2) p2]) :
    Calls Try.prog 15 #[v0, v1, v2] w0 (Ret (X := Value) E [] w0 (c_block_Profile_val r) (fun _ => []) (c_block_Profile_D r)) := by
  unfold F_block_Profile at h
  obtain ⟨u1, rfl, hu2⟩ := S.know (i := 0) (e := fRep r_api_Grid (v0) p0) rfl
  have S := S.learn (fRep (rL rB) u1 p0.Bits) hu2
  obtain ⟨ad3, cp4, _, rfl, _⟩ := hu2
  obtain ⟨u5, rfl, hu6⟩ := S.know (i := 2) (e := fRep r_api_Grid (v1) p1) rfl
  have S := S.learn (fRep (rL rB) u5 p1.Bits) hu6
  obtain ⟨ad7, cp8, _, rfl, _⟩ := hu6
  obtain ⟨u9, rfl, hu10⟩ := S.know (i := 4) (e := fRep r_api_Grid (v2) p2) rfl
  have S := S.learn (fRep (rL rB) u9 p2.Bits) hu10
  obtain ⟨ad11, cp12, _, rfl, _⟩ := hu10
  refine sEnter (args := [.agg #[iv p0.W, iv p0.H, .slice ad3 p0.Bits.length cp4], .agg #[iv p1.W, iv p1.H, .slice ad7 p1.Bits.length cp8], .agg #[iv p2.W, iv p2.H, .slice ad11 p2.Bits.length cp12]]) 98 Try.func15 rfl rfl (by simp) S (fun a S => ?_)
  refine sSeq (fun K13 hK13 => ?_)
  refine sRegion ?_
  refine sBox (v := .agg #[iv p0.W, iv p0.H, .slice ad3 p0.Bits.length cp4]) S (wN rfl) rfl rfl [iv p0.W, iv p0.H, .slice ad3 p0.Bits.length cp4] rfl rfl (lb rfl) fun a b14 w S => ?_
  refine sBox (v := .agg #[iv p1.W, iv p1.H, .slice ad7 p1.Bits.length cp8]) S (wN rfl) rfl rfl [iv p1.W, iv p1.H, .slice ad7 p1.Bits.length cp8] rfl rfl (lb rfl) fun a b15 w S => ?_
  refine sBox (v := .agg #[iv p2.W, iv p2.H, .slice ad11 p2.Bits.length cp12]) S (wN rfl) rfl rfl [iv p2.W, iv p2.H, .slice ad11 p2.Bits.length cp12] rfl rfl (lb rfl) fun a b16 w S => ?_
  refine sAlloc (.agg #[iv 0, iv 0, .slice none 0 0]) S (wN rfl) rfl rfl [iv 0, iv 0, .slice none 0 0] rfl rfl (lb rfl) fun a b17 w S => ?_
  refine sMove (iv 0) S (wN rfl) (.inr rfl) rfl rfl (lb rfl) fun a S => ?_
  refine leafL (leafT (hK13 _ _ ?_))
  refine sSeq (fun K18 hK18 => ?_)
  refine sSeq (fun K19 hK19 => ?_)
  refine sRegion ?_
  refine sLoadN (p := b14) (off := 0) (T := 24) (vs := [iv p0.W, iv p0.H, .slice ad3 p0.Bits.length cp4]) 3 [iv p0.W, iv p0.H, .slice ad3 p0.Bits.length cp4] S (wN rfl) rfl rfl rfl rfl rfl rfl rfl (lb rfl) fun a S => ?_
  refine sLoadN (p := b15) (off := 0) (T := 24) (vs := [iv p1.W, iv p1.H, .slice ad7 p1.Bits.length cp8]) 2 [iv p1.W, iv p1.H, .slice ad7 p1.Bits.length cp8] S (wN rfl) rfl rfl rfl rfl rfl rfl rfl (lb rfl) fun a S => ?_
  refine sLoadN (p := b16) (off := 0) (T := 24) (vs := [iv p2.W, iv p2.H, .slice ad11 p2.Bits.length cp12]) 1 [iv p2.W, iv p2.H, .slice ad11 p2.Bits.length cp12] S (wN rfl) rfl rfl rfl rfl rfl rfl rfl (lb rfl) fun a S => ?_
  refine sLit (r := r_api_Grid) (T := 24) (xs := [p0, p1, p2]) [(0, .agg #[iv p0.W, iv p0.H, .slice ad3 p0.Bits.length cp4]), (1, .agg #[iv p1.W, iv p1.H, .slice ad7 p1.Bits.length cp8]), (2, .agg #[iv p2.W, iv p2.H, .slice ad11 p2.Bits.length cp12])] 3 [.agg #[iv p0.W, iv p0.H, .slice ad3 p0.Bits.length cp4], .agg #[iv p1.W, iv p1.H, .slice ad7 p1.Bits.length cp8], .agg #[iv p2.W, iv p2.H, .slice ad11 p2.Bits.length cp12]] [iv p0.W, iv p0.H, .slice ad3 p0.Bits.length cp4, iv p1.W, iv p1.H, .slice ad7 p1.Bits.length cp8, iv p2.W, iv p2.H, .slice ad11 p2.Bits.length cp12] (.agg #[iv 0, iv 0, .slice none 0 0]) 40 S (wN rfl) rfl rfl Try.underlying34 rfl (by decide) (by decide) (by kernel_rfl) rfl (fun E1 w1 hE => All.cons (r_api_Grid.mono hE (S.mem.know (i := 3) (e := fRep r_api_Grid (.agg #[iv p0.W, iv p0.H, .slice ad3 p0.Bits.length cp4]) p0) rfl)) (All.cons (r_api_Grid.mono hE (S.mem.know (i := 4) (e := fRep r_api_Grid (.agg #[iv p1.W, iv p1.H, .slice ad7 p1.Bits.length cp8]) p1) rfl)) (All.cons (r_api_Grid.mono hE (S.mem.know (i := 5) (e := fRep r_api_Grid (.agg #[iv p2.W, iv p2.H, .slice ad11 p2.Bits.length cp12]) p2) rfl)) (All.nil _ _ _)))) rfl rfl (lb rfl) fun a w ad20 cp21 S => ?_
  obtain ⟨r22, hx23, h⟩ := bindSome h
  have S1 := S.mem
  have S1 := S1.shutR (r := r_api_Grid) (T := 24) (v := .slice ad20 [p0, p1, p2].length cp21) (xs := [p0, p1, p2]) 0 rfl
  refine sCallQ (X := Unit) (f := 41) (vs := [.slice ad20 [p0, p1, p2].length cp21]) (val := fun _ => iv r22) S (wN rfl) rfl callee41 rfl (S1.quiet [0] rfl) (fun E1 w1 S1 => c_block_checked E1 w1 [p0, p1, p2] (.slice ad20 [p0, p1, p2].length cp21) r22 hx23 S1) rfl (lb rfl) fun _ a w S => ?_
  refine sMove (iv r22) S (wN rfl) (.inr rfl) rfl rfl (lb rfl) fun a S => ?_
  refine leafL (leafT (hK19 _ _ ?_))
  refine sSeq (fun K24 hK24 => ?_)
  refine sRegion ?_
  refine sMove (iv r22) S (wN rfl) (.inl rfl) rfl rfl (lb rfl) fun a S => ?_
  refine sBin (.bool (r22 != 0)) S (wN rfl) rfl rfl rfl (bNe _ _ _ _ .i64 r22 0) rfl (lb rfl) fun a S => ?_
  refine leafL (leafT (hK24 _ _ ?_))
  rcases iteSome h with ⟨hc25, h⟩ | ⟨hc25, h⟩
  · refine sCondT S rfl hc25 ?_
    refine sSeq (fun K26 hK26 => ?_)
    refine sRegion ?_
    refine sBuild [] [iv 0, iv 0, .slice none 0 0] S (wN rfl) rfl rfl rfl rfl (lb rfl) fun a S => ?_
    refine sMove (iv r22) S (wN rfl) (.inl rfl) rfl rfl (lb rfl) fun a S => ?_
    refine sStore (p := b17) (off := 0) (T := 24) (vs := [iv 0, iv 0, .slice none 0 0]) (v := .agg #[iv 0, iv 0, .slice none 0 0]) 1 [iv 0, iv 0, .slice none 0 0] S (wN rfl) rfl rfl rfl rfl rfl rfl rfl (by simp) rfl fun a w S => ?_
    refine sMove (iv r22) S (wN rfl) (.inr rfl) rfl rfl (lb rfl) fun a S => ?_
    refine leafL (leafT (hK26 _ _ ?_))
    obtain rfl := Option.some.inj h
    have S := S.learn (fRep (rL rB) (.slice none 0 0) ([] : (List Bool))) (rL_nil _ _ _)
    have S := S.learn (fRep r_api_Grid (.agg #[iv 0, iv 0, .slice none 0 0]) (api_Grid.mk 0 0 ([] : (List Bool)))) ⟨_, rfl, S.mem.know (i := 0) (e := fRep (rL rB) (.slice none 0 0) ([] : (List Bool))) rfl⟩
    exact wp_ret (rThen (sRet (.tuple #[.agg #[iv 0, iv 0, .slice none 0 0], iv r22]) S (rsl2 rfl (rvN (c := 6) (t := 24) (T := 24) (p := b17) 0 [iv 0, iv 0, .slice none 0 0] S rfl rfl rfl rfl) (rvT (t := 7) (v := iv r22) S rfl)) ⟨(.agg #[iv 0, iv 0, .slice none 0 0]), rfl, S.mem.sel [] [0] (by decide) rfl rfl⟩))
  refine sCondF S rfl hc25 ?_
  refine wp_skip (leafT (hK18 _ _ ?_))
  refine sSeq (fun K27 hK27 => ?_)
  refine sDraw (nf := []) (W := [(0, 25, .pointer (some ⟨b15, 0, none⟩)), (1, 26, iv p1.W), (2, 27, .pointer (some ⟨b15, 1, none⟩)), (3, 28, iv p1.H), (4, 9, iv p1.W), (5, 10, iv p1.H)]) rfl S ?_
  refine node_by (A := [[], [0], [], [2], [0, 1], [0, 1, 2, 3, 4]]) (nf := []) (Y := []) (W := [(0, 25, .pointer (some ⟨b15, 0, none⟩)), (1, 26, iv p1.W), (2, 27, .pointer (some ⟨b15, 1, none⟩)), (3, 28, iv p1.H), (4, 9, iv p1.W), (5, 10, iv p1.H)]) 6 (by kernel_rfl) (by kernel_rfl) (by kernel_rfl) (by kernel_rfl) (by kernel_rfl) [0, 1, 2, 3, 4, 5] (by kernel_rfl) (by decide) (by decide) (aF 0 5 (by decide) ?_ (aF 1 4 (by decide) ?_ (aF 2 3 (by decide) ?_ (aF 3 2 (by decide) ?_ (aF 4 1 (by decide) ?_ (aF 5 0 (by decide) ?_ (trivial))))))) [(3, .pointer (some ⟨b14, 0, none⟩)), (4, .pointer (some ⟨b15, 0, none⟩)), (5, .pointer (some ⟨b16, 0, none⟩)), (6, .pointer (some ⟨b17, 0, none⟩)), (9, iv p1.W), (10, iv p1.H)] (fin_of [none, none, none, none, some 4, some 5] rfl (by kernel_rfl) (by kernel_rfl)) (fun _ a w S => ?_)
  · refine fI 25 (.pointer (some ⟨b15, 0, none⟩)) [(4, .pointer (some ⟨b15, 0, none⟩))] 0 [none] rfl rfl rfl rfl rfl rfl fun G a w S => ?_
    refine sField (b := b15) (off := 0) 0 0 S (wN rfl) rfl rfl rfl rfl rfl (lb rfl) fun a S => ?_
    exact leafL ⟨rfl, S⟩
  · refine fI 26 (iv p1.W) [(25, .pointer (some ⟨b15, 0, none⟩))] 1 [some 0] rfl rfl rfl rfl rfl rfl fun G a w S => ?_
    refine sLoad1 (p := b15) (off := 0) (T := 24) (vs := [iv p1.W, iv p1.H, .slice ad7 p1.Bits.length cp8]) 3 (iv p1.W) S (wN rfl) rfl rfl rfl rfl rfl rfl (lb rfl) fun a S => ?_
    exact leafL ⟨rfl, S⟩
  · refine fI 27 (.pointer (some ⟨b15, 1, none⟩)) [(4, .pointer (some ⟨b15, 0, none⟩))] 2 [none] rfl rfl rfl rfl rfl rfl fun G a w S => ?_
    refine sField (b := b15) (off := 0) 1 1 S (wN rfl) rfl rfl rfl rfl rfl (lb rfl) fun a S => ?_
    exact leafL ⟨rfl, S⟩
  · refine fI 28 (iv p1.H) [(27, .pointer (some ⟨b15, 1, none⟩))] 3 [some 2] rfl rfl rfl rfl rfl rfl fun G a w S => ?_
    refine sLoad1 (p := b15) (off := 1) (T := 24) (vs := [iv p1.W, iv p1.H, .slice ad7 p1.Bits.length cp8]) 3 (iv p1.H) S (wN rfl) rfl rfl rfl rfl rfl rfl (lb rfl) fun a S => ?_
    exact leafL ⟨rfl, S⟩
  · refine fI 9 (iv p1.W) [(26, iv p1.W)] 4 [some 1] rfl rfl rfl rfl rfl rfl fun G a w S => ?_
    refine sMove (iv p1.W) S (wN rfl) (.inr rfl) rfl rfl (lb rfl) fun a S => ?_
    exact leafL ⟨rfl, S⟩
  · refine fI 10 (iv p1.H) [(28, iv p1.H)] 5 [some 3] rfl rfl rfl rfl rfl rfl fun G a w S => ?_
    refine sMove (iv p1.H) S (wN rfl) (.inr rfl) rfl rfl (lb rfl) fun a S => ?_
    exact leafL ⟨rfl, S⟩
  refine leafT (hK27 _ _ ?_)
  refine sSeq (fun K28 hK28 => ?_)
  obtain ⟨t30, h, g31⟩ := bindSome h
  refine sCut (fun a w => ∃ o29, o29 = t30 ∧ St [] E [] w0 98 a w [(3, .pointer (some ⟨b14, 0, none⟩)), (4, .pointer (some ⟨b15, 0, none⟩)), (5, .pointer (some ⟨b16, 0, none⟩)), (6, .pointer (some ⟨b17, 0, none⟩)), (9, iv p1.W), (10, iv p1.H), (46, .bool o29)] [eBox b14 24 [iv p0.W, iv p0.H, .slice ad3 p0.Bits.length cp4], eBox b15 24 [iv p1.W, iv p1.H, .slice ad7 p1.Bits.length cp8], eBox b16 24 [iv p2.W, iv p2.H, .slice ad11 p2.Bits.length cp12], eBox b17 24 [iv 0, iv 0, .slice none 0 0]] [fRep (rL rB) (.slice ad3 p0.Bits.length cp4) p0.Bits, fRep (rL rB) (.slice ad7 p1.Bits.length cp8) p1.Bits, fRep (rL rB) (.slice ad11 p2.Bits.length cp12) p2.Bits]) ?_ (fun a w hI => ?_)
  · refine sRegion ?_
    refine sLoadN (p := b15) (off := 0) (T := 24) (vs := [iv p1.W, iv p1.H, .slice ad7 p1.Bits.length cp8]) 3 [iv p1.W, iv p1.H, .slice ad7 p1.Bits.length cp8] S (wN rfl) rfl rfl rfl rfl rfl rfl rfl (lb rfl) fun a S => ?_
    refine sLoadN (p := b16) (off := 0) (T := 24) (vs := [iv p2.W, iv p2.H, .slice ad11 p2.Bits.length cp12]) 2 [iv p2.W, iv p2.H, .slice ad11 p2.Bits.length cp12] S (wN rfl) rfl rfl rfl rfl rfl rfl rfl (lb rfl) fun a S => ?_
    obtain ⟨r32, hx33, h⟩ := bindSome h
    have S1 := S.mem
    refine sCallQ (X := Unit) (f := 42) (vs := [.agg #[iv p1.W, iv p1.H, .slice ad7 p1.Bits.length cp8], .agg #[iv p2.W, iv p2.H, .slice ad11 p2.Bits.length cp12]]) (val := fun _ => .bool r32) S (wN rfl) rfl callee42 rfl (S1.quiet [4, 5] rfl) (fun E1 w1 S1 => c_block_alike E1 w1 p1 (.agg #[iv p1.W, iv p1.H, .slice ad7 p1.Bits.length cp8]) p2 (.agg #[iv p2.W, iv p2.H, .slice ad11 p2.Bits.length cp12]) r32 hx33 S1) rfl (lb rfl) fun _ a w S => ?_
    refine sNot (b := r32) S (wN rfl) rfl rfl rfl (lb rfl) fun a S => ?_
    refine sMove (.bool (!r32)) S (wN rfl) (.inl rfl) rfl rfl (lb rfl) fun a S => ?_
    rcases iteSome h with ⟨hc34, h⟩ | ⟨hc34, h⟩
    · refine sSkip 4 false 33 34 S rfl rfl rfl hc34 rfl (lb rfl) fun a S => ?_
      refine sSkip 4 false 33 35 S rfl rfl rfl hc34 rfl (lb rfl) fun a S => ?_
      refine sSkip 4 false 33 36 S rfl rfl rfl hc34 rfl (lb rfl) fun a S => ?_
      refine sSkip 4 false 33 37 S rfl rfl rfl hc34 rfl (lb rfl) fun a S => ?_
      refine sSkip 4 false 33 38 S rfl rfl rfl hc34 rfl (lb rfl) fun a S => ?_
      refine sPickT (.bool true) S (wN rfl) rfl rfl hc34 rfl rfl (lb rfl) fun a S => ?_
      refine sMove (.bool true) S (wN rfl) (.inl rfl) rfl rfl (lb rfl) fun a S => ?_
      refine sSkip 11 false 40 41 S rfl rfl rfl rfl rfl (lb rfl) fun a S => ?_
      refine sSkip 11 false 40 42 S rfl rfl rfl rfl rfl (lb rfl) fun a S => ?_
      refine sSkip 11 false 40 43 S rfl rfl rfl rfl rfl (lb rfl) fun a S => ?_
      refine sSkip 11 false 40 44 S rfl rfl rfl rfl rfl (lb rfl) fun a S => ?_
      refine sSkip 11 false 40 45 S rfl rfl rfl rfl rfl (lb rfl) fun a S => ?_
      refine sPickT (.bool true) S (wN rfl) rfl rfl rfl rfl rfl (lb rfl) fun a S => ?_
      exact leafL (leafT (⟨true, Option.some.inj h, S.fix [4, 3, 2, 1] [2, 1, 0] (by decide) rfl rfl rfl⟩))
    refine sField (b := b14) (off := 0) 0 0 S (wG 4 false 33 rfl rfl rfl hc34) rfl rfl rfl rfl rfl (lb rfl) fun a S => ?_
    refine sLoad1 (p := b14) (off := 0) (T := 24) (vs := [iv p0.W, iv p0.H, .slice ad3 p0.Bits.length cp4]) 4 (iv p0.W) S (wG 4 false 33 rfl rfl rfl hc34) rfl rfl rfl rfl rfl rfl (lb rfl) fun a S => ?_
    refine sMove (iv p1.W) S (wG 4 false 33 rfl rfl rfl hc34) (.inl rfl) rfl rfl (lb rfl) fun a S => ?_
    obtain ⟨z35, hx36, h⟩ := bindSome h
    refine sBin (iv z35) S (wG 4 false 33 rfl rfl rfl hc34) rfl rfl rfl (bRem _ _ _ _ (x := p0.W) (y := p1.W) hx36) rfl (lb rfl) fun a S => ?_
    refine sBin (.bool (z35 != 0)) S (wG 4 false 33 rfl rfl rfl hc34) rfl rfl rfl (bNe _ _ _ _ .i64 z35 0) rfl (lb rfl) fun a S => ?_
    refine sPickF (.bool (z35 != 0)) S (wN rfl) rfl rfl hc34 rfl rfl (lb rfl) fun a S => ?_
    refine sMove (.bool (z35 != 0)) S (wN rfl) (.inl rfl) rfl rfl (lb rfl) fun a S => ?_
    rcases iteSome h with ⟨hc37, h⟩ | ⟨hc37, h⟩
    · refine sSkip 11 false 40 41 S rfl rfl rfl hc37 rfl (lb rfl) fun a S => ?_
      refine sSkip 11 false 40 42 S rfl rfl rfl hc37 rfl (lb rfl) fun a S => ?_
      refine sSkip 11 false 40 43 S rfl rfl rfl hc37 rfl (lb rfl) fun a S => ?_
      refine sSkip 11 false 40 44 S rfl rfl rfl hc37 rfl (lb rfl) fun a S => ?_
      refine sSkip 11 false 40 45 S rfl rfl rfl hc37 rfl (lb rfl) fun a S => ?_
      refine sPickT (.bool true) S (wN rfl) rfl rfl hc37 rfl rfl (lb rfl) fun a S => ?_
      exact leafL (leafT (⟨true, Option.some.inj h, S.fix [4, 3, 2, 1] [2, 1, 0] (by decide) rfl rfl rfl⟩))
    refine sField (b := b14) (off := 0) 1 1 S (wG 11 false 40 rfl rfl rfl hc37) rfl rfl rfl rfl rfl (lb rfl) fun a S => ?_
    refine sLoad1 (p := b14) (off := 1) (T := 24) (vs := [iv p0.W, iv p0.H, .slice ad3 p0.Bits.length cp4]) 4 (iv p0.H) S (wG 11 false 40 rfl rfl rfl hc37) rfl rfl rfl rfl rfl rfl (lb rfl) fun a S => ?_
    refine sMove (iv p1.H) S (wG 11 false 40 rfl rfl rfl hc37) (.inl rfl) rfl rfl (lb rfl) fun a S => ?_
    obtain ⟨z38, hx39, h⟩ := bindSome h
    refine sBin (iv z38) S (wG 11 false 40 rfl rfl rfl hc37) rfl rfl rfl (bRem _ _ _ _ (x := p0.H) (y := p1.H) hx39) rfl (lb rfl) fun a S => ?_
    refine sBin (.bool (z38 != 0)) S (wG 11 false 40 rfl rfl rfl hc37) rfl rfl rfl (bNe _ _ _ _ .i64 z38 0) rfl (lb rfl) fun a S => ?_
    refine sPickF (.bool (z38 != 0)) S (wN rfl) rfl rfl hc37 rfl rfl (lb rfl) fun a S => ?_
    exact leafL (leafT (⟨z38 != 0, Option.some.inj h, S.fix [4, 3, 2, 1] [2, 1, 0] (by decide) rfl rfl rfl⟩))
  obtain ⟨o29, rfl, S⟩ := hI
  have h := g31
  clear g31
  try dsimp only at h
  rcases iteSome h with ⟨hc40, h⟩ | ⟨hc40, h⟩
  · refine sCondT S rfl hc40 ?_
    refine sSeq (fun K41 hK41 => ?_)
    refine sRegion ?_
    refine sBuild [] [iv 0, iv 0, .slice none 0 0] S (wN rfl) rfl rfl rfl rfl (lb rfl) fun a S => ?_
    refine sStore (p := b17) (off := 0) (T := 24) (vs := [iv 0, iv 0, .slice none 0 0]) (v := .agg #[iv 0, iv 0, .slice none 0 0]) 3 [iv 0, iv 0, .slice none 0 0] S (wN rfl) rfl rfl rfl rfl rfl rfl rfl (by simp) rfl fun a w S => ?_
    refine sMove (iv 26) S (wN rfl) (.inr rfl) rfl rfl (lb rfl) fun a S => ?_
    refine leafL (leafT (hK41 _ _ ?_))
    obtain rfl := Option.some.inj h
    have S := S.learn (fRep (rL rB) (.slice none 0 0) ([] : (List Bool))) (rL_nil _ _ _)
    have S := S.learn (fRep r_api_Grid (.agg #[iv 0, iv 0, .slice none 0 0]) (api_Grid.mk 0 0 ([] : (List Bool)))) ⟨_, rfl, S.mem.know (i := 0) (e := fRep (rL rB) (.slice none 0 0) ([] : (List Bool))) rfl⟩
    exact wp_ret (rThen (sRet (.tuple #[.agg #[iv 0, iv 0, .slice none 0 0], iv 26]) S (rsl2 rfl (rvN (c := 6) (t := 24) (T := 24) (p := b17) 0 [iv 0, iv 0, .slice none 0 0] S rfl rfl rfl rfl) (rvT (t := 7) (v := iv 26) S rfl)) ⟨(.agg #[iv 0, iv 0, .slice none 0 0]), rfl, S.mem.sel [] [0] (by decide) rfl rfl⟩))
  refine sCondF S rfl hc40 ?_
  refine wp_skip (leafT (hK28 _ _ ?_))
  refine sSeq (fun K42 hK42 => ?_)
  refine sSeq (fun K43 hK43 => ?_)
  refine sRegion ?_
  refine sLoadN (p := b15) (off := 0) (T := 24) (vs := [iv p1.W, iv p1.H, .slice ad7 p1.Bits.length cp8]) 1 [iv p1.W, iv p1.H, .slice ad7 p1.Bits.length cp8] S (wN rfl) rfl rfl rfl rfl rfl rfl rfl (lb rfl) fun a S => ?_
  refine sLoadN (p := b16) (off := 0) (T := 24) (vs := [iv p2.W, iv p2.H, .slice ad11 p2.Bits.length cp12]) 2 [iv p2.W, iv p2.H, .slice ad11 p2.Bits.length cp12] S (wN rfl) rfl rfl rfl rfl rfl rfl rfl (lb rfl) fun a S => ?_
  obtain ⟨r44, hx45, h⟩ := bindSome h
  have S1 := S.mem
  have S1 := S1.learn (fRep r_api_Grid (.agg #[iv p1.W, iv p1.H, .slice ad7 p1.Bits.length cp8]) p1) ⟨_, rfl, S1.know (i := 1) (e := fRep (rL rB) (.slice ad7 p1.Bits.length cp8) p1.Bits) rfl⟩
  have S1 := S1.learn (fRep r_api_Grid (.agg #[iv p2.W, iv p2.H, .slice ad11 p2.Bits.length cp12]) p2) ⟨_, rfl, S1.know (i := 3) (e := fRep (rL rB) (.slice ad11 p2.Bits.length cp12) p2.Bits) rfl⟩
  refine sCallQ (X := Unit) (f := 48) (vs := [.agg #[iv p1.W, iv p1.H, .slice ad7 p1.Bits.length cp8], .agg #[iv p2.W, iv p2.H, .slice ad11 p2.Bits.length cp12]]) (val := fun _ => .bool r44) S (wN rfl) rfl callee48 rfl (S1.quiet [1, 0] rfl) (fun E1 w1 S1 => c_grid_Same E1 w1 p1 (.agg #[iv p1.W, iv p1.H, .slice ad7 p1.Bits.length cp8]) p2 (.agg #[iv p2.W, iv p2.H, .slice ad11 p2.Bits.length cp12]) r44 hx45 S1) rfl (lb rfl) fun _ a w S => ?_
  refine leafL (leafT (hK43 _ _ ?_))
  rcases iteSome h with ⟨hc46, h⟩ | ⟨hc46, h⟩
  · refine sCondT S rfl hc46 ?_
    refine sSeq (fun K47 hK47 => ?_)
    refine sRegion ?_
    refine sBuild [] [iv 0, iv 0, .slice none 0 0] S (wN rfl) rfl rfl rfl rfl (lb rfl) fun a S => ?_
    refine sStore (p := b17) (off := 0) (T := 24) (vs := [iv 0, iv 0, .slice none 0 0]) (v := .agg #[iv 0, iv 0, .slice none 0 0]) 3 [iv 0, iv 0, .slice none 0 0] S (wN rfl) rfl rfl rfl rfl rfl rfl rfl (by simp) rfl fun a w S => ?_
    refine sMove (iv 14) S (wN rfl) (.inr rfl) rfl rfl (lb rfl) fun a S => ?_
    refine leafL (leafT (hK47 _ _ ?_))
    obtain rfl := Option.some.inj h
    have S := S.learn (fRep (rL rB) (.slice none 0 0) ([] : (List Bool))) (rL_nil _ _ _)
    have S := S.learn (fRep r_api_Grid (.agg #[iv 0, iv 0, .slice none 0 0]) (api_Grid.mk 0 0 ([] : (List Bool)))) ⟨_, rfl, S.mem.know (i := 0) (e := fRep (rL rB) (.slice none 0 0) ([] : (List Bool))) rfl⟩
    exact wp_ret (rThen (sRet (.tuple #[.agg #[iv 0, iv 0, .slice none 0 0], iv 14]) S (rsl2 rfl (rvN (c := 6) (t := 24) (T := 24) (p := b17) 0 [iv 0, iv 0, .slice none 0 0] S rfl rfl rfl rfl) (rvT (t := 7) (v := iv 14) S rfl)) ⟨(.agg #[iv 0, iv 0, .slice none 0 0]), rfl, S.mem.sel [] [0] (by decide) rfl rfl⟩))
  refine sCondF S rfl hc46 ?_
  refine wp_skip (leafT (hK42 _ _ ?_))
  refine sSeq (fun K48 hK48 => ?_)
  obtain ⟨z49, hx50, h⟩ := bindSome h
  obtain ⟨z51, hx52, h⟩ := bindSome h
  refine sDraw (nf := [9, 10]) (W := [(0, 52, .pointer (some ⟨b14, 0, none⟩)), (1, 53, iv p0.W), (2, 54, iv p1.W), (3, 55, iv z49), (4, 56, .pointer (some ⟨b14, 1, none⟩)), (5, 57, iv p0.H), (6, 58, iv p1.H), (7, 59, iv z51), (8, 60, .agg #[iv z49, iv z51, .slice none 0 0])]) rfl S ?_
  refine node_by (A := anc_block_Profile_0) (nf := [9, 10]) (Y := []) (W := [(0, 52, .pointer (some ⟨b14, 0, none⟩)), (1, 53, iv p0.W), (2, 54, iv p1.W), (3, 55, iv z49), (4, 56, .pointer (some ⟨b14, 1, none⟩)), (5, 57, iv p0.H), (6, 58, iv p1.H), (7, 59, iv z51), (8, 60, .agg #[iv z49, iv z51, .slice none 0 0])]) 11 (by kernel_rfl) (by kernel_rfl) (by kernel_rfl) (by kernel_rfl) (by kernel_rfl) [0, 1, 2, 3, 4, 5, 6, 7, 8] (by kernel_rfl) (by decide) (by decide) (aF 0 10 (by decide) ?_ (aF 1 9 (by decide) ?_ (aF 2 8 (by decide) ?_ (aF 3 7 (by decide) ?_ (aF 4 6 (by decide) ?_ (aF 5 5 (by decide) ?_ (aF 6 4 (by decide) ?_ (aF 7 3 (by decide) ?_ (aF 8 2 (by decide) ?_ (aN 9 1 (by decide) ?_ (aB 10 0 9 (by decide) (trivial)))))))))))) [] (fun q hq => by cases hq) (fun hY => absurd (hY 9 (by decide)) (by decide))
  · refine fI 52 (.pointer (some ⟨b14, 0, none⟩)) [(3, .pointer (some ⟨b14, 0, none⟩))] 0 [none] rfl rfl rfl rfl rfl rfl fun G a w S => ?_
    refine sField (b := b14) (off := 0) 0 0 S (wN rfl) rfl rfl rfl rfl rfl (lb rfl) fun a S => ?_
    exact leafL ⟨rfl, S⟩
  · refine fI 53 (iv p0.W) [(52, .pointer (some ⟨b14, 0, none⟩))] 1 [some 0] rfl rfl rfl rfl rfl rfl fun G a w S => ?_
    refine sLoad1 (p := b14) (off := 0) (T := 24) (vs := [iv p0.W, iv p0.H, .slice ad3 p0.Bits.length cp4]) 0 (iv p0.W) S (wN rfl) rfl rfl rfl rfl rfl rfl (lb rfl) fun a S => ?_
    exact leafL ⟨rfl, S⟩
  · refine fI 54 (iv p1.W) [(9, iv p1.W)] 2 [none] rfl rfl rfl rfl rfl rfl fun G a w S => ?_
    refine sMove (iv p1.W) S (wN rfl) (.inl rfl) rfl rfl (lb rfl) fun a S => ?_
    exact leafL ⟨rfl, S⟩
  · refine fI 55 (iv z49) [(53, iv p0.W), (54, iv p1.W)] 3 [some 1, some 2] rfl rfl rfl rfl rfl rfl fun G a w S => ?_
    refine sBin (iv z49) S (wN rfl) rfl rfl rfl (bQuo _ _ _ _ (x := p0.W) (y := p1.W) hx50) rfl (lb rfl) fun a S => ?_
    exact leafL ⟨rfl, S⟩
  · refine fI 56 (.pointer (some ⟨b14, 1, none⟩)) [(3, .pointer (some ⟨b14, 0, none⟩))] 4 [none] rfl rfl rfl rfl rfl rfl fun G a w S => ?_
    refine sField (b := b14) (off := 0) 1 1 S (wN rfl) rfl rfl rfl rfl rfl (lb rfl) fun a S => ?_
    exact leafL ⟨rfl, S⟩
  · refine fI 57 (iv p0.H) [(56, .pointer (some ⟨b14, 1, none⟩))] 5 [some 4] rfl rfl rfl rfl rfl rfl fun G a w S => ?_
    refine sLoad1 (p := b14) (off := 1) (T := 24) (vs := [iv p0.W, iv p0.H, .slice ad3 p0.Bits.length cp4]) 0 (iv p0.H) S (wN rfl) rfl rfl rfl rfl rfl rfl (lb rfl) fun a S => ?_
    exact leafL ⟨rfl, S⟩
  · refine fI 58 (iv p1.H) [(10, iv p1.H)] 6 [none] rfl rfl rfl rfl rfl rfl fun G a w S => ?_
    refine sMove (iv p1.H) S (wN rfl) (.inl rfl) rfl rfl (lb rfl) fun a S => ?_
    exact leafL ⟨rfl, S⟩
  · refine fI 59 (iv z51) [(57, iv p0.H), (58, iv p1.H)] 7 [some 5, some 6] rfl rfl rfl rfl rfl rfl fun G a w S => ?_
    refine sBin (iv z51) S (wN rfl) rfl rfl rfl (bQuo _ _ _ _ (x := p0.H) (y := p1.H) hx52) rfl (lb rfl) fun a S => ?_
    exact leafL ⟨rfl, S⟩
  · refine fI 60 (.agg #[iv z49, iv z51, .slice none 0 0]) [(55, iv z49), (59, iv z51)] 8 [some 3, some 7] rfl rfl rfl rfl rfl rfl fun G a w S => ?_
    refine sBuild [(0, iv z49), (1, iv z51)] [iv z49, iv z51, .slice none 0 0] S (wN rfl) rfl rfl rfl rfl (lb rfl) fun a S => ?_
    exact leafL ⟨rfl, S⟩
  refine ⟨_, [], rfl, (srcs_of [] rfl rfl rfl), fun G a w S => ?_⟩
  refine sAlloc (.agg #[iv 0, iv 0, .slice none 0 0]) S (wN rfl) rfl rfl [iv 0, iv 0, .slice none 0 0] rfl rfl (lb rfl) fun a b54 w S => ?_
  refine leafL ⟨rfl, _, _, .inl ⟨11, (.pointer (some ⟨b54, 0, none⟩)), [], rfl, S, hz_of rfl, ?_⟩⟩
  refine node_by (A := anc_block_Profile_0) (nf := [9, 10]) (Y := [9]) 11 (by kernel_rfl) (by kernel_rfl) (by kernel_rfl) (by kernel_rfl) (by kernel_rfl) [9, 0, 1, 2, 3, 4, 5, 6, 7, 8] (by kernel_rfl) (by decide) (by decide) (aF 0 10 (by decide) ?_ (aF 1 9 (by decide) ?_ (aF 2 8 (by decide) ?_ (aF 3 7 (by decide) ?_ (aF 4 6 (by decide) ?_ (aF 5 5 (by decide) ?_ (aF 6 4 (by decide) ?_ (aF 7 3 (by decide) ?_ (aF 8 2 (by decide) ?_ (aY 9 1 (by decide) (aN 10 0 (by decide) ?_ (trivial)))))))))))) [] (fun q hq => by cases hq) (fun hY => absurd (hY 10 (by decide)) (by decide))
  · refine fI 52 (.pointer (some ⟨b14, 0, none⟩)) [(3, .pointer (some ⟨b14, 0, none⟩))] 1 [none] rfl rfl rfl rfl rfl rfl fun G a w S => ?_
    refine sField (b := b14) (off := 0) 0 0 S (wN rfl) rfl rfl rfl rfl rfl (lb rfl) fun a S => ?_
    exact leafL ⟨rfl, S⟩
  · refine fI 53 (iv p0.W) [(52, .pointer (some ⟨b14, 0, none⟩))] 2 [some 1] rfl rfl rfl rfl rfl rfl fun G a w S => ?_
    refine sLoad1 (p := b14) (off := 0) (T := 24) (vs := [iv p0.W, iv p0.H, .slice ad3 p0.Bits.length cp4]) 1 (iv p0.W) S (wN rfl) rfl rfl rfl rfl rfl rfl (lb rfl) fun a S => ?_
    exact leafL ⟨rfl, S⟩
  · refine fI 54 (iv p1.W) [(9, iv p1.W)] 3 [none] rfl rfl rfl rfl rfl rfl fun G a w S => ?_
    refine sMove (iv p1.W) S (wN rfl) (.inl rfl) rfl rfl (lb rfl) fun a S => ?_
    exact leafL ⟨rfl, S⟩
  · refine fI 55 (iv z49) [(53, iv p0.W), (54, iv p1.W)] 4 [some 2, some 3] rfl rfl rfl rfl rfl rfl fun G a w S => ?_
    refine sBin (iv z49) S (wN rfl) rfl rfl rfl (bQuo _ _ _ _ (x := p0.W) (y := p1.W) hx50) rfl (lb rfl) fun a S => ?_
    exact leafL ⟨rfl, S⟩
  · refine fI 56 (.pointer (some ⟨b14, 1, none⟩)) [(3, .pointer (some ⟨b14, 0, none⟩))] 5 [none] rfl rfl rfl rfl rfl rfl fun G a w S => ?_
    refine sField (b := b14) (off := 0) 1 1 S (wN rfl) rfl rfl rfl rfl rfl (lb rfl) fun a S => ?_
    exact leafL ⟨rfl, S⟩
  · refine fI 57 (iv p0.H) [(56, .pointer (some ⟨b14, 1, none⟩))] 6 [some 5] rfl rfl rfl rfl rfl rfl fun G a w S => ?_
    refine sLoad1 (p := b14) (off := 1) (T := 24) (vs := [iv p0.W, iv p0.H, .slice ad3 p0.Bits.length cp4]) 1 (iv p0.H) S (wN rfl) rfl rfl rfl rfl rfl rfl (lb rfl) fun a S => ?_
    exact leafL ⟨rfl, S⟩
  · refine fI 58 (iv p1.H) [(10, iv p1.H)] 7 [none] rfl rfl rfl rfl rfl rfl fun G a w S => ?_
    refine sMove (iv p1.H) S (wN rfl) (.inl rfl) rfl rfl (lb rfl) fun a S => ?_
    exact leafL ⟨rfl, S⟩
  · refine fI 59 (iv z51) [(57, iv p0.H), (58, iv p1.H)] 8 [some 6, some 7] rfl rfl rfl rfl rfl rfl fun G a w S => ?_
    refine sBin (iv z51) S (wN rfl) rfl rfl rfl (bQuo _ _ _ _ (x := p0.H) (y := p1.H) hx52) rfl (lb rfl) fun a S => ?_
    exact leafL ⟨rfl, S⟩
  · refine fI 60 (.agg #[iv z49, iv z51, .slice none 0 0]) [(55, iv z49), (59, iv z51)] 9 [some 4, some 8] rfl rfl rfl rfl rfl rfl fun G a w S => ?_
    refine sBuild [(0, iv z49), (1, iv z51)] [iv z49, iv z51, .slice none 0 0] S (wN rfl) rfl rfl rfl rfl (lb rfl) fun a S => ?_
    exact leafL ⟨rfl, S⟩
  refine ⟨_, [(11, .pointer (some ⟨b54, 0, none⟩)), (60, .agg #[iv z49, iv z51, .slice none 0 0])], rfl, (srcs_of [some 0, some 9] rfl rfl rfl), fun G a w S => ?_⟩
  refine sStore (p := b54) (off := 0) (T := 24) (vs := [iv 0, iv 0, .slice none 0 0]) (v := .agg #[iv z49, iv z51, .slice none 0 0]) 0 [iv z49, iv z51, .slice none 0 0] S (wN rfl) rfl rfl rfl rfl rfl rfl rfl (by simp) rfl fun a w S => ?_
  refine leafL ⟨rfl, _, _, .inr ⟨[], rfl, S, hz_of rfl, ?_⟩⟩
  refine node_by (A := anc_block_Profile_0) (nf := [9, 10]) (Y := [10, 9]) 11 (by kernel_rfl) (by kernel_rfl) (by kernel_rfl) (by kernel_rfl) (by kernel_rfl) [9, 0, 1, 2, 3, 4, 5, 6, 7, 8] (by kernel_rfl) (by decide) (by decide) (aD 0 10 10 (by decide) (aD 1 9 10 (by decide) (aD 2 8 10 (by decide) (aD 3 7 10 (by decide) (aD 4 6 10 (by decide) (aD 5 5 10 (by decide) (aD 6 4 10 (by decide) (aD 7 3 10 (by decide) (aD 8 2 10 (by decide) (aY 9 1 (by decide) (aY 10 0 (by decide) (trivial)))))))))))) [(3, .pointer (some ⟨b14, 0, none⟩)), (4, .pointer (some ⟨b15, 0, none⟩)), (5, .pointer (some ⟨b16, 0, none⟩)), (6, .pointer (some ⟨b17, 0, none⟩)), (9, iv p1.W), (10, iv p1.H), (11, .pointer (some ⟨b54, 0, none⟩))] (fin_of [none, none, none, none, none, none, some 0] rfl (by kernel_rfl) (by kernel_rfl)) (fun _ a w S => ?_)
  refine leafT (hK48 _ _ ?_)
  obtain ⟨t58, h, g59⟩ := bindSome h
  refine sCut (fun a w => ∃ o55, .inl o55 = t58 ∧ ∃ ad56, ∃ cp57, St [] E [] w0 98 a w [(6, .pointer (some ⟨b17, 0, none⟩)), (11, .pointer (some ⟨b54, 0, none⟩))] [eBox b17 24 [iv 0, iv 0, .slice none 0 0], eBox b54 24 [iv z49, iv z51, .slice ad56 o55.length cp57], eRow rB 4 (.slice ad56 o55.length cp57) o55] []) ?_ (fun a w hI => ?_)
  rotate_left
  · obtain ⟨o55, rfl, ad56, cp57, S⟩ := hI
    have h := g59
    clear g59
    try dsimp only at h
    refine sSeq (fun K123 hK123 => ?_)
    refine sRegion ?_
    refine sLoadN (p := b54) (off := 0) (T := 24) (vs := [iv z49, iv z51, .slice ad56 o55.length cp57]) 1 [iv z49, iv z51, .slice ad56 o55.length cp57] S (wN rfl) rfl rfl rfl rfl rfl rfl rfl (lb rfl) fun a S => ?_
    refine sStore (p := b17) (off := 0) (T := 24) (vs := [iv 0, iv 0, .slice none 0 0]) (v := .agg #[iv z49, iv z51, .slice ad56 o55.length cp57]) 0 [iv z49, iv z51, .slice ad56 o55.length cp57] S (wN rfl) rfl rfl rfl rfl rfl rfl rfl (by simp) rfl fun a w S => ?_
    refine sMove (iv 0) S (wN rfl) (.inr rfl) rfl rfl (lb rfl) fun a S => ?_
    refine leafL (leafT (hK123 _ _ ?_))
    obtain rfl := Option.some.inj h
    have S := S.shutR (r := rB) (T := 4) (v := .slice ad56 o55.length cp57) (xs := o55) 2 rfl
    have S := S.learn (fRep r_api_Grid (.agg #[iv z49, iv z51, .slice ad56 o55.length cp57]) (api_Grid.mk z49 z51 o55)) ⟨_, rfl, S.mem.know (i := 0) (e := fRep (rL rB) (.slice ad56 o55.length cp57) o55) rfl⟩
    exact wp_ret (sRet (.tuple #[.agg #[iv z49, iv z51, .slice ad56 o55.length cp57], iv 0]) S (rsl2 rfl (rvN (c := 6) (t := 24) (T := 24) (p := b17) 0 [iv z49, iv z51, .slice ad56 o55.length cp57] S rfl rfl rfl rfl) (rvT (t := 7) (v := iv 0) S rfl)) ⟨(.agg #[iv z49, iv z51, .slice ad56 o55.length cp57]), rfl, S.mem.sel [] [0] (by decide) rfl rfl⟩)
  refine sSeq (fun K60 hK60 => ?_)
  refine sRegion ?_
  refine sField (b := b54) (off := 0) 1 1 S (wN rfl) rfl rfl rfl rfl rfl (lb rfl) fun a S => ?_
  refine sLoad1 (p := b54) (off := 1) (T := 24) (vs := [iv z49, iv z51, .slice none 0 0]) 0 (iv z51) S (wN rfl) rfl rfl rfl rfl rfl rfl (lb rfl) fun a S => ?_
  refine sMove (iv 0) S (wN rfl) (.inl rfl) rfl rfl (lb rfl) fun a S => ?_
  refine leafL (leafT (hK60 _ _ ?_))
  refine wp_block ?_
  have S := S.nilRow rB 4 (α := Bool)
  obtain ⟨t67, hl, g66⟩ := bindSome h
  refine sLoop hl (fun s0 a w => match s0 with | (s61, s62) => ∃ ad63, ∃ cp64, St [] E [] w0 98 a w [(3, .pointer (some ⟨b14, 0, none⟩)), (4, .pointer (some ⟨b15, 0, none⟩)), (5, .pointer (some ⟨b16, 0, none⟩)), (6, .pointer (some ⟨b17, 0, none⟩)), (9, iv p1.W), (10, iv p1.H), (11, .pointer (some ⟨b54, 0, none⟩)), (62, iv z51), (63, iv s61)] [eBox b14 24 [iv p0.W, iv p0.H, .slice ad3 p0.Bits.length cp4], eBox b15 24 [iv p1.W, iv p1.H, .slice ad7 p1.Bits.length cp8], eBox b16 24 [iv p2.W, iv p2.H, .slice ad11 p2.Bits.length cp12], eBox b17 24 [iv 0, iv 0, .slice none 0 0], eBox b54 24 [iv z49, iv z51, .slice ad63 s62.length cp64], eRow rB 4 (.slice ad63 s62.length cp64) s62] [fRep (rL rB) (.slice ad3 p0.Bits.length cp4) p0.Bits, fRep (rL rB) (.slice ad7 p1.Bits.length cp8) p1.Bits, fRep (rL rB) (.slice ad11 p2.Bits.length cp12) p2.Bits]) ⟨none, 0, S.fix [2, 3, 4, 5, 1, 0] [0, 1, 2] (by decide) rfl rfl rfl⟩ ?_
  clear hl h
  intro s0 a w c0 hI h hu65
  obtain ⟨s61, s62⟩ := s0
  unfold block_Profile_l2 at h
  dsimp only at h hI
  obtain ⟨ad63, cp64, S⟩ := hI
  refine sSeq (fun K71 hK71 => ?_)
  refine sRegion ?_
  refine sBin (.bool (decide (s61 < z51))) S (wN rfl) rfl rfl rfl (bLt _ _ _ _ .i64 s61 z51) rfl (lb rfl) fun a S => ?_
  refine leafL (leafT (hK71 _ _ ?_))
  refine sSeq (fun K72 hK72 => ?_)
  rcases iteSome h with ⟨hc73, h⟩ | ⟨hc73, h⟩
  rotate_left
  · refine sCondF S rfl hc73 ?_
    obtain rfl := Option.some.inj h
    obtain rfl := hu65 _ rfl
    have h := g66
    clear g66
    try dsimp only at h
    exact wp_exit (xThen (xThen (xHit (leafT (⟨s62, Option.some.inj h, ad63, cp64, S.fix [3, 4, 5] [] (by decide) rfl rfl rfl⟩)))))
  refine sCondT S rfl hc73 ?_
  refine wp_skip (leafT (hK72 _ _ ?_))
  obtain ⟨t77, h, g78⟩ := bindSome h
  refine sCut (fun a w => ∃ o74, .inl o74 = t77 ∧ ∃ ad75, ∃ cp76, St [] E [] w0 98 a w [(3, .pointer (some ⟨b14, 0, none⟩)), (4, .pointer (some ⟨b15, 0, none⟩)), (5, .pointer (some ⟨b16, 0, none⟩)), (6, .pointer (some ⟨b17, 0, none⟩)), (9, iv p1.W), (10, iv p1.H), (11, .pointer (some ⟨b54, 0, none⟩)), (62, iv z51), (63, iv s61)] [eBox b14 24 [iv p0.W, iv p0.H, .slice ad3 p0.Bits.length cp4], eBox b15 24 [iv p1.W, iv p1.H, .slice ad7 p1.Bits.length cp8], eBox b16 24 [iv p2.W, iv p2.H, .slice ad11 p2.Bits.length cp12], eBox b17 24 [iv 0, iv 0, .slice none 0 0], eBox b54 24 [iv z49, iv z51, .slice ad75 o74.length cp76], eRow rB 4 (.slice ad75 o74.length cp76) o74] [fRep (rL rB) (.slice ad3 p0.Bits.length cp4) p0.Bits, fRep (rL rB) (.slice ad7 p1.Bits.length cp8) p1.Bits, fRep (rL rB) (.slice ad11 p2.Bits.length cp12) p2.Bits]) ?_ (fun a w hI => ?_)
  rotate_left
  · obtain ⟨o74, rfl, ad75, cp76, S⟩ := hI
    have h := g78
    clear g78
    try dsimp only at h
    refine sRegion ?_
    refine sBin (iv (w64 (s61 + 1))) S (wN rfl) rfl rfl rfl (bAdd _ _ _ _ s61 1) rfl (lb rfl) fun a S => ?_
    refine sMove (iv (w64 (s61 + 1))) S (wN rfl) (.inl rfl) rfl rfl (lb rfl) fun a S => ?_
    exact leafL (leafT (⟨(w64 (s61 + 1), o74), (Option.some.inj h).symm, ⟨ad75, cp76, S.fix [0, 1, 2, 3, 4, 5] [0, 1, 2] (by decide) rfl rfl rfl⟩⟩))
  refine wp_block ?_
  refine sSeq (fun K79 hK79 => ?_)
  refine sRegion ?_
  refine sMove (iv s61) S (wN rfl) (.inl rfl) rfl rfl (lb rfl) fun a S => ?_
  refine sMove (iv s61) S (wN rfl) (.inr rfl) rfl rfl (lb rfl) fun a S => ?_
  refine leafL (leafT (hK79 _ _ ?_))
  refine sSeq (fun K80 hK80 => ?_)
  refine sRegion ?_
  refine sField (b := b54) (off := 0) 0 0 S (wN rfl) rfl rfl rfl rfl rfl (lb rfl) fun a S => ?_
  refine sLoad1 (p := b54) (off := 0) (T := 24) (vs := [iv z49, iv z51, .slice ad63 s62.length cp64]) 4 (iv z49) S (wN rfl) rfl rfl rfl rfl rfl rfl (lb rfl) fun a S => ?_
  refine sMove (iv 0) S (wN rfl) (.inl rfl) rfl rfl (lb rfl) fun a S => ?_
  refine leafL (leafT (hK80 _ _ ?_))
  refine wp_block ?_
  obtain ⟨t87, hl, g86⟩ := bindSome h
  refine sLoop hl (fun s0 a w => match s0 with | (s81, s82) => ∃ ad83, ∃ cp84, St [] E [] w0 98 a w [(3, .pointer (some ⟨b14, 0, none⟩)), (4, .pointer (some ⟨b15, 0, none⟩)), (5, .pointer (some ⟨b16, 0, none⟩)), (6, .pointer (some ⟨b17, 0, none⟩)), (9, iv p1.W), (10, iv p1.H), (11, .pointer (some ⟨b54, 0, none⟩)), (12, iv s61), (62, iv z51), (63, iv s61), (67, iv z49), (68, iv s81)] [eBox b14 24 [iv p0.W, iv p0.H, .slice ad3 p0.Bits.length cp4], eBox b15 24 [iv p1.W, iv p1.H, .slice ad7 p1.Bits.length cp8], eBox b16 24 [iv p2.W, iv p2.H, .slice ad11 p2.Bits.length cp12], eBox b17 24 [iv 0, iv 0, .slice none 0 0], eBox b54 24 [iv z49, iv z51, .slice ad83 s82.length cp84], eRow rB 4 (.slice ad83 s82.length cp84) s82] [fRep (rL rB) (.slice ad3 p0.Bits.length cp4) p0.Bits, fRep (rL rB) (.slice ad7 p1.Bits.length cp8) p1.Bits, fRep (rL rB) (.slice ad11 p2.Bits.length cp12) p2.Bits]) ⟨ad63, cp64, S.fix [0, 1, 2, 3, 4, 5] [0, 1, 2] (by decide) rfl rfl rfl⟩ ?_
  clear hl h
  intro s0 a w c0 hI h hu85
  obtain ⟨s81, s82⟩ := s0
  unfold block_Profile_l1 at h
  dsimp only at h hI
  obtain ⟨ad83, cp84, S⟩ := hI
  refine sSeq (fun K91 hK91 => ?_)
  refine sRegion ?_
  refine sBin (.bool (decide (s81 < z49))) S (wN rfl) rfl rfl rfl (bLt _ _ _ _ .i64 s81 z49) rfl (lb rfl) fun a S => ?_
  refine leafL (leafT (hK91 _ _ ?_))
  refine sSeq (fun K92 hK92 => ?_)
  rcases iteSome h with ⟨hc93, h⟩ | ⟨hc93, h⟩
  rotate_left
  · refine sCondF S rfl hc93 ?_
    obtain rfl := Option.some.inj h
    obtain rfl := hu85 _ rfl
    have h := g86
    clear g86
    try dsimp only at h
    exact wp_exit (xThen (xThen (xHit (leafB (leafT (⟨s82, Option.some.inj h, ad83, cp84, S.fix [0, 1, 2, 3, 4, 5] [0, 1, 2] (by decide) rfl rfl rfl⟩))))))
  refine sCondT S rfl hc93 ?_
  refine wp_skip (leafT (hK92 _ _ ?_))
  refine sSeq (fun K94 hK94 => ?_)
  refine wp_block ?_
  refine sSeq (fun K95 hK95 => ?_)
  refine sRegion ?_
  refine sMove (iv s81) S (wN rfl) (.inl rfl) rfl rfl (lb rfl) fun a S => ?_
  refine sMove (iv s81) S (wN rfl) (.inr rfl) rfl rfl (lb rfl) fun a S => ?_
  refine leafL (leafT (hK95 _ _ ?_))
  refine sSeq (fun K96 hK96 => ?_)
  refine sRegion ?_
  refine sLoadN (p := b14) (off := 0) (T := 24) (vs := [iv p0.W, iv p0.H, .slice ad3 p0.Bits.length cp4]) 0 [iv p0.W, iv p0.H, .slice ad3 p0.Bits.length cp4] S (wN rfl) rfl rfl rfl rfl rfl rfl rfl (lb rfl) fun a S => ?_
  refine sMove (iv p1.W) S (wN rfl) (.inl rfl) rfl rfl (lb rfl) fun a S => ?_
  refine sMove (iv p1.H) S (wN rfl) (.inl rfl) rfl rfl (lb rfl) fun a S => ?_
  refine sMove (iv s81) S (wN rfl) (.inl rfl) rfl rfl (lb rfl) fun a S => ?_
  refine sMove (iv s61) S (wN rfl) (.inl rfl) rfl rfl (lb rfl) fun a S => ?_
  obtain ⟨r97, hx98, h⟩ := bindSome h
  have S := S.learn (fRep r_api_Grid (.agg #[iv p0.W, iv p0.H, .slice ad3 p0.Bits.length cp4]) p0) ⟨_, rfl, S.mem.know (i := 0) (e := fRep (rL rB) (.slice ad3 p0.Bits.length cp4) p0.Bits) rfl⟩
  refine sCall (X := Value) (f := 49) (vs := [.agg #[iv p0.W, iv p0.H, .slice ad3 p0.Bits.length cp4], iv p1.W, iv p1.H, iv s81, iv s61]) (val := c_block_part_val r97) (B' := fun _ => []) (D' := c_block_part_D r97) [] [eBox b14 24 [iv p0.W, iv p0.H, .slice ad3 p0.Bits.length cp4], eBox b15 24 [iv p1.W, iv p1.H, .slice ad7 p1.Bits.length cp8], eBox b16 24 [iv p2.W, iv p2.H, .slice ad11 p2.Bits.length cp12], eBox b17 24 [iv 0, iv 0, .slice none 0 0], eBox b54 24 [iv z49, iv z51, .slice ad83 s82.length cp84], eRow rB 4 (.slice ad83 s82.length cp84) s82] [fRep r_api_Grid (.agg #[iv p0.W, iv p0.H, .slice ad3 p0.Bits.length cp4]) p0] [0, 1, 2, 3, 4, 5] [0] S (wN rfl) rfl callee49 rfl (by decide) rfl rfl (fun E1 w1 S1 => c_block_part E1 w1 p0 (.agg #[iv p0.W, iv p0.H, .slice ad3 p0.Bits.length cp4]) p1.W p1.H s81 s61 r97 hx98 S1) rfl (lb rfl) fun u99 a w S => ?_
  obtain ⟨u100, rfl, hu101⟩ := S.mem.know (i := 0) (e := fRep r_api_Grid (u99) r97) rfl
  have S := S.learn (fRep (rL rB) u100 r97.Bits) hu101
  obtain ⟨ad102, cp103, _, rfl, _⟩ := hu101
  refine sAlloc (.agg #[iv 0, iv 0, .slice none 0 0]) S (wN rfl) rfl rfl [iv 0, iv 0, .slice none 0 0] rfl rfl (lb rfl) fun a b104 w S => ?_
  refine sStore (p := b104) (off := 0) (T := 24) (vs := [iv 0, iv 0, .slice none 0 0]) (v := .agg #[iv r97.W, iv r97.H, .slice ad102 r97.Bits.length cp103]) 0 [iv r97.W, iv r97.H, .slice ad102 r97.Bits.length cp103] S (wN rfl) rfl rfl rfl rfl rfl rfl rfl (by simp) rfl fun a w S => ?_
  refine leafL (leafT (hK96 _ _ ?_))
  refine sSeq (fun K105 hK105 => ?_)
  refine sRegion ?_
  refine sLoadN (p := b104) (off := 0) (T := 24) (vs := [iv r97.W, iv r97.H, .slice ad102 r97.Bits.length cp103]) 0 [iv r97.W, iv r97.H, .slice ad102 r97.Bits.length cp103] S (wN rfl) rfl rfl rfl rfl rfl rfl rfl (lb rfl) fun a S => ?_
  refine sLoadN (p := b15) (off := 0) (T := 24) (vs := [iv p1.W, iv p1.H, .slice ad7 p1.Bits.length cp8]) 2 [iv p1.W, iv p1.H, .slice ad7 p1.Bits.length cp8] S (wN rfl) rfl rfl rfl rfl rfl rfl rfl (lb rfl) fun a S => ?_
  obtain ⟨r106, hx107, h⟩ := bindSome h
  have S1 := S.mem
  have S1 := S1.learn (fRep r_api_Grid (.agg #[iv p1.W, iv p1.H, .slice ad7 p1.Bits.length cp8]) p1) ⟨_, rfl, S1.know (i := 4) (e := fRep (rL rB) (.slice ad7 p1.Bits.length cp8) p1.Bits) rfl⟩
  refine sCallQ (X := Unit) (f := 48) (vs := [.agg #[iv r97.W, iv r97.H, .slice ad102 r97.Bits.length cp103], .agg #[iv p1.W, iv p1.H, .slice ad7 p1.Bits.length cp8]]) (val := fun _ => .bool r106) S (wN rfl) rfl callee48 rfl (S1.quiet [2, 0] rfl) (fun E1 w1 S1 => c_grid_Same E1 w1 r97 (.agg #[iv r97.W, iv r97.H, .slice ad102 r97.Bits.length cp103]) p1 (.agg #[iv p1.W, iv p1.H, .slice ad7 p1.Bits.length cp8]) r106 hx107 S1) rfl (lb rfl) fun _ a w S => ?_
  refine sMove (.bool r106) S (wN rfl) (.inr rfl) rfl rfl (lb rfl) fun a S => ?_
  refine leafL (leafT (hK105 _ _ ?_))
  refine sSeq (fun K108 hK108 => ?_)
  obtain ⟨t110, h, g111⟩ := bindSome h
  refine sCut (fun a w => ∃ o109, o109 = t110 ∧ St [] E [] w0 98 a w [(3, .pointer (some ⟨b14, 0, none⟩)), (4, .pointer (some ⟨b15, 0, none⟩)), (5, .pointer (some ⟨b16, 0, none⟩)), (6, .pointer (some ⟨b17, 0, none⟩)), (9, iv p1.W), (10, iv p1.H), (11, .pointer (some ⟨b54, 0, none⟩)), (12, iv s61), (15, .bool r106), (62, iv z51), (63, iv s61), (67, iv z49), (68, iv s81), (87, .bool o109)] [eBox b14 24 [iv p0.W, iv p0.H, .slice ad3 p0.Bits.length cp4], eBox b15 24 [iv p1.W, iv p1.H, .slice ad7 p1.Bits.length cp8], eBox b16 24 [iv p2.W, iv p2.H, .slice ad11 p2.Bits.length cp12], eBox b17 24 [iv 0, iv 0, .slice none 0 0], eBox b54 24 [iv z49, iv z51, .slice ad83 s82.length cp84], eRow rB 4 (.slice ad83 s82.length cp84) s82] [fRep (rL rB) (.slice ad3 p0.Bits.length cp4) p0.Bits, fRep (rL rB) (.slice ad7 p1.Bits.length cp8) p1.Bits, fRep (rL rB) (.slice ad11 p2.Bits.length cp12) p2.Bits]) ?_ (fun a w hI => ?_)
  · refine sRegion ?_
    refine sMove (.bool r106) S (wN rfl) (.inl rfl) rfl rfl (lb rfl) fun a S => ?_
    refine sNot (b := r106) S (wN rfl) rfl rfl rfl (lb rfl) fun a S => ?_
    refine sMove (.bool (!r106)) S (wN rfl) (.inl rfl) rfl rfl (lb rfl) fun a S => ?_
    rcases iteSome h with ⟨hc112, h⟩ | ⟨hc112, h⟩
    rotate_left
    · refine sSkip 2 true 82 83 S rfl rfl rfl hc112 rfl (lb rfl) fun a S => ?_
      refine sSkip 2 true 82 84 S rfl rfl rfl hc112 rfl (lb rfl) fun a S => ?_
      refine sSkip 2 true 82 85 S rfl rfl rfl hc112 rfl (lb rfl) fun a S => ?_
      refine sSkip 2 true 82 86 S rfl rfl rfl hc112 rfl (lb rfl) fun a S => ?_
      refine sPickF (.bool false) S (wN rfl) rfl rfl hc112 rfl rfl (lb rfl) fun a S => ?_
      exact leafL (leafT (⟨false, Option.some.inj h, S.fix [1, 2, 3, 4, 5, 6] [3, 4, 5] (by decide) rfl rfl rfl⟩))
    refine sLoadN (p := b104) (off := 0) (T := 24) (vs := [iv r97.W, iv r97.H, .slice ad102 r97.Bits.length cp103]) 0 [iv r97.W, iv r97.H, .slice ad102 r97.Bits.length cp103] S (wG 2 true 82 rfl rfl rfl hc112) rfl rfl rfl rfl rfl rfl rfl (lb rfl) fun a S => ?_
    refine sLoadN (p := b16) (off := 0) (T := 24) (vs := [iv p2.W, iv p2.H, .slice ad11 p2.Bits.length cp12]) 3 [iv p2.W, iv p2.H, .slice ad11 p2.Bits.length cp12] S (wG 2 true 82 rfl rfl rfl hc112) rfl rfl rfl rfl rfl rfl rfl (lb rfl) fun a S => ?_
    obtain ⟨r113, hx114, h⟩ := bindSome h
    have S1 := S.mem
    have S1 := S1.learn (fRep r_api_Grid (.agg #[iv p2.W, iv p2.H, .slice ad11 p2.Bits.length cp12]) p2) ⟨_, rfl, S1.know (i := 5) (e := fRep (rL rB) (.slice ad11 p2.Bits.length cp12) p2.Bits) rfl⟩
    refine sCallQ (X := Unit) (f := 48) (vs := [.agg #[iv r97.W, iv r97.H, .slice ad102 r97.Bits.length cp103], .agg #[iv p2.W, iv p2.H, .slice ad11 p2.Bits.length cp12]]) (val := fun _ => .bool r113) S (wG 2 true 82 rfl rfl rfl hc112) rfl callee48 rfl (S1.quiet [2, 0] rfl) (fun E1 w1 S1 => c_grid_Same E1 w1 r97 (.agg #[iv r97.W, iv r97.H, .slice ad102 r97.Bits.length cp103]) p2 (.agg #[iv p2.W, iv p2.H, .slice ad11 p2.Bits.length cp12]) r113 hx114 S1) rfl (lb rfl) fun _ a w S => ?_
    refine sNot (b := r113) S (wG 2 true 82 rfl rfl rfl hc112) rfl rfl rfl (lb rfl) fun a S => ?_
    refine sPickT (.bool (!r113)) S (wN rfl) rfl rfl hc112 rfl rfl (lb rfl) fun a S => ?_
    exact leafL (leafT (⟨!r113, Option.some.inj h, S.fix [1, 2, 3, 4, 5, 6] [3, 4, 5] (by decide) rfl rfl rfl⟩))
  obtain ⟨o109, rfl, S⟩ := hI
  have h := g111
  clear g111
  try dsimp only at h
  rcases iteSome h with ⟨hc115, h⟩ | ⟨hc115, h⟩
  · refine sCondT S rfl hc115 ?_
    refine sSeq (fun K116 hK116 => ?_)
    refine sRegion ?_
    refine sBuild [] [iv 0, iv 0, .slice none 0 0] S (wN rfl) rfl rfl rfl rfl (lb rfl) fun a S => ?_
    refine sStore (p := b17) (off := 0) (T := 24) (vs := [iv 0, iv 0, .slice none 0 0]) (v := .agg #[iv 0, iv 0, .slice none 0 0]) 3 [iv 0, iv 0, .slice none 0 0] S (wN rfl) rfl rfl rfl rfl rfl rfl rfl (by simp) rfl fun a w S => ?_
    refine sMove (iv 6) S (wN rfl) (.inr rfl) rfl rfl (lb rfl) fun a S => ?_
    refine leafL (leafT (hK116 _ _ ?_))
    obtain rfl := Option.some.inj h
    obtain rfl := hu85 _ rfl
    have h := g86
    clear g86
    try dsimp only at h
    obtain rfl := Option.some.inj h
    have h := g78
    clear g78
    try dsimp only at h
    obtain rfl := Option.some.inj h
    obtain rfl := hu65 _ rfl
    have h := g66
    clear g66
    try dsimp only at h
    obtain rfl := Option.some.inj h
    have h := g59
    clear g59
    try dsimp only at h
    obtain rfl := Option.some.inj h
    have S := S.learn (fRep (rL rB) (.slice none 0 0) ([] : (List Bool))) (rL_nil _ _ _)
    have S := S.learn (fRep r_api_Grid (.agg #[iv 0, iv 0, .slice none 0 0]) (api_Grid.mk 0 0 ([] : (List Bool)))) ⟨_, rfl, S.mem.know (i := 0) (e := fRep (rL rB) (.slice none 0 0) ([] : (List Bool))) rfl⟩
    exact wp_ret (rThen (rBlock (rThen (rThen (rBlock (rBlock (rThen (rThen (rBlock (rThen (sRet (.tuple #[.agg #[iv 0, iv 0, .slice none 0 0], iv 6]) S (rsl2 rfl (rvN (c := 6) (t := 24) (T := 24) (p := b17) 0 [iv 0, iv 0, .slice none 0 0] S rfl rfl rfl rfl) (rvT (t := 7) (v := iv 6) S rfl)) ⟨(.agg #[iv 0, iv 0, .slice none 0 0]), rfl, S.mem.sel [] [0] (by decide) rfl rfl⟩)))))))))))
  refine sCondF S rfl hc115 ?_
  refine wp_skip (leafT (hK108 _ _ ?_))
  refine sRegion ?_
  refine sField (b := b54) (off := 0) 2 2 S (wN rfl) rfl rfl rfl rfl rfl (lb rfl) fun a S => ?_
  refine sLoad1 (p := b54) (off := 2) (T := 24) (vs := [iv z49, iv z51, .slice ad83 s82.length cp84]) 4 (.slice ad83 s82.length cp84) S (wN rfl) rfl rfl rfl rfl rfl rfl (lb rfl) fun a S => ?_
  refine sMove (.bool r106) S (wN rfl) (.inl rfl) rfl rfl (lb rfl) fun a S => ?_
  refine sLit (r := rB) (T := 4) (xs := [r106]) [(0, .bool r106)] 1 [.bool r106] [.bool r106] (.bool false) 1 S (wN rfl) rfl rfl Try.underlying22 rfl (by decide) (by decide) (by kernel_rfl) rfl (fun E1 w1 hE => All.cons rfl (All.nil _ _ _)) rfl rfl (lb rfl) fun a w ad117 cp118 S => ?_
  obtain ⟨l119, hx120, h⟩ := bindSome h
  refine sApp (r := rB) (T := 4) (xs := s82) (ys := [r106]) (v := .slice ad83 s82.length cp84) (u := .slice ad117 [r106].length cp118) 6 (.bool false) 1 S (wN rfl) rfl Try.underlying22 rfl rfl (by decide) rfl rfl rfl (src_R (T := 4) 0 S.mem rfl) hx120 rfl (lb rfl) fun a w ad121 cp122 S => ?_
  refine sField (b := b54) (off := 0) 2 2 S (wN rfl) rfl rfl rfl rfl rfl (lb rfl) fun a S => ?_
  refine sStore (p := b54) (off := 2) (T := 24) (vs := [iv z49, iv z51, .slice ad83 s82.length cp84]) (v := .slice ad121 l119.length cp122) 6 [.slice ad121 l119.length cp122] S (wN rfl) rfl rfl rfl rfl rfl rfl rfl (by simp) rfl fun a w S => ?_
  refine leafL (leafB (leafT (hK94 _ _ ?_)))
  refine sRegion ?_
  refine sBin (iv (w64 (s81 + 1))) S (wN rfl) rfl rfl rfl (bAdd _ _ _ _ s81 1) rfl (lb rfl) fun a S => ?_
  refine sMove (iv (w64 (s81 + 1))) S (wN rfl) (.inl rfl) rfl rfl (lb rfl) fun a S => ?_
  exact leafL (leafT (⟨(w64 (s81 + 1), l119), (Option.some.inj h).symm, ⟨ad121, cp122, S.fix [3, 4, 5, 6, 0, 1] [0, 1, 2] (by decide) rfl rfl rfl⟩⟩))

end Go.Proofs.Ythfifeabomdlpaa
namespace Go.Proofs.Ythfifeabomdlpaa
open Go.RowKit
set_option linter.unusedVariables false

end Go.Proofs.Ythfifeabomdlpaa
namespace Go.Proofs.Ythfifeabomdlpaa
open Go.RowKit
set_option linter.unusedVariables false

end Go.Proofs.Ythfifeabomdlpaa
namespace Go.Proofs.Ythfifeabomdlpaa
open Go.RowKit
set_option linter.unusedVariables false

end Go.Proofs.Ythfifeabomdlpaa
namespace Go.Proofs.Ythfifeabomdlpaa
open Go.RowKit
set_option linter.unusedVariables false

instance decGrid : DecidableEq api_Grid := fun a b => decidable_of_iff (a.W = b.W ∧ a.H = b.H ∧ a.Bits = b.Bits) (by cases a; cases b; simp)
structure Gr (g : api_Grid) (w h : Nat) : Prop where
  hw : g.W = (w : Int)
  hh : g.H = (h : Int)
  w0 : 1 ≤ w
  w1 : w ≤ 64
  h0 : 1 ≤ h
  h1 : h ≤ 64
  len : g.Bits.length = w * h
def cell (g : api_Grid) (w x y : Nat) : Bool := g.Bits.getD (y * w + x) false
theorem Gr.at {g : api_Grid} {w h : Nat} (G : Gr g w h) {x y : Nat} (hx : x < w) (hy : y < h) : idxO g.Bits (w64 ((w64 ((y : Int) * g.W)) + (x : Int))) = some (cell g w x y) := by
  have h1 : y * w + x < w * h := by
    have := Nat.mul_le_mul_right w (show y + 1 ≤ h by omega)
    rw [Nat.add_mul, Nat.one_mul, Nat.mul_comm h w] at this
    omega
  have h2 : w * h ≤ 64 * 64 := Nat.mul_le_mul G.w1 G.h1
  have e : ((y : Int) * g.W) = ((y * w : Nat) : Int) := by rw [G.hw]; simp
  have hz : w64 ((y * w : Nat) : Int) = ((y * w : Nat) : Int) := w64_of (by omega) (by omega)
  rw [e, hz, w64_of (by omega) (by omega)]
  exact idxO_of (k := y * w + x) (by omega) (by rw [G.len]; exact h1) |>.trans (by unfold cell; simp [G.len, h1])
def gerr (g : api_Grid) : Int := if 64 < g.W ∨ 64 < g.H then 4 else if g.W < 1 ∨ g.H < 1 ∨ ¬ (g.Bits.length : Int) = g.W * g.H then 8 else 0
theorem gprod {g : api_Grid} (h1 : ¬ (64 < g.W ∨ 64 < g.H)) (h2 : ¬ (g.W < 1 ∨ g.H < 1)) : w64 (g.W * g.H) = g.W * g.H := by
  have := mul_bd (u := g.W) (v := g.H) (a := 64) (b := 64) (by omega) (by omega) (by omega) (by omega)
  exact w64_of (by omega) (by omega)
theorem gcheck_eq (g : api_Grid) : F_grid_Check g = some (gerr g) ∧ F_raddleref01_Check g = some (gerr g) := by
  unfold F_grid_Check F_raddleref01_Check gerr
  by_cases c1 : 64 < g.W ∨ 64 < g.H
  · constructor
    · have : (64 : Int) < (if g.W < g.H then g.H else g.W) := by split <;> omega
      simp only [dT this, if_true, c1]
    · by_cases c2 : 64 < g.W
      · simp only [dT c2, if_true, Option.bind_some, c1]
      · simp only [dF c2, dT (show 64 < g.H by omega), Bool.false_eq_true, if_true, if_false, Option.bind_some, c1]
  · have m1 : ¬ (64 : Int) < (if g.W < g.H then g.H else g.W) := by split <;> omega
    by_cases c2 : g.W < 1 ∨ g.H < 1
    · have m2 : (if g.H < g.W then g.H else g.W) < (1 : Int) := by split <;> omega
      have c3 : g.W < 1 ∨ g.H < 1 ∨ ¬ (g.Bits.length : Int) = g.W * g.H := by omega
      simp only [dF m1, dT m2, dF (show ¬ 64 < g.W by omega), dF (show ¬ 64 < g.H by omega), Bool.false_eq_true, if_true, if_false, Option.bind_some, c1, c3, true_and]
      by_cases c4 : g.W < 1
      · simp only [dT c4, if_true, Option.bind_some]
      · simp only [dF c4, dT (show g.H < 1 by omega), Bool.false_eq_true, if_true, if_false, Option.bind_some]
    · have m2 : ¬ (if g.H < g.W then g.H else g.W) < (1 : Int) := by split <;> omega
      have c4 : ¬ g.W < 1 := by omega
      have c5 : ¬ g.H < 1 := by omega
      have hb : (if 64 < g.W ∨ 64 < g.H then (4 : Int) else if g.W < 1 ∨ g.H < 1 ∨ ¬ (g.Bits.length : Int) = g.W * g.H then 8 else 0) = if (g.Bits.length : Int) = g.W * g.H then 0 else 8 := by
        rw [if_neg c1]
        by_cases c6 : (g.Bits.length : Int) = g.W * g.H
        · rw [if_neg (by omega), if_pos c6]
        · rw [if_pos (by omega), if_neg c6]
      rw [hb]
      by_cases c6 : (g.Bits.length : Int) = g.W * g.H
      · rw [if_pos c6]
        simp only [dF m1, dF m2, dF (show ¬ 64 < g.W by omega), dF (show ¬ 64 < g.H by omega), dF c4, dF c5, gprod c1 c2, nF c6, Bool.false_eq_true, if_false, Option.bind_some, and_self]
      · rw [if_neg c6]
        simp only [dF m1, dF m2, dF (show ¬ 64 < g.W by omega), dF (show ¬ 64 < g.H by omega), dF c4, dF c5, gprod c1 c2, nT c6, Bool.false_eq_true, if_true, if_false, Option.bind_some, and_self]
theorem gerr_zero {g : api_Grid} (h : gerr g = 0) : ∃ w h, Gr g w h := by
  unfold gerr at h
  by_cases c1 : 64 < g.W ∨ 64 < g.H
  · rw [if_pos c1] at h; cases h
  rw [if_neg c1] at h
  by_cases c2 : g.W < 1 ∨ g.H < 1 ∨ ¬ (g.Bits.length : Int) = g.W * g.H
  · rw [if_pos c2] at h; cases h
  have c3 : (g.Bits.length : Int) = g.W * g.H := by omega
  refine ⟨g.W.toNat, g.H.toNat, by omega, by omega, by omega, by omega, by omega, by omega, ?_⟩
  have e1 : g.W = (g.W.toNat : Int) := by omega
  have e2 : g.H = (g.H.toNat : Int) := by omega
  rw [e1, e2, ← Int.natCast_mul] at c3
  exact Int.ofNat.inj c3
theorem gr_err {g : api_Grid} {w h : Nat} (G : Gr g w h) : gerr g = 0 := by
  have := G.w0
  have := G.w1
  have := G.h0
  have := G.h1
  unfold gerr
  rw [G.hw, G.hh, G.len, if_neg (by omega), if_neg]
  rw [Int.natCast_mul]
  omega
/-- a grid by its cells -/
def gm (f : Nat → Nat → Bool) (w h : Nat) : api_Grid := api_Grid.mk (w : Int) (h : Int) (gl f w h)
theorem gm_gr (f : Nat → Nat → Bool) {w h : Nat} (w0 : 1 ≤ w) (w1 : w ≤ 64) (h0 : 1 ≤ h) (h1 : h ≤ 64) : Gr (gm f w h) w h :=
  ⟨rfl, rfl, w0, w1, h0, h1, gl_len f w h⟩
theorem gm_cell (f : Nat → Nat → Bool) {w h x y : Nat} (hx : x < w) (hy : y < h) : cell (gm f w h) w x y = f x y := gl_get f w h false x y hx hy
theorem gm_cong {f f' : Nat → Nat → Bool} {w h : Nat} (e : ∀ x y, x < w → y < h → f x y = f' x y) : gm f w h = gm f' w h := by unfold gm; rw [gl_cong e]
theorem Gr.eq {g : api_Grid} {w h : Nat} (G : Gr g w h) : g = gm (cell g w) w h := by
  have hb : g.Bits = gl (cell g w) w h := gl_of false G.len fun x y _ _ => rfl
  have h1 := G.hw
  have h2 := G.hh
  cases g
  simp only at h1 h2 hb
  subst h1 h2
  unfold gm
  rw [← hb]
theorem rsame_grid (a b : api_Grid) (hl : a.Bits.length ≤ 9223372036854775807) : F_raddleref01_Same a b = some (decide (a = b)) := by
  by_cases h1 : a.W = b.W
  case neg => unfold F_raddleref01_Same; simp only [nT h1, if_true, Option.bind_some]; rw [decide_eq_false]; rintro rfl; exact h1 rfl
  by_cases h2 : a.H = b.H
  case neg => unfold F_raddleref01_Same; simp only [nF h1, nT h2, Bool.false_eq_true, if_false, if_true, Option.bind_some]; rw [decide_eq_false]; rintro rfl; exact h2 rfl
  by_cases h3 : (a.Bits.length : Int) = (b.Bits.length : Int)
  case neg => unfold F_raddleref01_Same; simp only [nF h1, nF h2, nT h3, Bool.false_eq_true, if_false, if_true, Option.bind_some]; rw [decide_eq_false]; rintro rfl; exact h3 rfl
  have hw : whileO (raddleref01_Same_l1 a b) 0 = some (if a.Bits = b.Bits then .inr () else .inl false) := by
    refine loop_eql a.Bits b.Bits (by omega) _ _ (fun k hk => ?_) ?_
    · unfold raddleref01_Same_l1
      simp only [dT (show (k : Int) < (a.Bits.length : Int) by omega), if_true, idxO_nat hk, idxO_nat (xs := b.Bits) (k := k) (by omega), Option.bind_some, w64_succ (show k < 9223372036854775807 by omega)]
      by_cases e : a.Bits[k] = b.Bits[k]'(by omega)
      · rw [if_pos e, e]; simp
      · rw [if_neg e, if_pos (by simpa using e)]
    · unfold raddleref01_Same_l1; simp
  unfold F_raddleref01_Same
  simp only [nF h1, nF h2, nF h3, Bool.false_eq_true, if_false, Option.bind_some, hw]
  by_cases e : a.Bits = b.Bits
  · rw [if_pos e]
    have : a = b := by cases a; cases b; simp_all
    simp [this]
  · rw [if_neg e]
    have : ¬ a = b := fun h => e (by rw [h])
    simp [this]
theorem equal_bool (a b : List Bool) (hl : a.length ≤ 9223372036854775807) : F_slices_Equal___bool_bool_ a b = some (decide (a = b)) := by
  by_cases h3 : (a.length : Int) = (b.length : Int)
  case neg => unfold F_slices_Equal___bool_bool_; simp only [nT h3, if_true]; rw [decide_eq_false]; rintro rfl; exact h3 rfl
  have hw : whileO (slices_Equal___bool_bool__l1 a b) 0 = some (if a = b then .inr () else .inl false) := by
    refine loop_eql a b (by omega) _ _ (fun k hk => ?_) ?_
    · unfold slices_Equal___bool_bool__l1
      simp only [dT (show (k : Int) < (a.length : Int) by omega), if_true, idxO_nat hk, idxO_nat (xs := b) (k := k) (by omega), Option.bind_some, w64_succ (show k < 9223372036854775807 by omega)]
      by_cases e : a[k] = b[k]'(by omega)
      · rw [if_pos e, e]; simp
      · rw [if_neg e, if_pos (by simpa using e)]
    · unfold slices_Equal___bool_bool__l1; simp
  unfold F_slices_Equal___bool_bool_
  simp only [nF h3, Bool.false_eq_true, if_false, Option.bind_some, hw]
  by_cases e : a = b
  · rw [if_pos e]; simp [e]
  · rw [if_neg e]; simp [e]
theorem gsame_eq (a b : api_Grid) (hl : a.Bits.length ≤ 9223372036854775807) : F_grid_Same a b = some (decide (a = b)) := by
  unfold F_grid_Same
  by_cases h1 : a.W = b.W
  case neg => simp only [bF h1, Bool.false_eq_true, if_false, Option.bind_some]; rw [decide_eq_false]; rintro rfl; exact h1 rfl
  by_cases h2 : a.H = b.H
  case neg => simp only [bT h1, bF h2, Bool.false_eq_true, if_false, if_true, Option.bind_some]; rw [decide_eq_false]; rintro rfl; exact h2 rfl
  simp only [bT h1, bT h2, if_true, equal_bool _ _ hl, Option.bind_some]
  congr 1
  by_cases e : a.Bits = b.Bits
  · rw [decide_eq_true e, decide_eq_true]; cases a; cases b; simp_all
  · rw [decide_eq_false e, decide_eq_false]; exact fun h => e (by rw [h])
theorem rgreat_eq (g : api_Grid) : F_raddleref01_Great g = some (decide (4200 < g.Bits.length)) := by
  unfold F_raddleref01_Great
  congr 1
  exact decide_eq_decide.2 (by omega)
end Go.Proofs.Ythfifeabomdlpaa
namespace Go.Proofs.Ythfifeabomdlpaa
open Go.RowKit
set_option linter.unusedVariables false

theorem cpA_getD {α : Type} {xs ys : List α} {l q : Nat} (h : l ≤ q) (hq : q ≤ xs.length) (hy : ys.length ≤ q - l) (t : Nat) (d : α) : (cpA xs l q ys).getD t d = if l ≤ t ∧ t < l + ys.length then ys.getD (t - l) d else xs.getD t d := by
  have hA : ((xs.take q).drop l).length = q - l := by simp; omega
  have e1 : cpO ((xs.take q).drop l) ys = ys ++ ((xs.take q).drop l).drop ys.length := by
    unfold cpO
    rw [hA, List.take_of_length_le hy]
  simp only [List.getD_eq_getElem?_getD]
  congr 1
  unfold cpA
  rw [e1]
  by_cases h1 : t < l
  · rw [List.getElem?_append_left (by simp; omega), List.getElem?_take, if_pos h1, if_neg (by omega)]
  · have hl : (xs.take l).length = l := by simp; omega
    rw [List.getElem?_append_right (by omega), hl]
    by_cases h2 : t < l + ys.length
    · rw [if_pos ⟨by omega, h2⟩, List.append_assoc, List.getElem?_append_left (by omega)]
    · rw [if_neg (by omega), List.append_assoc, List.getElem?_append_right (by omega)]
      by_cases h3 : t < q
      · rw [List.getElem?_append_left (by rw [List.length_drop, hA]; omega), List.getElem?_drop, List.getElem?_drop, List.getElem?_take, if_pos (by omega), show l + (ys.length + (t - l - ys.length)) = t by omega]
      · rw [List.getElem?_append_right (by rw [List.length_drop, hA]; omega), List.length_drop, hA, List.getElem?_drop, show q + (t - l - ys.length - (q - l - ys.length)) = t by omega]
/-- a row of cells, as a part of the bits -/
theorem bits_part {g : api_Grid} {w h : Nat} (G : Gr g w h) {x0 n y : Nat} (hx : x0 + n ≤ w) (hy : y < h) : (g.Bits.take (y * w + x0 + n)).drop (y * w + x0) = (List.range n).map fun x => cell g w (x0 + x) y := by
  have h2 : y * w + w ≤ w * h := by
    have := Nat.mul_le_mul_right w (show y + 1 ≤ h by omega)
    rw [Nat.add_mul, Nat.one_mul, Nat.mul_comm h w] at this
    exact this
  have hl := G.len
  apply List.ext_getElem?
  intro t
  by_cases ht : t < n
  · rw [List.getElem?_drop, List.getElem?_take, if_pos (by omega)]
    simp only [List.getElem?_map, List.getElem?_range ht, Option.map_some]
    unfold cell
    rw [List.getElem?_eq_getElem (by omega), List.getD_eq_getElem?_getD, List.getElem?_eq_getElem (by omega)]
    simp only [Option.getD_some, Nat.add_assoc]
  · rw [List.getElem?_eq_none (by simp; omega), List.getElem?_eq_none (by simp; omega)]
theorem alike_eq (a b : api_Grid) : F_block_alike a b = some (decide (a.W = b.W ∧ a.H = b.H)) := by
  unfold F_block_alike
  by_cases h1 : a.W = b.W
  · by_cases h2 : a.H = b.H
    · simp [h1, h2]
    · simp [h1, h2]
  · simp [h1]
/-- the error of the first grid that has one -/
def ckL : List api_Grid → Int
  | [] => 0
  | g :: l => if gerr g = 0 then ckL l else gerr g
theorem checked_eq (l : List api_Grid) (hl : l.length ≤ 9223372036854775806) : F_block_checked l = some (ckL l) := by
  have hw : whileO (block_checked_l1 l) 0 = some ((l.findSome? fun g => if gerr g = 0 then none else some (Sum.inl (β := Unit) (gerr g))).getD (.inr ())) := by
    refine loop_list l (fun g => if gerr g = 0 then none else some (Sum.inl (gerr g))) (.inr ()) (fun k hk => ?_) ?_
    · unfold block_checked_l1
      simp only [dT (show (k : Int) < (l.length : Int) by omega), if_true, idxO_nat hk, Option.bind_some, (gcheck_eq _).1, w64_succ (show k < 9223372036854775807 by omega)]
      by_cases h : gerr l[k] = 0
      · rw [nF h, if_pos h]; rfl
      · rw [nT h, if_neg h]; rfl
    · unfold block_checked_l1
      simp only [dF (show ¬ (l.length : Int) < (l.length : Int) by omega), Bool.false_eq_true, if_false]
  have this : ∀ l : List api_Grid, (l.findSome? fun g => if gerr g = 0 then none else some (Sum.inl (β := Unit) (gerr g))).getD (.inr ()) = if ckL l = 0 then .inr () else .inl (ckL l) := by
    intro l
    induction l with
    | nil => rfl
    | cons g l ih =>
      rw [List.findSome?_cons]
      by_cases h : gerr g = 0
      · rw [if_pos h]; simp only [ckL, if_pos h]; exact ih
      · rw [if_neg h]; simp only [ckL, if_neg h, Option.getD_some]
  unfold F_block_checked
  rw [hw, this l]
  by_cases h : ckL l = 0
  · rw [if_pos h, h]; rfl
  · rw [if_neg h]; rfl
theorem ckL_three {a b c : api_Grid} (h : ckL [a, b, c] = 0) : gerr a = 0 ∧ gerr b = 0 ∧ gerr c = 0 := by
  simp only [ckL] at h
  by_cases h1 : gerr a = 0
  · rw [if_pos h1] at h
    by_cases h2 : gerr b = 0
    · rw [if_pos h2] at h
      by_cases h3 : gerr c = 0
      · exact ⟨h1, h2, h3⟩
      · rw [if_neg h3] at h; exact absurd h h3
    · rw [if_neg h2] at h; exact absurd h h2
  · rw [if_neg h1] at h; exact absurd h h1
theorem blk_iff {a b k pw : Nat} (ha : a < pw) : (a = k % pw ∧ b = k / pw) ↔ b * pw + a = k := by
  constructor
  · rintro ⟨rfl, rfl⟩; exact pl_of _ _
  · rintro rfl; exact ⟨(pl_mod ha).symm, (pl_div ha).symm⟩
/-- a unit put at a place -/
theorem put_eq {u : api_Grid} {uw uh : Nat} (U : Gr u uw uh) {W H i j : Nat} (hW : W ≤ 64) (hH : H ≤ 64) (hi : i * uw + uw ≤ W) (hj : j * uh + uh ≤ H) {s : List Bool} (hs : s.length = W * H) (Hz : Int) :
    ∃ s', F_block_put_s0 (W : Int) Hz s u (i : Int) (j : Int) = some s' ∧ s'.length = W * H ∧ ∀ x y, x < W → y < H → s'.getD (y * W + x) false = if x / uw = i ∧ y / uh = j then cell u uw (x % uw) (y % uh) else s.getD (y * W + x) false := by
  have u0 := U.w0
  have v0 := U.h0
  have key : ∃ t, whileO (block_put_s0_l1 u (j : Int) (W : Int) (i : Int)) (0, s) = some t ∧ (t.length = W * H ∧ ∀ x y, x < W → y < H → t.getD (y * W + x) false = if x / uw = i ∧ y / uh = j ∧ y % uh < uh then cell u uw (x % uw) (y % uh) else s.getD (y * W + x) false) := by
    refine loop_ts uh (fun k t => t.length = W * H ∧ ∀ x y, x < W → y < H → t.getD (y * W + x) false = if x / uw = i ∧ y / uh = j ∧ y % uh < k then cell u uw (x % uw) (y % uh) else s.getD (y * W + x) false) _ ⟨hs, fun x y _ _ => by rw [if_neg (by omega)]⟩ ?_ ?_
    · rintro k t hk ⟨hl, ht⟩
      have hp : W * H ≤ 64 * 64 := Nat.mul_le_mul hW hH
      have hy : j * uh + k < H := by omega
      have a1 : (j * uh + k) * W + W ≤ W * H := by
        have := Nat.mul_le_mul_right W (show j * uh + k + 1 ≤ H by omega)
        rw [Nat.add_mul (j * uh + k) 1, Nat.one_mul, Nat.mul_comm H W] at this
        exact this
      have a2 : k * uw + uw ≤ uw * uh := by
        have := Nat.mul_le_mul_right uw (show k + 1 ≤ uh by omega)
        rw [Nat.add_mul, Nat.one_mul, Nat.mul_comm uh uw] at this
        exact this
      have a3 : uw * uh ≤ 64 * 64 := Nat.mul_le_mul U.w1 U.h1
      have a4 : (j * uh + k) * W ≤ W * H := by omega
      have a5 : j * uh ≤ H := by omega
      have e1 : w64 ((j : Int) * u.H) = ((j * uh : Nat) : Int) := by rw [U.hh]; exact wmul (by omega)
      have e2 : w64 (((j * uh : Nat) : Int) + (k : Int)) = ((j * uh + k : Nat) : Int) := wadd (by omega)
      have e3 : w64 (((j * uh + k : Nat) : Int) * (W : Int)) = (((j * uh + k) * W : Nat) : Int) := wmul (by omega)
      have e4 : w64 ((i : Int) * u.W) = ((i * uw : Nat) : Int) := by rw [U.hw]; exact wmul (by omega)
      have e5 : w64 ((((j * uh + k) * W : Nat) : Int) + ((i * uw : Nat) : Int)) = (((j * uh + k) * W + i * uw : Nat) : Int) := wadd (by omega)
      have e6 : w64 ((k : Int) * u.W) = ((k * uw : Nat) : Int) := by rw [U.hw]; exact wmul (by omega)
      have e7 : w64 ((k : Int) + 1) = ((k + 1 : Nat) : Int) := w64_succ (by omega)
      have e8 : w64 (((k + 1 : Nat) : Int) * u.W) = ((k * uw + 0 + uw : Nat) : Int) := by rw [U.hw, wmul (by rw [Nat.add_mul]; omega), Nat.add_mul, Nat.one_mul, Nat.add_zero]
      have hb := bits_part U (x0 := 0) (n := uw) (y := k) (by omega) hk
      rw [Nat.add_zero] at hb
      have hsl := sliceO_of (xs := u.Bits) (lo := ((k * uw : Nat) : Int)) (hi := ((k * uw + 0 + uw : Nat) : Int)) rfl rfl (by omega) (by rw [U.len]; omega)
      rw [Nat.add_zero, hb] at hsl
      have hsl2 := sliceO_all (xs := t) (k := (j * uh + k) * W + i * uw) (by omega)
      have hyl : ((List.range uw).map fun x => cell u uw (0 + x) k).length = uw := by simp
      refine .inl ⟨cpA t ((j * uh + k) * W + i * uw) t.length ((List.range uw).map fun x => cell u uw (0 + x) k), ?_, ?_, ?_⟩
      · unfold block_put_s0_l1
        simp only [U.hh, dT (show (k : Int) < (uh : Int) by omega), if_true]
        rw [← U.hh]
        simp only [e1, e2, e3, e4, e5, e6, e7, e8, hsl2, Nat.add_zero, hsl, Option.bind_some, Int.toNat_natCast]
      · rw [cpA_length _ _ (by omega) (Nat.le_refl _)]; exact hl
      · intro x y hx hy2
        rw [cpA_getD (by omega) (Nat.le_refl _) (by rw [hyl]; omega), hyl, ht x y hx hy2]
        by_cases hc : x / uw = i ∧ y / uh = j ∧ y % uh = k
        · obtain ⟨c1, c2, c3⟩ := hc
          have d1 := pl_of x uw
          have d2 := pl_of y uh
          rw [c1] at d1
          rw [c2, c3] at d2
          have d3 := pl_modlt (t := x) u0
          have hy3 : y = j * uh + k := by omega
          subst hy3
          rw [if_pos ⟨by omega, by omega⟩, if_pos ⟨c1, c2, by omega⟩, c3]
          have : (j * uh + k) * W + x - ((j * uh + k) * W + i * uw) = x % uw := by omega
          rw [this]
          simp [List.getD_eq_getElem?_getD, d3]
        · have hn : ¬ ((j * uh + k) * W + i * uw ≤ y * W + x ∧ y * W + x < (j * uh + k) * W + i * uw + uw) := by
            rintro ⟨b1, b2⟩
            have e9 : y * W + x = (j * uh + k) * W + (y * W + x - (j * uh + k) * W) := by omega
            obtain ⟨q1, q2⟩ := pl_inj (w := W) hx (by omega) e9
            subst q2
            have q3 : x = i * uw + (x - i * uw) := by omega
            have q4 : x - i * uw < uw := by omega
            refine hc ⟨?_, ?_, ?_⟩
            · rw [q3, pl_div q4]
            · exact pl_div hk
            · exact pl_mod hk
          rw [if_neg hn]
          by_cases hc2 : x / uw = i ∧ y / uh = j ∧ y % uh < k
          · rw [if_pos hc2, if_pos ⟨hc2.1, hc2.2.1, by omega⟩]
          · rw [if_neg hc2, if_neg (by rintro ⟨c1, c2, c3⟩; exact hc2 ⟨c1, c2, by rcases Nat.lt_or_ge (y % uh) k with h | h; exact h; exact absurd ⟨c1, c2, by omega⟩ hc⟩)]
    · rintro t ht
      refine ⟨t, ?_, ht⟩
      unfold block_put_s0_l1
      simp only [U.hh, dF (show ¬ (uh : Int) < (uh : Int) by omega), Bool.false_eq_true, if_false]
  obtain ⟨t, h1, h2, h3⟩ := key
  refine ⟨t, ?_, h2, fun x y hx hy => ?_⟩
  · unfold F_block_put_s0
    rw [h1]
    simp [keepO, h2, hs]
  · rw [h3 x y hx hy]
    by_cases hc : x / uw = i ∧ y / uh = j
    · rw [if_pos hc, if_pos ⟨hc.1, hc.2, pl_modlt v0⟩]
    · rw [if_neg hc, if_neg (fun h => hc ⟨h.1, h.2.1⟩)]
/-- units put at all places -/
theorem puts_eq {Bd : Int × List Bool → Option ((Int × List Bool) ⊕ List Bool)} {pw ph uw uh : Nat} (p0 : 1 ≤ pw) (u : Nat → api_Grid) (hu : ∀ k, k < pw * ph → Gr (u k) uw uh) (hW : pw * uw ≤ 64) (hH : ph * uh ≤ 64) (hp : pw * ph ≤ 100000) (Hz : Int)
    (hB : ∀ k s, k < pw * ph → Bd ((k : Int), s) = (F_block_put_s0 ((pw * uw : Nat) : Int) Hz s (u k) ((k % pw : Nat) : Int) ((k / pw : Nat) : Int)).bind fun r => some (.inl (w64 ((k : Int) + 1), r))) (hBe : ∀ s, Bd (((pw * ph : Nat) : Int), s) = some (.inr s)) :
    whileO Bd (0, List.replicate (pw * uw * (ph * uh)) false) = some (gl (fun x y => cell (u ((y / uh) * pw + x / uw)) uw (x % uw) (y % uh)) (pw * uw) (ph * uh)) := by
  have key : ∃ t, whileO Bd (0, List.replicate (pw * uw * (ph * uh)) false) = some t ∧ t = gl (fun x y => cell (u ((y / uh) * pw + x / uw)) uw (x % uw) (y % uh)) (pw * uw) (ph * uh) := by
    refine loop_ts (pw * ph) (fun k s => s.length = pw * uw * (ph * uh) ∧ ∀ x y, x < pw * uw → y < ph * uh → s.getD (y * (pw * uw) + x) false = if (y / uh) * pw + x / uw < k then cell (u ((y / uh) * pw + x / uw)) uw (x % uw) (y % uh) else false) _
      ⟨by simp, fun x y hx hy => ?_⟩ ?_ ?_
    · rw [if_neg (Nat.not_lt_zero _)]
      have := pl_lt hx hy
      simp [List.getD_eq_getElem?_getD, this]
    · rintro k s hk ⟨hl, hs⟩
      have U := hu k hk
      have hi : k % pw < pw := pl_modlt (by omega)
      have hj : k / pw < ph := pl_divlt hk
      have b1 : (k % pw) * uw + uw ≤ pw * uw := by have := Nat.mul_le_mul_right uw (show k % pw + 1 ≤ pw by omega); rw [Nat.add_mul, Nat.one_mul] at this; exact this
      have b2 : (k / pw) * uh + uh ≤ ph * uh := by have := Nat.mul_le_mul_right uh (show k / pw + 1 ≤ ph by omega); rw [Nat.add_mul, Nat.one_mul] at this; exact this
      obtain ⟨s', h1, h2, h3⟩ := put_eq U hW hH b1 b2 hl Hz
      refine .inl ⟨s', ?_, h2, fun x y hx hy => ?_⟩
      · rw [hB k s hk, h1, Option.bind_some, w64_succ (by omega)]
      · rw [h3 x y hx hy, hs x y hx hy]
        have hx2 : x / uw < pw := pl_divlt (by rw [Nat.mul_comm]; exact hx)
        have hb := blk_iff (a := x / uw) (b := y / uh) (k := k) hx2
        by_cases hc : x / uw = k % pw ∧ y / uh = k / pw
        · rw [if_pos hc, if_pos (by rw [hb.1 hc]; omega), hb.1 hc]
        · rw [if_neg hc]
          have hne : (y / uh) * pw + x / uw ≠ k := fun h => hc (hb.2 h)
          by_cases h4 : (y / uh) * pw + x / uw < k
          · rw [if_pos h4, if_pos (by omega)]
          · rw [if_neg h4, if_neg (by omega)]
    · rintro s ⟨hl, hs⟩
      refine ⟨s, hBe s, gl_of false hl fun x y hx hy => ?_⟩
      rw [hs x y hx hy, if_pos]
      have u0 : 0 < uh := by rcases Nat.eq_zero_or_pos uh with h0 | h0; rw [h0, Nat.mul_zero] at hy; omega; exact h0
      exact pl_lt (pl_divlt (by rw [Nat.mul_comm]; exact hx)) (pl_divlt (by rw [Nat.mul_comm]; exact hy))
  obtain ⟨t, h1, rfl⟩ := key
  exact h1
/-- a filled profile -/
def fillf (p a b : api_Grid) (pw uw uh : Nat) (x y : Nat) : Bool := if cell p pw (x / uw) (y / uh) = true then cell a uw (x % uw) (y % uh) else cell b uw (x % uw) (y % uh)
def fillS (p a b : api_Grid) : api_Grid × Int :=
  if ckL [p, a, b] = 0 then (if a.W = b.W ∧ a.H = b.H then (if 64 < p.W * a.W ∨ 64 < p.H * a.H then (⟨0, 0, []⟩, 4) else (gm (fillf p a b p.W.toNat a.W.toNat a.H.toNat) (p.W.toNat * a.W.toNat) (p.H.toNat * a.H.toNat), 0)) else (⟨0, 0, []⟩, 26)) else (⟨0, 0, []⟩, ckL [p, a, b])
theorem Gr.W {g : api_Grid} {w h : Nat} (G : Gr g w h) : g.W.toNat = w := by rw [G.hw]; rfl
theorem Gr.H {g : api_Grid} {w h : Nat} (G : Gr g w h) : g.H.toNat = h := by rw [G.hh]; rfl
theorem fill_eq (p a b : api_Grid) : F_block_Fill p a b = some (fillS p a b) := by
  unfold F_block_Fill fillS
  rw [checked_eq _ (by simp)]
  by_cases h0 : ckL [p, a, b] = 0
  case neg => simp only [Option.bind_some, nT h0, if_true, if_neg h0]
  simp only [Option.bind_some, nF h0, Bool.false_eq_true, if_false, if_pos h0, alike_eq]
  by_cases h1 : a.W = b.W ∧ a.H = b.H
  case neg => simp only [dF h1, Bool.not_false, if_true, if_neg h1]
  simp only [dT h1, Bool.not_true, Bool.false_eq_true, if_false, if_pos h1]
  obtain ⟨g1, g2, g3⟩ := ckL_three h0
  obtain ⟨pw, ph, P⟩ := gerr_zero g1
  obtain ⟨uw, uh, A⟩ := gerr_zero g2
  obtain ⟨bw, bh, B⟩ := gerr_zero g3
  obtain ⟨rfl, rfl⟩ : uw = bw ∧ uh = bh := by
    have := A.hw
    have := B.hw
    have := A.hh
    have := B.hh
    omega
  have q1 : pw * uw ≤ 64 * 64 := Nat.mul_le_mul P.w1 A.w1
  have q2 : ph * uh ≤ 64 * 64 := Nat.mul_le_mul P.h1 A.h1
  have q3 : pw * ph ≤ 64 * 64 := Nat.mul_le_mul P.w1 P.h1
  have e1 : w64 (p.W * a.W) = ((pw * uw : Nat) : Int) := by rw [P.hw, A.hw]; exact wmul (by omega)
  have e2 : w64 (p.H * a.H) = ((ph * uh : Nat) : Int) := by rw [P.hh, A.hh]; exact wmul (by omega)
  have e3 : p.W * a.W = ((pw * uw : Nat) : Int) := by rw [P.hw, A.hw, Int.natCast_mul]
  have e4 : p.H * a.H = ((ph * uh : Nat) : Int) := by rw [P.hh, A.hh, Int.natCast_mul]
  rw [e1, e2, e3, e4, P.W, P.H, A.W, A.H]
  by_cases h2 : (64 : Int) < ((pw * uw : Nat) : Int) ∨ (64 : Int) < ((ph * uh : Nat) : Int)
  · have hz : F_block_zero_s0 ((pw * uw : Nat) : Int) ((ph * uh : Nat) : Int) = some (⟨0, 0, []⟩, 4) := by
      unfold F_block_zero_s0
      by_cases h3 : (64 : Int) < ((pw * uw : Nat) : Int)
      · simp only [dT h3, if_true, Option.bind_some]
      · simp only [dF h3, dT (show (64 : Int) < ((ph * uh : Nat) : Int) by omega), Bool.false_eq_true, if_true, if_false, Option.bind_some]
    rw [hz, if_pos h2]
    simp only [Option.bind_some, nT (show ¬ (4 : Int) = 0 by decide), if_true]
  · have hz : F_block_zero_s0 ((pw * uw : Nat) : Int) ((ph * uh : Nat) : Int) = some (⟨((pw * uw : Nat) : Int), ((ph * uh : Nat) : Int), List.replicate (pw * uw * (ph * uh)) false⟩, 0) := by
      have hq : pw * uw * (ph * uh) ≤ 64 * 64 := Nat.mul_le_mul (by omega) (by omega)
      unfold F_block_zero_s0
      simp only [dF (show ¬ (64 : Int) < ((pw * uw : Nat) : Int) by omega), dF (show ¬ (64 : Int) < ((ph * uh : Nat) : Int) by omega), Bool.false_eq_true, if_false, Option.bind_some]
      rw [wmul (by omega), makeO_of (k := pw * uw * (ph * uh)) rfl (by omega)]
      rfl
    rw [hz, if_neg h2]
    simp only [Option.bind_some, bne_self_eq_false, Bool.false_eq_true, if_false]
    have hb := puts_eq (Bd := block_Fill_l1 p a b (⟨((pw * uw : Nat) : Int), ((ph * uh : Nat) : Int), List.replicate (pw * uw * (ph * uh)) false⟩, 0)) (pw := pw) (ph := ph) (uw := uw) (uh := uh) P.w0 (fun k => if p.Bits.getD k false = true then a else b)
      (fun k _ => by split; exact A; exact B) (by omega) (by omega) (by omega) ((ph * uh : Nat) : Int)
      (fun k s hk => by
        unfold block_Fill_l1
        have hk2 : k < p.Bits.length := by rw [P.len]; exact hk
        have hp0 := P.w0
        simp only [dT (show (k : Int) < (p.Bits.length : Int) by omega), if_true, idxO_D false hk2, Option.bind_some, P.hw, rem_nat (show 0 < pw by omega), quo_nat (show 0 < pw by omega) (show k ≤ 9223372036854775807 by omega)]
        by_cases hc : p.Bits.getD k false = true
        · rw [if_pos hc, if_pos hc]; rfl
        · rw [if_neg hc, if_neg hc]; rfl)
      (fun s => by
        unfold block_Fill_l1
        simp only [dF (show ¬ ((pw * ph : Nat) : Int) < (p.Bits.length : Int) by rw [P.len]; omega), Bool.false_eq_true, if_false])
    rw [hb]
    simp only [Option.bind_some]
    congr 2
    unfold gm
    congr 1
    refine gl_cong fun x y hx hy => ?_
    unfold fillf
    have hcell : cell p pw (x / uw) (y / uh) = p.Bits.getD ((y / uh) * pw + x / uw) false := rfl
    rw [hcell]
    split <;> rfl
/-- a part of a grid -/
def prt (g : api_Grid) (W w h i j : Nat) : api_Grid := gm (fun x y => cell g W (i * w + x) (j * h + y)) w h
theorem part_eq {g : api_Grid} {W H w h i j : Nat} (G : Gr g W H) (hi : i * w + w ≤ W) (hj : j * h + h ≤ H) (w0 : 1 ≤ w) (h0 : 1 ≤ h) : F_block_part g (w : Int) (h : Int) (i : Int) (j : Int) = some (prt g W w h i j) := by
  have hp : W * H ≤ 64 * 64 := Nat.mul_le_mul G.w1 G.h1
  have W1 := G.w1
  have H1 := G.h1
  have hb := loop_seq (B := block_part_l1 (h : Int) g (j : Int) (i : Int) (w : Int)) (fun k : Nat => ((k : Int), glf (fun x y => cell g W (i * w + x) (j * h + y)) w (k * w))) h (t := glf (fun x y => cell g W (i * w + x) (j * h + y)) w (h * w))
    (fun k hk => by
      have hy : j * h + k < H := by omega
      have a1 : (j * h + k) * W + W ≤ W * H := by
        have := Nat.mul_le_mul_right W (show j * h + k + 1 ≤ H by omega)
        rw [Nat.add_mul (j * h + k) 1, Nat.one_mul, Nat.mul_comm H W] at this
        exact this
      have a2 : k * w ≤ 64 * 64 := Nat.mul_le_mul (by omega) (by omega)
      have e1 : w64 ((j : Int) * (h : Int)) = ((j * h : Nat) : Int) := wmul (by omega)
      have e2 : w64 (((j * h : Nat) : Int) + (k : Int)) = ((j * h + k : Nat) : Int) := wadd (by omega)
      have e3 : w64 (((j * h + k : Nat) : Int) * (W : Int)) = (((j * h + k) * W : Nat) : Int) := wmul (by omega)
      have e4 : w64 ((i : Int) * (w : Int)) = ((i * w : Nat) : Int) := wmul (by omega)
      have e5 : w64 ((((j * h + k) * W : Nat) : Int) + ((i * w : Nat) : Int)) = (((j * h + k) * W + i * w : Nat) : Int) := wadd (by omega)
      have e6 : w64 ((((j * h + k) * W + i * w : Nat) : Int) + (w : Int)) = (((j * h + k) * W + i * w + w : Nat) : Int) := wadd (by omega)
      have hsl := sliceO_of (xs := g.Bits) (lo := (((j * h + k) * W + i * w : Nat) : Int)) (hi := (((j * h + k) * W + i * w + w : Nat) : Int)) rfl rfl (by omega) (by rw [G.len]; omega)
      rw [bits_part G (x0 := i * w) (n := w) (y := j * h + k) hi hy] at hsl
      unfold block_part_l1
      simp only [dT (show (k : Int) < (h : Int) by omega), if_true, G.hw, e1, e2, e3, e4, e5, e6, hsl, Option.bind_some]
      rw [appO_of (by simp [glf]; omega), Option.bind_some, w64_succ (by omega)]
      congr 3
      rw [Nat.add_mul, Nat.one_mul]
      unfold glf
      rw [List.range_add, List.map_append]
      congr 1
      rw [List.map_map]
      refine map_cong fun x hx => ?_
      simp only [Function.comp, pl_mod hx, pl_div hx])
    (by
      unfold block_part_l1
      simp only [dF (show ¬ (h : Int) < (h : Int) by omega), Bool.false_eq_true, if_false])
  have h00 : (((0 : Nat) : Int), glf (fun x y => cell g W (i * w + x) (j * h + y)) w (0 * w)) = ((0 : Int), ([] : List Bool)) := by simp [glf]
  rw [h00] at hb
  unfold F_block_part
  rw [hb]
  simp only [Option.bind_some]
  unfold prt gm gl
  rw [Nat.mul_comm w h]
theorem prt_gr {g : api_Grid} {W w h i j : Nat} (w0 : 1 ≤ w) (w1 : w ≤ 64) (h0 : 1 ≤ h) (h1 : h ≤ 64) : Gr (prt g W w h i j) w h := gm_gr _ w0 w1 h0 h1

end Go.Proofs.Ythfifeabomdlpaa
namespace Go.Proofs.Ythfifeabomdlpaa
open Go.RowKit
set_option linter.unusedVariables false

end Go.Proofs.Ythfifeabomdlpaa
namespace Go.Proofs.Ythfifeabomdlpaa
open Go.RowKit
set_option linter.unusedVariables false

end Go.Proofs.Ythfifeabomdlpaa
namespace Go.Proofs.Ythfifeabomdlpaa
open Go.RowKit
set_option linter.unusedVariables false

def anc_block_Join_1_s0_0 : List (List Nat) := [[], [], [1], [1, 2], [0, 1, 2, 3], [0, 1, 2, 3, 4], [0, 1, 2, 3, 4, 5]]
noncomputable def F_block_Join_1_s0 (p0 : api_Grid) (p1 : (List api_Grid)) : Option Bool :=
  Option.bind (idxO p1 0) fun x11 =>
  Option.bind (F_block_alike p0 x11) fun r20 =>
  some (!r20)
set_option maxHeartbeats 4000000 in
set_option maxRecDepth 100000 in
theorem c_block_Join_1_s0 (E : Nat → Prop) (w0 : World) (p0 : api_Grid) (v0 : Value) (p1 : (List api_Grid)) (v1 : Value) (r : Bool) (h : F_block_Join_1_s0 p0 p1 = some r) (S : St0 E [] w0 w0 [] [fRep r_api_Grid (v0) p0, fPtr (rL r_api_Grid) (v1) p1]) :
    Calls Try.prog 54 #[v0, v1] w0 (Ret (X := Unit) E [] w0 (fun _ => .bool r) (fun _ => []) (fun _ => [])) := by
  unfold F_block_Join_1_s0 at h
  obtain ⟨u1, rfl, hu2⟩ := S.know (i := 0) (e := fRep r_api_Grid (v0) p0) rfl
  have S := S.learn (fRep (rL rB) u1 p0.Bits) hu2
  obtain ⟨ad3, cp4, _, rfl, _⟩ := hu2
  refine sEnter (args := [.agg #[iv p0.W, iv p0.H, .slice ad3 p0.Bits.length cp4], v1]) 10 Try.func54 rfl rfl (by simp) S (fun a S => ?_)
  refine sSeq (fun K5 hK5 => ?_)
  refine sRegion ?_
  refine sBox (v := .agg #[iv p0.W, iv p0.H, .slice ad3 p0.Bits.length cp4]) S (wN rfl) rfl rfl [iv p0.W, iv p0.H, .slice ad3 p0.Bits.length cp4] rfl rfl (lb rfl) fun a b6 w S => ?_
  refine sMove (.bool false) S (wN rfl) (.inr rfl) rfl rfl (lb rfl) fun a S => ?_
  refine leafL (leafT (hK5 _ _ ?_))
  refine sSeq (fun K7 hK7 => ?_)
  obtain ⟨x11, hx12, h⟩ := bindSome h
  obtain ⟨r20, hx21, h⟩ := bindSome h
  obtain ⟨u22, S⟩ := pLoad (r := (rL r_api_Grid)) (q := v1) (x := p1) 2 S rfl
  obtain ⟨ad23, cp24, _, rfl, _⟩ := S.mem.know (i := 1) (e := fRep (rL r_api_Grid) (u22) p1) rfl
  obtain ⟨q25, hq26, S⟩ := pIdx (P := Try.prog) (r := r_api_Grid) (v := .slice ad23 p1.length cp24) (xs := p1) (j := 0) 34 24 1 S Try.underlying34 rfl rfl hx12
  obtain ⟨u27, S⟩ := pLoad (r := r_api_Grid) (q := q25) (x := x11) 0 S rfl
  obtain ⟨u28, rfl, hu29⟩ := S.mem.know (i := 1) (e := fRep r_api_Grid (u27) x11) rfl
  have S := S.learn (fRep (rL rB) u28 x11.Bits) hu29
  obtain ⟨ad30, cp31, _, rfl, _⟩ := hu29
  refine sDraw (nf := []) (W := [(0, 4, .agg #[iv p0.W, iv p0.H, .slice ad3 p0.Bits.length cp4]), (1, 5, .slice ad23 p1.length cp24), (2, 6, q25), (3, 7, .agg #[iv x11.W, iv x11.H, .slice ad30 x11.Bits.length cp31]), (4, 8, .bool r20), (5, 9, .bool (!r20)), (6, 3, .bool (!r20))]) rfl S ?_
  refine node_by (A := anc_block_Join_1_s0_0) (nf := []) (Y := []) (W := [(0, 4, .agg #[iv p0.W, iv p0.H, .slice ad3 p0.Bits.length cp4]), (1, 5, .slice ad23 p1.length cp24), (2, 6, q25), (3, 7, .agg #[iv x11.W, iv x11.H, .slice ad30 x11.Bits.length cp31]), (4, 8, .bool r20), (5, 9, .bool (!r20)), (6, 3, .bool (!r20))]) 7 (by kernel_rfl) (by kernel_rfl) (by kernel_rfl) (by kernel_rfl) (by kernel_rfl) [0, 1, 2, 3, 4, 5, 6] (by kernel_rfl) (by decide) (by decide) (aF 0 6 (by decide) ?_ (aF 1 5 (by decide) ?_ (aF 2 4 (by decide) ?_ (aF 3 3 (by decide) ?_ (aF 4 2 (by decide) ?_ (aF 5 1 (by decide) ?_ (aF 6 0 (by decide) ?_ (trivial)))))))) [(3, .bool (!r20))] (fin_of [some 6] rfl (by kernel_rfl) (by kernel_rfl)) (fun _ a w S => ?_)
  · refine fI 4 (.agg #[iv p0.W, iv p0.H, .slice ad3 p0.Bits.length cp4]) [(2, .pointer (some ⟨b6, 0, none⟩))] 0 [none] rfl rfl rfl rfl rfl rfl fun G a w S => ?_
    refine sLoadN (p := b6) (off := 0) (T := 24) (vs := [iv p0.W, iv p0.H, .slice ad3 p0.Bits.length cp4]) 0 [iv p0.W, iv p0.H, .slice ad3 p0.Bits.length cp4] S (wN rfl) rfl rfl rfl rfl rfl rfl rfl (lb rfl) fun a S => ?_
    exact leafL ⟨rfl, S⟩
  · refine fI 5 (.slice ad23 p1.length cp24) [(1, v1)] 1 [none] rfl rfl rfl rfl rfl rfl fun G a w S => ?_
    refine sLoadV1 (vq := v1) 4 (.slice ad23 p1.length cp24) S (wN rfl) rfl rfl rfl rfl rfl (lb rfl) fun a S => ?_
    exact leafL ⟨rfl, S⟩
  · refine fI 6 q25 [(5, .slice ad23 p1.length cp24)] 2 [some 1] rfl rfl rfl rfl rfl rfl fun G a w S => ?_
    refine sIdxV (v := .slice ad23 p1.length cp24) (k := .i64) (j := 0) S (wN rfl) rfl rfl rfl hq26 rfl (lb rfl) fun a S => ?_
    exact leafL ⟨rfl, S⟩
  · refine fI 7 (.agg #[iv x11.W, iv x11.H, .slice ad30 x11.Bits.length cp31]) [(6, q25)] 3 [some 2] rfl rfl rfl rfl rfl rfl fun G a w S => ?_
    refine sLoadVN (vq := q25) 1 [iv x11.W, iv x11.H, .slice ad30 x11.Bits.length cp31] S (wN rfl) rfl rfl rfl rfl rfl rfl (lb rfl) fun a S => ?_
    exact leafL ⟨rfl, S⟩
  · refine fI 8 (.bool r20) [(4, .agg #[iv p0.W, iv p0.H, .slice ad3 p0.Bits.length cp4]), (7, .agg #[iv x11.W, iv x11.H, .slice ad30 x11.Bits.length cp31])] 4 [some 0, some 3] rfl rfl rfl rfl rfl rfl fun G a w S => ?_
    have S1 := S.mem
    refine sCallQ (X := Unit) (f := 42) (vs := [.agg #[iv p0.W, iv p0.H, .slice ad3 p0.Bits.length cp4], .agg #[iv x11.W, iv x11.H, .slice ad30 x11.Bits.length cp31]]) (val := fun _ => .bool r20) S (wN rfl) rfl callee42 rfl (S1.quiet [7, 2] rfl) (fun E1 w1 S1 => c_block_alike E1 w1 p0 (.agg #[iv p0.W, iv p0.H, .slice ad3 p0.Bits.length cp4]) x11 (.agg #[iv x11.W, iv x11.H, .slice ad30 x11.Bits.length cp31]) r20 hx21 S1) rfl (lb rfl) fun _ a w S => ?_
    exact leafL ⟨rfl, S⟩
  · refine fI 9 (.bool (!r20)) [(8, .bool r20)] 5 [some 4] rfl rfl rfl rfl rfl rfl fun G a w S => ?_
    refine sNot (b := r20) S (wN rfl) rfl rfl rfl (lb rfl) fun a S => ?_
    exact leafL ⟨rfl, S⟩
  · refine fI 3 (.bool (!r20)) [(9, .bool (!r20))] 6 [some 5] rfl rfl rfl rfl rfl rfl fun G a w S => ?_
    refine sMove (.bool (!r20)) S (wN rfl) (.inr rfl) rfl rfl (lb rfl) fun a S => ?_
    exact leafL ⟨rfl, S⟩
  refine leafT (hK7 _ _ ?_)
  obtain rfl := Option.some.inj h
  exact wp_ret (sRet (.bool (!r20)) S (rsl1 rfl (rvT (t := 3) (v := .bool (!r20)) S rfl)) ⟨(), rfl, S.mem.sel [] [] (by decide) rfl rfl⟩)

end Go.Proofs.Ythfifeabomdlpaa
namespace Go.Proofs.Ythfifeabomdlpaa
open Go.RowKit
set_option linter.unusedVariables false

noncomputable def slices_IndexFunc___api_Grid_api_Grid__s1_l1 (p0 : (List api_Grid)) (p1 : (List api_Grid)) : Int → Option (Int ⊕ (Int ⊕ Unit)) := fun s0 => match s0 with
  | s7 =>
    if decide (s7 < (p0.length : Int)) then
      Option.bind (idxO p0 s7) fun x17 =>
      Option.bind (F_block_Join_1_s0 x17 p1) fun r26 =>
      if r26 then
        some (.inr (.inl s7))
      else
        some (.inl (w64 (s7 + 1)))
    else
      some (.inr (.inr ()))
noncomputable def F_slices_IndexFunc___api_Grid_api_Grid__s1 (p0 : (List api_Grid)) (p1 : (List api_Grid)) : Option Int :=
  Option.bind (α := Unit ⊕ Int) (
    Option.bind (whileO (slices_IndexFunc___api_Grid_api_Grid__s1_l1 p0 p1) 0) fun z0 => match z0 with
      | .inl z =>
        some (.inr z)
      | .inr _ =>
        some (.inl ())) fun z0 => match z0 with
    | .inl _ =>
      some (-1)
    | .inr z =>
      some z
set_option maxHeartbeats 4000000 in
set_option maxRecDepth 100000 in
theorem c_slices_IndexFunc___api_Grid_api_Grid__s1 (E : Nat → Prop) (w0 : World) (p0 : (List api_Grid)) (v0 : Value) (p1 : (List api_Grid)) (v1 : Value) (r : Int) (h : F_slices_IndexFunc___api_Grid_api_Grid__s1 p0 p1 = some r) (S : St0 E [] w0 w0 [] [fRep (rL r_api_Grid) (v0) p0, fPtr (rL r_api_Grid) (v1) p1]) :
    Calls Try.prog 51 #[v0, .func (.func 54) #[] #[v1]] w0 (Ret (X := Unit) E [] w0 (fun _ => .int .i64 r) (fun _ => []) (fun _ => [])) := by
  unfold F_slices_IndexFunc___api_Grid_api_Grid__s1 at h
  obtain ⟨ad1, cp2, _, rfl, _⟩ := S.know (i := 0) (e := fRep (rL r_api_Grid) (v0) p0) rfl
  refine sEnter (args := [.slice ad1 p0.length cp2, .func (.func 54) #[] #[v1]]) 19 Try.func51 rfl rfl (by simp) S (fun a S => ?_)
  refine sSeq (fun K3 hK3 => ?_)
  refine sRegion ?_
  refine sMove (iv 0) S (wN rfl) (.inr rfl) rfl rfl (lb rfl) fun a S => ?_
  refine leafL (leafT (hK3 _ _ ?_))
  obtain ⟨t4, h, g5⟩ := bindSome h
  refine sCut (fun a w => .inl () = t4 ∧ St [] E [] w0 19 a w [] [] []) ?_ (fun a w hI => ?_)
  rotate_left
  · obtain ⟨rfl, S⟩ := hI
    have h := g5
    clear g5
    try dsimp only at h
    refine sSeq (fun K30 hK30 => ?_)
    refine sRegion ?_
    refine sMove (iv (-1)) S (wN rfl) (.inr rfl) rfl rfl (lb rfl) fun a S => ?_
    refine leafL (leafT (hK30 _ _ ?_))
    obtain rfl := Option.some.inj h
    exact wp_ret (sRet (iv (-1)) S (rsl1 rfl (rvT (t := 4) (v := iv (-1)) S rfl)) ⟨(), rfl, S.mem.sel [] [] (by decide) rfl rfl⟩)
  refine sSeq (fun K6 hK6 => ?_)
  refine sRegion ?_
  refine sMove (.slice ad1 p0.length cp2) S (wN rfl) (.inl rfl) rfl rfl (lb rfl) fun a S => ?_
  refine sLen (ad := ad1) (m := p0.length) (c := cp2) S (wN rfl) rfl Try.underlying34 rfl rfl (lb rfl) fun a S => ?_
  refine sMove (iv 0) S (wN rfl) (.inl rfl) rfl rfl (lb rfl) fun a S => ?_
  refine leafL (leafT (hK6 _ _ ?_))
  refine wp_block ?_
  obtain ⟨t10, hl, g9⟩ := bindSome h
  refine sLoop hl (fun s0 a w => match s0 with | s7 => St [] E [] w0 19 a w [(0, .slice ad1 p0.length cp2), (1, .func (.func 54) #[] #[v1]), (7, iv (p0.length : Int)), (8, iv s7)] [] [fPtr (rL r_api_Grid) (v1) p1, fRep (rL r_api_Grid) (.slice ad1 p0.length cp2) p0]) (S.fix [] [1, 0] (by decide) rfl rfl rfl) ?_
  clear hl h
  intro s7 a w c0 hI h hu8
  unfold slices_IndexFunc___api_Grid_api_Grid__s1_l1 at h
  dsimp only at h hI
  have S := hI
  refine sSeq (fun K11 hK11 => ?_)
  refine sRegion ?_
  refine sBin (.bool (decide (s7 < (p0.length : Int)))) S (wN rfl) rfl rfl rfl (bLt _ _ _ _ .i64 s7 (p0.length : Int)) rfl (lb rfl) fun a S => ?_
  refine leafL (leafT (hK11 _ _ ?_))
  refine sSeq (fun K12 hK12 => ?_)
  rcases iteSome h with ⟨hc13, h⟩ | ⟨hc13, h⟩
  rotate_left
  · refine sCondF S rfl hc13 ?_
    obtain rfl := Option.some.inj h
    obtain rfl := hu8 _ rfl
    have h := g9
    clear g9
    try dsimp only at h
    exact wp_exit (xThen (xThen (xHit (leafT (⟨Option.some.inj h, S.fix [] [] (by decide) rfl rfl rfl⟩)))))
  refine sCondT S rfl hc13 ?_
  refine wp_skip (leafT (hK12 _ _ ?_))
  refine sSeq (fun K14 hK14 => ?_)
  refine wp_block ?_
  refine sSeq (fun K15 hK15 => ?_)
  refine sRegion ?_
  refine sMove (iv s7) S (wN rfl) (.inl rfl) rfl rfl (lb rfl) fun a S => ?_
  refine sMove (iv s7) S (wN rfl) (.inr rfl) rfl rfl (lb rfl) fun a S => ?_
  refine leafL (leafT (hK15 _ _ ?_))
  refine sSeq (fun K16 hK16 => ?_)
  refine sRegion ?_
  refine sMove (.func (.func 54) #[] #[v1]) S (wN rfl) (.inl rfl) rfl rfl (lb rfl) fun a S => ?_
  refine sMove (.slice ad1 p0.length cp2) S (wN rfl) (.inl rfl) rfl rfl (lb rfl) fun a S => ?_
  refine sMove (iv s7) S (wN rfl) (.inl rfl) rfl rfl (lb rfl) fun a S => ?_
  obtain ⟨x17, hx18, h⟩ := bindSome h
  obtain ⟨q19, hq20, S⟩ := pIdx (P := Try.prog) (r := r_api_Grid) (v := .slice ad1 p0.length cp2) (xs := p0) (j := s7) 34 24 1 S Try.underlying34 rfl rfl hx18
  refine sIdxV (v := .slice ad1 p0.length cp2) (k := .i64) (j := s7) S (wN rfl) rfl rfl rfl hq20 rfl (lb rfl) fun a S => ?_
  obtain ⟨u21, S⟩ := pLoad (r := r_api_Grid) (q := q19) (x := x17) 0 S rfl
  obtain ⟨u22, rfl, hu23⟩ := S.mem.know (i := 1) (e := fRep r_api_Grid (u21) x17) rfl
  have S := S.learn (fRep (rL rB) u22 x17.Bits) hu23
  obtain ⟨ad24, cp25, _, rfl, _⟩ := hu23
  refine sLoadVN (vq := q19) 1 [iv x17.W, iv x17.H, .slice ad24 x17.Bits.length cp25] S (wN rfl) rfl rfl rfl rfl rfl rfl (lb rfl) fun a S => ?_
  obtain ⟨r26, hx27, h⟩ := bindSome h
  have S1 := S.mem
  refine sCallVQ (X := Unit) (g := 54) (vs := [.agg #[iv x17.W, iv x17.H, .slice ad24 x17.Bits.length cp25]]) (caps := [v1]) (val := fun _ => .bool r26) S (wN rfl) rfl rfl callee54 rfl (S1.quiet [2, 4] rfl) (fun E1 w1 S1 => c_block_Join_1_s0 E1 w1 x17 (.agg #[iv x17.W, iv x17.H, .slice ad24 x17.Bits.length cp25]) p1 v1 r26 hx27 S1) rfl (lb rfl) fun _ a w S => ?_
  refine leafL (leafT (hK16 _ _ ?_))
  rcases iteSome h with ⟨hc28, h⟩ | ⟨hc28, h⟩
  rotate_left
  · refine sCondF S rfl hc28 ?_
    refine wp_skip (leafB (leafT (hK14 _ _ ?_)))
    refine sRegion ?_
    refine sBin (iv (w64 (s7 + 1))) S (wN rfl) rfl rfl rfl (bAdd _ _ _ _ s7 1) rfl (lb rfl) fun a S => ?_
    refine sMove (iv (w64 (s7 + 1))) S (wN rfl) (.inl rfl) rfl rfl (lb rfl) fun a S => ?_
    exact leafL (leafT (⟨w64 (s7 + 1), (Option.some.inj h).symm, (S.fix [] [4, 5] (by decide) rfl rfl rfl)⟩))
  refine sCondT S rfl hc28 ?_
  refine sSeq (fun K29 hK29 => ?_)
  refine sRegion ?_
  refine sMove (iv s7) S (wN rfl) (.inl rfl) rfl rfl (lb rfl) fun a S => ?_
  refine sMove (iv s7) S (wN rfl) (.inr rfl) rfl rfl (lb rfl) fun a S => ?_
  refine leafL (leafT (hK29 _ _ ?_))
  obtain rfl := Option.some.inj h
  obtain rfl := hu8 _ rfl
  have h := g9
  clear g9
  try dsimp only at h
  obtain rfl := Option.some.inj h
  have h := g5
  clear g5
  try dsimp only at h
  obtain rfl := Option.some.inj h
  exact wp_ret (rBlock (rThen (rThen (rBlock (rThen (sRet (iv s7) S (rsl1 rfl (rvT (t := 4) (v := iv s7) S rfl)) ⟨(), rfl, S.mem.sel [] [] (by decide) rfl rfl⟩))))))

end Go.Proofs.Ythfifeabomdlpaa
namespace Go.Proofs.Ythfifeabomdlpaa
open Go.RowKit
set_option linter.unusedVariables false

noncomputable def F_slices_ContainsFunc___api_Grid_api_Grid__s0 (p0 : (List api_Grid)) (p1 : (List api_Grid)) : Option Bool :=
  Option.bind (F_slices_IndexFunc___api_Grid_api_Grid__s1 p0 p1) fun r5 =>
  some (decide (0 ≤ r5))
set_option maxHeartbeats 4000000 in
set_option maxRecDepth 100000 in
theorem c_slices_ContainsFunc___api_Grid_api_Grid__s0 (E : Nat → Prop) (w0 : World) (p0 : (List api_Grid)) (v0 : Value) (p1 : (List api_Grid)) (v1 : Value) (r : Bool) (h : F_slices_ContainsFunc___api_Grid_api_Grid__s0 p0 p1 = some r) (S : St0 E [] w0 w0 [] [fRep (rL r_api_Grid) (v0) p0, fPtr (rL r_api_Grid) (v1) p1]) :
    Calls Try.prog 55 #[v0, .func (.func 54) #[] #[v1]] w0 (Ret (X := Unit) E [] w0 (fun _ => .bool r) (fun _ => []) (fun _ => [])) := by
  unfold F_slices_ContainsFunc___api_Grid_api_Grid__s0 at h
  obtain ⟨ad1, cp2, _, rfl, _⟩ := S.know (i := 0) (e := fRep (rL r_api_Grid) (v0) p0) rfl
  refine sEnter (args := [.slice ad1 p0.length cp2, .func (.func 54) #[] #[v1]]) 9 Try.func55 rfl rfl (by simp) S (fun a S => ?_)
  refine sSeq (fun K3 hK3 => ?_)
  refine sRegion ?_
  refine sMove (.bool false) S (wN rfl) (.inr rfl) rfl rfl (lb rfl) fun a S => ?_
  refine leafL (leafT (hK3 _ _ ?_))
  refine sSeq (fun K4 hK4 => ?_)
  refine sRegion ?_
  refine sMove (.slice ad1 p0.length cp2) S (wN rfl) (.inl rfl) rfl rfl (lb rfl) fun a S => ?_
  refine sMove (.func (.func 54) #[] #[v1]) S (wN rfl) (.inl rfl) rfl rfl (lb rfl) fun a S => ?_
  obtain ⟨r5, hx6, h⟩ := bindSome h
  have S1 := S.mem
  refine sCallQ (X := Unit) (f := 51) (vs := [.slice ad1 p0.length cp2, .func (.func 54) #[] #[v1]]) (val := fun _ => iv r5) S (wN rfl) rfl callee51 rfl (S1.quiet [0, 1] rfl) (fun E1 w1 S1 => c_slices_IndexFunc___api_Grid_api_Grid__s1 E1 w1 p0 (.slice ad1 p0.length cp2) p1 v1 r5 hx6 S1) rfl (lb rfl) fun _ a w S => ?_
  refine sBin (.bool (decide (0 ≤ r5))) S (wN rfl) rfl rfl rfl (bGe _ _ _ _ .i64 r5 0) rfl (lb rfl) fun a S => ?_
  refine sMove (.bool (decide (0 ≤ r5))) S (wN rfl) (.inr rfl) rfl rfl (lb rfl) fun a S => ?_
  refine leafL (leafT (hK4 _ _ ?_))
  obtain rfl := Option.some.inj h
  exact wp_ret (sRet (.bool (decide (0 ≤ r5))) S (rsl1 rfl (rvT (t := 4) (v := .bool (decide (0 ≤ r5))) S rfl)) ⟨(), rfl, S.mem.sel [] [] (by decide) rfl rfl⟩)

end Go.Proofs.Ythfifeabomdlpaa
namespace Go.Proofs.Ythfifeabomdlpaa
open Go.RowKit
set_option linter.unusedVariables false

def anc_block_Join_0 : List (List Nat) := [[], [], [1], [1, 2], [1, 2, 3], [0, 1, 2, 3, 4], [], [6], [], [6, 7, 8], [], [10], [10, 11], [10, 11, 12], [6, 7, 8, 9, 10, 11, 12, 13], [0, 1, 2, 3, 4, 5, 6, 7, 8, 9, 10, 11, 12, 13, 14], [0, 1, 2, 3, 4, 5, 6, 7, 8, 9, 10, 11, 12, 13, 14, 15], [0, 1, 2, 3, 4, 5, 6, 7, 8, 9, 10, 11, 12, 13, 14, 15, 16], [0, 1, 2, 3, 4, 5, 6, 7, 8, 9, 10, 11, 12, 13, 14, 15, 16], [], [0, 1, 2, 3, 4, 5, 6, 7, 8, 9, 10, 11, 12, 13, 14, 15, 16, 17, 19], [0, 1, 2, 3, 4, 5, 6, 7, 8, 9, 10, 11, 12, 13, 14, 15, 16, 17, 18, 19, 20]]
def anc_block_Join_1 : List (List Nat) := [[], [], [], [1, 2], [1, 2, 3], [], [], [5, 6], [], [], [8, 9], [0, 1, 2, 3, 4, 5, 6, 7, 8, 9, 10]]
noncomputable def block_Join_l1 (p1 : (List Int)) (p0 : (List api_Grid)) (p2 : Int) (r63 : (api_Grid × Int)) : (Int × List Bool) → Option ((Int × List Bool) ⊕ List Bool) := fun s0 => match s0 with
  | (s89, s90) =>
    if decide (s89 < (p1.length : Int)) then
      Option.bind (idxO p1 s89) fun x100 =>
      Option.bind (idxO p0 x100) fun x105 =>
      Option.bind (remI s89 p2) fun z114 =>
      Option.bind (quoI s89 p2) fun z116 =>
      Option.bind (F_block_put_s0 r63.1.W r63.1.H s90 x105 z114 z116) fun r118 =>
      some (.inl (w64 (s89 + 1), r118))
    else
      some (.inr s90)
noncomputable def F_block_Join (p0 : (List api_Grid)) (p1 : (List Int)) (p2 : Int) : Option (api_Grid × Int) :=
  if (p0.length : Int) == 0 then
    some ((api_Grid.mk 0 0 ([] : (List Bool))), 6)
  else
    Option.bind (F_block_checked p0) fun r14 =>
    if r14 != 0 then
      some ((api_Grid.mk 0 0 ([] : (List Bool))), r14)
    else
      Option.bind (α := Bool) (
        Option.bind (F_slices_ContainsFunc___api_Grid_api_Grid__s0 p0 p0) fun r24 =>
        if r24 then
          some true
        else
          if decide (p2 < 1) then
            some true
          else
            if (p1.length : Int) == 0 then
              some true
            else
              Option.bind (remI (p1.length : Int) p2) fun z29 =>
              some (z29 != 0)) fun o21 =>
      if o21 then
        some ((api_Grid.mk 0 0 ([] : (List Bool))), 26)
      else
        Option.bind (F_block_index p1 (p0.length : Int)) fun r35 =>
        if !r35 then
          some ((api_Grid.mk 0 0 ([] : (List Bool))), 8)
        else
          Option.bind (α := Bool) (
            if decide (64 < p2) then
              some true
            else
              Option.bind (quoI (p1.length : Int) p2) fun z44 =>
              some (decide (64 < z44))) fun o40 =>
          if o40 then
            some ((api_Grid.mk 0 0 ([] : (List Bool))), 4)
          else
            Option.bind (idxO p0 0) fun x49 =>
            Option.bind (quoI (p1.length : Int) p2) fun z56 =>
            Option.bind (F_block_zero_s0 (w64 (p2 * x49.W)) (w64 (z56 * x49.H))) fun r63 =>
            if r63.2 != 0 then
              some ((api_Grid.mk 0 0 ([] : (List Bool))), r63.2)
            else
              Option.bind (α := List Bool) (
                Option.bind (whileO (block_Join_l1 p1 p0 p2 r63) (0, r63.1.Bits)) fun e94 =>
                  some e94) fun o85 =>
              some ((api_Grid.mk r63.1.W r63.1.H o85), 0)
def c_block_Join_val (r : (api_Grid × Int)) (x : Value) : Value := .tuple #[x, .int .i64 r.2]
def c_block_Join_D (r : (api_Grid × Int)) (x : Value) : List Fact := [fRep r_api_Grid x r.1]
set_option maxHeartbeats 4000000 in
set_option maxRecDepth 100000 in
theorem c_block_Join (E : Nat → Prop) (w0 : World) (p0 : (List api_Grid)) (v0 : Value) (p1 : (List Int)) (v1 : Value) (p2 : Int) (r : (api_Grid × Int)) (h : F_block_Join p0 p1 p2 = some r) (S : St0 E [] w0 w0 [] [fRep (rL r_api_Grid) (v0) p0, fRep (rL (rI .i64)) (v1) p1]) :
    Calls Try.prog 21 #[v0, v1, iv p2] w0 (Ret (X := Value) E [] w0 (c_block_Join_val r) (fun _ => []) (c_block_Join_D r)) := by
  unfold F_block_Join at h
  obtain ⟨ad1, cp2, _, rfl, _⟩ := S.know (i := 0) (e := fRep (rL r_api_Grid) (v0) p0) rfl
  obtain ⟨ad3, cp4, _, rfl, _⟩ := S.know (i := 1) (e := fRep (rL (rI .i64)) (v1) p1) rfl
  refine sEnter (args := [.slice ad1 p0.length cp2, .slice ad3 p1.length cp4, iv p2]) 105 Try.func21 rfl rfl (by simp) S (fun a S => ?_)
  refine sSeq (fun K5 hK5 => ?_)
  refine sRegion ?_
  refine sBox (v := .slice ad1 p0.length cp2) S (wN rfl) rfl rfl [.slice ad1 p0.length cp2] rfl rfl (lb rfl) fun a b6 w S => ?_
  refine sAlloc (.agg #[iv 0, iv 0, .slice none 0 0]) S (wN rfl) rfl rfl [iv 0, iv 0, .slice none 0 0] rfl rfl (lb rfl) fun a b7 w S => ?_
  refine sMove (iv 0) S (wN rfl) (.inr rfl) rfl rfl (lb rfl) fun a S => ?_
  refine leafL (leafT (hK5 _ _ ?_))
  refine sSeq (fun K8 hK8 => ?_)
  refine sSeq (fun K9 hK9 => ?_)
  refine sRegion ?_
  refine sLoad1 (p := b6) (off := 0) (T := 34) (vs := [.slice ad1 p0.length cp2]) 1 (.slice ad1 p0.length cp2) S (wN rfl) rfl rfl rfl rfl rfl rfl (lb rfl) fun a S => ?_
  refine sLen (ad := ad1) (m := p0.length) (c := cp2) S (wN rfl) rfl Try.underlying34 rfl rfl (lb rfl) fun a S => ?_
  refine sBin (.bool ((p0.length : Int) == 0)) S (wN rfl) rfl rfl rfl (bEq _ _ _ _ .i64 (p0.length : Int) 0) rfl (lb rfl) fun a S => ?_
  refine leafL (leafT (hK9 _ _ ?_))
  rcases iteSome h with ⟨hc10, h⟩ | ⟨hc10, h⟩
  · refine sCondT S rfl hc10 ?_
    refine sSeq (fun K11 hK11 => ?_)
    refine sRegion ?_
    refine sBuild [] [iv 0, iv 0, .slice none 0 0] S (wN rfl) rfl rfl rfl rfl (lb rfl) fun a S => ?_
    refine sStore (p := b7) (off := 0) (T := 24) (vs := [iv 0, iv 0, .slice none 0 0]) (v := .agg #[iv 0, iv 0, .slice none 0 0]) 0 [iv 0, iv 0, .slice none 0 0] S (wN rfl) rfl rfl rfl rfl rfl rfl rfl (by simp) rfl fun a w S => ?_
    refine sMove (iv 6) S (wN rfl) (.inr rfl) rfl rfl (lb rfl) fun a S => ?_
    refine leafL (leafT (hK11 _ _ ?_))
    obtain rfl := Option.some.inj h
    have S := S.learn (fRep (rL rB) (.slice none 0 0) ([] : (List Bool))) (rL_nil _ _ _)
    have S := S.learn (fRep r_api_Grid (.agg #[iv 0, iv 0, .slice none 0 0]) (api_Grid.mk 0 0 ([] : (List Bool)))) ⟨_, rfl, S.mem.know (i := 0) (e := fRep (rL rB) (.slice none 0 0) ([] : (List Bool))) rfl⟩
    exact wp_ret (rThen (sRet (.tuple #[.agg #[iv 0, iv 0, .slice none 0 0], iv 6]) S (rsl2 rfl (rvN (c := 6) (t := 24) (T := 24) (p := b7) 0 [iv 0, iv 0, .slice none 0 0] S rfl rfl rfl rfl) (rvT (t := 7) (v := iv 6) S rfl)) ⟨(.agg #[iv 0, iv 0, .slice none 0 0]), rfl, S.mem.sel [] [0] (by decide) rfl rfl⟩))
  refine sCondF S rfl hc10 ?_
  refine wp_skip (leafT (hK8 _ _ ?_))
  refine sSeq (fun K12 hK12 => ?_)
  refine sSeq (fun K13 hK13 => ?_)
  refine sRegion ?_
  refine sLoad1 (p := b6) (off := 0) (T := 34) (vs := [.slice ad1 p0.length cp2]) 1 (.slice ad1 p0.length cp2) S (wN rfl) rfl rfl rfl rfl rfl rfl (lb rfl) fun a S => ?_
  obtain ⟨r14, hx15, h⟩ := bindSome h
  have S1 := S.mem
  refine sCallQ (X := Unit) (f := 41) (vs := [.slice ad1 p0.length cp2]) (val := fun _ => iv r14) S (wN rfl) rfl callee41 rfl (S1.quiet [0] rfl) (fun E1 w1 S1 => c_block_checked E1 w1 p0 (.slice ad1 p0.length cp2) r14 hx15 S1) rfl (lb rfl) fun _ a w S => ?_
  refine sMove (iv r14) S (wN rfl) (.inr rfl) rfl rfl (lb rfl) fun a S => ?_
  refine leafL (leafT (hK13 _ _ ?_))
  refine sSeq (fun K16 hK16 => ?_)
  refine sRegion ?_
  refine sMove (iv r14) S (wN rfl) (.inl rfl) rfl rfl (lb rfl) fun a S => ?_
  refine sBin (.bool (r14 != 0)) S (wN rfl) rfl rfl rfl (bNe _ _ _ _ .i64 r14 0) rfl (lb rfl) fun a S => ?_
  refine leafL (leafT (hK16 _ _ ?_))
  rcases iteSome h with ⟨hc17, h⟩ | ⟨hc17, h⟩
  · refine sCondT S rfl hc17 ?_
    refine sSeq (fun K18 hK18 => ?_)
    refine sRegion ?_
    refine sBuild [] [iv 0, iv 0, .slice none 0 0] S (wN rfl) rfl rfl rfl rfl (lb rfl) fun a S => ?_
    refine sMove (iv r14) S (wN rfl) (.inl rfl) rfl rfl (lb rfl) fun a S => ?_
    refine sStore (p := b7) (off := 0) (T := 24) (vs := [iv 0, iv 0, .slice none 0 0]) (v := .agg #[iv 0, iv 0, .slice none 0 0]) 0 [iv 0, iv 0, .slice none 0 0] S (wN rfl) rfl rfl rfl rfl rfl rfl rfl (by simp) rfl fun a w S => ?_
    refine sMove (iv r14) S (wN rfl) (.inr rfl) rfl rfl (lb rfl) fun a S => ?_
    refine leafL (leafT (hK18 _ _ ?_))
    obtain rfl := Option.some.inj h
    have S := S.learn (fRep (rL rB) (.slice none 0 0) ([] : (List Bool))) (rL_nil _ _ _)
    have S := S.learn (fRep r_api_Grid (.agg #[iv 0, iv 0, .slice none 0 0]) (api_Grid.mk 0 0 ([] : (List Bool)))) ⟨_, rfl, S.mem.know (i := 0) (e := fRep (rL rB) (.slice none 0 0) ([] : (List Bool))) rfl⟩
    exact wp_ret (rThen (sRet (.tuple #[.agg #[iv 0, iv 0, .slice none 0 0], iv r14]) S (rsl2 rfl (rvN (c := 6) (t := 24) (T := 24) (p := b7) 0 [iv 0, iv 0, .slice none 0 0] S rfl rfl rfl rfl) (rvT (t := 7) (v := iv r14) S rfl)) ⟨(.agg #[iv 0, iv 0, .slice none 0 0]), rfl, S.mem.sel [] [0] (by decide) rfl rfl⟩))
  refine sCondF S rfl hc17 ?_
  refine wp_skip (leafT (hK12 _ _ ?_))
  refine sSeq (fun K19 hK19 => ?_)
  refine sRegion ?_
  refine sFunc (g := 54) (vs := [.pointer (some ⟨b6, 0, none⟩)]) S (wN rfl) rfl rfl rfl (lb rfl) fun a S => ?_
  refine sMove (.func (.func 54) #[] #[.pointer (some ⟨b6, 0, none⟩)]) S (wN rfl) (.inr rfl) rfl rfl (lb rfl) fun a S => ?_
  refine leafL (leafT (hK19 _ _ ?_))
  refine sSeq (fun K20 hK20 => ?_)
  obtain ⟨t22, h, g23⟩ := bindSome h
  refine sCut (fun a w => ∃ o21, o21 = t22 ∧ St [] E [] w0 105 a w [(1, .slice ad3 p1.length cp4), (2, iv p2), (3, .pointer (some ⟨b6, 0, none⟩)), (6, .pointer (some ⟨b7, 0, none⟩)), (43, .bool o21)] [eBox b6 34 [.slice ad1 p0.length cp2], eBox b7 24 [iv 0, iv 0, .slice none 0 0]] [fRep (rL (rI .i64)) (.slice ad3 p1.length cp4) p1, fRep (rL r_api_Grid) (.slice ad1 p0.length cp2) p0]) ?_ (fun a w hI => ?_)
  · refine sRegion ?_
    refine sLoad1 (p := b6) (off := 0) (T := 34) (vs := [.slice ad1 p0.length cp2]) 1 (.slice ad1 p0.length cp2) S (wN rfl) rfl rfl rfl rfl rfl rfl (lb rfl) fun a S => ?_
    refine sMove (.func (.func 54) #[] #[.pointer (some ⟨b6, 0, none⟩)]) S (wN rfl) (.inl rfl) rfl rfl (lb rfl) fun a S => ?_
    obtain ⟨r24, hx25, h⟩ := bindSome h
    have S1 := S.mem
    have S1 := S1.shutB (r := (rL r_api_Grid)) (T := 34) (b := b6) (cs := [.slice ad1 p0.length cp2]) 1 (.slice ad1 p0.length cp2) p0 rfl rfl (S1.know (i := 0) (e := fRep (rL r_api_Grid) (.slice ad1 p0.length cp2) p0) rfl)
    refine sCallQ (X := Unit) (f := 55) (vs := [.slice ad1 p0.length cp2, .func (.func 54) #[] #[.pointer (some ⟨b6, 0, none⟩)]]) (val := fun _ => .bool r24) S (wN rfl) rfl callee55 rfl (S1.quiet [1, 0] rfl) (fun E1 w1 S1 => c_slices_ContainsFunc___api_Grid_api_Grid__s0 E1 w1 p0 (.slice ad1 p0.length cp2) p0 (.pointer (some ⟨b6, 0, none⟩)) r24 hx25 S1) rfl (lb rfl) fun _ a w S => ?_
    refine sMove (.bool r24) S (wN rfl) (.inl rfl) rfl rfl (lb rfl) fun a S => ?_
    rcases iteSome h with ⟨hc26, h⟩ | ⟨hc26, h⟩
    · refine sSkip 3 false 28 29 S rfl rfl rfl hc26 rfl (lb rfl) fun a S => ?_
      refine sSkip 3 false 28 30 S rfl rfl rfl hc26 rfl (lb rfl) fun a S => ?_
      refine sPickT (.bool true) S (wN rfl) rfl rfl hc26 rfl rfl (lb rfl) fun a S => ?_
      refine sMove (.bool true) S (wN rfl) (.inl rfl) rfl rfl (lb rfl) fun a S => ?_
      refine sSkip 7 false 32 33 S rfl rfl rfl rfl rfl (lb rfl) fun a S => ?_
      refine sSkip 7 false 32 34 S rfl rfl rfl rfl rfl (lb rfl) fun a S => ?_
      refine sSkip 7 false 32 35 S rfl rfl rfl rfl rfl (lb rfl) fun a S => ?_
      refine sPickT (.bool true) S (wN rfl) rfl rfl rfl rfl rfl (lb rfl) fun a S => ?_
      refine sMove (.bool true) S (wN rfl) (.inl rfl) rfl rfl (lb rfl) fun a S => ?_
      refine sSkip 12 false 37 38 S rfl rfl rfl rfl rfl (lb rfl) fun a S => ?_
      refine sSkip 12 false 37 39 S rfl rfl rfl rfl rfl (lb rfl) fun a S => ?_
      refine sSkip 12 false 37 40 S rfl rfl rfl rfl rfl (lb rfl) fun a S => ?_
      refine sSkip 12 false 37 41 S rfl rfl rfl rfl rfl (lb rfl) fun a S => ?_
      refine sSkip 12 false 37 42 S rfl rfl rfl rfl rfl (lb rfl) fun a S => ?_
      refine sPickT (.bool true) S (wN rfl) rfl rfl rfl rfl rfl (lb rfl) fun a S => ?_
      exact leafL (leafT (⟨true, Option.some.inj h, S.fix [1, 0] [1, 0] (by decide) rfl rfl rfl⟩))
    refine sMove (iv p2) S (wG 3 false 28 rfl rfl rfl hc26) (.inl rfl) rfl rfl (lb rfl) fun a S => ?_
    refine sBin (.bool (decide (p2 < 1))) S (wG 3 false 28 rfl rfl rfl hc26) rfl rfl rfl (bLt _ _ _ _ .i64 p2 1) rfl (lb rfl) fun a S => ?_
    refine sPickF (.bool (decide (p2 < 1))) S (wN rfl) rfl rfl hc26 rfl rfl (lb rfl) fun a S => ?_
    refine sMove (.bool (decide (p2 < 1))) S (wN rfl) (.inl rfl) rfl rfl (lb rfl) fun a S => ?_
    rcases iteSome h with ⟨hc27, h⟩ | ⟨hc27, h⟩
    · refine sSkip 7 false 32 33 S rfl rfl rfl hc27 rfl (lb rfl) fun a S => ?_
      refine sSkip 7 false 32 34 S rfl rfl rfl hc27 rfl (lb rfl) fun a S => ?_
      refine sSkip 7 false 32 35 S rfl rfl rfl hc27 rfl (lb rfl) fun a S => ?_
      refine sPickT (.bool true) S (wN rfl) rfl rfl hc27 rfl rfl (lb rfl) fun a S => ?_
      refine sMove (.bool true) S (wN rfl) (.inl rfl) rfl rfl (lb rfl) fun a S => ?_
      refine sSkip 12 false 37 38 S rfl rfl rfl rfl rfl (lb rfl) fun a S => ?_
      refine sSkip 12 false 37 39 S rfl rfl rfl rfl rfl (lb rfl) fun a S => ?_
      refine sSkip 12 false 37 40 S rfl rfl rfl rfl rfl (lb rfl) fun a S => ?_
      refine sSkip 12 false 37 41 S rfl rfl rfl rfl rfl (lb rfl) fun a S => ?_
      refine sSkip 12 false 37 42 S rfl rfl rfl rfl rfl (lb rfl) fun a S => ?_
      refine sPickT (.bool true) S (wN rfl) rfl rfl rfl rfl rfl (lb rfl) fun a S => ?_
      exact leafL (leafT (⟨true, Option.some.inj h, S.fix [1, 0] [1, 0] (by decide) rfl rfl rfl⟩))
    refine sMove (.slice ad3 p1.length cp4) S (wG 7 false 32 rfl rfl rfl hc27) (.inl rfl) rfl rfl (lb rfl) fun a S => ?_
    refine sLen (ad := ad3) (m := p1.length) (c := cp4) S (wG 7 false 32 rfl rfl rfl hc27) rfl Try.underlying35 rfl rfl (lb rfl) fun a S => ?_
    refine sBin (.bool ((p1.length : Int) == 0)) S (wG 7 false 32 rfl rfl rfl hc27) rfl rfl rfl (bEq _ _ _ _ .i64 (p1.length : Int) 0) rfl (lb rfl) fun a S => ?_
    refine sPickF (.bool ((p1.length : Int) == 0)) S (wN rfl) rfl rfl hc27 rfl rfl (lb rfl) fun a S => ?_
    refine sMove (.bool ((p1.length : Int) == 0)) S (wN rfl) (.inl rfl) rfl rfl (lb rfl) fun a S => ?_
    rcases iteSome h with ⟨hc28, h⟩ | ⟨hc28, h⟩
    · refine sSkip 12 false 37 38 S rfl rfl rfl hc28 rfl (lb rfl) fun a S => ?_
      refine sSkip 12 false 37 39 S rfl rfl rfl hc28 rfl (lb rfl) fun a S => ?_
      refine sSkip 12 false 37 40 S rfl rfl rfl hc28 rfl (lb rfl) fun a S => ?_
      refine sSkip 12 false 37 41 S rfl rfl rfl hc28 rfl (lb rfl) fun a S => ?_
      refine sSkip 12 false 37 42 S rfl rfl rfl hc28 rfl (lb rfl) fun a S => ?_
      refine sPickT (.bool true) S (wN rfl) rfl rfl hc28 rfl rfl (lb rfl) fun a S => ?_
      exact leafL (leafT (⟨true, Option.some.inj h, S.fix [1, 0] [1, 0] (by decide) rfl rfl rfl⟩))
    refine sMove (.slice ad3 p1.length cp4) S (wG 12 false 37 rfl rfl rfl hc28) (.inl rfl) rfl rfl (lb rfl) fun a S => ?_
    refine sLen (ad := ad3) (m := p1.length) (c := cp4) S (wG 12 false 37 rfl rfl rfl hc28) rfl Try.underlying35 rfl rfl (lb rfl) fun a S => ?_
    refine sMove (iv p2) S (wG 12 false 37 rfl rfl rfl hc28) (.inl rfl) rfl rfl (lb rfl) fun a S => ?_
    obtain ⟨z29, hx30, h⟩ := bindSome h
    refine sBin (iv z29) S (wG 12 false 37 rfl rfl rfl hc28) rfl rfl rfl (bRem _ _ _ _ (x := (p1.length : Int)) (y := p2) hx30) rfl (lb rfl) fun a S => ?_
    refine sBin (.bool (z29 != 0)) S (wG 12 false 37 rfl rfl rfl hc28) rfl rfl rfl (bNe _ _ _ _ .i64 z29 0) rfl (lb rfl) fun a S => ?_
    refine sPickF (.bool (z29 != 0)) S (wN rfl) rfl rfl hc28 rfl rfl (lb rfl) fun a S => ?_
    exact leafL (leafT (⟨z29 != 0, Option.some.inj h, S.fix [1, 0] [1, 0] (by decide) rfl rfl rfl⟩))
  obtain ⟨o21, rfl, S⟩ := hI
  have h := g23
  clear g23
  try dsimp only at h
  rcases iteSome h with ⟨hc31, h⟩ | ⟨hc31, h⟩
  · refine sCondT S rfl hc31 ?_
    refine sSeq (fun K32 hK32 => ?_)
    refine sRegion ?_
    refine sBuild [] [iv 0, iv 0, .slice none 0 0] S (wN rfl) rfl rfl rfl rfl (lb rfl) fun a S => ?_
    refine sStore (p := b7) (off := 0) (T := 24) (vs := [iv 0, iv 0, .slice none 0 0]) (v := .agg #[iv 0, iv 0, .slice none 0 0]) 1 [iv 0, iv 0, .slice none 0 0] S (wN rfl) rfl rfl rfl rfl rfl rfl rfl (by simp) rfl fun a w S => ?_
    refine sMove (iv 26) S (wN rfl) (.inr rfl) rfl rfl (lb rfl) fun a S => ?_
    refine leafL (leafT (hK32 _ _ ?_))
    obtain rfl := Option.some.inj h
    have S := S.learn (fRep (rL rB) (.slice none 0 0) ([] : (List Bool))) (rL_nil _ _ _)
    have S := S.learn (fRep r_api_Grid (.agg #[iv 0, iv 0, .slice none 0 0]) (api_Grid.mk 0 0 ([] : (List Bool)))) ⟨_, rfl, S.mem.know (i := 0) (e := fRep (rL rB) (.slice none 0 0) ([] : (List Bool))) rfl⟩
    exact wp_ret (rThen (sRet (.tuple #[.agg #[iv 0, iv 0, .slice none 0 0], iv 26]) S (rsl2 rfl (rvN (c := 6) (t := 24) (T := 24) (p := b7) 0 [iv 0, iv 0, .slice none 0 0] S rfl rfl rfl rfl) (rvT (t := 7) (v := iv 26) S rfl)) ⟨(.agg #[iv 0, iv 0, .slice none 0 0]), rfl, S.mem.sel [] [0] (by decide) rfl rfl⟩))
  refine sCondF S rfl hc31 ?_
  refine wp_skip (leafT (hK20 _ _ ?_))
  refine sSeq (fun K33 hK33 => ?_)
  refine sSeq (fun K34 hK34 => ?_)
  refine sRegion ?_
  refine sMove (.slice ad3 p1.length cp4) S (wN rfl) (.inl rfl) rfl rfl (lb rfl) fun a S => ?_
  refine sLoad1 (p := b6) (off := 0) (T := 34) (vs := [.slice ad1 p0.length cp2]) 0 (.slice ad1 p0.length cp2) S (wN rfl) rfl rfl rfl rfl rfl rfl (lb rfl) fun a S => ?_
  refine sLen (ad := ad1) (m := p0.length) (c := cp2) S (wN rfl) rfl Try.underlying34 rfl rfl (lb rfl) fun a S => ?_
  obtain ⟨r35, hx36, h⟩ := bindSome h
  have S1 := S.mem
  refine sCallQ (X := Unit) (f := 56) (vs := [.slice ad3 p1.length cp4, iv (p0.length : Int)]) (val := fun _ => .bool r35) S (wN rfl) rfl callee56 rfl (S1.quiet [0] rfl) (fun E1 w1 S1 => c_block_index E1 w1 p1 (.slice ad3 p1.length cp4) (p0.length : Int) r35 hx36 S1) rfl (lb rfl) fun _ a w S => ?_
  refine sNot (b := r35) S (wN rfl) rfl rfl rfl (lb rfl) fun a S => ?_
  refine leafL (leafT (hK34 _ _ ?_))
  rcases iteSome h with ⟨hc37, h⟩ | ⟨hc37, h⟩
  · refine sCondT S rfl hc37 ?_
    refine sSeq (fun K38 hK38 => ?_)
    refine sRegion ?_
    refine sBuild [] [iv 0, iv 0, .slice none 0 0] S (wN rfl) rfl rfl rfl rfl (lb rfl) fun a S => ?_
    refine sStore (p := b7) (off := 0) (T := 24) (vs := [iv 0, iv 0, .slice none 0 0]) (v := .agg #[iv 0, iv 0, .slice none 0 0]) 1 [iv 0, iv 0, .slice none 0 0] S (wN rfl) rfl rfl rfl rfl rfl rfl rfl (by simp) rfl fun a w S => ?_
    refine sMove (iv 8) S (wN rfl) (.inr rfl) rfl rfl (lb rfl) fun a S => ?_
    refine leafL (leafT (hK38 _ _ ?_))
    obtain rfl := Option.some.inj h
    have S := S.learn (fRep (rL rB) (.slice none 0 0) ([] : (List Bool))) (rL_nil _ _ _)
    have S := S.learn (fRep r_api_Grid (.agg #[iv 0, iv 0, .slice none 0 0]) (api_Grid.mk 0 0 ([] : (List Bool)))) ⟨_, rfl, S.mem.know (i := 0) (e := fRep (rL rB) (.slice none 0 0) ([] : (List Bool))) rfl⟩
    exact wp_ret (rThen (sRet (.tuple #[.agg #[iv 0, iv 0, .slice none 0 0], iv 8]) S (rsl2 rfl (rvN (c := 6) (t := 24) (T := 24) (p := b7) 0 [iv 0, iv 0, .slice none 0 0] S rfl rfl rfl rfl) (rvT (t := 7) (v := iv 8) S rfl)) ⟨(.agg #[iv 0, iv 0, .slice none 0 0]), rfl, S.mem.sel [] [0] (by decide) rfl rfl⟩))
  refine sCondF S rfl hc37 ?_
  refine wp_skip (leafT (hK33 _ _ ?_))
  refine sSeq (fun K39 hK39 => ?_)
  obtain ⟨t41, h, g42⟩ := bindSome h
  refine sCut (fun a w => ∃ o40, o40 = t41 ∧ St [] E [] w0 105 a w [(1, .slice ad3 p1.length cp4), (2, iv p2), (3, .pointer (some ⟨b6, 0, none⟩)), (6, .pointer (some ⟨b7, 0, none⟩)), (59, .bool o40)] [eBox b6 34 [.slice ad1 p0.length cp2], eBox b7 24 [iv 0, iv 0, .slice none 0 0]] [fRep (rL (rI .i64)) (.slice ad3 p1.length cp4) p1, fRep (rL r_api_Grid) (.slice ad1 p0.length cp2) p0]) ?_ (fun a w hI => ?_)
  · refine sRegion ?_
    refine sMove (iv p2) S (wN rfl) (.inl rfl) rfl rfl (lb rfl) fun a S => ?_
    refine sBin (.bool (decide (64 < p2))) S (wN rfl) rfl rfl rfl (bGt _ _ _ _ .i64 p2 64) rfl (lb rfl) fun a S => ?_
    refine sMove (.bool (decide (64 < p2))) S (wN rfl) (.inl rfl) rfl rfl (lb rfl) fun a S => ?_
    rcases iteSome h with ⟨hc43, h⟩ | ⟨hc43, h⟩
    · refine sSkip 2 false 53 54 S rfl rfl rfl hc43 rfl (lb rfl) fun a S => ?_
      refine sSkip 2 false 53 55 S rfl rfl rfl hc43 rfl (lb rfl) fun a S => ?_
      refine sSkip 2 false 53 56 S rfl rfl rfl hc43 rfl (lb rfl) fun a S => ?_
      refine sSkip 2 false 53 57 S rfl rfl rfl hc43 rfl (lb rfl) fun a S => ?_
      refine sSkip 2 false 53 58 S rfl rfl rfl hc43 rfl (lb rfl) fun a S => ?_
      refine sPickT (.bool true) S (wN rfl) rfl rfl hc43 rfl rfl (lb rfl) fun a S => ?_
      exact leafL (leafT (⟨true, Option.some.inj h, S.fix [0, 1] [0, 1] (by decide) rfl rfl rfl⟩))
    refine sMove (.slice ad3 p1.length cp4) S (wG 2 false 53 rfl rfl rfl hc43) (.inl rfl) rfl rfl (lb rfl) fun a S => ?_
    refine sLen (ad := ad3) (m := p1.length) (c := cp4) S (wG 2 false 53 rfl rfl rfl hc43) rfl Try.underlying35 rfl rfl (lb rfl) fun a S => ?_
    refine sMove (iv p2) S (wG 2 false 53 rfl rfl rfl hc43) (.inl rfl) rfl rfl (lb rfl) fun a S => ?_
    obtain ⟨z44, hx45, h⟩ := bindSome h
    refine sBin (iv z44) S (wG 2 false 53 rfl rfl rfl hc43) rfl rfl rfl (bQuo _ _ _ _ (x := (p1.length : Int)) (y := p2) hx45) rfl (lb rfl) fun a S => ?_
    refine sBin (.bool (decide (64 < z44))) S (wG 2 false 53 rfl rfl rfl hc43) rfl rfl rfl (bGt _ _ _ _ .i64 z44 64) rfl (lb rfl) fun a S => ?_
    refine sPickF (.bool (decide (64 < z44))) S (wN rfl) rfl rfl hc43 rfl rfl (lb rfl) fun a S => ?_
    exact leafL (leafT (⟨decide (64 < z44), Option.some.inj h, S.fix [0, 1] [0, 1] (by decide) rfl rfl rfl⟩))
  obtain ⟨o40, rfl, S⟩ := hI
  have h := g42
  clear g42
  try dsimp only at h
  rcases iteSome h with ⟨hc46, h⟩ | ⟨hc46, h⟩
  · refine sCondT S rfl hc46 ?_
    refine sSeq (fun K47 hK47 => ?_)
    refine sRegion ?_
    refine sBuild [] [iv 0, iv 0, .slice none 0 0] S (wN rfl) rfl rfl rfl rfl (lb rfl) fun a S => ?_
    refine sStore (p := b7) (off := 0) (T := 24) (vs := [iv 0, iv 0, .slice none 0 0]) (v := .agg #[iv 0, iv 0, .slice none 0 0]) 1 [iv 0, iv 0, .slice none 0 0] S (wN rfl) rfl rfl rfl rfl rfl rfl rfl (by simp) rfl fun a w S => ?_
    refine sMove (iv 4) S (wN rfl) (.inr rfl) rfl rfl (lb rfl) fun a S => ?_
    refine leafL (leafT (hK47 _ _ ?_))
    obtain rfl := Option.some.inj h
    have S := S.learn (fRep (rL rB) (.slice none 0 0) ([] : (List Bool))) (rL_nil _ _ _)
    have S := S.learn (fRep r_api_Grid (.agg #[iv 0, iv 0, .slice none 0 0]) (api_Grid.mk 0 0 ([] : (List Bool)))) ⟨_, rfl, S.mem.know (i := 0) (e := fRep (rL rB) (.slice none 0 0) ([] : (List Bool))) rfl⟩
    exact wp_ret (rThen (sRet (.tuple #[.agg #[iv 0, iv 0, .slice none 0 0], iv 4]) S (rsl2 rfl (rvN (c := 6) (t := 24) (T := 24) (p := b7) 0 [iv 0, iv 0, .slice none 0 0] S rfl rfl rfl rfl) (rvT (t := 7) (v := iv 4) S rfl)) ⟨(.agg #[iv 0, iv 0, .slice none 0 0]), rfl, S.mem.sel [] [0] (by decide) rfl rfl⟩))
  refine sCondF S rfl hc46 ?_
  refine wp_skip (leafT (hK39 _ _ ?_))
  refine sSeq (fun K48 hK48 => ?_)
  obtain ⟨x49, hx50, h⟩ := bindSome h
  obtain ⟨z56, hx57, h⟩ := bindSome h
  obtain ⟨r63, hx64, h⟩ := bindSome h
  obtain ⟨q68, hq69, S⟩ := pIdx (P := Try.prog) (r := r_api_Grid) (v := .slice ad1 p0.length cp2) (xs := p0) (j := 0) 34 24 1 S Try.underlying34 rfl rfl hx50
  obtain ⟨q70, hq71, S⟩ := pFld (P := Try.prog) (r := r_api_Grid) (s2 := (rI .i64)) (g := (·.W)) (q := q68) (z := x49) 24 0 0 0 S rfl rfl comp_api_Grid_W
  obtain ⟨u72, S⟩ := pLoad (r := (rI .i64)) (q := q70) (x := x49.W) 0 S rfl
  obtain rfl : u72 = iv x49.W := S.mem.know (i := 1) (e := fRep (rI .i64) (u72) x49.W) rfl
  obtain ⟨q73, hq74, S⟩ := pIdx (P := Try.prog) (r := r_api_Grid) (v := .slice ad1 p0.length cp2) (xs := p0) (j := 0) 34 24 5 S Try.underlying34 rfl rfl hx50
  obtain ⟨q75, hq76, S⟩ := pFld (P := Try.prog) (r := r_api_Grid) (s2 := (rI .i64)) (g := (·.H)) (q := q73) (z := x49) 24 1 0 1 S rfl rfl comp_api_Grid_H
  obtain ⟨u77, S⟩ := pLoad (r := (rI .i64)) (q := q75) (x := x49.H) 0 S rfl
  obtain rfl : u77 = iv x49.H := S.mem.know (i := 1) (e := fRep (rI .i64) (u77) x49.H) rfl
  refine sDraw (nf := [15, 19, 20]) (W := [(0, 62, iv p2), (1, 63, .slice ad1 p0.length cp2), (2, 64, q68), (3, 65, q70), (4, 66, iv x49.W), (5, 67, iv (w64 (p2 * x49.W))), (6, 68, .slice ad3 p1.length cp4), (7, 69, iv (p1.length : Int)), (8, 70, iv p2), (9, 71, iv z56), (10, 72, .slice ad1 p0.length cp2), (11, 73, q73), (12, 74, q75), (13, 75, iv x49.H), (14, 76, iv (w64 (z56 * x49.H)))]) rfl S ?_
  refine nodeCut (fun N W L D => ∀ b80 ad78 cp79, N [19, 15] ((19, 10, .pointer (some ⟨b80, 0, none⟩)) :: (16, 61, .tuple #[.agg #[iv r63.1.W, iv r63.1.H, .slice ad78 r63.1.Bits.length cp79], iv r63.2]) :: (17, 78, .agg #[iv r63.1.W, iv r63.1.H, .slice ad78 r63.1.Bits.length cp79]) :: (18, 79, iv r63.2) :: (15, 77, .tuple #[.agg #[iv r63.1.W, iv r63.1.H, .slice ad78 r63.1.Bits.length cp79], iv r63.2]) :: W) ((eBox b80 24 [iv 0, iv 0, .slice none 0 0]) :: (eRow rB 4 (.slice ad78 r63.1.Bits.length cp79) r63.1.Bits) :: L) (D)) (fun b80 ad78 cp79 => ?_) fun nd1 => ?_
  · refine node_by (A := anc_block_Join_0) (nf := [15, 19, 20]) (Y := [19, 15]) 22 (by kernel_rfl) (by kernel_rfl) (by kernel_rfl) (by kernel_rfl) (by kernel_rfl) [19, 16, 17, 18, 15, 0, 1, 2, 3, 4, 5, 6, 7, 8, 9, 10, 11, 12, 13, 14] (by kernel_rfl) (by decide) (by decide) (aD 0 21 15 (by decide) (aD 1 20 15 (by decide) (aD 2 19 15 (by decide) (aD 3 18 15 (by decide) (aD 4 17 15 (by decide) (aD 5 16 15 (by decide) (aD 6 15 15 (by decide) (aD 7 14 15 (by decide) (aD 8 13 15 (by decide) (aD 9 12 15 (by decide) (aD 10 11 15 (by decide) (aD 11 10 15 (by decide) (aD 12 9 15 (by decide) (aD 13 8 15 (by decide) (aD 14 7 15 (by decide) (aY 15 6 (by decide) (aF 16 5 (by decide) ?_ (aF 17 4 (by decide) ?_ (aF 18 3 (by decide) ?_ (aY 19 2 (by decide) (aN 20 1 (by decide) ?_ (aE 21 0 20 (by decide) (trivial))))))))))))))))))))))) [] (fun q hq => by cases hq) (fun hY => absurd (hY 20 (by decide)) (by decide))
    · refine fI 61 (.tuple #[.agg #[iv r63.1.W, iv r63.1.H, .slice ad78 r63.1.Bits.length cp79], iv r63.2]) [(77, .tuple #[.agg #[iv r63.1.W, iv r63.1.H, .slice ad78 r63.1.Bits.length cp79], iv r63.2])] 1 [some 4] rfl rfl rfl rfl rfl rfl fun G a w S => ?_
      refine sMove (.tuple #[.agg #[iv r63.1.W, iv r63.1.H, .slice ad78 r63.1.Bits.length cp79], iv r63.2]) S (wN rfl) (.inl rfl) rfl rfl (lb rfl) fun a S => ?_
      exact leafL ⟨rfl, S⟩
    · refine fI 78 (.agg #[iv r63.1.W, iv r63.1.H, .slice ad78 r63.1.Bits.length cp79]) [(61, .tuple #[.agg #[iv r63.1.W, iv r63.1.H, .slice ad78 r63.1.Bits.length cp79], iv r63.2])] 2 [some 1] rfl rfl rfl rfl rfl rfl fun G a w S => ?_
      refine sExtract (vs := [.agg #[iv r63.1.W, iv r63.1.H, .slice ad78 r63.1.Bits.length cp79], iv r63.2]) (.agg #[iv r63.1.W, iv r63.1.H, .slice ad78 r63.1.Bits.length cp79]) S (wN rfl) rfl rfl rfl rfl (lb rfl) fun a S => ?_
      exact leafL ⟨rfl, S⟩
    · refine fI 79 (iv r63.2) [(61, .tuple #[.agg #[iv r63.1.W, iv r63.1.H, .slice ad78 r63.1.Bits.length cp79], iv r63.2])] 3 [some 1] rfl rfl rfl rfl rfl rfl fun G a w S => ?_
      refine sExtract (vs := [.agg #[iv r63.1.W, iv r63.1.H, .slice ad78 r63.1.Bits.length cp79], iv r63.2]) (iv r63.2) S (wN rfl) rfl rfl rfl rfl (lb rfl) fun a S => ?_
      exact leafL ⟨rfl, S⟩
    refine ⟨_, [(10, .pointer (some ⟨b80, 0, none⟩)), (78, .agg #[iv r63.1.W, iv r63.1.H, .slice ad78 r63.1.Bits.length cp79])], rfl, (srcs_of [some 0, some 2] rfl rfl rfl), fun G a w S => ?_⟩
    refine sStore (p := b80) (off := 0) (T := 24) (vs := [iv 0, iv 0, .slice none 0 0]) (v := .agg #[iv r63.1.W, iv r63.1.H, .slice ad78 r63.1.Bits.length cp79]) 0 [iv r63.1.W, iv r63.1.H, .slice ad78 r63.1.Bits.length cp79] S (wN rfl) rfl rfl rfl rfl rfl rfl rfl (by simp) rfl fun a w S => ?_
    refine leafL ⟨rfl, _, _, .inr ⟨[(21, 11, iv r63.2)], rfl, S, hz_of rfl, ?_⟩⟩
    refine node_by (A := anc_block_Join_0) (nf := [15, 19, 20]) (Y := [20, 19, 15]) 22 (by kernel_rfl) (by kernel_rfl) (by kernel_rfl) (by kernel_rfl) (by kernel_rfl) [21, 19, 16, 17, 18, 15, 0, 1, 2, 3, 4, 5, 6, 7, 8, 9, 10, 11, 12, 13, 14] (by kernel_rfl) (by decide) (by decide) (aD 0 21 20 (by decide) (aD 1 20 20 (by decide) (aD 2 19 20 (by decide) (aD 3 18 20 (by decide) (aD 4 17 20 (by decide) (aD 5 16 20 (by decide) (aD 6 15 20 (by decide) (aD 7 14 20 (by decide) (aD 8 13 20 (by decide) (aD 9 12 20 (by decide) (aD 10 11 20 (by decide) (aD 11 10 20 (by decide) (aD 12 9 20 (by decide) (aD 13 8 20 (by decide) (aD 14 7 20 (by decide) (aY 15 6 (by decide) (aD 16 5 20 (by decide) (aD 17 4 20 (by decide) (aF 18 3 (by decide) ?_ (aY 19 2 (by decide) (aY 20 1 (by decide) (aF 21 0 (by decide) ?_ (trivial))))))))))))))))))))))) [(1, .slice ad3 p1.length cp4), (2, iv p2), (3, .pointer (some ⟨b6, 0, none⟩)), (6, .pointer (some ⟨b7, 0, none⟩)), (10, .pointer (some ⟨b80, 0, none⟩)), (11, iv r63.2)] (fin_of [none, none, none, none, some 1, some 0] rfl (by kernel_rfl) (by kernel_rfl)) (fun _ a w S => ?_)
    · refine fI 79 (iv r63.2) [(61, .tuple #[.agg #[iv r63.1.W, iv r63.1.H, .slice ad78 r63.1.Bits.length cp79], iv r63.2])] 4 [some 2] rfl rfl rfl rfl rfl rfl fun G a w S => ?_
      refine sExtract (vs := [.agg #[iv r63.1.W, iv r63.1.H, .slice ad78 r63.1.Bits.length cp79], iv r63.2]) (iv r63.2) S (wN rfl) rfl rfl rfl rfl (lb rfl) fun a S => ?_
      exact leafL ⟨rfl, S⟩
    · refine fI 11 (iv r63.2) [(79, iv r63.2)] 0 [some 4] rfl rfl rfl rfl rfl rfl fun G a w S => ?_
      refine sMove (iv r63.2) S (wN rfl) (.inr rfl) rfl rfl (lb rfl) fun a S => ?_
      exact leafL ⟨rfl, S⟩
    refine leafT (hK48 _ _ ?_)
    refine sSeq (fun K81 hK81 => ?_)
    refine sSeq (fun K82 hK82 => ?_)
    refine sRegion ?_
    refine sMove (iv r63.2) S (wN rfl) (.inl rfl) rfl rfl (lb rfl) fun a S => ?_
    refine sBin (.bool (r63.2 != 0)) S (wN rfl) rfl rfl rfl (bNe _ _ _ _ .i64 r63.2 0) rfl (lb rfl) fun a S => ?_
    refine leafL (leafT (hK82 _ _ ?_))
    rcases iteSome h with ⟨hc83, h⟩ | ⟨hc83, h⟩
    · refine sCondT S rfl hc83 ?_
      refine sSeq (fun K84 hK84 => ?_)
      refine sRegion ?_
      refine sBuild [] [iv 0, iv 0, .slice none 0 0] S (wN rfl) rfl rfl rfl rfl (lb rfl) fun a S => ?_
      refine sMove (iv r63.2) S (wN rfl) (.inl rfl) rfl rfl (lb rfl) fun a S => ?_
      refine sStore (p := b7) (off := 0) (T := 24) (vs := [iv 0, iv 0, .slice none 0 0]) (v := .agg #[iv 0, iv 0, .slice none 0 0]) 3 [iv 0, iv 0, .slice none 0 0] S (wN rfl) rfl rfl rfl rfl rfl rfl rfl (by simp) rfl fun a w S => ?_
      refine sMove (iv r63.2) S (wN rfl) (.inr rfl) rfl rfl (lb rfl) fun a S => ?_
      refine leafL (leafT (hK84 _ _ ?_))
      obtain rfl := Option.some.inj h
      have S := S.learn (fRep (rL rB) (.slice none 0 0) ([] : (List Bool))) (rL_nil _ _ _)
      have S := S.learn (fRep r_api_Grid (.agg #[iv 0, iv 0, .slice none 0 0]) (api_Grid.mk 0 0 ([] : (List Bool)))) ⟨_, rfl, S.mem.know (i := 0) (e := fRep (rL rB) (.slice none 0 0) ([] : (List Bool))) rfl⟩
      exact wp_ret (rThen (sRet (.tuple #[.agg #[iv 0, iv 0, .slice none 0 0], iv r63.2]) S (rsl2 rfl (rvN (c := 6) (t := 24) (T := 24) (p := b7) 0 [iv 0, iv 0, .slice none 0 0] S rfl rfl rfl rfl) (rvT (t := 7) (v := iv r63.2) S rfl)) ⟨(.agg #[iv 0, iv 0, .slice none 0 0]), rfl, S.mem.sel [] [0] (by decide) rfl rfl⟩))
    refine sCondF S rfl hc83 ?_
    refine wp_skip (leafT (hK81 _ _ ?_))
    obtain ⟨t86, h, g87⟩ := bindSome h
    refine sCut (fun a w => ∃ o85, o85 = t86 ∧ St [] E [] w0 105 a w [(6, .pointer (some ⟨b7, 0, none⟩)), (10, .pointer (some ⟨b80, 0, none⟩))] [eBox b7 24 [iv 0, iv 0, .slice none 0 0], eBox b80 24 [iv r63.1.W, iv r63.1.H, .slice ad78 o85.length cp79], eRow rB 4 (.slice ad78 o85.length cp79) o85] []) ?_ (fun a w hI => ?_)
    rotate_left
    · obtain ⟨o85, rfl, S⟩ := hI
      have h := g87
      clear g87
      try dsimp only at h
      refine sSeq (fun K128 hK128 => ?_)
      refine sRegion ?_
      refine sLoadN (p := b80) (off := 0) (T := 24) (vs := [iv r63.1.W, iv r63.1.H, .slice ad78 o85.length cp79]) 1 [iv r63.1.W, iv r63.1.H, .slice ad78 o85.length cp79] S (wN rfl) rfl rfl rfl rfl rfl rfl rfl (lb rfl) fun a S => ?_
      refine sStore (p := b7) (off := 0) (T := 24) (vs := [iv 0, iv 0, .slice none 0 0]) (v := .agg #[iv r63.1.W, iv r63.1.H, .slice ad78 o85.length cp79]) 0 [iv r63.1.W, iv r63.1.H, .slice ad78 o85.length cp79] S (wN rfl) rfl rfl rfl rfl rfl rfl rfl (by simp) rfl fun a w S => ?_
      refine sMove (iv 0) S (wN rfl) (.inr rfl) rfl rfl (lb rfl) fun a S => ?_
      refine leafL (leafT (hK128 _ _ ?_))
      obtain rfl := Option.some.inj h
      have S := S.shutR (r := rB) (T := 4) (v := .slice ad78 o85.length cp79) (xs := o85) 2 rfl
      have S := S.learn (fRep r_api_Grid (.agg #[iv r63.1.W, iv r63.1.H, .slice ad78 o85.length cp79]) (api_Grid.mk r63.1.W r63.1.H o85)) ⟨_, rfl, S.mem.know (i := 0) (e := fRep (rL rB) (.slice ad78 o85.length cp79) o85) rfl⟩
      exact wp_ret (sRet (.tuple #[.agg #[iv r63.1.W, iv r63.1.H, .slice ad78 o85.length cp79], iv 0]) S (rsl2 rfl (rvN (c := 6) (t := 24) (T := 24) (p := b7) 0 [iv r63.1.W, iv r63.1.H, .slice ad78 o85.length cp79] S rfl rfl rfl rfl) (rvT (t := 7) (v := iv 0) S rfl)) ⟨(.agg #[iv r63.1.W, iv r63.1.H, .slice ad78 o85.length cp79]), rfl, S.mem.sel [] [0] (by decide) rfl rfl⟩)
    refine sSeq (fun K88 hK88 => ?_)
    refine sRegion ?_
    refine sMove (.slice ad3 p1.length cp4) S (wN rfl) (.inl rfl) rfl rfl (lb rfl) fun a S => ?_
    refine sLen (ad := ad3) (m := p1.length) (c := cp4) S (wN rfl) rfl Try.underlying35 rfl rfl (lb rfl) fun a S => ?_
    refine sMove (iv 0) S (wN rfl) (.inl rfl) rfl rfl (lb rfl) fun a S => ?_
    refine leafL (leafT (hK88 _ _ ?_))
    refine wp_block ?_
    obtain ⟨t93, hl, g92⟩ := bindSome h
    refine sLoop hl (fun s0 a w => match s0 with | (s89, s90) => St [] E [] w0 105 a w [(2, iv p2), (3, .pointer (some ⟨b6, 0, none⟩)), (6, .pointer (some ⟨b7, 0, none⟩)), (10, .pointer (some ⟨b80, 0, none⟩)), (84, .slice ad3 p1.length cp4), (85, iv (p1.length : Int)), (86, iv s89)] [eBox b6 34 [.slice ad1 p0.length cp2], eBox b7 24 [iv 0, iv 0, .slice none 0 0], eBox b80 24 [iv r63.1.W, iv r63.1.H, .slice ad78 s90.length cp79], eRow rB 4 (.slice ad78 s90.length cp79) s90] [fRep (rL (rI .i64)) (.slice ad3 p1.length cp4) p1, fRep (rL r_api_Grid) (.slice ad1 p0.length cp2) p0]) (S.fix [2, 3, 0, 1] [8, 9] (by decide) rfl rfl rfl) ?_
    clear hl h
    intro s0 a w c0 hI h hu91
    obtain ⟨s89, s90⟩ := s0
    unfold block_Join_l1 at h
    dsimp only at h hI
    have S := hI
    refine sSeq (fun K95 hK95 => ?_)
    refine sRegion ?_
    refine sBin (.bool (decide (s89 < (p1.length : Int)))) S (wN rfl) rfl rfl rfl (bLt _ _ _ _ .i64 s89 (p1.length : Int)) rfl (lb rfl) fun a S => ?_
    refine leafL (leafT (hK95 _ _ ?_))
    refine sSeq (fun K96 hK96 => ?_)
    rcases iteSome h with ⟨hc97, h⟩ | ⟨hc97, h⟩
    rotate_left
    · refine sCondF S rfl hc97 ?_
      obtain rfl := Option.some.inj h
      obtain rfl := hu91 _ rfl
      have h := g92
      clear g92
      try dsimp only at h
      exact wp_exit (xThen (xThen (xHit (leafT (⟨s90, Option.some.inj h, S.fix [1, 2, 3] [] (by decide) rfl rfl rfl⟩)))))
    refine sCondT S rfl hc97 ?_
    refine wp_skip (leafT (hK96 _ _ ?_))
    refine sSeq (fun K98 hK98 => ?_)
    refine wp_block ?_
    refine sSeq (fun K99 hK99 => ?_)
    refine sRegion ?_
    refine sMove (iv s89) S (wN rfl) (.inl rfl) rfl rfl (lb rfl) fun a S => ?_
    obtain ⟨x100, hx101, h⟩ := bindSome h
    obtain ⟨q102, hq103, S⟩ := pIdx (P := Try.prog) (r := (rI .i64)) (v := .slice ad3 p1.length cp4) (xs := p1) (j := s89) 35 3 0 S Try.underlying35 rfl rfl hx101
    refine sIdxV (v := .slice ad3 p1.length cp4) (k := .i64) (j := s89) S (wN rfl) rfl rfl rfl hq103 rfl (lb rfl) fun a S => ?_
    obtain ⟨u104, S⟩ := pLoad (r := (rI .i64)) (q := q102) (x := x100) 0 S rfl
    obtain rfl : u104 = iv x100 := S.mem.know (i := 1) (e := fRep (rI .i64) (u104) x100) rfl
    refine sLoadV1 (vq := q102) 0 (iv x100) S (wN rfl) rfl rfl rfl rfl rfl (lb rfl) fun a S => ?_
    refine sMove (iv s89) S (wN rfl) (.inr rfl) rfl rfl (lb rfl) fun a S => ?_
    refine sMove (iv x100) S (wN rfl) (.inr rfl) rfl rfl (lb rfl) fun a S => ?_
    refine leafL (leafT (hK99 _ _ ?_))
    obtain ⟨x105, hx106, h⟩ := bindSome h
    obtain ⟨z114, hx115, h⟩ := bindSome h
    obtain ⟨z116, hx117, h⟩ := bindSome h
    obtain ⟨r118, hx119, h⟩ := bindSome h
    obtain ⟨q120, hq121, S⟩ := pIdx (P := Try.prog) (r := r_api_Grid) (v := .slice ad1 p0.length cp2) (xs := p0) (j := x100) 34 24 4 S Try.underlying34 rfl rfl hx106
    obtain ⟨u122, S⟩ := pLoad (r := r_api_Grid) (q := q120) (x := x105) 0 S rfl
    obtain ⟨u123, rfl, hu124⟩ := S.mem.know (i := 1) (e := fRep r_api_Grid (u122) x105) rfl
    have S := S.learn (fRep (rL rB) u123 x105.Bits) hu124
    obtain ⟨ad125, cp126, _, rfl, _⟩ := hu124
    refine sDraw (nf := [11]) (W := [(0, 91, .agg #[iv r63.1.W, iv r63.1.H, .slice ad78 s90.length cp79]), (1, 92, .slice ad1 p0.length cp2), (2, 93, iv x100), (3, 94, q120), (4, 95, .agg #[iv x105.W, iv x105.H, .slice ad125 x105.Bits.length cp126]), (5, 96, iv s89), (6, 97, iv p2), (7, 98, iv z114), (8, 99, iv s89), (9, 100, iv p2), (10, 101, iv z116)]) rfl S ?_
    refine node_by (A := anc_block_Join_1) (nf := [11]) (Y := []) (W := [(0, 91, .agg #[iv r63.1.W, iv r63.1.H, .slice ad78 s90.length cp79]), (1, 92, .slice ad1 p0.length cp2), (2, 93, iv x100), (3, 94, q120), (4, 95, .agg #[iv x105.W, iv x105.H, .slice ad125 x105.Bits.length cp126]), (5, 96, iv s89), (6, 97, iv p2), (7, 98, iv z114), (8, 99, iv s89), (9, 100, iv p2), (10, 101, iv z116)]) 12 (by kernel_rfl) (by kernel_rfl) (by kernel_rfl) (by kernel_rfl) (by kernel_rfl) [0, 1, 2, 3, 4, 5, 6, 7, 8, 9, 10] (by kernel_rfl) (by decide) (by decide) (aF 0 11 (by decide) ?_ (aF 1 10 (by decide) ?_ (aF 2 9 (by decide) ?_ (aF 3 8 (by decide) ?_ (aF 4 7 (by decide) ?_ (aF 5 6 (by decide) ?_ (aF 6 5 (by decide) ?_ (aF 7 4 (by decide) ?_ (aF 8 3 (by decide) ?_ (aF 9 2 (by decide) ?_ (aF 10 1 (by decide) ?_ (aN 11 0 (by decide) ?_ (trivial))))))))))))) [] (fun q hq => by cases hq) (fun hY => absurd (hY 11 (by decide)) (by decide))
    · refine fI 91 (.agg #[iv r63.1.W, iv r63.1.H, .slice ad78 s90.length cp79]) [(10, .pointer (some ⟨b80, 0, none⟩))] 0 [none] rfl rfl rfl rfl rfl rfl fun G a w S => ?_
      refine sLoadN (p := b80) (off := 0) (T := 24) (vs := [iv r63.1.W, iv r63.1.H, .slice ad78 s90.length cp79]) 2 [iv r63.1.W, iv r63.1.H, .slice ad78 s90.length cp79] S (wN rfl) rfl rfl rfl rfl rfl rfl rfl (lb rfl) fun a S => ?_
      exact leafL ⟨rfl, S⟩
    · refine fI 92 (.slice ad1 p0.length cp2) [(3, .pointer (some ⟨b6, 0, none⟩))] 1 [none] rfl rfl rfl rfl rfl rfl fun G a w S => ?_
      refine sLoad1 (p := b6) (off := 0) (T := 34) (vs := [.slice ad1 p0.length cp2]) 0 (.slice ad1 p0.length cp2) S (wN rfl) rfl rfl rfl rfl rfl rfl (lb rfl) fun a S => ?_
      exact leafL ⟨rfl, S⟩
    · refine fI 93 (iv x100) [(13, iv x100)] 2 [none] rfl rfl rfl rfl rfl rfl fun G a w S => ?_
      refine sMove (iv x100) S (wN rfl) (.inl rfl) rfl rfl (lb rfl) fun a S => ?_
      exact leafL ⟨rfl, S⟩
    · refine fI 94 q120 [(92, .slice ad1 p0.length cp2), (93, iv x100)] 3 [some 1, some 2] rfl rfl rfl rfl rfl rfl fun G a w S => ?_
      refine sIdxV (v := .slice ad1 p0.length cp2) (k := .i64) (j := x100) S (wN rfl) rfl rfl rfl hq121 rfl (lb rfl) fun a S => ?_
      exact leafL ⟨rfl, S⟩
    · refine fI 95 (.agg #[iv x105.W, iv x105.H, .slice ad125 x105.Bits.length cp126]) [(94, q120)] 4 [some 3] rfl rfl rfl rfl rfl rfl fun G a w S => ?_
      refine sLoadVN (vq := q120) 1 [iv x105.W, iv x105.H, .slice ad125 x105.Bits.length cp126] S (wN rfl) rfl rfl rfl rfl rfl rfl (lb rfl) fun a S => ?_
      exact leafL ⟨rfl, S⟩
    · refine fI 96 (iv s89) [(12, iv s89)] 5 [none] rfl rfl rfl rfl rfl rfl fun G a w S => ?_
      refine sMove (iv s89) S (wN rfl) (.inl rfl) rfl rfl (lb rfl) fun a S => ?_
      exact leafL ⟨rfl, S⟩
    · refine fI 97 (iv p2) [(2, iv p2)] 6 [none] rfl rfl rfl rfl rfl rfl fun G a w S => ?_
      refine sMove (iv p2) S (wN rfl) (.inl rfl) rfl rfl (lb rfl) fun a S => ?_
      exact leafL ⟨rfl, S⟩
    · refine fI 98 (iv z114) [(96, iv s89), (97, iv p2)] 7 [some 5, some 6] rfl rfl rfl rfl rfl rfl fun G a w S => ?_
      refine sBin (iv z114) S (wN rfl) rfl rfl rfl (bRem _ _ _ _ (x := s89) (y := p2) hx115) rfl (lb rfl) fun a S => ?_
      exact leafL ⟨rfl, S⟩
    · refine fI 99 (iv s89) [(12, iv s89)] 8 [none] rfl rfl rfl rfl rfl rfl fun G a w S => ?_
      refine sMove (iv s89) S (wN rfl) (.inl rfl) rfl rfl (lb rfl) fun a S => ?_
      exact leafL ⟨rfl, S⟩
    · refine fI 100 (iv p2) [(2, iv p2)] 9 [none] rfl rfl rfl rfl rfl rfl fun G a w S => ?_
      refine sMove (iv p2) S (wN rfl) (.inl rfl) rfl rfl (lb rfl) fun a S => ?_
      exact leafL ⟨rfl, S⟩
    · refine fI 101 (iv z116) [(99, iv s89), (100, iv p2)] 10 [some 8, some 9] rfl rfl rfl rfl rfl rfl fun G a w S => ?_
      refine sBin (iv z116) S (wN rfl) rfl rfl rfl (bQuo _ _ _ _ (x := s89) (y := p2) hx117) rfl (lb rfl) fun a S => ?_
      exact leafL ⟨rfl, S⟩
    refine ⟨_, [(91, .agg #[iv r63.1.W, iv r63.1.H, .slice ad78 s90.length cp79]), (95, .agg #[iv x105.W, iv x105.H, .slice ad125 x105.Bits.length cp126]), (98, iv z114), (101, iv z116)], rfl, (srcs_of [some 0, some 4, some 7, some 10] rfl rfl rfl), fun G a w S => ?_⟩
    refine sCall (X := Unit) (f := 44) (vs := [.agg #[iv r63.1.W, iv r63.1.H, .slice ad78 s90.length cp79], .agg #[iv x105.W, iv x105.H, .slice ad125 x105.Bits.length cp126], iv z114, iv z116]) (val := fun _ => .tuple #[]) (B' := fun _ => [eRow rB 4 (.slice ad78 s90.length cp79) r118]) (D' := fun _ => []) [eRow rB 4 (.slice ad78 s90.length cp79) s90] [eBox b6 34 [.slice ad1 p0.length cp2], eBox b7 24 [iv 0, iv 0, .slice none 0 0], eBox b80 24 [iv r63.1.W, iv r63.1.H, .slice ad78 s90.length cp79]] [fRep r_api_Grid (.agg #[iv x105.W, iv x105.H, .slice ad125 x105.Bits.length cp126]) x105] [3, 0, 1, 2] [2] S (wN rfl) rfl callee44 rfl (by decide) rfl rfl (fun E1 w1 S1 => c_block_put_s0 E1 w1 r63.1.W r63.1.H s90 ad78 cp79 x105 (.agg #[iv x105.W, iv x105.H, .slice ad125 x105.Bits.length cp126]) z114 z116 r118 hx119 S1) rfl (lb rfl) fun _ a w S => ?_
    refine leafL ⟨rfl, _, _, .inl ⟨102, (.tuple #[]), [], rfl, S, hz_of rfl, ?_⟩⟩
    refine node_by (A := anc_block_Join_1) (nf := [11]) (Y := [11]) 12 (by kernel_rfl) (by kernel_rfl) (by kernel_rfl) (by kernel_rfl) (by kernel_rfl) [11, 0, 1, 2, 3, 4, 5, 6, 7, 8, 9, 10] (by kernel_rfl) (by decide) (by decide) (aD 0 11 11 (by decide) (aD 1 10 11 (by decide) (aD 2 9 11 (by decide) (aD 3 8 11 (by decide) (aD 4 7 11 (by decide) (aD 5 6 11 (by decide) (aD 6 5 11 (by decide) (aD 7 4 11 (by decide) (aD 8 3 11 (by decide) (aD 9 2 11 (by decide) (aD 10 1 11 (by decide) (aY 11 0 (by decide) (trivial))))))))))))) [(2, iv p2), (3, .pointer (some ⟨b6, 0, none⟩)), (6, .pointer (some ⟨b7, 0, none⟩)), (10, .pointer (some ⟨b80, 0, none⟩)), (84, .slice ad3 p1.length cp4), (85, iv (p1.length : Int)), (86, iv s89)] (fin_of [none, none, none, none, none, none, none] rfl (by kernel_rfl) (by kernel_rfl)) (fun _ a w S => ?_)
    have hr127 := row_v (S.mem.hold (i := 0) (e := eRow rB 4 (.slice ad78 s90.length cp79) r118) rfl)
    rw [hr127] at S
    refine leafB (leafT (hK98 _ _ ?_))
    refine sRegion ?_
    refine sBin (iv (w64 (s89 + 1))) S (wN rfl) rfl rfl rfl (bAdd _ _ _ _ s89 1) rfl (lb rfl) fun a S => ?_
    refine sMove (iv (w64 (s89 + 1))) S (wN rfl) (.inl rfl) rfl rfl (lb rfl) fun a S => ?_
    exact leafL (leafT (⟨(w64 (s89 + 1), r118), (Option.some.inj h).symm, (S.fix [1, 2, 3, 0] [7, 8] (by decide) rfl rfl rfl)⟩))
  refine node_by (A := anc_block_Join_0) (nf := [15, 19, 20]) (Y := []) (W := [(0, 62, iv p2), (1, 63, .slice ad1 p0.length cp2), (2, 64, q68), (3, 65, q70), (4, 66, iv x49.W), (5, 67, iv (w64 (p2 * x49.W))), (6, 68, .slice ad3 p1.length cp4), (7, 69, iv (p1.length : Int)), (8, 70, iv p2), (9, 71, iv z56), (10, 72, .slice ad1 p0.length cp2), (11, 73, q73), (12, 74, q75), (13, 75, iv x49.H), (14, 76, iv (w64 (z56 * x49.H)))]) 22 (by kernel_rfl) (by kernel_rfl) (by kernel_rfl) (by kernel_rfl) (by kernel_rfl) [0, 1, 2, 3, 4, 5, 6, 7, 8, 9, 10, 11, 12, 13, 14] (by kernel_rfl) (by decide) (by decide) (aF 0 21 (by decide) ?_ (aF 1 20 (by decide) ?_ (aF 2 19 (by decide) ?_ (aF 3 18 (by decide) ?_ (aF 4 17 (by decide) ?_ (aF 5 16 (by decide) ?_ (aF 6 15 (by decide) ?_ (aF 7 14 (by decide) ?_ (aF 8 13 (by decide) ?_ (aF 9 12 (by decide) ?_ (aF 10 11 (by decide) ?_ (aF 11 10 (by decide) ?_ (aF 12 9 (by decide) ?_ (aF 13 8 (by decide) ?_ (aF 14 7 (by decide) ?_ (aN 15 6 (by decide) ?_ (aE 16 5 15 (by decide) (aE 17 4 15 (by decide) (aE 18 3 15 (by decide) (aN 19 2 (by decide) ?_ (aB 20 1 15 (by decide) (aE 21 0 15 (by decide) (trivial))))))))))))))))))))))) [] (fun q hq => by cases hq) (fun hY => absurd (hY 15 (by decide)) (by decide))
  · refine fI 62 (iv p2) [(2, iv p2)] 0 [none] rfl rfl rfl rfl rfl rfl fun G a w S => ?_
    refine sMove (iv p2) S (wN rfl) (.inl rfl) rfl rfl (lb rfl) fun a S => ?_
    exact leafL ⟨rfl, S⟩
  · refine fI 63 (.slice ad1 p0.length cp2) [(3, .pointer (some ⟨b6, 0, none⟩))] 1 [none] rfl rfl rfl rfl rfl rfl fun G a w S => ?_
    refine sLoad1 (p := b6) (off := 0) (T := 34) (vs := [.slice ad1 p0.length cp2]) 0 (.slice ad1 p0.length cp2) S (wN rfl) rfl rfl rfl rfl rfl rfl (lb rfl) fun a S => ?_
    exact leafL ⟨rfl, S⟩
  · refine fI 64 q68 [(63, .slice ad1 p0.length cp2)] 2 [some 1] rfl rfl rfl rfl rfl rfl fun G a w S => ?_
    refine sIdxV (v := .slice ad1 p0.length cp2) (k := .i64) (j := 0) S (wN rfl) rfl rfl rfl hq69 rfl (lb rfl) fun a S => ?_
    exact leafL ⟨rfl, S⟩
  · refine fI 65 q70 [(64, q68)] 3 [some 2] rfl rfl rfl rfl rfl rfl fun G a w S => ?_
    refine sFldV (q := q68) S (wN rfl) rfl rfl hq71 rfl (lb rfl) fun a S => ?_
    exact leafL ⟨rfl, S⟩
  · refine fI 66 (iv x49.W) [(65, q70)] 4 [some 3] rfl rfl rfl rfl rfl rfl fun G a w S => ?_
    refine sLoadV1 (vq := q70) 4 (iv x49.W) S (wN rfl) rfl rfl rfl rfl rfl (lb rfl) fun a S => ?_
    exact leafL ⟨rfl, S⟩
  · refine fI 67 (iv (w64 (p2 * x49.W))) [(62, iv p2), (66, iv x49.W)] 5 [some 0, some 4] rfl rfl rfl rfl rfl rfl fun G a w S => ?_
    refine sBin (iv (w64 (p2 * x49.W))) S (wN rfl) rfl rfl rfl (bMul _ _ _ _ p2 x49.W) rfl (lb rfl) fun a S => ?_
    exact leafL ⟨rfl, S⟩
  · refine fI 68 (.slice ad3 p1.length cp4) [(1, .slice ad3 p1.length cp4)] 6 [none] rfl rfl rfl rfl rfl rfl fun G a w S => ?_
    refine sMove (.slice ad3 p1.length cp4) S (wN rfl) (.inl rfl) rfl rfl (lb rfl) fun a S => ?_
    exact leafL ⟨rfl, S⟩
  · refine fI 69 (iv (p1.length : Int)) [(68, .slice ad3 p1.length cp4)] 7 [some 6] rfl rfl rfl rfl rfl rfl fun G a w S => ?_
    refine sLen (ad := ad3) (m := p1.length) (c := cp4) S (wN rfl) rfl Try.underlying35 rfl rfl (lb rfl) fun a S => ?_
    exact leafL ⟨rfl, S⟩
  · refine fI 70 (iv p2) [(2, iv p2)] 8 [none] rfl rfl rfl rfl rfl rfl fun G a w S => ?_
    refine sMove (iv p2) S (wN rfl) (.inl rfl) rfl rfl (lb rfl) fun a S => ?_
    exact leafL ⟨rfl, S⟩
  · refine fI 71 (iv z56) [(69, iv (p1.length : Int)), (70, iv p2)] 9 [some 7, some 8] rfl rfl rfl rfl rfl rfl fun G a w S => ?_
    refine sBin (iv z56) S (wN rfl) rfl rfl rfl (bQuo _ _ _ _ (x := (p1.length : Int)) (y := p2) hx57) rfl (lb rfl) fun a S => ?_
    exact leafL ⟨rfl, S⟩
  · refine fI 72 (.slice ad1 p0.length cp2) [(3, .pointer (some ⟨b6, 0, none⟩))] 10 [none] rfl rfl rfl rfl rfl rfl fun G a w S => ?_
    refine sLoad1 (p := b6) (off := 0) (T := 34) (vs := [.slice ad1 p0.length cp2]) 0 (.slice ad1 p0.length cp2) S (wN rfl) rfl rfl rfl rfl rfl rfl (lb rfl) fun a S => ?_
    exact leafL ⟨rfl, S⟩
  · refine fI 73 q73 [(72, .slice ad1 p0.length cp2)] 11 [some 10] rfl rfl rfl rfl rfl rfl fun G a w S => ?_
    refine sIdxV (v := .slice ad1 p0.length cp2) (k := .i64) (j := 0) S (wN rfl) rfl rfl rfl hq74 rfl (lb rfl) fun a S => ?_
    exact leafL ⟨rfl, S⟩
  · refine fI 74 q75 [(73, q73)] 12 [some 11] rfl rfl rfl rfl rfl rfl fun G a w S => ?_
    refine sFldV (q := q73) S (wN rfl) rfl rfl hq76 rfl (lb rfl) fun a S => ?_
    exact leafL ⟨rfl, S⟩
  · refine fI 75 (iv x49.H) [(74, q75)] 13 [some 12] rfl rfl rfl rfl rfl rfl fun G a w S => ?_
    refine sLoadV1 (vq := q75) 0 (iv x49.H) S (wN rfl) rfl rfl rfl rfl rfl (lb rfl) fun a S => ?_
    exact leafL ⟨rfl, S⟩
  · refine fI 76 (iv (w64 (z56 * x49.H))) [(71, iv z56), (75, iv x49.H)] 14 [some 9, some 13] rfl rfl rfl rfl rfl rfl fun G a w S => ?_
    refine sBin (iv (w64 (z56 * x49.H))) S (wN rfl) rfl rfl rfl (bMul _ _ _ _ z56 x49.H) rfl (lb rfl) fun a S => ?_
    exact leafL ⟨rfl, S⟩
  · refine ⟨_, [(67, iv (w64 (p2 * x49.W))), (76, iv (w64 (z56 * x49.H)))], rfl, (srcs_of [some 5, some 14] rfl rfl rfl), fun G a w S => ?_⟩
    refine sCall (X := Option Addr × Nat) (f := 43) (vs := [iv (w64 (p2 * x49.W)), iv (w64 (z56 * x49.H))]) (val := fun x => .tuple #[.agg #[iv r63.1.W, iv r63.1.H, .slice x.1 r63.1.Bits.length x.2], iv r63.2]) (B' := fun x => [eRow rB 4 (.slice x.1 r63.1.Bits.length x.2) r63.1.Bits]) (D' := fun _ => []) [] [eBox b6 34 [.slice ad1 p0.length cp2], eBox b7 24 [iv 0, iv 0, .slice none 0 0]] [] [0, 1] [] S (wN rfl) rfl callee43 rfl (by decide) rfl rfl (fun E1 w1 S1 => c_block_zero_s0 E1 w1 (w64 (p2 * x49.W)) (w64 (z56 * x49.H)) r63 hx64 S1) rfl (lb rfl) fun xx a w S => ?_
    obtain ⟨ad78, cp79⟩ := xx
    dsimp only at S
    refine leafL ⟨rfl, _, _, .inl ⟨77, (.tuple #[.agg #[iv r63.1.W, iv r63.1.H, .slice ad78 r63.1.Bits.length cp79], iv r63.2]), [(16, 61, .tuple #[.agg #[iv r63.1.W, iv r63.1.H, .slice ad78 r63.1.Bits.length cp79], iv r63.2]), (17, 78, .agg #[iv r63.1.W, iv r63.1.H, .slice ad78 r63.1.Bits.length cp79]), (18, 79, iv r63.2)], rfl, S, hz_of rfl, ?_⟩⟩
    refine node_by (A := anc_block_Join_0) (nf := [15, 19, 20]) (Y := [15]) 22 (by kernel_rfl) (by kernel_rfl) (by kernel_rfl) (by kernel_rfl) (by kernel_rfl) [16, 17, 18, 15, 0, 1, 2, 3, 4, 5, 6, 7, 8, 9, 10, 11, 12, 13, 14] (by kernel_rfl) (by decide) (by decide) (aD 0 21 15 (by decide) (aD 1 20 15 (by decide) (aD 2 19 15 (by decide) (aD 3 18 15 (by decide) (aD 4 17 15 (by decide) (aD 5 16 15 (by decide) (aD 6 15 15 (by decide) (aD 7 14 15 (by decide) (aD 8 13 15 (by decide) (aD 9 12 15 (by decide) (aD 10 11 15 (by decide) (aD 11 10 15 (by decide) (aD 12 9 15 (by decide) (aD 13 8 15 (by decide) (aD 14 7 15 (by decide) (aY 15 6 (by decide) (aF 16 5 (by decide) ?_ (aF 17 4 (by decide) ?_ (aF 18 3 (by decide) ?_ (aN 19 2 (by decide) ?_ (aB 20 1 19 (by decide) (aE 21 0 19 (by decide) (trivial))))))))))))))))))))))) [] (fun q hq => by cases hq) (fun hY => absurd (hY 19 (by decide)) (by decide))
    · refine fI 61 (.tuple #[.agg #[iv r63.1.W, iv r63.1.H, .slice ad78 r63.1.Bits.length cp79], iv r63.2]) [(77, .tuple #[.agg #[iv r63.1.W, iv r63.1.H, .slice ad78 r63.1.Bits.length cp79], iv r63.2])] 0 [some 3] rfl rfl rfl rfl rfl rfl fun G a w S => ?_
      refine sMove (.tuple #[.agg #[iv r63.1.W, iv r63.1.H, .slice ad78 r63.1.Bits.length cp79], iv r63.2]) S (wN rfl) (.inl rfl) rfl rfl (lb rfl) fun a S => ?_
      exact leafL ⟨rfl, S⟩
    · refine fI 78 (.agg #[iv r63.1.W, iv r63.1.H, .slice ad78 r63.1.Bits.length cp79]) [(61, .tuple #[.agg #[iv r63.1.W, iv r63.1.H, .slice ad78 r63.1.Bits.length cp79], iv r63.2])] 1 [some 0] rfl rfl rfl rfl rfl rfl fun G a w S => ?_
      refine sExtract (vs := [.agg #[iv r63.1.W, iv r63.1.H, .slice ad78 r63.1.Bits.length cp79], iv r63.2]) (.agg #[iv r63.1.W, iv r63.1.H, .slice ad78 r63.1.Bits.length cp79]) S (wN rfl) rfl rfl rfl rfl (lb rfl) fun a S => ?_
      exact leafL ⟨rfl, S⟩
    · refine fI 79 (iv r63.2) [(61, .tuple #[.agg #[iv r63.1.W, iv r63.1.H, .slice ad78 r63.1.Bits.length cp79], iv r63.2])] 2 [some 0] rfl rfl rfl rfl rfl rfl fun G a w S => ?_
      refine sExtract (vs := [.agg #[iv r63.1.W, iv r63.1.H, .slice ad78 r63.1.Bits.length cp79], iv r63.2]) (iv r63.2) S (wN rfl) rfl rfl rfl rfl (lb rfl) fun a S => ?_
      exact leafL ⟨rfl, S⟩
    refine ⟨_, [], rfl, (srcs_of [] rfl rfl rfl), fun G a w S => ?_⟩
    refine sAlloc (.agg #[iv 0, iv 0, .slice none 0 0]) S (wN rfl) rfl rfl [iv 0, iv 0, .slice none 0 0] rfl rfl (lb rfl) fun a b80 w S => ?_
    refine leafL ⟨rfl, _, _, .inl ⟨10, (.pointer (some ⟨b80, 0, none⟩)), [], rfl, S, hz_of rfl, ?_⟩⟩
    exact nd1 b80 ad78 cp79
  refine ⟨_, [], rfl, (srcs_of [] rfl rfl rfl), fun G a w S => ?_⟩
  refine sAlloc (.agg #[iv 0, iv 0, .slice none 0 0]) S (wN rfl) rfl rfl [iv 0, iv 0, .slice none 0 0] rfl rfl (lb rfl) fun a b129 w S => ?_
  refine leafL ⟨rfl, _, _, .inl ⟨10, (.pointer (some ⟨b129, 0, none⟩)), [], rfl, S, hz_of rfl, ?_⟩⟩
  refine node_by (A := anc_block_Join_0) (nf := [15, 19, 20]) (Y := [19]) 22 (by kernel_rfl) (by kernel_rfl) (by kernel_rfl) (by kernel_rfl) (by kernel_rfl) [19, 0, 1, 2, 3, 4, 5, 6, 7, 8, 9, 10, 11, 12, 13, 14] (by kernel_rfl) (by decide) (by decide) (aF 0 21 (by decide) ?_ (aF 1 20 (by decide) ?_ (aF 2 19 (by decide) ?_ (aF 3 18 (by decide) ?_ (aF 4 17 (by decide) ?_ (aF 5 16 (by decide) ?_ (aF 6 15 (by decide) ?_ (aF 7 14 (by decide) ?_ (aF 8 13 (by decide) ?_ (aF 9 12 (by decide) ?_ (aF 10 11 (by decide) ?_ (aF 11 10 (by decide) ?_ (aF 12 9 (by decide) ?_ (aF 13 8 (by decide) ?_ (aF 14 7 (by decide) ?_ (aN 15 6 (by decide) ?_ (aE 16 5 15 (by decide) (aE 17 4 15 (by decide) (aE 18 3 15 (by decide) (aY 19 2 (by decide) (aB 20 1 15 (by decide) (aE 21 0 15 (by decide) (trivial))))))))))))))))))))))) [] (fun q hq => by cases hq) (fun hY => absurd (hY 15 (by decide)) (by decide))
  · refine fI 62 (iv p2) [(2, iv p2)] 1 [none] rfl rfl rfl rfl rfl rfl fun G a w S => ?_
    refine sMove (iv p2) S (wN rfl) (.inl rfl) rfl rfl (lb rfl) fun a S => ?_
    exact leafL ⟨rfl, S⟩
  · refine fI 63 (.slice ad1 p0.length cp2) [(3, .pointer (some ⟨b6, 0, none⟩))] 2 [none] rfl rfl rfl rfl rfl rfl fun G a w S => ?_
    refine sLoad1 (p := b6) (off := 0) (T := 34) (vs := [.slice ad1 p0.length cp2]) 1 (.slice ad1 p0.length cp2) S (wN rfl) rfl rfl rfl rfl rfl rfl (lb rfl) fun a S => ?_
    exact leafL ⟨rfl, S⟩
  · refine fI 64 q68 [(63, .slice ad1 p0.length cp2)] 3 [some 2] rfl rfl rfl rfl rfl rfl fun G a w S => ?_
    refine sIdxV (v := .slice ad1 p0.length cp2) (k := .i64) (j := 0) S (wN rfl) rfl rfl rfl hq69 rfl (lb rfl) fun a S => ?_
    exact leafL ⟨rfl, S⟩
  · refine fI 65 q70 [(64, q68)] 4 [some 3] rfl rfl rfl rfl rfl rfl fun G a w S => ?_
    refine sFldV (q := q68) S (wN rfl) rfl rfl hq71 rfl (lb rfl) fun a S => ?_
    exact leafL ⟨rfl, S⟩
  · refine fI 66 (iv x49.W) [(65, q70)] 5 [some 4] rfl rfl rfl rfl rfl rfl fun G a w S => ?_
    refine sLoadV1 (vq := q70) 4 (iv x49.W) S (wN rfl) rfl rfl rfl rfl rfl (lb rfl) fun a S => ?_
    exact leafL ⟨rfl, S⟩
  · refine fI 67 (iv (w64 (p2 * x49.W))) [(62, iv p2), (66, iv x49.W)] 6 [some 1, some 5] rfl rfl rfl rfl rfl rfl fun G a w S => ?_
    refine sBin (iv (w64 (p2 * x49.W))) S (wN rfl) rfl rfl rfl (bMul _ _ _ _ p2 x49.W) rfl (lb rfl) fun a S => ?_
    exact leafL ⟨rfl, S⟩
  · refine fI 68 (.slice ad3 p1.length cp4) [(1, .slice ad3 p1.length cp4)] 7 [none] rfl rfl rfl rfl rfl rfl fun G a w S => ?_
    refine sMove (.slice ad3 p1.length cp4) S (wN rfl) (.inl rfl) rfl rfl (lb rfl) fun a S => ?_
    exact leafL ⟨rfl, S⟩
  · refine fI 69 (iv (p1.length : Int)) [(68, .slice ad3 p1.length cp4)] 8 [some 7] rfl rfl rfl rfl rfl rfl fun G a w S => ?_
    refine sLen (ad := ad3) (m := p1.length) (c := cp4) S (wN rfl) rfl Try.underlying35 rfl rfl (lb rfl) fun a S => ?_
    exact leafL ⟨rfl, S⟩
  · refine fI 70 (iv p2) [(2, iv p2)] 9 [none] rfl rfl rfl rfl rfl rfl fun G a w S => ?_
    refine sMove (iv p2) S (wN rfl) (.inl rfl) rfl rfl (lb rfl) fun a S => ?_
    exact leafL ⟨rfl, S⟩
  · refine fI 71 (iv z56) [(69, iv (p1.length : Int)), (70, iv p2)] 10 [some 8, some 9] rfl rfl rfl rfl rfl rfl fun G a w S => ?_
    refine sBin (iv z56) S (wN rfl) rfl rfl rfl (bQuo _ _ _ _ (x := (p1.length : Int)) (y := p2) hx57) rfl (lb rfl) fun a S => ?_
    exact leafL ⟨rfl, S⟩
  · refine fI 72 (.slice ad1 p0.length cp2) [(3, .pointer (some ⟨b6, 0, none⟩))] 11 [none] rfl rfl rfl rfl rfl rfl fun G a w S => ?_
    refine sLoad1 (p := b6) (off := 0) (T := 34) (vs := [.slice ad1 p0.length cp2]) 1 (.slice ad1 p0.length cp2) S (wN rfl) rfl rfl rfl rfl rfl rfl (lb rfl) fun a S => ?_
    exact leafL ⟨rfl, S⟩
  · refine fI 73 q73 [(72, .slice ad1 p0.length cp2)] 12 [some 11] rfl rfl rfl rfl rfl rfl fun G a w S => ?_
    refine sIdxV (v := .slice ad1 p0.length cp2) (k := .i64) (j := 0) S (wN rfl) rfl rfl rfl hq74 rfl (lb rfl) fun a S => ?_
    exact leafL ⟨rfl, S⟩
  · refine fI 74 q75 [(73, q73)] 13 [some 12] rfl rfl rfl rfl rfl rfl fun G a w S => ?_
    refine sFldV (q := q73) S (wN rfl) rfl rfl hq76 rfl (lb rfl) fun a S => ?_
    exact leafL ⟨rfl, S⟩
  · refine fI 75 (iv x49.H) [(74, q75)] 14 [some 13] rfl rfl rfl rfl rfl rfl fun G a w S => ?_
    refine sLoadV1 (vq := q75) 0 (iv x49.H) S (wN rfl) rfl rfl rfl rfl rfl (lb rfl) fun a S => ?_
    exact leafL ⟨rfl, S⟩
  · refine fI 76 (iv (w64 (z56 * x49.H))) [(71, iv z56), (75, iv x49.H)] 15 [some 10, some 14] rfl rfl rfl rfl rfl rfl fun G a w S => ?_
    refine sBin (iv (w64 (z56 * x49.H))) S (wN rfl) rfl rfl rfl (bMul _ _ _ _ z56 x49.H) rfl (lb rfl) fun a S => ?_
    exact leafL ⟨rfl, S⟩
  refine ⟨_, [(67, iv (w64 (p2 * x49.W))), (76, iv (w64 (z56 * x49.H)))], rfl, (srcs_of [some 6, some 15] rfl rfl rfl), fun G a w S => ?_⟩
  refine sCall (X := Option Addr × Nat) (f := 43) (vs := [iv (w64 (p2 * x49.W)), iv (w64 (z56 * x49.H))]) (val := fun x => .tuple #[.agg #[iv r63.1.W, iv r63.1.H, .slice x.1 r63.1.Bits.length x.2], iv r63.2]) (B' := fun x => [eRow rB 4 (.slice x.1 r63.1.Bits.length x.2) r63.1.Bits]) (D' := fun _ => []) [] [eBox b129 24 [iv 0, iv 0, .slice none 0 0], eBox b6 34 [.slice ad1 p0.length cp2], eBox b7 24 [iv 0, iv 0, .slice none 0 0]] [] [0, 1, 2] [] S (wN rfl) rfl callee43 rfl (by decide) rfl rfl (fun E1 w1 S1 => c_block_zero_s0 E1 w1 (w64 (p2 * x49.W)) (w64 (z56 * x49.H)) r63 hx64 S1) rfl (lb rfl) fun xx a w S => ?_
  obtain ⟨ad130, cp131⟩ := xx
  dsimp only at S
  refine leafL ⟨rfl, _, _, .inl ⟨77, (.tuple #[.agg #[iv r63.1.W, iv r63.1.H, .slice ad130 r63.1.Bits.length cp131], iv r63.2]), [(16, 61, .tuple #[.agg #[iv r63.1.W, iv r63.1.H, .slice ad130 r63.1.Bits.length cp131], iv r63.2]), (17, 78, .agg #[iv r63.1.W, iv r63.1.H, .slice ad130 r63.1.Bits.length cp131]), (18, 79, iv r63.2)], rfl, S, hz_of rfl, ?_⟩⟩
  exact nodePerm (nd1 b129 ad130 cp131) [4, 0, 1, 2, 3, 5, 6, 7, 8, 9, 10, 11, 12, 13, 14, 15, 16, 17, 18, 19] [1, 0, 2, 3] [0, 1, 2, 3, 4, 5, 6, 7, 8, 9] (by decide) (by decide) rfl rfl rfl

end Go.Proofs.Ythfifeabomdlpaa
namespace Go.Proofs.Ythfifeabomdlpaa
open Go.RowKit
set_option linter.unusedVariables false

end Go.Proofs.Ythfifeabomdlpaa
namespace Go.Proofs.Ythfifeabomdlpaa
open Go.RowKit
set_option linter.unusedVariables false

end Go.Proofs.Ythfifeabomdlpaa
namespace Go.Proofs.Ythfifeabomdlpaa
open Go.RowKit
set_option linter.unusedVariables false

end Go.Proofs.Ythfifeabomdlpaa
namespace Go.Proofs.Ythfifeabomdlpaa
open Go.RowKit
set_option linter.unusedVariables false

theorem ckL_all {l : List api_Grid} (h : ckL l = 0) : ∀ g, g ∈ l → gerr g = 0 := by
  induction l with
  | nil => intro g hg; cases hg
  | cons x l ih =>
    intro g hg
    simp only [ckL] at h
    by_cases hx : gerr x = 0
    · rw [if_pos hx] at h
      rcases List.mem_cons.1 hg with rfl | hg
      · exact hx
      · exact ih h g hg
    · rw [if_neg hx] at h; exact absurd h hx
/-- the units among the first places, and where they are -/
def ust (g : api_Grid) (W w h n : Nat) : Nat → List api_Grid × List Int
  | 0 => ([], [])
  | k + 1 => (if (ust g W w h n k).1.findIdx (fun u => decide (u = prt g W w h (k % n) (k / n))) < (ust g W w h n k).1.length then (ust g W w h n k).1 else (ust g W w h n k).1 ++ [prt g W w h (k % n) (k / n)],
      (ust g W w h n k).2 ++ [(((ust g W w h n k).1.findIdx (fun u => decide (u = prt g W w h (k % n) (k / n))) : Nat) : Int)])
theorem ust_len (g : api_Grid) (W w h n : Nat) (k : Nat) : (ust g W w h n k).1.length ≤ k ∧ (ust g W w h n k).2.length = k := by
  induction k with
  | zero => exact ⟨Nat.le_refl _, rfl⟩
  | succ k ih =>
    constructor
    · simp only [ust]
      split
      · omega
      · simp; omega
    · simp only [ust, List.length_append, ih.2, List.length_cons, List.length_nil]
theorem ust_gr {g : api_Grid} {W w h n : Nat} (w0 : 1 ≤ w) (w1 : w ≤ 64) (h0 : 1 ≤ h) (h1 : h ≤ 64) (k : Nat) : ∀ u, u ∈ (ust g W w h n k).1 → Gr u w h := by
  induction k with
  | zero => intro u hu; cases hu
  | succ k ih =>
    intro u hu
    simp only [ust] at hu
    split at hu
    · exact ih u hu
    · rcases List.mem_append.1 hu with hu | hu
      · exact ih u hu
      · rw [List.mem_singleton] at hu
        subst hu
        exact prt_gr w0 w1 h0 h1
def unitsS (g : api_Grid) (w h : Int) : List api_Grid × List Int × Int :=
  if gerr g = 0 then
    (if 1 ≤ w ∧ 1 ≤ h ∧ g.W % w = 0 ∧ g.H % h = 0 then
      ((ust g g.W.toNat w.toNat h.toNat (g.W.toNat / w.toNat) (g.H.toNat / h.toNat * (g.W.toNat / w.toNat))).1, (ust g g.W.toNat w.toNat h.toNat (g.W.toNat / w.toNat) (g.H.toNat / h.toNat * (g.W.toNat / w.toNat))).2, 0)
    else ([], [], 26))
  else ([], [], gerr g)
theorem tm_dvd {a b : Int} (ha : 0 ≤ a) (hb : 1 ≤ b) : a.tmod b = a % b := Int.tmod_eq_emod_of_nonneg ha
/-- the dimensions of units -/
theorem units_dims {g : api_Grid} {W H : Nat} (G : Gr g W H) {w h : Int} (w1 : 1 ≤ w) (h1 : 1 ≤ h) (e1 : g.W % w = 0) (e2 : g.H % h = 0) :
    ∃ a b n m : Nat, w = a ∧ h = b ∧ 1 ≤ a ∧ 1 ≤ b ∧ W = n * a ∧ H = m * b ∧ W / a = n ∧ H / b = m ∧ 1 ≤ n ∧ 1 ≤ m ∧ n ≤ 64 ∧ m ≤ 64 ∧ a ≤ 64 ∧ b ≤ 64 := by
  obtain ⟨a, rfl⟩ : ∃ a : Nat, w = a := ⟨w.toNat, by omega⟩
  obtain ⟨b, rfl⟩ : ∃ b : Nat, h = b := ⟨h.toNat, by omega⟩
  rw [G.hw, ← Int.natCast_emod] at e1
  rw [G.hh, ← Int.natCast_emod] at e2
  have d1 := pl_of W a
  have d2 := pl_of H b
  have q1 : W / a ≤ W := Nat.div_le_self _ _
  have q2 : H / b ≤ H := Nat.div_le_self _ _
  have := G.w0
  have := G.h0
  have := G.w1
  have := G.h1
  have z1 : W % a = 0 := by omega
  have z2 : H % b = 0 := by omega
  rw [z1, Nat.add_zero] at d1
  rw [z2, Nat.add_zero] at d2
  have p1 : 1 ≤ W / a := by
    rcases Nat.eq_zero_or_pos (W / a) with h0 | h0
    · rw [h0] at d1; omega
    · exact h0
  have p2 : 1 ≤ H / b := by
    rcases Nat.eq_zero_or_pos (H / b) with h0 | h0
    · rw [h0] at d2; omega
    · exact h0
  have a1 : a ≤ W := by rw [← d1]; exact Nat.le_mul_of_pos_left a p1
  have b1 : b ≤ H := by rw [← d2]; exact Nat.le_mul_of_pos_left b p2
  exact ⟨a, b, W / a, H / b, rfl, rfl, by omega, by omega, d1.symm, d2.symm, rfl, rfl, p1, p2, by omega, by omega, by omega, by omega⟩
theorem unit_idx (us : List api_Grid) (p : api_Grid) (hl : us.length ≤ 1000000) (hb : ∀ u, u ∈ us → u.Bits.length ≤ 5000) : F_slices_IndexFunc___api_Grid_api_Grid__s0 us p = some (idxF us fun u => decide (u = p)) := by
  have hw := loop_idx (B := slices_IndexFunc___api_Grid_api_Grid__s0_l1 us p) us (fun u => decide (u = p)) (fun k => .inl (k : Int)) (.inr ()) (fun k hk => by
    have := hb _ (List.getElem_mem hk)
    unfold slices_IndexFunc___api_Grid_api_Grid__s0_l1 F_block_Units_1_s0
    simp only [dT (show (k : Int) < (us.length : Int) by omega), if_true, idxO_nat hk, Option.bind_some, gsame_eq _ _ (show us[k].Bits.length ≤ 9223372036854775807 by omega), w64_succ (show k < 9223372036854775807 by omega)]
    split <;> rfl) (by
    unfold slices_IndexFunc___api_Grid_api_Grid__s0_l1
    simp only [dF (show ¬ (us.length : Int) < (us.length : Int) by omega), Bool.false_eq_true, if_false])
  unfold F_slices_IndexFunc___api_Grid_api_Grid__s0 idxF
  rw [hw]
  by_cases h : us.findIdx (fun u => decide (u = p)) < us.length
  · rw [if_pos h, if_pos h]; rfl
  · rw [if_neg h, if_neg h]; rfl
theorem units_eq (g : api_Grid) (w h : Int) : F_block_Units g w h = some (unitsS g w h) := by
  unfold F_block_Units unitsS
  rw [checked_eq _ (by simp)]
  have hc : ckL [g] = gerr g := by
    simp only [ckL]
    by_cases h : gerr g = 0
    · rw [if_pos h, h]
    · rw [if_neg h]
  rw [hc]
  by_cases h0 : gerr g = 0
  case neg => simp only [Option.bind_some, nT h0, if_true, if_neg h0]
  obtain ⟨W, H, G⟩ := gerr_zero h0
  have := G.w0
  have := G.h0
  simp only [Option.bind_some, nF h0, Bool.false_eq_true, if_false, if_pos h0]
  by_cases h1 : 1 ≤ w
  case neg => rw [if_neg (show ¬ (1 ≤ w ∧ 1 ≤ h ∧ g.W % w = 0 ∧ g.H % h = 0) from fun x => h1 x.1)]; simp only [dT (show w < 1 by omega), if_true, Option.bind_some]
  by_cases h2 : 1 ≤ h
  case neg => rw [if_neg (show ¬ (1 ≤ w ∧ 1 ≤ h ∧ g.W % w = 0 ∧ g.H % h = 0) from fun x => h2 x.2.1)]; simp only [dF (show ¬ w < 1 by omega), dT (show h < 1 by omega), Bool.false_eq_true, if_true, if_false, Option.bind_some]
  have r1 : remI g.W w = some (g.W % w) := by unfold remI; rw [if_neg (by omega), tm_dvd (by rw [G.hw]; omega) h1]
  have r2 : remI g.H h = some (g.H % h) := by unfold remI; rw [if_neg (by omega), tm_dvd (by rw [G.hh]; omega) h2]
  by_cases h3 : g.W % w = 0
  case neg => rw [if_neg (show ¬ (1 ≤ w ∧ 1 ≤ h ∧ g.W % w = 0 ∧ g.H % h = 0) from fun x => h3 x.2.2.1)]; simp only [dF (show ¬ w < 1 by omega), dF (show ¬ h < 1 by omega), r1, nT h3, Bool.false_eq_true, if_true, if_false, Option.bind_some]
  by_cases h4 : g.H % h = 0
  case neg => rw [if_neg (show ¬ (1 ≤ w ∧ 1 ≤ h ∧ g.W % w = 0 ∧ g.H % h = 0) from fun x => h4 x.2.2.2)]; simp only [dF (show ¬ w < 1 by omega), dF (show ¬ h < 1 by omega), r1, r2, nF h3, nT h4, Bool.false_eq_true, if_true, if_false, Option.bind_some]
  rw [if_pos (show 1 ≤ w ∧ 1 ≤ h ∧ g.W % w = 0 ∧ g.H % h = 0 from ⟨h1, h2, h3, h4⟩)]
  simp only [dF (show ¬ w < 1 by omega), dF (show ¬ h < 1 by omega), r1, r2, nF h3, nF h4, Bool.false_eq_true, if_false, Option.bind_some]
  obtain ⟨a, b, n, m, rfl, rfl, a0, b0, eW, eH, dn, dm, n0, m0, n1, m1, a1, b1⟩ := units_dims G h1 h2 h3 h4
  have q1 : quoI g.W (a : Int) = some (n : Int) := by rw [G.hw, quo_nat (by omega) (by have := G.w1; omega), dn]
  have q2 : quoI g.H (b : Int) = some (m : Int) := by rw [G.hh, quo_nat (by omega) (by have := G.h1; omega), dm]
  have hb := loop2 (l1 := fun y => block_Units_l1 (n : Int) g (a : Int) (b : Int) (y : Int)) (l2 := block_Units_l2 (m : Int) g (a : Int) (b : Int))
    (fun y x => ((ust g W a b n (y * n + x)).1, (ust g W a b n (y * n + x)).2, (x : Int))) (fun y => ((ust g W a b n (y * n)).1, (ust g W a b n (y * n)).2, (y : Int))) (fun y => ((ust g W a b n (y * n + n)).1, (ust g W a b n (y * n + n)).2)) n m
    (t := ((ust g W a b n (m * n)).1, (ust g W a b n (m * n)).2))
    (fun y x hy hx => by
      have c1 : x * a + a ≤ W := by have := Nat.mul_le_mul_right a (show x + 1 ≤ n by omega); rw [Nat.add_mul, Nat.one_mul] at this; omega
      have c2 : y * b + b ≤ H := by have := Nat.mul_le_mul_right b (show y + 1 ≤ m by omega); rw [Nat.add_mul, Nat.one_mul] at this; omega
      have hlt := pl_lt hx hy
      have hnm := Nat.mul_le_mul n1 m1
      have hl := ust_len g W a b n (y * n + x)
      have hg := ust_gr (g := g) (W := W) (n := n) a0 a1 b0 b1 (y * n + x)
      unfold block_Units_l1
      simp only [dT (show (x : Int) < (n : Int) by omega), if_true, part_eq G c1 c2 a0 b0, Option.bind_some]
      rw [unit_idx _ _ (by omega) (fun u hu => by
        have hp : a * b ≤ 64 * 64 := Nat.mul_le_mul a1 b1
        rw [(hg u hu).len]; omega)]
      simp only [Option.bind_some]
      rw [show y * n + (x + 1) = y * n + x + 1 from rfl]
      simp only [ust, pl_mod hx, pl_div hx]
      have hf := findIdx_le (ust g W a b n (y * n + x)).1 (fun u => decide (u = prt g W a b x y))
      unfold idxF
      by_cases hc : (ust g W a b n (y * n + x)).1.findIdx (fun u => decide (u = prt g W a b x y)) < (ust g W a b n (y * n + x)).1.length
      · rw [if_pos hc, if_pos hc]
        simp only [dF (show ¬ (((ust g W a b n (y * n + x)).1.findIdx (fun u => decide (u = prt g W a b x y)) : Nat) : Int) < 0 by omega), Bool.false_eq_true, if_false, Option.bind_some]
        rw [appO_of (by simp; omega), Option.bind_some, w64_succ (by omega)]
      · rw [if_neg hc, if_neg hc]
        simp only [dT (show (-1 : Int) < 0 by decide), if_true]
        rw [appO_of (by simp; omega), Option.bind_some, Option.bind_some]
        dsimp only
        rw [appO_of (by simp; omega), Option.bind_some, w64_succ (by omega), show (ust g W a b n (y * n + x)).1.findIdx (fun u => decide (u = prt g W a b x y)) = (ust g W a b n (y * n + x)).1.length by omega])
    (fun y hy => by
      unfold block_Units_l1
      simp only [dF (show ¬ (n : Int) < (n : Int) by omega), Bool.false_eq_true, if_false])
    (fun y hy hl => by
      unfold block_Units_l2
      simp only [dT (show (y : Int) < (m : Int) by omega), if_true, q1, Option.bind_some]
      have e0 : ((ust g W a b n (y * n + 0)).1, (ust g W a b n (y * n + 0)).2, (((0 : Nat) : Int))) = ((ust g W a b n (y * n)).1, (ust g W a b n (y * n)).2, (0 : Int)) := rfl
      rw [e0] at hl
      rw [hl]
      simp only [Option.bind_some, w64_succ (show y < 9223372036854775807 by omega)]
      rw [show (y + 1) * n = y * n + n by rw [Nat.add_mul, Nat.one_mul]])
    (by
      unfold block_Units_l2
      simp only [dF (show ¬ (m : Int) < (m : Int) by omega), Bool.false_eq_true, if_false])
  have e0 : ((ust g W a b n (0 * n)).1, (ust g W a b n (0 * n)).2, ((0 : Nat) : Int)) = (([] : List api_Grid), ([] : List Int), (0 : Int)) := by rw [Nat.zero_mul]; rfl
  rw [e0] at hb
  simp only [q2, Option.bind_some, hb, G.W, G.H, Int.toNat_natCast, dn, dm]
end Go.Proofs.Ythfifeabomdlpaa
namespace Go.Proofs.Ythfifeabomdlpaa
open Go.RowKit
set_option linter.unusedVariables false

end Go.Proofs.Ythfifeabomdlpaa
namespace Go.Proofs.Ythfifeabomdlpaa
open Go.RowKit
set_option linter.unusedVariables false

end Go.Proofs.Ythfifeabomdlpaa
namespace Go.Proofs.Ythfifeabomdlpaa
open Go.RowKit
set_option linter.unusedVariables false

end Go.Proofs.Ythfifeabomdlpaa
namespace Go.Proofs.Ythfifeabomdlpaa
open Go.RowKit
set_option linter.unusedVariables false

end Go.Proofs.Ythfifeabomdlpaa
namespace Go.Proofs.Ythfifeabomdlpaa
open Go.RowKit
set_option linter.unusedVariables false

end Go.Proofs.Ythfifeabomdlpaa
namespace Go.Proofs.Ythfifeabomdlpaa
open Go.RowKit
set_option linter.unusedVariables false

end Go.Proofs.Ythfifeabomdlpaa
namespace Go.Proofs.Ythfifeabomdlpaa
open Go.RowKit
set_option linter.unusedVariables false

end Go.Proofs.Ythfifeabomdlpaa
namespace Go.Proofs.Ythfifeabomdlpaa
open Go.RowKit
set_option linter.unusedVariables false

end Go.Proofs.Ythfifeabomdlpaa
namespace Go.Proofs.Ythfifeabomdlpaa
open Go.RowKit
set_option linter.unusedVariables false

end Go.Proofs.Ythfifeabomdlpaa
namespace Go.Proofs.Ythfifeabomdlpaa
open Go.RowKit
set_option linter.unusedVariables false

end Go.Proofs.Ythfifeabomdlpaa
namespace Go.Proofs.Ythfifeabomdlpaa
open Go.RowKit
set_option linter.unusedVariables false

end Go.Proofs.Ythfifeabomdlpaa
namespace Go.Proofs.Ythfifeabomdlpaa
open Go.RowKit
set_option linter.unusedVariables false

end Go.Proofs.Ythfifeabomdlpaa
namespace Go.Proofs.Ythfifeabomdlpaa
open Go.RowKit
set_option linter.unusedVariables false

end Go.Proofs.Ythfifeabomdlpaa
namespace Go.Proofs.Ythfifeabomdlpaa
open Go.RowKit
set_option linter.unusedVariables false

end Go.Proofs.Ythfifeabomdlpaa
namespace Go.Proofs.Ythfifeabomdlpaa
open Go.RowKit
set_option linter.unusedVariables false

def inRg (at_ : List Int) (n : Nat) : Bool := at_.all fun k => decide (0 ≤ k ∧ k < (n : Int))
theorem getD_0 {α : Type} {l : List α} (d : α) (h : 0 < l.length) : idxO l 0 = some (l.getD 0 d) := idxO_D (k := 0) d h
theorem index_eq (l : List Int) (n : Nat) (hl : l.length ≤ 1000000) : F_block_index l (n : Int) = some (inRg l n) := by
  have hw := loop_idx (B := slices_IndexFunc___int_int__s0_l1 l (n : Int)) l (fun k => !decide (0 ≤ k ∧ k < (n : Int))) (fun k => .inl (k : Int)) (.inr ()) (fun k hk => by
    unfold slices_IndexFunc___int_int__s0_l1 F_block_index_1_s0
    simp only [dT (show (k : Int) < (l.length : Int) by omega), if_true, idxO_nat hk, Option.bind_some, w64_succ (show k < 9223372036854775807 by omega)]
    by_cases h1 : l[k] < 0
    · simp only [dT h1, if_true, Option.bind_some, dF (show ¬ (0 ≤ l[k] ∧ l[k] < (n : Int)) by omega), Bool.not_false]
    · by_cases h2 : (n : Int) ≤ l[k]
      · simp only [dF h1, dT h2, Bool.false_eq_true, if_false, if_true, Option.bind_some, dF (show ¬ (0 ≤ l[k] ∧ l[k] < (n : Int)) by omega), Bool.not_false]
      · simp only [dF h1, dF h2, Bool.false_eq_true, if_false, Option.bind_some, dT (show 0 ≤ l[k] ∧ l[k] < (n : Int) by omega), Bool.not_true]) (by
    unfold slices_IndexFunc___int_int__s0_l1
    simp only [dF (show ¬ (l.length : Int) < (l.length : Int) by omega), Bool.false_eq_true, if_false])
  have hi : F_slices_IndexFunc___int_int__s0 l (n : Int) = some (idxF l (fun k => !decide (0 ≤ k ∧ k < (n : Int)))) := by
    unfold F_slices_IndexFunc___int_int__s0 idxF
    rw [hw]
    by_cases h : l.findIdx (fun k => !decide (0 ≤ k ∧ k < (n : Int))) < l.length
    · rw [if_pos h, if_pos h]; rfl
    · rw [if_neg h, if_neg h]; rfl
  unfold F_block_index F_slices_ContainsFunc___int_int__s0
  rw [hi, Option.bind_some, idxF_nn, Option.bind_some]
  congr 1
  unfold inRg
  rw [List.all_eq_not_any_not]

end Go.Proofs.Ythfifeabomdlpaa
namespace Go.Proofs.Ythfifeabomdlpaa
open Go.RowKit
set_option linter.unusedVariables false

def unitAt (us : List api_Grid) (at_ : List Int) (k : Nat) : api_Grid := us.getD (at_.getD k 0).toNat ⟨0, 0, []⟩
def joinf (us : List api_Grid) (at_ : List Int) (w uw uh : Nat) (x y : Nat) : Bool := cell (unitAt us at_ ((y / uh) * w + x / uw)) uw (x % uw) (y % uh)
def sameSz (us : List api_Grid) : Bool := us.all fun u => decide (u.W = (us.getD 0 ⟨0, 0, []⟩).W ∧ u.H = (us.getD 0 ⟨0, 0, []⟩).H)
def joinS (us : List api_Grid) (at_ : List Int) (w : Int) : api_Grid × Int :=
  if us.length = 0 then (⟨0, 0, []⟩, 6)
  else if ckL us = 0 then
    (if sameSz us = true ∧ 1 ≤ w ∧ at_.length ≠ 0 ∧ (at_.length : Int) % w = 0 then
      (if inRg at_ us.length = true then
        (if 64 < w * (us.getD 0 ⟨0, 0, []⟩).W ∨ 64 < (at_.length : Int) / w * (us.getD 0 ⟨0, 0, []⟩).H then (⟨0, 0, []⟩, 4)
        else (gm (joinf us at_ w.toNat (us.getD 0 ⟨0, 0, []⟩).W.toNat (us.getD 0 ⟨0, 0, []⟩).H.toNat) (w.toNat * (us.getD 0 ⟨0, 0, []⟩).W.toNat) (at_.length / w.toNat * (us.getD 0 ⟨0, 0, []⟩).H.toNat), 0))
      else (⟨0, 0, []⟩, 8))
    else (⟨0, 0, []⟩, 26))
  else (⟨0, 0, []⟩, ckL us)
theorem odd_idx (us : List api_Grid) (h0 : 0 < us.length) (hl : us.length ≤ 1000000) : F_slices_ContainsFunc___api_Grid_api_Grid__s0 us us = some (!sameSz us) := by
  have hw := loop_idx (B := slices_IndexFunc___api_Grid_api_Grid__s1_l1 us us) us (fun u => !decide (u.W = (us.getD 0 ⟨0, 0, []⟩).W ∧ u.H = (us.getD 0 ⟨0, 0, []⟩).H)) (fun k => .inl (k : Int)) (.inr ()) (fun k hk => by
    unfold slices_IndexFunc___api_Grid_api_Grid__s1_l1 F_block_Join_1_s0
    simp only [dT (show (k : Int) < (us.length : Int) by omega), if_true, idxO_nat hk, getD_0 ⟨0, 0, []⟩ h0, Option.bind_some, alike_eq, w64_succ (show k < 9223372036854775807 by omega)]
    split <;> rfl) (by
    unfold slices_IndexFunc___api_Grid_api_Grid__s1_l1
    simp only [dF (show ¬ (us.length : Int) < (us.length : Int) by omega), Bool.false_eq_true, if_false])
  have hi : F_slices_IndexFunc___api_Grid_api_Grid__s1 us us = some (idxF us (fun u => !decide (u.W = (us.getD 0 ⟨0, 0, []⟩).W ∧ u.H = (us.getD 0 ⟨0, 0, []⟩).H))) := by
    unfold F_slices_IndexFunc___api_Grid_api_Grid__s1 idxF
    rw [hw]
    by_cases h : us.findIdx (fun u => !decide (u.W = (us.getD 0 ⟨0, 0, []⟩).W ∧ u.H = (us.getD 0 ⟨0, 0, []⟩).H)) < us.length
    · rw [if_pos h, if_pos h]; rfl
    · rw [if_neg h, if_neg h]; rfl
  unfold F_slices_ContainsFunc___api_Grid_api_Grid__s0
  rw [hi, Option.bind_some, idxF_nn]
  congr 1
  unfold sameSz
  rw [List.all_eq_not_any_not, Bool.not_not]
/-- what a join that answers has -/
structure JoinOk (us : List api_Grid) (at_ : List Int) (w uw uh m : Nat) : Prop where
  w0 : 1 ≤ w
  len : at_.length = m * w
  m0 : 1 ≤ m
  gr : ∀ k, k < at_.length → Gr (unitAt us at_ k) uw uh
  u0 : Gr (us.getD 0 ⟨0, 0, []⟩) uw uh
  ix : ∀ k (hk : k < at_.length), idxO us at_[k] = some (unitAt us at_ k)
theorem join_ok {us : List api_Grid} {at_ : List Int} {w : Int} (h0 : ¬ us.length = 0) (h1 : ckL us = 0) (h2 : sameSz us = true) (h3 : 1 ≤ w) (h4 : at_.length ≠ 0) (h5 : (at_.length : Int) % w = 0) (h6 : inRg at_ us.length = true) :
    ∃ n uw uh m : Nat, w = n ∧ JoinOk us at_ n uw uh m ∧ at_.length / n = m := by
  obtain ⟨n, rfl⟩ : ∃ n : Nat, w = n := ⟨w.toNat, by omega⟩
  have hm : us.getD 0 ⟨0, 0, []⟩ ∈ us := by
    rw [List.getD_eq_getElem?_getD, List.getElem?_eq_getElem (by omega)]
    exact List.getElem_mem _
  obtain ⟨uw, uh, U⟩ := gerr_zero (ckL_all h1 _ hm)
  have d := pl_of at_.length n
  have e : at_.length % n = 0 := by rw [← Int.natCast_emod] at h5; omega
  rw [e, Nat.add_zero] at d
  have hall : ∀ u, u ∈ us → Gr u uw uh := by
    intro u hu
    obtain ⟨a, b, A⟩ := gerr_zero (ckL_all h1 u hu)
    have := of_decide_eq_true (List.all_eq_true.1 h2 u hu)
    have q1 := A.hw
    have q2 := A.hh
    have q3 := U.hw
    have q4 := U.hh
    obtain ⟨rfl, rfl⟩ : a = uw ∧ b = uh := by omega
    exact A
  have hix : ∀ k (hk : k < at_.length), 0 ≤ at_[k] ∧ at_[k] < (us.length : Int) := fun k hk => of_decide_eq_true (List.all_eq_true.1 h6 _ (List.getElem_mem hk))
  have hun : ∀ k (hk : k < at_.length), ∃ hj : at_[k].toNat < us.length, unitAt us at_ k = us[at_[k].toNat] := by
    intro k hk
    have := hix k hk
    refine ⟨by omega, ?_⟩
    unfold unitAt
    rw [List.getD_eq_getElem?_getD (l := at_), List.getElem?_eq_getElem hk, Option.getD_some, List.getD_eq_getElem?_getD, List.getElem?_eq_getElem (by omega), Option.getD_some]
  refine ⟨n, uw, uh, at_.length / n, rfl, ⟨by omega, d.symm, ?_, ?_, U, ?_⟩, rfl⟩
  · rcases Nat.eq_zero_or_pos (at_.length / n) with hz | hz
    · rw [hz, Nat.zero_mul] at d; omega
    · exact hz
  · intro k hk
    obtain ⟨hj, e⟩ := hun k hk
    rw [e]
    exact hall _ (List.getElem_mem hj)
  · intro k hk
    have := hix k hk
    obtain ⟨hj, e⟩ := hun k hk
    rw [e]
    exact idxO_of (by omega) hj
theorem join_eq (us : List api_Grid) (at_ : List Int) (w : Int) (hu : us.length ≤ 1000000) (ha : at_.length ≤ 1000000) : F_block_Join us at_ w = some (joinS us at_ w) := by
  unfold F_block_Join joinS
  by_cases h0 : us.length = 0
  · rw [if_pos h0]; simp only [bT (show (us.length : Int) = 0 by omega), if_true]
  rw [if_neg h0, checked_eq _ (by omega)]
  simp only [bF (show ¬ (us.length : Int) = 0 by omega), Bool.false_eq_true, if_false, Option.bind_some]
  by_cases h1 : ckL us = 0
  case neg => rw [if_neg h1]; simp only [nT h1, if_true]
  rw [if_pos h1]
  simp only [nF h1, Bool.false_eq_true, if_false, odd_idx us (by omega) hu, Option.bind_some]
  by_cases h2 : sameSz us = true
  case neg => rw [if_neg (show ¬ (sameSz us = true ∧ 1 ≤ w ∧ at_.length ≠ 0 ∧ (at_.length : Int) % w = 0) from fun x => h2 x.1)]; simp only [h2, Bool.not_false, if_true, Option.bind_some]
  by_cases h3 : 1 ≤ w
  case neg => rw [if_neg (show ¬ (sameSz us = true ∧ 1 ≤ w ∧ at_.length ≠ 0 ∧ (at_.length : Int) % w = 0) from fun x => h3 x.2.1)]; simp only [h2, Bool.not_true, Bool.false_eq_true, if_false, dT (show w < 1 by omega), if_true, Option.bind_some]
  by_cases h4 : at_.length ≠ 0
  case neg => rw [if_neg (show ¬ (sameSz us = true ∧ 1 ≤ w ∧ at_.length ≠ 0 ∧ (at_.length : Int) % w = 0) from fun x => h4 x.2.2.1)]; simp only [h2, Bool.not_true, Bool.false_eq_true, if_false, dF (show ¬ w < 1 by omega), bT (show (at_.length : Int) = 0 by omega), if_true, Option.bind_some]
  have r1 : remI (at_.length : Int) w = some ((at_.length : Int) % w) := by unfold remI; rw [if_neg (by omega), tm_dvd (by omega) h3]
  by_cases h5 : (at_.length : Int) % w = 0
  case neg => rw [if_neg (show ¬ (sameSz us = true ∧ 1 ≤ w ∧ at_.length ≠ 0 ∧ (at_.length : Int) % w = 0) from fun x => h5 x.2.2.2)]; simp only [h2, Bool.not_true, Bool.false_eq_true, if_false, dF (show ¬ w < 1 by omega), bF (show ¬ (at_.length : Int) = 0 by omega), r1, nT h5, if_true, Option.bind_some]
  rw [if_pos (show sameSz us = true ∧ 1 ≤ w ∧ at_.length ≠ 0 ∧ (at_.length : Int) % w = 0 from ⟨h2, h3, h4, h5⟩)]
  simp only [h2, Bool.not_true, Bool.false_eq_true, if_false, dF (show ¬ w < 1 by omega), bF (show ¬ (at_.length : Int) = 0 by omega), r1, nF h5, Option.bind_some, index_eq at_ us.length ha]
  by_cases h6 : inRg at_ us.length = true
  case neg => rw [if_neg h6]; simp only [h6, Bool.not_false, if_true]
  rw [if_pos h6]
  obtain ⟨n, uw, uh, m, rfl, J, hm⟩ := join_ok h0 h1 h2 h3 h4 h5 h6
  have n0 := J.w0
  have m0 := J.m0
  have U := J.u0
  have q1 : quoI (at_.length : Int) (n : Int) = some (m : Int) := by rw [quo_nat (by omega) (by omega), hm]
  have hd : (at_.length : Int) / (n : Int) = (m : Int) := by rw [← Int.natCast_ediv, hm]
  have uw0 := U.w0
  have uh0 := U.h0
  have uw1 := U.w1
  have uh1 := U.h1
  have hn1 : n ≤ 1000000 := Nat.le_trans (by rw [J.len]; exact Nat.le_mul_of_pos_left n m0) ha
  have hm1 : m ≤ 1000000 := Nat.le_trans (by rw [J.len]; exact Nat.le_mul_of_pos_right m n0) ha
  have p1 : n * uw ≤ 1000000 * 64 := Nat.mul_le_mul hn1 uw1
  have p2 : m * uh ≤ 1000000 * 64 := Nat.mul_le_mul hm1 uh1
  have g1 : n ≤ n * uw := Nat.le_mul_of_pos_right n uw0
  have g2 : m ≤ m * uh := Nat.le_mul_of_pos_right m uh0
  have e3 : (n : Int) * (us.getD 0 ⟨0, 0, []⟩).W = ((n * uw : Nat) : Int) := by rw [U.hw, Int.natCast_mul]
  have e4 : (m : Int) * (us.getD 0 ⟨0, 0, []⟩).H = ((m * uh : Nat) : Int) := by rw [U.hh, Int.natCast_mul]
  have e5 : w64 ((n : Int) * (us.getD 0 ⟨0, 0, []⟩).W) = ((n * uw : Nat) : Int) := by rw [U.hw]; exact wmul (by omega)
  have e6 : w64 ((m : Int) * (us.getD 0 ⟨0, 0, []⟩).H) = ((m * uh : Nat) : Int) := by rw [U.hh]; exact wmul (by omega)
  rw [hd, e3, e4, Int.toNat_natCast, hm, U.W, U.H]
  simp only [h6, Bool.not_true, Bool.false_eq_true, if_false, q1, getD_0 ⟨0, 0, []⟩ (show 0 < us.length by omega), Option.bind_some, e5, e6, Int.toNat_natCast]
  by_cases h7 : (64 : Int) < ((n * uw : Nat) : Int) ∨ (64 : Int) < ((m * uh : Nat) : Int)
  · rw [if_pos h7]
    have hz : F_block_zero_s0 ((n * uw : Nat) : Int) ((m * uh : Nat) : Int) = some (⟨0, 0, []⟩, 4) := by
      unfold F_block_zero_s0
      by_cases h3 : (64 : Int) < ((n * uw : Nat) : Int)
      · simp only [dT h3, if_true, Option.bind_some]
      · simp only [dF h3, dT (show (64 : Int) < ((m * uh : Nat) : Int) by omega), Bool.false_eq_true, if_true, if_false, Option.bind_some]
    by_cases h8 : (64 : Int) < (n : Int)
    · simp only [dT h8, if_true, Option.bind_some]
    · by_cases h9 : (64 : Int) < (m : Int)
      · simp only [dF h8, dT h9, Bool.false_eq_true, if_false, if_true, Option.bind_some]
      · simp only [dF h8, dF h9, Bool.false_eq_true, if_false, Option.bind_some, hz, nT (show ¬ (4 : Int) = 0 by decide), if_true]
  · rw [if_neg h7]
    have hq : n * uw * (m * uh) ≤ 64 * 64 := Nat.mul_le_mul (by omega) (by omega)
    have hz : F_block_zero_s0 ((n * uw : Nat) : Int) ((m * uh : Nat) : Int) = some (⟨((n * uw : Nat) : Int), ((m * uh : Nat) : Int), List.replicate (n * uw * (m * uh)) false⟩, 0) := by
      unfold F_block_zero_s0
      simp only [dF (show ¬ (64 : Int) < ((n * uw : Nat) : Int) by omega), dF (show ¬ (64 : Int) < ((m * uh : Nat) : Int) by omega), Bool.false_eq_true, if_false, Option.bind_some]
      rw [wmul (by omega), makeO_of (k := n * uw * (m * uh)) rfl (by omega)]
      rfl
    have hlen : n * m = at_.length := by rw [J.len, Nat.mul_comm]
    generalize hR : ((⟨((n * uw : Nat) : Int), ((m * uh : Nat) : Int), List.replicate (n * uw * (m * uh)) false⟩ : api_Grid), (0 : Int)) = R at hz
    have rW : R.1.W = ((n * uw : Nat) : Int) := by rw [← hR]
    have rH : R.1.H = ((m * uh : Nat) : Int) := by rw [← hR]
    have rB : R.1.Bits = List.replicate (n * uw * (m * uh)) false := by rw [← hR]
    have rE : R.2 = 0 := by rw [← hR]
    have hb := puts_eq (Bd := block_Join_l1 at_ us (n : Int) R) (pw := n) (ph := m) (uw := uw) (uh := uh) n0 (unitAt us at_) (fun k hk => J.gr k (by omega)) (by omega) (by omega) (Nat.le_trans (Nat.mul_le_mul (show n ≤ 64 by omega) (show m ≤ 64 by omega)) (by decide)) ((m * uh : Nat) : Int)
      (fun k s hk => by
        have hk2 : k < at_.length := by omega
        unfold block_Join_l1
        simp only [dT (show (k : Int) < (at_.length : Int) by omega), if_true, idxO_nat hk2, Option.bind_some, J.ix k hk2, rem_nat (show 0 < n by omega), quo_nat (show 0 < n by omega) (show k ≤ 9223372036854775807 by omega), rW, rH])
      (fun s => by
        unfold block_Join_l1
        simp only [dF (show ¬ ((n * m : Nat) : Int) < (at_.length : Int) by omega), Bool.false_eq_true, if_false])
    simp only [dF (show ¬ (64 : Int) < (n : Int) by omega), dF (show ¬ (64 : Int) < (m : Int) by omega), Bool.false_eq_true, if_false, Option.bind_some, hz, rE, rB, bne_self_eq_false, hb, rW, rH]
    rfl
end Go.Proofs.Ythfifeabomdlpaa
namespace Go.Proofs.Ythfifeabomdlpaa
open Go.RowKit
set_option linter.unusedVariables false

def pgood (g a b : api_Grid) (W w h n t : Nat) : Bool := decide (prt g W w h (t % n) (t / n) = a ∨ prt g W w h (t % n) (t / n) = b)
def proff (g a : api_Grid) (W w h : Nat) (i j : Nat) : Bool := decide (prt g W w h i j = a)
def profS (g a b : api_Grid) : api_Grid × Int :=
  if ckL [g, a, b] = 0 then
    (if a.W = b.W ∧ a.H = b.H ∧ g.W % a.W = 0 ∧ g.H % a.H = 0 then
      (if a = b then (⟨0, 0, []⟩, 14)
      else if (List.range (g.H.toNat / a.H.toNat * (g.W.toNat / a.W.toNat))).all (pgood g a b g.W.toNat a.W.toNat a.H.toNat (g.W.toNat / a.W.toNat)) = true then (gm (proff g a g.W.toNat a.W.toNat a.H.toNat) (g.W.toNat / a.W.toNat) (g.H.toNat / a.H.toNat), 0) else (⟨0, 0, []⟩, 6))
    else (⟨0, 0, []⟩, 26))
  else (⟨0, 0, []⟩, ckL [g, a, b])
/-- rows of rounds that may fail -/
theorem loop2f {S1 S2 τ1 : Type} {l1 : Nat → S1 → Option (S1 ⊕ τ1)} {τ2 : Type} {l2 : S2 → Option (S2 ⊕ τ2)} (c1 : Nat → Nat → S1) (c2 : Nat → S2) (e1 : Nat → τ1) (b1 : τ1) (b2 : τ2) (w h : Nat) (g : Nat → Bool) {t : τ2}
    (h1 : ∀ y x, y < h → x < w → l1 y (c1 y x) = some (if g (y * w + x) = true then .inl (c1 y (x + 1)) else .inr b1)) (h1e : ∀ y, y < h → l1 y (c1 y w) = some (.inr (e1 y)))
    (h2 : ∀ y, y < h → whileO (l1 y) (c1 y 0) = some (e1 y) → l2 (c2 y) = some (.inl (c2 (y + 1)))) (h2b : ∀ y, y < h → whileO (l1 y) (c1 y 0) = some b1 → l2 (c2 y) = some (.inr b2)) (h2e : l2 (c2 h) = some (.inr t)) :
    whileO l2 (c2 0) = some (if (List.range (h * w)).all g = true then t else b2) := by
  have key := loop_seqf c2 h (fun y => (List.range w).all fun x => g (y * w + x)) (bad := b2) (t := t) (fun y hy _ => by
    have hw := loop_seqf (c1 y) w (fun x => g (y * w + x)) (bad := b1) (t := e1 y) (fun x hx _ => h1 y x hy hx) (fun _ => h1e y hy)
    by_cases hc : ((List.range w).all fun x => g (y * w + x)) = true
    · rw [if_pos hc] at hw
      rw [if_pos hc, h2 y hy hw]
    · rw [if_neg hc] at hw
      rw [if_neg hc, h2b y hy hw]) (fun _ => h2e)
  rw [key]
  congr 1
  have e : ((List.range h).all fun y => (List.range w).all fun x => g (y * w + x)) = true ↔ (List.range (h * w)).all g = true := by
    simp only [List.all_eq_true, List.mem_range]
    constructor
    · intro hh t ht
      have w0 : 0 < w := by rcases Nat.eq_zero_or_pos w with h0 | h0; rw [h0, Nat.mul_zero] at ht; omega; exact h0
      have := hh (t / w) (pl_divlt (by rw [Nat.mul_comm]; exact ht)) (t % w) (pl_modlt w0)
      rwa [pl_of] at this
    · intro hh y hy x hx
      exact hh _ (by rw [Nat.mul_comm h w]; exact pl_lt hx hy)
  by_cases hc : (List.range (h * w)).all g = true
  · rw [if_pos hc, if_pos (e.2 hc)]
  · rw [if_neg hc, if_neg (fun hh => hc (e.1 hh))]
theorem prt_len {g : api_Grid} {W w h i j : Nat} (hw : w ≤ 64) (hh : h ≤ 64) : (prt g W w h i j).Bits.length ≤ 4096 := by
  have hp : w * h ≤ 64 * 64 := Nat.mul_le_mul hw hh
  unfold prt gm
  simp only [gl_len]
  omega
theorem Gr.bits {g : api_Grid} {w h : Nat} (G : Gr g w h) : g.Bits.length ≤ 4096 := by
  have hp : w * h ≤ 64 * 64 := Nat.mul_le_mul G.w1 G.h1
  rw [G.len]; omega
theorem prof_dims {g a : api_Grid} {W H w h : Nat} (G : Gr g W H) (A : Gr a w h) (h1 : g.W % a.W = 0) (h2 : g.H % a.H = 0) : W = W / w * w ∧ H = H / h * h ∧ 1 ≤ W / w ∧ 1 ≤ H / h ∧ W / w ≤ 64 ∧ H / h ≤ 64 := by
  rw [G.hw, A.hw] at h1
  rw [G.hh, A.hh] at h2
  have e1 : W % w = 0 := by omega
  have e2 : H % h = 0 := by omega
  have d1 := pl_of W w
  have d2 := pl_of H h
  have := G.w0
  have := G.h0
  have q1 : W / w ≤ W := Nat.div_le_self _ _
  have q2 : H / h ≤ H := Nat.div_le_self _ _
  have := G.w1
  have := G.h1
  refine ⟨by omega, by omega, ?_, ?_, by omega, by omega⟩
  · rcases Nat.eq_zero_or_pos (W / w) with h0 | h0
    · rw [h0] at d1; omega
    · exact h0
  · rcases Nat.eq_zero_or_pos (H / h) with h0 | h0
    · rw [h0] at d2; omega
    · exact h0
theorem prof_eq (g a b : api_Grid) : F_block_Profile g a b = some (profS g a b) := by
  unfold F_block_Profile profS
  rw [checked_eq _ (by simp)]
  by_cases h0 : ckL [g, a, b] = 0
  case neg => simp only [Option.bind_some, nT h0, if_true, if_neg h0]
  simp only [Option.bind_some, nF h0, Bool.false_eq_true, if_false, if_pos h0, alike_eq]
  obtain ⟨g1, g2, g3⟩ := ckL_three h0
  obtain ⟨W, H, G⟩ := gerr_zero g1
  obtain ⟨w, h, A⟩ := gerr_zero g2
  obtain ⟨bw, bh, B⟩ := gerr_zero g3
  have w0 := A.w0
  have v0 := A.h0
  have w1 := A.w1
  have v1 := A.h1
  have W1 := G.w1
  have H1 := G.h1
  have r1 : remI g.W a.W = some ((W % w : Nat) : Int) := by rw [G.hw, A.hw]; exact rem_nat (by omega)
  have r2 : remI g.H a.H = some ((H % h : Nat) : Int) := by rw [G.hh, A.hh]; exact rem_nat (by omega)
  have s1 : g.W % a.W = ((W % w : Nat) : Int) := by rw [G.hw, A.hw, Int.natCast_emod]
  have s2 : g.H % a.H = ((H % h : Nat) : Int) := by rw [G.hh, A.hh, Int.natCast_emod]
  by_cases h1 : a.W = b.W ∧ a.H = b.H
  case neg =>
    rw [if_neg (show ¬ (a.W = b.W ∧ a.H = b.H ∧ g.W % a.W = 0 ∧ g.H % a.H = 0) from fun h => h1 ⟨h.1, h.2.1⟩)]
    simp only [dF h1, Bool.not_false, if_true, Option.bind_some]
  by_cases h2 : g.W % a.W = 0
  case neg =>
    rw [if_neg (show ¬ (a.W = b.W ∧ a.H = b.H ∧ g.W % a.W = 0 ∧ g.H % a.H = 0) from fun h => h2 h.2.2.1)]
    rw [s1] at h2
    simp only [dT h1, Bool.not_true, Bool.false_eq_true, if_false, r1, Option.bind_some, nT h2, if_true]
  by_cases h3 : g.H % a.H = 0
  case neg =>
    rw [if_neg (show ¬ (a.W = b.W ∧ a.H = b.H ∧ g.W % a.W = 0 ∧ g.H % a.H = 0) from fun h => h3 h.2.2.2)]
    rw [s1] at h2
    rw [s2] at h3
    simp only [dT h1, Bool.not_true, Bool.false_eq_true, if_false, r1, r2, Option.bind_some, nF h2, nT h3, if_true]
  obtain ⟨d1, d2, d3, d4, d5, d6⟩ := prof_dims G A h2 h3
  rw [if_pos (show (a.W = b.W ∧ a.H = b.H ∧ g.W % a.W = 0 ∧ g.H % a.H = 0) from ⟨h1.1, h1.2, h2, h3⟩)]
  rw [s1] at h2
  rw [s2] at h3
  simp only [dT h1, Bool.not_true, Bool.false_eq_true, if_false, r1, r2, Option.bind_some, nF h2, nF h3, gsame_eq a b (by have := A.bits; omega)]
  by_cases h4 : a = b
  · rw [if_pos h4]; simp only [dT h4, if_true]
  rw [if_neg h4]
  have q1 : quoI g.W a.W = some ((W / w : Nat) : Int) := by rw [G.hw, A.hw]; exact quo_nat (by omega) (by omega)
  have q2 : quoI g.H a.H = some ((H / h : Nat) : Int) := by rw [G.hh, A.hh]; exact quo_nat (by omega) (by omega)
  simp only [dF h4, Bool.false_eq_true, if_false, q1, q2, Option.bind_some, G.W, G.H, A.W, A.H]
  generalize hn : W / w = n at *
  generalize hm : H / h = m at *
  have hb := loop2f (l1 := fun y => block_Profile_l1 (n : Int) g a (y : Int) b) (l2 := block_Profile_l2 (m : Int) (n : Int) g a b)
    (fun y x => ((x : Int), glf (proff g a W w h) n (y * n + x))) (fun y => ((y : Int), glf (proff g a W w h) n (y * n))) (fun y => .inr (glf (proff g a W w h) n (y * n + n))) (.inl (⟨0, 0, []⟩, 6)) (.inl (⟨0, 0, []⟩, 6)) n m
    (pgood g a b W w h n) (t := .inr (glf (proff g a W w h) n (m * n)))
    (fun y x hy hx => by
      have b1 : x * w + w ≤ W := by have := Nat.mul_le_mul_right w (show x + 1 ≤ n by omega); rw [Nat.add_mul, Nat.one_mul] at this; omega
      have b2 : y * h + h ≤ H := by have := Nat.mul_le_mul_right h (show y + 1 ≤ m by omega); rw [Nat.add_mul, Nat.one_mul] at this; omega
      have hl := prt_len (g := g) (W := W) (w := w) (h := h) (i := x) (j := y) w1 v1
      have ha : (glf (proff g a W w h) n (y * n + x)).length ≤ 5000 := by
        have := pl_lt hx hy
        have := Nat.mul_le_mul d5 d6
        simp [glf]; omega
      unfold block_Profile_l1
      rw [show a.W = (w : Int) from A.hw, show a.H = (h : Int) from A.hh]
      simp only [dT (show (x : Int) < (n : Int) by omega), if_true, part_eq G b1 b2 w0 v0, Option.bind_some, gsame_eq _ _ (Nat.le_trans hl (by decide))]
      unfold pgood
      rw [pl_mod hx, pl_div hx]
      by_cases c1 : prt g W w h x y = a
      · simp only [dT c1, Bool.not_true, Bool.false_eq_true, if_false, Option.bind_some, dT (show prt g W w h x y = a ∨ prt g W w h x y = b from .inl c1), if_true]
        rw [appO_of (by simp; omega), Option.bind_some, w64_succ (by omega)]
        congr 3
        rw [show y * n + (x + 1) = y * n + x + 1 from rfl, glf_succ, pl_mod hx, pl_div hx, show proff g a W w h x y = true from decide_eq_true c1]
      · by_cases c2 : prt g W w h x y = b
        · simp only [dF c1, dT c2, Bool.not_true, Bool.not_false, Bool.false_eq_true, if_false, if_true, Option.bind_some, dT (show prt g W w h x y = a ∨ prt g W w h x y = b from .inr c2)]
          rw [appO_of (by simp; omega), Option.bind_some, w64_succ (by omega)]
          congr 3
          rw [show y * n + (x + 1) = y * n + x + 1 from rfl, glf_succ, pl_mod hx, pl_div hx, show proff g a W w h x y = false from decide_eq_false c1]
        · simp only [dF c1, dF c2, Bool.not_false, Bool.false_eq_true, if_false, if_true, Option.bind_some, dF (show ¬ (prt g W w h x y = a ∨ prt g W w h x y = b) from fun h => h.elim c1 c2)])
    (fun y hy => by
      unfold block_Profile_l1
      simp only [dF (show ¬ (n : Int) < (n : Int) by omega), Bool.false_eq_true, if_false])
    (fun y hy hl => by
      unfold block_Profile_l2
      simp only [dT (show (y : Int) < (m : Int) by omega), if_true]
      have e0 : (((0 : Nat) : Int), glf (proff g a W w h) n (y * n + 0)) = ((0 : Int), glf (proff g a W w h) n (y * n)) := rfl
      rw [e0] at hl
      rw [hl]
      simp only [Option.bind_some, w64_succ (show y < 9223372036854775807 by omega)]
      rw [show (y + 1) * n = y * n + n by rw [Nat.add_mul, Nat.one_mul]])
    (fun y hy hl => by
      unfold block_Profile_l2
      simp only [dT (show (y : Int) < (m : Int) by omega), if_true]
      have e0 : (((0 : Nat) : Int), glf (proff g a W w h) n (y * n + 0)) = ((0 : Int), glf (proff g a W w h) n (y * n)) := rfl
      rw [e0] at hl
      rw [hl]
      simp only [Option.bind_some])
    (by
      unfold block_Profile_l2
      simp only [dF (show ¬ (m : Int) < (m : Int) by omega), Bool.false_eq_true, if_false])
  have e0 : (((0 : Nat) : Int), glf (proff g a W w h) n (0 * n)) = ((0 : Int), ([] : List Bool)) := by simp [glf]
  simp only [e0] at hb
  rw [hb]
  by_cases hc : (List.range (m * n)).all (pgood g a b W w h n) = true
  · rw [if_pos hc, if_pos hc]
    simp only [Option.bind_some]
    unfold gm gl
    rw [Nat.mul_comm n m]
  · rw [if_neg hc, if_neg hc]
    simp only [Option.bind_some]
end Go.Proofs.Ythfifeabomdlpaa
namespace Go.Proofs.Ythfifeabomdlpaa
open Go.RowKit
set_option linter.unusedVariables false

theorem ckL3 {a b c : api_Grid} (h1 : gerr a = 0) (h2 : gerr b = 0) (h3 : gerr c = 0) : ckL [a, b, c] = 0 := by simp [ckL, h1, h2, h3]
theorem fillS_ok {p a b : api_Grid} {pw ph uw uh : Nat} (P : Gr p pw ph) (A : Gr a uw uh) (B : Gr b uw uh) (hW : pw * uw ≤ 64) (hH : ph * uh ≤ 64) : fillS p a b = (gm (fillf p a b pw uw uh) (pw * uw) (ph * uh), 0) := by
  have e1 : p.W * a.W = ((pw * uw : Nat) : Int) := by rw [P.hw, A.hw, Int.natCast_mul]
  have e2 : p.H * a.H = ((ph * uh : Nat) : Int) := by rw [P.hh, A.hh, Int.natCast_mul]
  unfold fillS
  rw [if_pos (ckL3 (gr_err P) (gr_err A) (gr_err B)), if_pos (show a.W = b.W ∧ a.H = b.H from ⟨by rw [A.hw, B.hw], by rw [A.hh, B.hh]⟩), e1, e2, if_neg (by omega), P.W, A.W, P.H, A.H]
theorem blk_lt {x w n : Nat} (h : x < n * w) : x / w < n := pl_divlt (by rw [Nat.mul_comm]; exact h)
/-- a grid that has a profile is what fills it -/
theorem fill_prof {g a b p : api_Grid} (h : profS g a b = (p, 0)) : fillS p a b = (g, 0) := by
  unfold profS at h
  by_cases h0 : ckL [g, a, b] = 0
  case neg => rw [if_neg h0] at h; exact absurd (Prod.mk.inj h).2 h0
  rw [if_pos h0] at h
  obtain ⟨g1, g2, g3⟩ := ckL_three h0
  obtain ⟨W, H, G⟩ := gerr_zero g1
  obtain ⟨w, v, A⟩ := gerr_zero g2
  obtain ⟨bw, bh, B⟩ := gerr_zero g3
  by_cases h1 : a.W = b.W ∧ a.H = b.H ∧ g.W % a.W = 0 ∧ g.H % a.H = 0
  case neg => rw [if_neg h1] at h; exact absurd (Prod.mk.inj h).2 (by decide)
  rw [if_pos h1] at h
  by_cases h2 : a = b
  · rw [if_pos h2] at h; exact absurd (Prod.mk.inj h).2 (by decide)
  rw [if_neg h2] at h
  obtain ⟨q1, q2, q3, q4⟩ := h1
  obtain ⟨d1, d2, d3, d4, d5, d6⟩ := prof_dims G A q3 q4
  rw [G.W, G.H, A.W, A.H] at h
  by_cases h3 : (List.range (H / v * (W / w))).all (pgood g a b W w v (W / w)) = true
  case neg => rw [if_neg h3] at h; exact absurd (Prod.mk.inj h).2 (by decide)
  rw [if_pos h3] at h
  have hp := (Prod.mk.inj h).1
  have w1 := A.hw
  have w2 := A.hh
  have w3 := B.hw
  have w4 := B.hh
  obtain ⟨rfl, rfl⟩ : bw = w ∧ bh = v := by omega
  have W1 := G.w1
  have H1 := G.h1
  generalize W / bw = n at *
  generalize H / bh = m at *
  subst d1 d2
  have P : Gr p n m := by rw [← hp]; exact gm_gr _ d3 d5 d4 d6
  rw [fillS_ok P A B W1 H1]
  refine congrArg (fun z => (z, (0 : Int))) (Eq.trans (gm_cong fun x y hx hy => ?_) G.eq.symm)
  have hx2 := blk_lt hx
  have hy2 := blk_lt hy
  have hk := List.all_eq_true.1 h3 (y / bh * n + x / bw) (List.mem_range.2 (by rw [Nat.mul_comm m n]; exact pl_lt hx2 hy2))
  unfold pgood at hk
  rw [pl_mod hx2, pl_div hx2] at hk
  have hk := of_decide_eq_true hk
  have hc : cell (prt g (n * bw) bw bh (x / bw) (y / bh)) bw (x % bw) (y % bh) = cell g (n * bw) x y := by
    unfold prt
    rw [gm_cell _ (pl_modlt A.w0) (pl_modlt A.h0), pl_of, pl_of]
  unfold fillf
  rw [← hp, gm_cell _ hx2 hy2]
  by_cases e : prt g (n * bw) bw bh (x / bw) (y / bh) = a
  · rw [show proff g a (n * bw) bw bh (x / bw) (y / bh) = true from decide_eq_true e, if_pos rfl, ← e, hc]
  · rw [show proff g a (n * bw) bw bh (x / bw) (y / bh) = false from decide_eq_false e, if_neg (by decide)]
    rcases hk with hk | hk
    · exact absurd hk e
    · rw [← hk, hc]

end Go.Proofs.Ythfifeabomdlpaa
namespace Go.Proofs.Ythfifeabomdlpaa
open Go.RowKit
set_option linter.unusedVariables false

/-- the place of the unit of round k -/
def uv (g : api_Grid) (W w h n k : Nat) : Nat := (ust g W w h n k).1.findIdx fun u => decide (u = prt g W w h (k % n) (k / n))
theorem ust_one (g : api_Grid) (W w h n k : Nat) : (ust g W w h n (k + 1)).1 = if uv g W w h n k < (ust g W w h n k).1.length then (ust g W w h n k).1 else (ust g W w h n k).1 ++ [prt g W w h (k % n) (k / n)] := rfl
theorem ust_at (g : api_Grid) (W w h n k : Nat) : (ust g W w h n k).2 = (List.range k).map fun t => ((uv g W w h n t : Nat) : Int) := by
  induction k with
  | zero => rfl
  | succ k ih =>
    rw [show (ust g W w h n (k + 1)).2 = (ust g W w h n k).2 ++ [((uv g W w h n k : Nat) : Int)] from rfl, ih, List.range_succ, List.map_append]
    rfl
theorem uv_le (g : api_Grid) (W w h n k : Nat) : uv g W w h n k ≤ (ust g W w h n k).1.length := findIdx_le _ _
theorem ust_pre (g : api_Grid) (W w h n k j : Nat) : ∃ s, (ust g W w h n (k + j)).1 = (ust g W w h n k).1 ++ s := by
  induction j with
  | zero => exact ⟨[], by simp⟩
  | succ j ih =>
    obtain ⟨s, hs⟩ := ih
    rw [← Nat.add_assoc, ust_one]
    split
    · exact ⟨s, hs⟩
    · exact ⟨s ++ [_], by rw [hs, List.append_assoc]⟩
theorem uv_get (g : api_Grid) (W w h n k : Nat) : (ust g W w h n (k + 1)).1[uv g W w h n k]? = some (prt g W w h (k % n) (k / n)) := by
  rw [ust_one]
  by_cases hc : uv g W w h n k < (ust g W w h n k).1.length
  · rw [if_pos hc, List.getElem?_eq_getElem hc]
    have h3 : decide ((ust g W w h n k).1[uv g W w h n k] = prt g W w h (k % n) (k / n)) = true := List.findIdx_getElem (p := fun u => decide (u = prt g W w h (k % n) (k / n)))
    rw [of_decide_eq_true h3]
  · have := uv_le g W w h n k
    rw [if_neg hc, List.getElem?_append_right (by omega), show uv g W w h n k - (ust g W w h n k).1.length = 0 by omega]
    rfl
theorem uv_lt {g : api_Grid} {W w h n k t : Nat} (hk : k < t) : ∃ hl : uv g W w h n k < (ust g W w h n t).1.length, (ust g W w h n t).1[uv g W w h n k] = prt g W w h (k % n) (k / n) := by
  obtain ⟨s, hs⟩ := ust_pre g W w h n (k + 1) (t - (k + 1))
  rw [show k + 1 + (t - (k + 1)) = t by omega] at hs
  have h1 := uv_get g W w h n k
  obtain ⟨hl, h2⟩ := List.getElem?_eq_some_iff.1 h1
  have h3 : (ust g W w h n t).1[uv g W w h n k]? = some (prt g W w h (k % n) (k / n)) := by
    rw [hs, List.getElem?_append_left hl, h1]
  exact List.getElem?_eq_some_iff.1 h3
theorem ust_nodup (g : api_Grid) (W w h n k : Nat) : (ust g W w h n k).1.Nodup := by
  induction k with
  | zero => exact List.nodup_nil
  | succ k ih =>
    rw [ust_one]
    split
    · exact ih
    · rename_i hc
      refine List.nodup_append.2 ⟨ih, by simp, ?_⟩
      intro u hu v hv e
      rw [List.mem_singleton] at hv
      refine hc (List.findIdx_lt_length.2 ⟨u, hu, decide_eq_true ?_⟩)
      rw [e, hv]
theorem ust_next (g : api_Grid) (W w h n k : Nat) : (ust g W w h n (k + 1)).1.length = if uv g W w h n k = (ust g W w h n k).1.length then (ust g W w h n k).1.length + 1 else (ust g W w h n k).1.length := by
  have := uv_le g W w h n k
  rw [ust_one]
  by_cases hc : uv g W w h n k < (ust g W w h n k).1.length
  · rw [if_pos hc, if_neg (by omega)]
  · rw [if_neg hc, if_pos (by omega)]; simp
theorem ckL_of {l : List api_Grid} (h : ∀ g, g ∈ l → gerr g = 0) : ckL l = 0 := by
  induction l with
  | nil => rfl
  | cons x l ih =>
    simp only [ckL]
    rw [if_pos (h x (List.mem_cons_self ..))]
    exact ih fun g hg => h g (List.mem_cons_of_mem _ hg)
theorem join_units {g : api_Grid} {a b n m : Nat} (G : Gr g (n * a) (m * b)) (a0 : 1 ≤ a) (b0 : 1 ≤ b) (n0 : 1 ≤ n) (m0 : 1 ≤ m) (a1 : a ≤ 64) (b1 : b ≤ 64) :
    joinS (ust g (n * a) a b n (m * n)).1 (ust g (n * a) a b n (m * n)).2 (n : Int) = (g, 0) := by
  have hmn : 0 < m * n := Nat.mul_pos m0 n0
  have hg := ust_gr (g := g) (W := n * a) (n := n) a0 a1 b0 b1 (m * n)
  obtain ⟨hl0, -⟩ := uv_lt (g := g) (W := n * a) (w := a) (h := b) (n := n) hmn
  have hal := (ust_len g (n * a) a b n (m * n)).2
  have hat := ust_at g (n * a) a b n (m * n)
  have hun : ∀ k, k < m * n → unitAt (ust g (n * a) a b n (m * n)).1 (ust g (n * a) a b n (m * n)).2 k = prt g (n * a) a b (k % n) (k / n) := by
    intro k hk
    obtain ⟨hl, he⟩ := uv_lt (g := g) (W := n * a) (w := a) (h := b) (n := n) hk
    unfold unitAt
    rw [hat, List.getD_eq_getElem?_getD (l := List.map _ _), List.getElem?_map, List.getElem?_range hk, Option.map_some, Option.getD_some, Int.toNat_natCast, List.getD_eq_getElem?_getD, List.getElem?_eq_getElem hl, Option.getD_some, he]
  have hr : inRg (ust g (n * a) a b n (m * n)).2 (ust g (n * a) a b n (m * n)).1.length = true := by
    unfold inRg
    refine List.all_eq_true.2 fun x hx => ?_
    rw [hat] at hx
    obtain ⟨t, ht, rfl⟩ := List.mem_map.1 hx
    obtain ⟨hl, -⟩ := uv_lt (g := g) (W := n * a) (w := a) (h := b) (n := n) (List.mem_range.1 ht)
    exact decide_eq_true (by omega)
  generalize (ust g (n * a) a b n (m * n)).1 = us at *
  generalize (ust g (n * a) a b n (m * n)).2 = at_ at *
  have h0 : us.length ≠ 0 := by omega
  have hm0 : us.getD 0 ⟨0, 0, []⟩ ∈ us := by
    rw [List.getD_eq_getElem?_getD, List.getElem?_eq_getElem (by omega)]
    exact List.getElem_mem _
  have U := hg _ hm0
  have hs : sameSz us = true := by
    unfold sameSz
    exact List.all_eq_true.2 fun u hu => decide_eq_true ⟨by rw [(hg u hu).hw, U.hw], by rw [(hg u hu).hh, U.hh]⟩
  have e5 : (at_.length : Int) % (n : Int) = 0 := by rw [hal, ← Int.natCast_emod, Nat.mul_mod_left]; rfl
  have e6 : (at_.length : Int) / (n : Int) = (m : Int) := by rw [hal, ← Int.natCast_ediv, Nat.mul_div_cancel m n0]
  have e3 : (n : Int) * (us.getD 0 ⟨0, 0, []⟩).W = ((n * a : Nat) : Int) := by rw [U.hw, Int.natCast_mul]
  have e4 : (m : Int) * (us.getD 0 ⟨0, 0, []⟩).H = ((m * b : Nat) : Int) := by rw [U.hh, Int.natCast_mul]
  have W1 := G.w1
  have H1 := G.h1
  unfold joinS
  rw [if_neg h0, if_pos (ckL_of fun u hu => gr_err (hg u hu)), if_pos (show sameSz us = true ∧ 1 ≤ (n : Int) ∧ at_.length ≠ 0 ∧ (at_.length : Int) % (n : Int) = 0 from ⟨hs, by omega, by omega, e5⟩), if_pos hr, e6, e3, e4, if_neg (by omega), U.W, U.H, Int.toNat_natCast, hal, Nat.mul_div_cancel m n0]
  refine congrArg (fun z => (z, (0 : Int))) (Eq.trans (gm_cong fun x y hx hy => ?_) G.eq.symm)
  have hx2 := blk_lt hx
  have hy2 := blk_lt hy
  unfold joinf
  rw [hun _ (by rw [Nat.mul_comm m n]; exact pl_lt hx2 hy2), pl_mod hx2, pl_div hx2]
  unfold prt
  rw [gm_cell _ (pl_modlt a0) (pl_modlt b0), pl_of, pl_of]

end Go.Proofs.Ythfifeabomdlpaa
namespace Go.Proofs.Ythfifeabomdlpaa
open Go.RowKit
set_option linter.unusedVariables false

noncomputable def F_raddlelaw13_fit (p0 : api_Grid) : Option Bool :=
  Option.bind (α := Bool) (
    Option.bind (F_raddleref01_Great p0) fun r10 =>
    if !r10 then
      Option.bind (F_raddleref01_Check p0) fun r13 =>
      some (r13 == 0)
    else
      some false) fun o7 =>
  some o7
set_option maxHeartbeats 4000000 in
set_option maxRecDepth 100000 in
theorem c_raddlelaw13_fit (E : Nat → Prop) (w0 : World) (p0 : api_Grid) (v0 : Value) (r : Bool) (h : F_raddlelaw13_fit p0 = some r) (S : St0 E [] w0 w0 [] [fRep r_api_Grid (v0) p0]) :
    Calls Try.prog 32 #[v0] w0 (Ret (X := Unit) E [] w0 (fun _ => .bool r) (fun _ => []) (fun _ => [])) := by
  unfold F_raddlelaw13_fit at h
  obtain ⟨u1, rfl, hu2⟩ := S.know (i := 0) (e := fRep r_api_Grid (v0) p0) rfl
  have S := S.learn (fRep (rL rB) u1 p0.Bits) hu2
  obtain ⟨ad3, cp4, _, rfl, _⟩ := hu2
  refine sEnter (args := [.agg #[iv p0.W, iv p0.H, .slice ad3 p0.Bits.length cp4]]) 11 Try.func32 rfl rfl (by simp) S (fun a S => ?_)
  refine sSeq (fun K5 hK5 => ?_)
  refine sRegion ?_
  refine sBox (v := .agg #[iv p0.W, iv p0.H, .slice ad3 p0.Bits.length cp4]) S (wN rfl) rfl rfl [iv p0.W, iv p0.H, .slice ad3 p0.Bits.length cp4] rfl rfl (lb rfl) fun a b6 w S => ?_
  refine sMove (.bool false) S (wN rfl) (.inr rfl) rfl rfl (lb rfl) fun a S => ?_
  refine leafL (leafT (hK5 _ _ ?_))
  obtain ⟨t8, h, g9⟩ := bindSome h
  refine sCut (fun a w => ∃ o7, o7 = t8 ∧ St [] E [] w0 11 a w [(2, .bool o7)] [] []) ?_ (fun a w hI => ?_)
  rotate_left
  · obtain ⟨o7, rfl, S⟩ := hI
    have h := g9
    clear g9
    try dsimp only at h
    obtain rfl := Option.some.inj h
    exact wp_ret (sRet (.bool o7) S (rsl1 rfl (rvT (t := 2) (v := .bool o7) S rfl)) ⟨(), rfl, S.mem.sel [] [] (by decide) rfl rfl⟩)
  refine sRegion ?_
  refine sLoadN (p := b6) (off := 0) (T := 24) (vs := [iv p0.W, iv p0.H, .slice ad3 p0.Bits.length cp4]) 0 [iv p0.W, iv p0.H, .slice ad3 p0.Bits.length cp4] S (wN rfl) rfl rfl rfl rfl rfl rfl rfl (lb rfl) fun a S => ?_
  obtain ⟨r10, hx11, h⟩ := bindSome h
  have S1 := S.mem
  refine sCallQ (X := Unit) (f := 11) (vs := [.agg #[iv p0.W, iv p0.H, .slice ad3 p0.Bits.length cp4]]) (val := fun _ => .bool r10) S (wN rfl) rfl callee11 rfl (S1.quiet [1] rfl) (fun E1 w1 S1 => c_raddleref01_Great E1 w1 p0 (.agg #[iv p0.W, iv p0.H, .slice ad3 p0.Bits.length cp4]) r10 hx11 S1) rfl (lb rfl) fun _ a w S => ?_
  refine sNot (b := r10) S (wN rfl) rfl rfl rfl (lb rfl) fun a S => ?_
  refine sMove (.bool (!r10)) S (wN rfl) (.inl rfl) rfl rfl (lb rfl) fun a S => ?_
  rcases iteSome h with ⟨hc12, h⟩ | ⟨hc12, h⟩
  rotate_left
  · refine sSkip 3 true 6 7 S rfl rfl rfl hc12 rfl (lb rfl) fun a S => ?_
    refine sSkip 3 true 6 8 S rfl rfl rfl hc12 rfl (lb rfl) fun a S => ?_
    refine sSkip 3 true 6 9 S rfl rfl rfl hc12 rfl (lb rfl) fun a S => ?_
    refine sPickF (.bool false) S (wN rfl) rfl rfl hc12 rfl rfl (lb rfl) fun a S => ?_
    refine sMove (.bool false) S (wN rfl) (.inr rfl) rfl rfl (lb rfl) fun a S => ?_
    exact leafL (leafT (⟨false, Option.some.inj h, S.fix [] [] (by decide) rfl rfl rfl⟩))
  refine sLoadN (p := b6) (off := 0) (T := 24) (vs := [iv p0.W, iv p0.H, .slice ad3 p0.Bits.length cp4]) 0 [iv p0.W, iv p0.H, .slice ad3 p0.Bits.length cp4] S (wG 3 true 6 rfl rfl rfl hc12) rfl rfl rfl rfl rfl rfl rfl (lb rfl) fun a S => ?_
  obtain ⟨r13, hx14, h⟩ := bindSome h
  have S1 := S.mem
  refine sCallQ (X := Unit) (f := 53) (vs := [.agg #[iv p0.W, iv p0.H, .slice ad3 p0.Bits.length cp4]]) (val := fun _ => iv r13) S (wG 3 true 6 rfl rfl rfl hc12) rfl callee53 rfl (S1.quiet [1] rfl) (fun E1 w1 S1 => c_raddleref01_Check E1 w1 p0 (.agg #[iv p0.W, iv p0.H, .slice ad3 p0.Bits.length cp4]) r13 hx14 S1) rfl (lb rfl) fun _ a w S => ?_
  refine sBin (.bool (r13 == 0)) S (wG 3 true 6 rfl rfl rfl hc12) rfl rfl rfl (bEq _ _ _ _ .i64 r13 0) rfl (lb rfl) fun a S => ?_
  refine sPickT (.bool (r13 == 0)) S (wN rfl) rfl rfl hc12 rfl rfl (lb rfl) fun a S => ?_
  refine sMove (.bool (r13 == 0)) S (wN rfl) (.inr rfl) rfl rfl (lb rfl) fun a S => ?_
  exact leafL (leafT (⟨r13 == 0, Option.some.inj h, S.fix [] [] (by decide) rfl rfl rfl⟩))

end Go.Proofs.Ythfifeabomdlpaa
namespace Go.Proofs.Ythfifeabomdlpaa
open Go.RowKit
set_option linter.unusedVariables false

end Go.Proofs.Ythfifeabomdlpaa
namespace Go.Proofs.Ythfifeabomdlpaa
open Go.RowKit
set_option linter.unusedVariables false

end Go.Proofs.Ythfifeabomdlpaa
namespace Go.Proofs.Ythfifeabomdlpaa
open Go.RowKit
set_option linter.unusedVariables false

end Go.Proofs.Ythfifeabomdlpaa
namespace Go.Proofs.Ythfifeabomdlpaa
open Go.RowKit
set_option linter.unusedVariables false

end Go.Proofs.Ythfifeabomdlpaa
namespace Go.Proofs.Ythfifeabomdlpaa
open Go.RowKit
set_option linter.unusedVariables false

theorem fit_eq (g : api_Grid) : F_raddlelaw13_fit g = some (!decide (4200 < g.Bits.length) && decide (gerr g = 0)) := by
  unfold F_raddlelaw13_fit
  simp only [rgreat_eq, (gcheck_eq g).2, Option.bind_some]
  by_cases h : 4200 < g.Bits.length
  · simp only [dT h, Bool.not_true, Bool.false_eq_true, if_false, Option.bind_some, Bool.false_and]
  · simp only [dF h, Bool.not_false, if_true, Option.bind_some, Bool.true_and]
    by_cases h0 : gerr g = 0
    · rw [dT h0, h0]; rfl
    · rw [dF h0, bF h0]
theorem fit_gr {g : api_Grid} {w h : Nat} (G : Gr g w h) : F_raddlelaw13_fit g = some true := by
  have := G.bits
  rw [fit_eq, dF (show ¬ 4200 < g.Bits.length by omega), dT (gr_err G)]; rfl
theorem fit_no {g : api_Grid} (h : ¬ gerr g = 0) : F_raddlelaw13_fit g = some false := by
  rw [fit_eq, dF h, Bool.and_false]

end Go.Proofs.Ythfifeabomdlpaa
