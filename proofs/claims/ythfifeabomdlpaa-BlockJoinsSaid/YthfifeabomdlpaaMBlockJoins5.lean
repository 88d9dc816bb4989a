/- Several texts in one: G9 LBJ LBJv FrBlockJoins -/
import Derived.WalkKit
import Derived.Maps.AppendAt
import Derived.Deep.AppendLies
import Derived.KernelRfl
import Derived.Laws.OwnMore
import Derived.Great.BuildSlice
import Derived.Orders
import Derived.Laws.StructEq
import Derived.ChangeKeysEq
import Derived.Defers
import Derived.Laws.BytesString
import Derived.RangeFuncNested
import Derived.RangeFuncBound
import Derived.RangeFuncCalls
import Derived.RangeFuncLeaves
import Derived.OrdersIn
import Derived.LoopNIn
import Derived.ArgAppend
import Derived.Test.YthfifeabomdlpaaProg
import Derived.ProofKit
import Derived.OpenShut
import Derived.ChangeOld
import Derived.Deep.Slices
import Derived.Lib.SmallJoins
import Derived.JoinedOf
import Derived.JoinedAt
import Derived.Below
import Derived.Test.YthfifeabomdlpaaRows
import Derived.Test.YthfifeabomdlpaaMBlockJoins4
namespace Go.Proofs.Ythfifeabomdlpaa
open Go.RowKit
set_option linter.unusedVariables false

def anc_raddlelaw13_BlockJoins_0 : List (List Nat) := [[], [], [0, 1], [0, 1, 2], [], [], [4, 5], [4, 5, 6], [0, 1, 2, 3, 4, 5, 6, 7]]
noncomputable def raddlelaw13_BlockJoins_l1 (r66 : ((List api_Grid) × (List Int) × Int)) : (Int × Int) → Option ((Int × Int) ⊕ (Bool ⊕ Int)) := fun s0 => match s0 with
  | (s106, s107) =>
    if decide (s107 < (r66.2.1.length : Int)) then
      Option.bind (α := Int ⊕ Bool) (
        Option.bind (α := Bool) (
          Option.bind (idxO r66.2.1 s107) fun x122 =>
          if decide (x122 < 0) then
            some true
          else
            if decide (s106 < x122) then
              some true
            else
              some (decide ((r66.1.length : Int) ≤ x122))) fun o119 =>
        if o119 then
          some (.inr false)
        else
          Option.bind (idxO r66.2.1 s107) fun x138 =>
          if x138 == s106 then
            some (.inl (w64 (s106 + 1)))
          else
            some (.inl s106)) fun z0 => match z0 with
        | .inl o115 =>
          some (.inl (o115, w64 (s107 + 1)))
        | .inr z =>
          some (.inr (.inl z))
    else
      some (.inr (.inr s106))
noncomputable def raddlelaw13_BlockJoins_l2 (s147 : Int) (r66 : ((List api_Grid) × (List Int) × Int)) : Int → Option (Int ⊕ (Bool ⊕ Unit)) := fun s0 => match s0 with
  | s157 =>
    if decide (s157 < s147) then
      Option.bind (idxO r66.1 s147) fun x166 =>
      Option.bind (idxO r66.1 s157) fun x175 =>
      Option.bind (F_raddleref01_Same x166 x175) fun r184 =>
      if r184 then
        some (.inr (.inl false))
      else
        some (.inl (w64 (s157 + 1)))
    else
      some (.inr (.inr ()))
noncomputable def raddlelaw13_BlockJoins_l3 (r66 : ((List api_Grid) × (List Int) × Int)) : Int → Option (Int ⊕ (Bool ⊕ Unit)) := fun s0 => match s0 with
  | s147 =>
    if decide (s147 < (r66.1.length : Int)) then
      Option.bind (α := Unit ⊕ Bool) (
        Option.bind (whileO (raddlelaw13_BlockJoins_l2 s147 r66) 0) fun z0 => match z0 with
          | .inl z =>
            some (.inr z)
          | .inr _ =>
            some (.inl ())) fun z0 => match z0 with
        | .inl _ =>
          some (.inl (w64 (s147 + 1)))
        | .inr z =>
          some (.inr (.inl z))
    else
      some (.inr (.inr ()))
noncomputable def F_raddlelaw13_BlockJoins (p0 : api_Grid) (p1 : Int) (p2 : Int) (p3 : api_Grid) (p4 : api_Grid) : Option Bool :=
  Option.bind (F_raddlelaw13_alive) fun r18 =>
  Option.bind (α := Bool) (
    Option.bind (F_raddlelaw13_fit p0) fun r24 =>
    if !r24 then
      some true
    else
      Option.bind (F_raddlelaw13_fit p3) fun r27 =>
      if !r27 then
        some true
      else
        Option.bind (F_raddlelaw13_fit p4) fun r30 =>
        if !r30 then
          some true
        else
          some (!r18)) fun o21 =>
  if o21 then
    some r18
  else
    Option.bind (F_block_Profile p0 p3 p4) fun r36 =>
    Option.bind (α := Unit ⊕ Bool) (
      if r36.2 == 0 then
        Option.bind (F_block_Fill r36.1 p3 p4) fun r49 =>
        Option.bind (α := Bool) (
          if r49.2 != 0 then
            some true
          else
            Option.bind (F_raddleref01_Same r49.1 p0) fun r61 =>
            some (!r61)) fun o57 =>
        if o57 then
          some (.inr false)
        else
          some (.inl ())
      else
        some (.inl ())) fun z0 => match z0 with
      | .inl _ =>
        Option.bind (F_block_Units p0 p1 p2) fun r66 =>
        if r66.2.2 != 0 then
          Option.bind (α := Bool) (
            if r18 then
              some (r66.2.2 == 26)
            else
              some false) fun o77 =>
          some o77
        else
          Option.bind (quoI p0.W (if p1 < 1 then 1 else p1)) fun z82 =>
          Option.bind (F_block_Join r66.1 r66.2.1 z82) fun r84 =>
          Option.bind (α := Bool) (
            if r84.2 != 0 then
              some true
            else
              Option.bind (F_raddleref01_Same r84.1 p0) fun r97 =>
              some (!r97)) fun o93 =>
          if o93 then
            some false
          else
            Option.bind (α := Int ⊕ Bool) (
              Option.bind (whileO (raddlelaw13_BlockJoins_l1 r66) (0, 0)) fun z0 => match z0 with
                | .inl z =>
                  some (.inr z)
                | .inr e111 =>
                  some (.inl e111)) fun z0 => match z0 with
              | .inl o102 =>
                Option.bind (α := Unit ⊕ Bool) (
                  Option.bind (whileO (raddlelaw13_BlockJoins_l3 r66) 0) fun z0 => match z0 with
                    | .inl z =>
                      some (.inr z)
                    | .inr _ =>
                      some (.inl ())) fun z0 => match z0 with
                  | .inl _ =>
                    Option.bind (α := Bool) (
                      if r18 then
                        some (o102 == (r66.1.length : Int))
                      else
                        some false) fun o202 =>
                    some o202
                  | .inr z =>
                    some z
              | .inr z =>
                some z
      | .inr z =>
        some z
set_option maxHeartbeats 4000000 in
set_option maxRecDepth 100000 in
theorem c_raddlelaw13_BlockJoins (E : Nat → Prop) (w0 : World) (p0 : api_Grid) (v0 : Value) (p1 : Int) (p2 : Int) (p3 : api_Grid) (v3 : Value) (p4 : api_Grid) (v4 : Value) (r : Bool) (h : F_raddlelaw13_BlockJoins p0 p1 p2 p3 p4 = some r) (S : St0 E [] w0 w0 [] [fRep r_api_Grid (v0) p0, fRep r_api_Grid (v3) p3, fRep r_api_Grid (v4) p4]) :
    Calls Try.prog 9 #[v0, iv p1, iv p2, v3, v4] w0 (Ret (X := Unit) E [] w0 (fun _ => .bool r) (fun _ => []) (fun _ => [])) := by
  unfold F_raddlelaw13_BlockJoins at h
  obtain ⟨u1, rfl, hu2⟩ := S.know (i := 0) (e := fRep r_api_Grid (v0) p0) rfl
  have S := S.learn (fRep (rL rB) u1 p0.Bits) hu2
  obtain ⟨ad3, cp4, _, rfl, _⟩ := hu2
  obtain ⟨u5, rfl, hu6⟩ := S.know (i := 2) (e := fRep r_api_Grid (v3) p3) rfl
  have S := S.learn (fRep (rL rB) u5 p3.Bits) hu6
  obtain ⟨ad7, cp8, _, rfl, _⟩ := hu6
  obtain ⟨u9, rfl, hu10⟩ := S.know (i := 4) (e := fRep r_api_Grid (v4) p4) rfl
  have S := S.learn (fRep (rL rB) u9 p4.Bits) hu10
  obtain ⟨ad11, cp12, _, rfl, _⟩ := hu10
  refine sEnter (args := [.agg #[iv p0.W, iv p0.H, .slice ad3 p0.Bits.length cp4], iv p1, iv p2, .agg #[iv p3.W, iv p3.H, .slice ad7 p3.Bits.length cp8], .agg #[iv p4.W, iv p4.H, .slice ad11 p4.Bits.length cp12]]) 165 Try.func9 rfl rfl (by simp) S (fun a S => ?_)
  refine sSeq (fun K13 hK13 => ?_)
  refine sRegion ?_
  refine sBox (v := .agg #[iv p0.W, iv p0.H, .slice ad3 p0.Bits.length cp4]) S (wN rfl) rfl rfl [iv p0.W, iv p0.H, .slice ad3 p0.Bits.length cp4] rfl rfl (lb rfl) fun a b14 w S => ?_
  refine sBox (v := .agg #[iv p3.W, iv p3.H, .slice ad7 p3.Bits.length cp8]) S (wN rfl) rfl rfl [iv p3.W, iv p3.H, .slice ad7 p3.Bits.length cp8] rfl rfl (lb rfl) fun a b15 w S => ?_
  refine sBox (v := .agg #[iv p4.W, iv p4.H, .slice ad11 p4.Bits.length cp12]) S (wN rfl) rfl rfl [iv p4.W, iv p4.H, .slice ad11 p4.Bits.length cp12] rfl rfl (lb rfl) fun a b16 w S => ?_
  refine sMove (.bool false) S (wN rfl) (.inr rfl) rfl rfl (lb rfl) fun a S => ?_
  refine leafL (leafT (hK13 _ _ ?_))
  refine sSeq (fun K17 hK17 => ?_)
  refine sRegion ?_
  obtain ⟨r18, hx19, h⟩ := bindSome h
  have S1 := S.mem
  refine sCallQ (X := Unit) (f := 31) (vs := []) (val := fun _ => .bool r18) S (wN rfl) rfl callee31 rfl (S1.quiet [] rfl) (fun E1 w1 S1 => c_raddlelaw13_alive E1 w1  r18 hx19 S1) rfl (lb rfl) fun _ a w S => ?_
  refine sMove (.bool r18) S (wN rfl) (.inr rfl) rfl rfl (lb rfl) fun a S => ?_
  refine leafL (leafT (hK17 _ _ ?_))
  refine sSeq (fun K20 hK20 => ?_)
  obtain ⟨t22, h, g23⟩ := bindSome h
  refine sCut (fun a w => ∃ o21, o21 = t22 ∧ St [] E [] w0 165 a w [(1, iv p1), (2, iv p2), (5, .pointer (some ⟨b14, 0, none⟩)), (8, .pointer (some ⟨b15, 0, none⟩)), (9, .pointer (some ⟨b16, 0, none⟩)), (11, .bool r18), (42, .bool o21)] [eBox b14 24 [iv p0.W, iv p0.H, .slice ad3 p0.Bits.length cp4], eBox b15 24 [iv p3.W, iv p3.H, .slice ad7 p3.Bits.length cp8], eBox b16 24 [iv p4.W, iv p4.H, .slice ad11 p4.Bits.length cp12]] [fRep (rL rB) (.slice ad3 p0.Bits.length cp4) p0.Bits, fRep (rL rB) (.slice ad7 p3.Bits.length cp8) p3.Bits, fRep (rL rB) (.slice ad11 p4.Bits.length cp12) p4.Bits]) ?_ (fun a w hI => ?_)
  · refine sRegion ?_
    refine sLoadN (p := b14) (off := 0) (T := 24) (vs := [iv p0.W, iv p0.H, .slice ad3 p0.Bits.length cp4]) 2 [iv p0.W, iv p0.H, .slice ad3 p0.Bits.length cp4] S (wN rfl) rfl rfl rfl rfl rfl rfl rfl (lb rfl) fun a S => ?_
    obtain ⟨r24, hx25, h⟩ := bindSome h
    have S1 := S.mem
    refine sCallQ (X := Unit) (f := 32) (vs := [.agg #[iv p0.W, iv p0.H, .slice ad3 p0.Bits.length cp4]]) (val := fun _ => .bool r24) S (wN rfl) rfl callee32 rfl (S1.quiet [3] rfl) (fun E1 w1 S1 => c_raddlelaw13_fit E1 w1 p0 (.agg #[iv p0.W, iv p0.H, .slice ad3 p0.Bits.length cp4]) r24 hx25 S1) rfl (lb rfl) fun _ a w S => ?_
    refine sNot (b := r24) S (wN rfl) rfl rfl rfl (lb rfl) fun a S => ?_
    refine sMove (.bool (!r24)) S (wN rfl) (.inl rfl) rfl rfl (lb rfl) fun a S => ?_
    rcases iteSome h with ⟨hc26, h⟩ | ⟨hc26, h⟩
    · refine sSkip 3 false 29 30 S rfl rfl rfl hc26 rfl (lb rfl) fun a S => ?_
      refine sSkip 3 false 29 31 S rfl rfl rfl hc26 rfl (lb rfl) fun a S => ?_
      refine sSkip 3 false 29 32 S rfl rfl rfl hc26 rfl (lb rfl) fun a S => ?_
      refine sPickT (.bool true) S (wN rfl) rfl rfl hc26 rfl rfl (lb rfl) fun a S => ?_
      refine sMove (.bool true) S (wN rfl) (.inl rfl) rfl rfl (lb rfl) fun a S => ?_
      refine sSkip 8 false 34 35 S rfl rfl rfl rfl rfl (lb rfl) fun a S => ?_
      refine sSkip 8 false 34 36 S rfl rfl rfl rfl rfl (lb rfl) fun a S => ?_
      refine sSkip 8 false 34 37 S rfl rfl rfl rfl rfl (lb rfl) fun a S => ?_
      refine sPickT (.bool true) S (wN rfl) rfl rfl rfl rfl rfl (lb rfl) fun a S => ?_
      refine sMove (.bool true) S (wN rfl) (.inl rfl) rfl rfl (lb rfl) fun a S => ?_
      refine sSkip 13 false 39 40 S rfl rfl rfl rfl rfl (lb rfl) fun a S => ?_
      refine sSkip 13 false 39 41 S rfl rfl rfl rfl rfl (lb rfl) fun a S => ?_
      refine sPickT (.bool true) S (wN rfl) rfl rfl rfl rfl rfl (lb rfl) fun a S => ?_
      exact leafL (leafT (⟨true, Option.some.inj h, S.fix [2, 1, 0] [2, 1, 0] (by decide) rfl rfl rfl⟩))
    refine sLoadN (p := b15) (off := 0) (T := 24) (vs := [iv p3.W, iv p3.H, .slice ad7 p3.Bits.length cp8]) 1 [iv p3.W, iv p3.H, .slice ad7 p3.Bits.length cp8] S (wG 3 false 29 rfl rfl rfl hc26) rfl rfl rfl rfl rfl rfl rfl (lb rfl) fun a S => ?_
    obtain ⟨r27, hx28, h⟩ := bindSome h
    have S1 := S.mem
    refine sCallQ (X := Unit) (f := 32) (vs := [.agg #[iv p3.W, iv p3.H, .slice ad7 p3.Bits.length cp8]]) (val := fun _ => .bool r27) S (wG 3 false 29 rfl rfl rfl hc26) rfl callee32 rfl (S1.quiet [4] rfl) (fun E1 w1 S1 => c_raddlelaw13_fit E1 w1 p3 (.agg #[iv p3.W, iv p3.H, .slice ad7 p3.Bits.length cp8]) r27 hx28 S1) rfl (lb rfl) fun _ a w S => ?_
    refine sNot (b := r27) S (wG 3 false 29 rfl rfl rfl hc26) rfl rfl rfl (lb rfl) fun a S => ?_
    refine sPickF (.bool (!r27)) S (wN rfl) rfl rfl hc26 rfl rfl (lb rfl) fun a S => ?_
    refine sMove (.bool (!r27)) S (wN rfl) (.inl rfl) rfl rfl (lb rfl) fun a S => ?_
    rcases iteSome h with ⟨hc29, h⟩ | ⟨hc29, h⟩
    · refine sSkip 8 false 34 35 S rfl rfl rfl hc29 rfl (lb rfl) fun a S => ?_
      refine sSkip 8 false 34 36 S rfl rfl rfl hc29 rfl (lb rfl) fun a S => ?_
      refine sSkip 8 false 34 37 S rfl rfl rfl hc29 rfl (lb rfl) fun a S => ?_
      refine sPickT (.bool true) S (wN rfl) rfl rfl hc29 rfl rfl (lb rfl) fun a S => ?_
      refine sMove (.bool true) S (wN rfl) (.inl rfl) rfl rfl (lb rfl) fun a S => ?_
      refine sSkip 13 false 39 40 S rfl rfl rfl rfl rfl (lb rfl) fun a S => ?_
      refine sSkip 13 false 39 41 S rfl rfl rfl rfl rfl (lb rfl) fun a S => ?_
      refine sPickT (.bool true) S (wN rfl) rfl rfl rfl rfl rfl (lb rfl) fun a S => ?_
      exact leafL (leafT (⟨true, Option.some.inj h, S.fix [2, 1, 0] [2, 1, 0] (by decide) rfl rfl rfl⟩))
    refine sLoadN (p := b16) (off := 0) (T := 24) (vs := [iv p4.W, iv p4.H, .slice ad11 p4.Bits.length cp12]) 0 [iv p4.W, iv p4.H, .slice ad11 p4.Bits.length cp12] S (wG 8 false 34 rfl rfl rfl hc29) rfl rfl rfl rfl rfl rfl rfl (lb rfl) fun a S => ?_
    obtain ⟨r30, hx31, h⟩ := bindSome h
    have S1 := S.mem
    refine sCallQ (X := Unit) (f := 32) (vs := [.agg #[iv p4.W, iv p4.H, .slice ad11 p4.Bits.length cp12]]) (val := fun _ => .bool r30) S (wG 8 false 34 rfl rfl rfl hc29) rfl callee32 rfl (S1.quiet [5] rfl) (fun E1 w1 S1 => c_raddlelaw13_fit E1 w1 p4 (.agg #[iv p4.W, iv p4.H, .slice ad11 p4.Bits.length cp12]) r30 hx31 S1) rfl (lb rfl) fun _ a w S => ?_
    refine sNot (b := r30) S (wG 8 false 34 rfl rfl rfl hc29) rfl rfl rfl (lb rfl) fun a S => ?_
    refine sPickF (.bool (!r30)) S (wN rfl) rfl rfl hc29 rfl rfl (lb rfl) fun a S => ?_
    refine sMove (.bool (!r30)) S (wN rfl) (.inl rfl) rfl rfl (lb rfl) fun a S => ?_
    rcases iteSome h with ⟨hc32, h⟩ | ⟨hc32, h⟩
    · refine sSkip 13 false 39 40 S rfl rfl rfl hc32 rfl (lb rfl) fun a S => ?_
      refine sSkip 13 false 39 41 S rfl rfl rfl hc32 rfl (lb rfl) fun a S => ?_
      refine sPickT (.bool true) S (wN rfl) rfl rfl hc32 rfl rfl (lb rfl) fun a S => ?_
      exact leafL (leafT (⟨true, Option.some.inj h, S.fix [2, 1, 0] [2, 1, 0] (by decide) rfl rfl rfl⟩))
    refine sMove (.bool r18) S (wG 13 false 39 rfl rfl rfl hc32) (.inl rfl) rfl rfl (lb rfl) fun a S => ?_
    refine sNot (b := r18) S (wG 13 false 39 rfl rfl rfl hc32) rfl rfl rfl (lb rfl) fun a S => ?_
    refine sPickF (.bool (!r18)) S (wN rfl) rfl rfl hc32 rfl rfl (lb rfl) fun a S => ?_
    exact leafL (leafT (⟨!r18, Option.some.inj h, S.fix [2, 1, 0] [2, 1, 0] (by decide) rfl rfl rfl⟩))
  obtain ⟨o21, rfl, S⟩ := hI
  have h := g23
  clear g23
  try dsimp only at h
  rcases iteSome h with ⟨hc33, h⟩ | ⟨hc33, h⟩
  · refine sCondT S rfl hc33 ?_
    refine sSeq (fun K34 hK34 => ?_)
    refine sRegion ?_
    refine sMove (.bool r18) S (wN rfl) (.inl rfl) rfl rfl (lb rfl) fun a S => ?_
    refine sMove (.bool r18) S (wN rfl) (.inr rfl) rfl rfl (lb rfl) fun a S => ?_
    refine leafL (leafT (hK34 _ _ ?_))
    obtain rfl := Option.some.inj h
    exact wp_ret (rThen (sRet (.bool r18) S (rsl1 rfl (rvT (t := 10) (v := .bool r18) S rfl)) ⟨(), rfl, S.mem.sel [] [] (by decide) rfl rfl⟩))
  refine sCondF S rfl hc33 ?_
  refine wp_skip (leafT (hK20 _ _ ?_))
  refine sSeq (fun K35 hK35 => ?_)
  refine sRegion ?_
  refine sLoadN (p := b14) (off := 0) (T := 24) (vs := [iv p0.W, iv p0.H, .slice ad3 p0.Bits.length cp4]) 0 [iv p0.W, iv p0.H, .slice ad3 p0.Bits.length cp4] S (wN rfl) rfl rfl rfl rfl rfl rfl rfl (lb rfl) fun a S => ?_
  refine sLoadN (p := b15) (off := 0) (T := 24) (vs := [iv p3.W, iv p3.H, .slice ad7 p3.Bits.length cp8]) 1 [iv p3.W, iv p3.H, .slice ad7 p3.Bits.length cp8] S (wN rfl) rfl rfl rfl rfl rfl rfl rfl (lb rfl) fun a S => ?_
  refine sLoadN (p := b16) (off := 0) (T := 24) (vs := [iv p4.W, iv p4.H, .slice ad11 p4.Bits.length cp12]) 2 [iv p4.W, iv p4.H, .slice ad11 p4.Bits.length cp12] S (wN rfl) rfl rfl rfl rfl rfl rfl rfl (lb rfl) fun a S => ?_
  obtain ⟨r36, hx37, h⟩ := bindSome h
  have S := S.learn (fRep r_api_Grid (.agg #[iv p0.W, iv p0.H, .slice ad3 p0.Bits.length cp4]) p0) ⟨_, rfl, S.mem.know (i := 0) (e := fRep (rL rB) (.slice ad3 p0.Bits.length cp4) p0.Bits) rfl⟩
  have S := S.learn (fRep r_api_Grid (.agg #[iv p3.W, iv p3.H, .slice ad7 p3.Bits.length cp8]) p3) ⟨_, rfl, S.mem.know (i := 2) (e := fRep (rL rB) (.slice ad7 p3.Bits.length cp8) p3.Bits) rfl⟩
  have S := S.learn (fRep r_api_Grid (.agg #[iv p4.W, iv p4.H, .slice ad11 p4.Bits.length cp12]) p4) ⟨_, rfl, S.mem.know (i := 4) (e := fRep (rL rB) (.slice ad11 p4.Bits.length cp12) p4.Bits) rfl⟩
  refine sCall (X := Value) (f := 15) (vs := [.agg #[iv p0.W, iv p0.H, .slice ad3 p0.Bits.length cp4], .agg #[iv p3.W, iv p3.H, .slice ad7 p3.Bits.length cp8], .agg #[iv p4.W, iv p4.H, .slice ad11 p4.Bits.length cp12]]) (val := c_block_Profile_val r36) (B' := fun _ => []) (D' := c_block_Profile_D r36) [] [eBox b14 24 [iv p0.W, iv p0.H, .slice ad3 p0.Bits.length cp4], eBox b15 24 [iv p3.W, iv p3.H, .slice ad7 p3.Bits.length cp8], eBox b16 24 [iv p4.W, iv p4.H, .slice ad11 p4.Bits.length cp12]] [fRep r_api_Grid (.agg #[iv p0.W, iv p0.H, .slice ad3 p0.Bits.length cp4]) p0, fRep r_api_Grid (.agg #[iv p3.W, iv p3.H, .slice ad7 p3.Bits.length cp8]) p3, fRep r_api_Grid (.agg #[iv p4.W, iv p4.H, .slice ad11 p4.Bits.length cp12]) p4] [0, 1, 2] [2, 1, 0] S (wN rfl) rfl callee15 rfl (by decide) rfl rfl (fun E1 w1 S1 => c_block_Profile E1 w1 p0 (.agg #[iv p0.W, iv p0.H, .slice ad3 p0.Bits.length cp4]) p3 (.agg #[iv p3.W, iv p3.H, .slice ad7 p3.Bits.length cp8]) p4 (.agg #[iv p4.W, iv p4.H, .slice ad11 p4.Bits.length cp12]) r36 hx37 S1) rfl (lb rfl) fun u38 a w S => ?_
  obtain ⟨u39, rfl, hu40⟩ := S.mem.know (i := 0) (e := fRep r_api_Grid (u38) r36.1) rfl
  have S := S.learn (fRep (rL rB) u39 r36.1.Bits) hu40
  obtain ⟨ad41, cp42, _, rfl, _⟩ := hu40
  refine sMove (.tuple #[.agg #[iv r36.1.W, iv r36.1.H, .slice ad41 r36.1.Bits.length cp42], iv r36.2]) S (wN rfl) (.inl rfl) rfl rfl (lb rfl) fun a S => ?_
  refine sExtract (vs := [.agg #[iv r36.1.W, iv r36.1.H, .slice ad41 r36.1.Bits.length cp42], iv r36.2]) (.agg #[iv r36.1.W, iv r36.1.H, .slice ad41 r36.1.Bits.length cp42]) S (wN rfl) rfl rfl rfl rfl (lb rfl) fun a S => ?_
  refine sExtract (vs := [.agg #[iv r36.1.W, iv r36.1.H, .slice ad41 r36.1.Bits.length cp42], iv r36.2]) (iv r36.2) S (wN rfl) rfl rfl rfl rfl (lb rfl) fun a S => ?_
  refine sAlloc (.agg #[iv 0, iv 0, .slice none 0 0]) S (wN rfl) rfl rfl [iv 0, iv 0, .slice none 0 0] rfl rfl (lb rfl) fun a b43 w S => ?_
  refine sStore (p := b43) (off := 0) (T := 24) (vs := [iv 0, iv 0, .slice none 0 0]) (v := .agg #[iv r36.1.W, iv r36.1.H, .slice ad41 r36.1.Bits.length cp42]) 0 [iv r36.1.W, iv r36.1.H, .slice ad41 r36.1.Bits.length cp42] S (wN rfl) rfl rfl rfl rfl rfl rfl rfl (by simp) rfl fun a w S => ?_
  refine sMove (iv r36.2) S (wN rfl) (.inr rfl) rfl rfl (lb rfl) fun a S => ?_
  refine leafL (leafT (hK35 _ _ ?_))
  obtain ⟨t44, h, g45⟩ := bindSome h
  refine sCut (fun a w => .inl () = t44 ∧ St [] E [] w0 165 a w [(1, iv p1), (2, iv p2), (5, .pointer (some ⟨b14, 0, none⟩)), (11, .bool r18)] [eBox b14 24 [iv p0.W, iv p0.H, .slice ad3 p0.Bits.length cp4]] [fRep (rL rB) (.slice ad3 p0.Bits.length cp4) p0.Bits]) ?_ (fun a w hI => ?_)
  · refine sSeq (fun K46 hK46 => ?_)
    refine sRegion ?_
    refine sMove (iv r36.2) S (wN rfl) (.inl rfl) rfl rfl (lb rfl) fun a S => ?_
    refine sBin (.bool (r36.2 == 0)) S (wN rfl) rfl rfl rfl (bEq _ _ _ _ .i64 r36.2 0) rfl (lb rfl) fun a S => ?_
    refine leafL (leafT (hK46 _ _ ?_))
    rcases iteSome h with ⟨hc47, h⟩ | ⟨hc47, h⟩
    rotate_left
    · refine sCondF S rfl hc47 ?_
      exact wp_skip (leafT (⟨Option.some.inj h, S.fix [1] [5] (by decide) rfl rfl rfl⟩))
    refine sCondT S rfl hc47 ?_
    refine sSeq (fun K48 hK48 => ?_)
    refine sRegion ?_
    refine sLoadN (p := b43) (off := 0) (T := 24) (vs := [iv r36.1.W, iv r36.1.H, .slice ad41 r36.1.Bits.length cp42]) 0 [iv r36.1.W, iv r36.1.H, .slice ad41 r36.1.Bits.length cp42] S (wN rfl) rfl rfl rfl rfl rfl rfl rfl (lb rfl) fun a S => ?_
    refine sLoadN (p := b15) (off := 0) (T := 24) (vs := [iv p3.W, iv p3.H, .slice ad7 p3.Bits.length cp8]) 2 [iv p3.W, iv p3.H, .slice ad7 p3.Bits.length cp8] S (wN rfl) rfl rfl rfl rfl rfl rfl rfl (lb rfl) fun a S => ?_
    refine sLoadN (p := b16) (off := 0) (T := 24) (vs := [iv p4.W, iv p4.H, .slice ad11 p4.Bits.length cp12]) 3 [iv p4.W, iv p4.H, .slice ad11 p4.Bits.length cp12] S (wN rfl) rfl rfl rfl rfl rfl rfl rfl (lb rfl) fun a S => ?_
    obtain ⟨r49, hx50, h⟩ := bindSome h
    refine sCall (X := Value) (f := 13) (vs := [.agg #[iv r36.1.W, iv r36.1.H, .slice ad41 r36.1.Bits.length cp42], .agg #[iv p3.W, iv p3.H, .slice ad7 p3.Bits.length cp8], .agg #[iv p4.W, iv p4.H, .slice ad11 p4.Bits.length cp12]]) (val := c_block_Fill_val r49) (B' := fun _ => []) (D' := c_block_Fill_D r49) [] [eBox b43 24 [iv r36.1.W, iv r36.1.H, .slice ad41 r36.1.Bits.length cp42], eBox b14 24 [iv p0.W, iv p0.H, .slice ad3 p0.Bits.length cp4], eBox b15 24 [iv p3.W, iv p3.H, .slice ad7 p3.Bits.length cp8], eBox b16 24 [iv p4.W, iv p4.H, .slice ad11 p4.Bits.length cp12]] [fRep r_api_Grid (.agg #[iv r36.1.W, iv r36.1.H, .slice ad41 r36.1.Bits.length cp42]) r36.1, fRep r_api_Grid (.agg #[iv p3.W, iv p3.H, .slice ad7 p3.Bits.length cp8]) p3, fRep r_api_Grid (.agg #[iv p4.W, iv p4.H, .slice ad11 p4.Bits.length cp12]) p4] [0, 1, 2, 3] [1, 3, 2] S (wN rfl) rfl callee13 rfl (by decide) rfl rfl (fun E1 w1 S1 => c_block_Fill E1 w1 r36.1 (.agg #[iv r36.1.W, iv r36.1.H, .slice ad41 r36.1.Bits.length cp42]) p3 (.agg #[iv p3.W, iv p3.H, .slice ad7 p3.Bits.length cp8]) p4 (.agg #[iv p4.W, iv p4.H, .slice ad11 p4.Bits.length cp12]) r49 hx50 S1) rfl (lb rfl) fun u51 a w S => ?_
    obtain ⟨u52, rfl, hu53⟩ := S.mem.know (i := 0) (e := fRep r_api_Grid (u51) r49.1) rfl
    have S := S.learn (fRep (rL rB) u52 r49.1.Bits) hu53
    obtain ⟨ad54, cp55, _, rfl, _⟩ := hu53
    refine sMove (.tuple #[.agg #[iv r49.1.W, iv r49.1.H, .slice ad54 r49.1.Bits.length cp55], iv r49.2]) S (wN rfl) (.inl rfl) rfl rfl (lb rfl) fun a S => ?_
    refine sExtract (vs := [.agg #[iv r49.1.W, iv r49.1.H, .slice ad54 r49.1.Bits.length cp55], iv r49.2]) (.agg #[iv r49.1.W, iv r49.1.H, .slice ad54 r49.1.Bits.length cp55]) S (wN rfl) rfl rfl rfl rfl (lb rfl) fun a S => ?_
    refine sExtract (vs := [.agg #[iv r49.1.W, iv r49.1.H, .slice ad54 r49.1.Bits.length cp55], iv r49.2]) (iv r49.2) S (wN rfl) rfl rfl rfl rfl (lb rfl) fun a S => ?_
    refine sAlloc (.agg #[iv 0, iv 0, .slice none 0 0]) S (wN rfl) rfl rfl [iv 0, iv 0, .slice none 0 0] rfl rfl (lb rfl) fun a b56 w S => ?_
    refine sStore (p := b56) (off := 0) (T := 24) (vs := [iv 0, iv 0, .slice none 0 0]) (v := .agg #[iv r49.1.W, iv r49.1.H, .slice ad54 r49.1.Bits.length cp55]) 0 [iv r49.1.W, iv r49.1.H, .slice ad54 r49.1.Bits.length cp55] S (wN rfl) rfl rfl rfl rfl rfl rfl rfl (by simp) rfl fun a w S => ?_
    refine sMove (iv r49.2) S (wN rfl) (.inr rfl) rfl rfl (lb rfl) fun a S => ?_
    refine leafL (leafT (hK48 _ _ ?_))
    obtain ⟨t58, h, g59⟩ := bindSome h
    refine sCut (fun a w => ∃ o57, o57 = t58 ∧ St [] E [] w0 165 a w [(1, iv p1), (2, iv p2), (5, .pointer (some ⟨b14, 0, none⟩)), (11, .bool r18), (67, .bool o57)] [eBox b14 24 [iv p0.W, iv p0.H, .slice ad3 p0.Bits.length cp4]] [fRep (rL rB) (.slice ad3 p0.Bits.length cp4) p0.Bits]) ?_ (fun a w hI => ?_)
    rotate_left
    · obtain ⟨o57, rfl, S⟩ := hI
      have h := g59
      clear g59
      try dsimp only at h
      rcases iteSome h with ⟨hc63, h⟩ | ⟨hc63, h⟩
      rotate_left
      · refine sCondF S rfl hc63 ?_
        exact wp_skip (leafT (⟨Option.some.inj h, S.fix [0] [0] (by decide) rfl rfl rfl⟩))
      refine sCondT S rfl hc63 ?_
      refine sSeq (fun K64 hK64 => ?_)
      refine sRegion ?_
      refine sMove (.bool false) S (wN rfl) (.inr rfl) rfl rfl (lb rfl) fun a S => ?_
      refine leafL (leafT (hK64 _ _ ?_))
      obtain rfl := Option.some.inj h
      have h := g45
      clear g45
      try dsimp only at h
      obtain rfl := Option.some.inj h
      exact wp_ret (rThen (sRet (.bool false) S (rsl1 rfl (rvT (t := 10) (v := .bool false) S rfl)) ⟨(), rfl, S.mem.sel [] [] (by decide) rfl rfl⟩))
    refine sRegion ?_
    refine sMove (iv r49.2) S (wN rfl) (.inl rfl) rfl rfl (lb rfl) fun a S => ?_
    refine sBin (.bool (r49.2 != 0)) S (wN rfl) rfl rfl rfl (bNe _ _ _ _ .i64 r49.2 0) rfl (lb rfl) fun a S => ?_
    refine sMove (.bool (r49.2 != 0)) S (wN rfl) (.inl rfl) rfl rfl (lb rfl) fun a S => ?_
    rcases iteSome h with ⟨hc60, h⟩ | ⟨hc60, h⟩
    · refine sSkip 2 false 62 63 S rfl rfl rfl hc60 rfl (lb rfl) fun a S => ?_
      refine sSkip 2 false 62 64 S rfl rfl rfl hc60 rfl (lb rfl) fun a S => ?_
      refine sSkip 2 false 62 65 S rfl rfl rfl hc60 rfl (lb rfl) fun a S => ?_
      refine sSkip 2 false 62 66 S rfl rfl rfl hc60 rfl (lb rfl) fun a S => ?_
      refine sPickT (.bool true) S (wN rfl) rfl rfl hc60 rfl rfl (lb rfl) fun a S => ?_
      exact leafL (leafT (⟨true, Option.some.inj h, S.fix [2] [7] (by decide) rfl rfl rfl⟩))
    refine sLoadN (p := b56) (off := 0) (T := 24) (vs := [iv r49.1.W, iv r49.1.H, .slice ad54 r49.1.Bits.length cp55]) 0 [iv r49.1.W, iv r49.1.H, .slice ad54 r49.1.Bits.length cp55] S (wG 2 false 62 rfl rfl rfl hc60) rfl rfl rfl rfl rfl rfl rfl (lb rfl) fun a S => ?_
    refine sLoadN (p := b14) (off := 0) (T := 24) (vs := [iv p0.W, iv p0.H, .slice ad3 p0.Bits.length cp4]) 2 [iv p0.W, iv p0.H, .slice ad3 p0.Bits.length cp4] S (wG 2 false 62 rfl rfl rfl hc60) rfl rfl rfl rfl rfl rfl rfl (lb rfl) fun a S => ?_
    obtain ⟨r61, hx62, h⟩ := bindSome h
    have S1 := S.mem
    refine sCallQ (X := Unit) (f := 17) (vs := [.agg #[iv r49.1.W, iv r49.1.H, .slice ad54 r49.1.Bits.length cp55], .agg #[iv p0.W, iv p0.H, .slice ad3 p0.Bits.length cp4]]) (val := fun _ => .bool r61) S (wG 2 false 62 rfl rfl rfl hc60) rfl callee17 rfl (S1.quiet [1, 6] rfl) (fun E1 w1 S1 => c_raddleref01_Same E1 w1 r49.1 (.agg #[iv r49.1.W, iv r49.1.H, .slice ad54 r49.1.Bits.length cp55]) p0 (.agg #[iv p0.W, iv p0.H, .slice ad3 p0.Bits.length cp4]) r61 hx62 S1) rfl (lb rfl) fun _ a w S => ?_
    refine sNot (b := r61) S (wG 2 false 62 rfl rfl rfl hc60) rfl rfl rfl (lb rfl) fun a S => ?_
    refine sPickF (.bool (!r61)) S (wN rfl) rfl rfl hc60 rfl rfl (lb rfl) fun a S => ?_
    exact leafL (leafT (⟨!r61, Option.some.inj h, S.fix [2] [7] (by decide) rfl rfl rfl⟩))
  obtain ⟨rfl, S⟩ := hI
  have h := g45
  clear g45
  try dsimp only at h
  refine sSeq (fun K65 hK65 => ?_)
  refine sRegion ?_
  refine sLoadN (p := b14) (off := 0) (T := 24) (vs := [iv p0.W, iv p0.H, .slice ad3 p0.Bits.length cp4]) 0 [iv p0.W, iv p0.H, .slice ad3 p0.Bits.length cp4] S (wN rfl) rfl rfl rfl rfl rfl rfl rfl (lb rfl) fun a S => ?_
  refine sMove (iv p1) S (wN rfl) (.inl rfl) rfl rfl (lb rfl) fun a S => ?_
  refine sMove (iv p2) S (wN rfl) (.inl rfl) rfl rfl (lb rfl) fun a S => ?_
  obtain ⟨r66, hx67, h⟩ := bindSome h
  have S := S.learn (fRep r_api_Grid (.agg #[iv p0.W, iv p0.H, .slice ad3 p0.Bits.length cp4]) p0) ⟨_, rfl, S.mem.know (i := 0) (e := fRep (rL rB) (.slice ad3 p0.Bits.length cp4) p0.Bits) rfl⟩
  refine sCall (X := Value × Value) (f := 19) (vs := [.agg #[iv p0.W, iv p0.H, .slice ad3 p0.Bits.length cp4], iv p1, iv p2]) (val := c_block_Units_val r66) (B' := fun _ => []) (D' := c_block_Units_D r66) [] [eBox b14 24 [iv p0.W, iv p0.H, .slice ad3 p0.Bits.length cp4]] [fRep r_api_Grid (.agg #[iv p0.W, iv p0.H, .slice ad3 p0.Bits.length cp4]) p0] [0] [0] S (wN rfl) rfl callee19 rfl (by decide) rfl rfl (fun E1 w1 S1 => c_block_Units E1 w1 p0 (.agg #[iv p0.W, iv p0.H, .slice ad3 p0.Bits.length cp4]) p1 p2 r66 hx67 S1) rfl (lb rfl) fun xx a w S => ?_
  obtain ⟨u68, u69⟩ := xx
  obtain ⟨ad70, cp71, _, rfl, _⟩ := S.mem.know (i := 0) (e := fRep (rL r_api_Grid) (u68) r66.1) rfl
  obtain ⟨ad72, cp73, _, rfl, _⟩ := S.mem.know (i := 1) (e := fRep (rL (rI .i64)) (u69) r66.2.1) rfl
  refine sMove (.tuple #[.slice ad70 r66.1.length cp71, .slice ad72 r66.2.1.length cp73, iv r66.2.2]) S (wN rfl) (.inl rfl) rfl rfl (lb rfl) fun a S => ?_
  refine sExtract (vs := [.slice ad70 r66.1.length cp71, .slice ad72 r66.2.1.length cp73, iv r66.2.2]) (.slice ad70 r66.1.length cp71) S (wN rfl) rfl rfl rfl rfl (lb rfl) fun a S => ?_
  refine sExtract (vs := [.slice ad70 r66.1.length cp71, .slice ad72 r66.2.1.length cp73, iv r66.2.2]) (.slice ad72 r66.2.1.length cp73) S (wN rfl) rfl rfl rfl rfl (lb rfl) fun a S => ?_
  refine sExtract (vs := [.slice ad70 r66.1.length cp71, .slice ad72 r66.2.1.length cp73, iv r66.2.2]) (iv r66.2.2) S (wN rfl) rfl rfl rfl rfl (lb rfl) fun a S => ?_
  refine sMove (.slice ad70 r66.1.length cp71) S (wN rfl) (.inr rfl) rfl rfl (lb rfl) fun a S => ?_
  refine sMove (.slice ad72 r66.2.1.length cp73) S (wN rfl) (.inr rfl) rfl rfl (lb rfl) fun a S => ?_
  refine sMove (iv r66.2.2) S (wN rfl) (.inr rfl) rfl rfl (lb rfl) fun a S => ?_
  refine leafL (leafT (hK65 _ _ ?_))
  refine sSeq (fun K74 hK74 => ?_)
  refine sSeq (fun K75 hK75 => ?_)
  refine sRegion ?_
  refine sMove (iv r66.2.2) S (wN rfl) (.inl rfl) rfl rfl (lb rfl) fun a S => ?_
  refine sBin (.bool (r66.2.2 != 0)) S (wN rfl) rfl rfl rfl (bNe _ _ _ _ .i64 r66.2.2 0) rfl (lb rfl) fun a S => ?_
  refine leafL (leafT (hK75 _ _ ?_))
  rcases iteSome h with ⟨hc76, h⟩ | ⟨hc76, h⟩
  · refine sCondT S rfl hc76 ?_
    obtain ⟨t78, h, g79⟩ := bindSome h
    refine sCut (fun a w => ∃ o77, o77 = t78 ∧ St [] E [] w0 165 a w [(10, .bool o77)] [] []) ?_ (fun a w hI => ?_)
    rotate_left
    · obtain ⟨o77, rfl, S⟩ := hI
      have h := g79
      clear g79
      try dsimp only at h
      obtain rfl := Option.some.inj h
      exact wp_ret (rThen (sRet (.bool o77) S (rsl1 rfl (rvT (t := 10) (v := .bool o77) S rfl)) ⟨(), rfl, S.mem.sel [] [] (by decide) rfl rfl⟩))
    refine sRegion ?_
    refine sMove (.bool r18) S (wN rfl) (.inl rfl) rfl rfl (lb rfl) fun a S => ?_
    refine sMove (.bool r18) S (wN rfl) (.inl rfl) rfl rfl (lb rfl) fun a S => ?_
    rcases iteSome h with ⟨hc80, h⟩ | ⟨hc80, h⟩
    rotate_left
    · refine sSkip 1 true 79 80 S rfl rfl rfl hc80 rfl (lb rfl) fun a S => ?_
      refine sSkip 1 true 79 81 S rfl rfl rfl hc80 rfl (lb rfl) fun a S => ?_
      refine sPickF (.bool false) S (wN rfl) rfl rfl hc80 rfl rfl (lb rfl) fun a S => ?_
      refine sMove (.bool false) S (wN rfl) (.inr rfl) rfl rfl (lb rfl) fun a S => ?_
      exact leafL (leafT (⟨false, Option.some.inj h, S.fix [] [] (by decide) rfl rfl rfl⟩))
    refine sMove (iv r66.2.2) S (wG 1 true 79 rfl rfl rfl hc80) (.inl rfl) rfl rfl (lb rfl) fun a S => ?_
    refine sBin (.bool (r66.2.2 == 26)) S (wG 1 true 79 rfl rfl rfl hc80) rfl rfl rfl (bEq _ _ _ _ .i64 r66.2.2 26) rfl (lb rfl) fun a S => ?_
    refine sPickT (.bool (r66.2.2 == 26)) S (wN rfl) rfl rfl hc80 rfl rfl (lb rfl) fun a S => ?_
    refine sMove (.bool (r66.2.2 == 26)) S (wN rfl) (.inr rfl) rfl rfl (lb rfl) fun a S => ?_
    exact leafL (leafT (⟨r66.2.2 == 26, Option.some.inj h, S.fix [] [] (by decide) rfl rfl rfl⟩))
  refine sCondF S rfl hc76 ?_
  refine wp_skip (leafT (hK74 _ _ ?_))
  refine sSeq (fun K81 hK81 => ?_)
  refine sRegion ?_
  refine sMove (.slice ad70 r66.1.length cp71) S (wN rfl) (.inl rfl) rfl rfl (lb rfl) fun a S => ?_
  refine sMove (.slice ad72 r66.2.1.length cp73) S (wN rfl) (.inl rfl) rfl rfl (lb rfl) fun a S => ?_
  refine sField (b := b14) (off := 0) 0 0 S (wN rfl) rfl rfl rfl rfl rfl (lb rfl) fun a S => ?_
  refine sLoad1 (p := b14) (off := 0) (T := 24) (vs := [iv p0.W, iv p0.H, .slice ad3 p0.Bits.length cp4]) 0 (iv p0.W) S (wN rfl) rfl rfl rfl rfl rfl rfl (lb rfl) fun a S => ?_
  refine sMove (iv p1) S (wN rfl) (.inl rfl) rfl rfl (lb rfl) fun a S => ?_
  refine sMax2 (p := p1) (q := 1) S (wN rfl) rfl rfl rfl rfl (lb rfl) fun a S => ?_
  obtain ⟨z82, hx83, h⟩ := bindSome h
  refine sBin (iv z82) S (wN rfl) rfl rfl rfl (bQuo _ _ _ _ (x := p0.W) (y := if p1 < 1 then 1 else p1) hx83) rfl (lb rfl) fun a S => ?_
  obtain ⟨r84, hx85, h⟩ := bindSome h
  refine sCall (X := Value) (f := 21) (vs := [.slice ad70 r66.1.length cp71, .slice ad72 r66.2.1.length cp73, iv z82]) (val := c_block_Join_val r84) (B' := fun _ => []) (D' := c_block_Join_D r84) [] [eBox b14 24 [iv p0.W, iv p0.H, .slice ad3 p0.Bits.length cp4]] [fRep (rL r_api_Grid) (.slice ad70 r66.1.length cp71) r66.1, fRep (rL (rI .i64)) (.slice ad72 r66.2.1.length cp73) r66.2.1] [0] [0, 1] S (wN rfl) rfl callee21 rfl (by decide) rfl rfl (fun E1 w1 S1 => c_block_Join E1 w1 r66.1 (.slice ad70 r66.1.length cp71) r66.2.1 (.slice ad72 r66.2.1.length cp73) z82 r84 hx85 S1) rfl (lb rfl) fun u86 a w S => ?_
  obtain ⟨u87, rfl, hu88⟩ := S.mem.know (i := 0) (e := fRep r_api_Grid (u86) r84.1) rfl
  have S := S.learn (fRep (rL rB) u87 r84.1.Bits) hu88
  obtain ⟨ad89, cp90, _, rfl, _⟩ := hu88
  refine sMove (.tuple #[.agg #[iv r84.1.W, iv r84.1.H, .slice ad89 r84.1.Bits.length cp90], iv r84.2]) S (wN rfl) (.inl rfl) rfl rfl (lb rfl) fun a S => ?_
  refine sExtract (vs := [.agg #[iv r84.1.W, iv r84.1.H, .slice ad89 r84.1.Bits.length cp90], iv r84.2]) (.agg #[iv r84.1.W, iv r84.1.H, .slice ad89 r84.1.Bits.length cp90]) S (wN rfl) rfl rfl rfl rfl (lb rfl) fun a S => ?_
  refine sExtract (vs := [.agg #[iv r84.1.W, iv r84.1.H, .slice ad89 r84.1.Bits.length cp90], iv r84.2]) (iv r84.2) S (wN rfl) rfl rfl rfl rfl (lb rfl) fun a S => ?_
  refine sAlloc (.agg #[iv 0, iv 0, .slice none 0 0]) S (wN rfl) rfl rfl [iv 0, iv 0, .slice none 0 0] rfl rfl (lb rfl) fun a b91 w S => ?_
  refine sStore (p := b91) (off := 0) (T := 24) (vs := [iv 0, iv 0, .slice none 0 0]) (v := .agg #[iv r84.1.W, iv r84.1.H, .slice ad89 r84.1.Bits.length cp90]) 0 [iv r84.1.W, iv r84.1.H, .slice ad89 r84.1.Bits.length cp90] S (wN rfl) rfl rfl rfl rfl rfl rfl rfl (by simp) rfl fun a w S => ?_
  refine sMove (iv r84.2) S (wN rfl) (.inr rfl) rfl rfl (lb rfl) fun a S => ?_
  refine leafL (leafT (hK81 _ _ ?_))
  refine sSeq (fun K92 hK92 => ?_)
  obtain ⟨t94, h, g95⟩ := bindSome h
  refine sCut (fun a w => ∃ o93, o93 = t94 ∧ St [] E [] w0 165 a w [(11, .bool r18), (16, .slice ad70 r66.1.length cp71), (17, .slice ad72 r66.2.1.length cp73), (101, .bool o93)] [] [fRep (rL r_api_Grid) (.slice ad70 r66.1.length cp71) r66.1, fRep (rL (rI .i64)) (.slice ad72 r66.2.1.length cp73) r66.2.1]) ?_ (fun a w hI => ?_)
  · refine sRegion ?_
    refine sMove (iv r84.2) S (wN rfl) (.inl rfl) rfl rfl (lb rfl) fun a S => ?_
    refine sBin (.bool (r84.2 != 0)) S (wN rfl) rfl rfl rfl (bNe _ _ _ _ .i64 r84.2 0) rfl (lb rfl) fun a S => ?_
    refine sMove (.bool (r84.2 != 0)) S (wN rfl) (.inl rfl) rfl rfl (lb rfl) fun a S => ?_
    rcases iteSome h with ⟨hc96, h⟩ | ⟨hc96, h⟩
    · refine sSkip 2 false 96 97 S rfl rfl rfl hc96 rfl (lb rfl) fun a S => ?_
      refine sSkip 2 false 96 98 S rfl rfl rfl hc96 rfl (lb rfl) fun a S => ?_
      refine sSkip 2 false 96 99 S rfl rfl rfl hc96 rfl (lb rfl) fun a S => ?_
      refine sSkip 2 false 96 100 S rfl rfl rfl hc96 rfl (lb rfl) fun a S => ?_
      refine sPickT (.bool true) S (wN rfl) rfl rfl hc96 rfl rfl (lb rfl) fun a S => ?_
      exact leafL (leafT (⟨true, Option.some.inj h, S.fix [] [2, 3] (by decide) rfl rfl rfl⟩))
    refine sLoadN (p := b91) (off := 0) (T := 24) (vs := [iv r84.1.W, iv r84.1.H, .slice ad89 r84.1.Bits.length cp90]) 0 [iv r84.1.W, iv r84.1.H, .slice ad89 r84.1.Bits.length cp90] S (wG 2 false 96 rfl rfl rfl hc96) rfl rfl rfl rfl rfl rfl rfl (lb rfl) fun a S => ?_
    refine sLoadN (p := b14) (off := 0) (T := 24) (vs := [iv p0.W, iv p0.H, .slice ad3 p0.Bits.length cp4]) 1 [iv p0.W, iv p0.H, .slice ad3 p0.Bits.length cp4] S (wG 2 false 96 rfl rfl rfl hc96) rfl rfl rfl rfl rfl rfl rfl (lb rfl) fun a S => ?_
    obtain ⟨r97, hx98, h⟩ := bindSome h
    have S1 := S.mem
    refine sCallQ (X := Unit) (f := 17) (vs := [.agg #[iv r84.1.W, iv r84.1.H, .slice ad89 r84.1.Bits.length cp90], .agg #[iv p0.W, iv p0.H, .slice ad3 p0.Bits.length cp4]]) (val := fun _ => .bool r97) S (wG 2 false 96 rfl rfl rfl hc96) rfl callee17 rfl (S1.quiet [1, 4] rfl) (fun E1 w1 S1 => c_raddleref01_Same E1 w1 r84.1 (.agg #[iv r84.1.W, iv r84.1.H, .slice ad89 r84.1.Bits.length cp90]) p0 (.agg #[iv p0.W, iv p0.H, .slice ad3 p0.Bits.length cp4]) r97 hx98 S1) rfl (lb rfl) fun _ a w S => ?_
    refine sNot (b := r97) S (wG 2 false 96 rfl rfl rfl hc96) rfl rfl rfl (lb rfl) fun a S => ?_
    refine sPickF (.bool (!r97)) S (wN rfl) rfl rfl hc96 rfl rfl (lb rfl) fun a S => ?_
    exact leafL (leafT (⟨!r97, Option.some.inj h, S.fix [] [2, 3] (by decide) rfl rfl rfl⟩))
  obtain ⟨o93, rfl, S⟩ := hI
  have h := g95
  clear g95
  try dsimp only at h
  rcases iteSome h with ⟨hc99, h⟩ | ⟨hc99, h⟩
  · refine sCondT S rfl hc99 ?_
    refine sSeq (fun K100 hK100 => ?_)
    refine sRegion ?_
    refine sMove (.bool false) S (wN rfl) (.inr rfl) rfl rfl (lb rfl) fun a S => ?_
    refine leafL (leafT (hK100 _ _ ?_))
    obtain rfl := Option.some.inj h
    exact wp_ret (rThen (sRet (.bool false) S (rsl1 rfl (rvT (t := 10) (v := .bool false) S rfl)) ⟨(), rfl, S.mem.sel [] [] (by decide) rfl rfl⟩))
  refine sCondF S rfl hc99 ?_
  refine wp_skip (leafT (hK92 _ _ ?_))
  refine sSeq (fun K101 hK101 => ?_)
  refine sRegion ?_
  refine sMove (iv 0) S (wN rfl) (.inr rfl) rfl rfl (lb rfl) fun a S => ?_
  refine leafL (leafT (hK101 _ _ ?_))
  obtain ⟨t103, h, g104⟩ := bindSome h
  refine sCut (fun a w => ∃ o102, .inl o102 = t103 ∧ St [] E [] w0 165 a w [(11, .bool r18), (16, .slice ad70 r66.1.length cp71), (21, iv o102)] [] [fRep (rL r_api_Grid) (.slice ad70 r66.1.length cp71) r66.1]) ?_ (fun a w hI => ?_)
  · refine sSeq (fun K105 hK105 => ?_)
    refine sRegion ?_
    refine sMove (iv 0) S (wN rfl) (.inr rfl) rfl rfl (lb rfl) fun a S => ?_
    refine leafL (leafT (hK105 _ _ ?_))
    refine wp_block ?_
    obtain ⟨t110, hl, g109⟩ := bindSome h
    refine sLoop hl (fun s0 a w => match s0 with | (s106, s107) => St [] E [] w0 165 a w [(11, .bool r18), (16, .slice ad70 r66.1.length cp71), (17, .slice ad72 r66.2.1.length cp73), (21, iv s106), (22, iv s107)] [] [fRep (rL r_api_Grid) (.slice ad70 r66.1.length cp71) r66.1, fRep (rL (rI .i64)) (.slice ad72 r66.2.1.length cp73) r66.2.1]) (S.fix [] [0, 1] (by decide) rfl rfl rfl) ?_
    clear hl h
    intro s0 a w c0 hI h hu108
    obtain ⟨s106, s107⟩ := s0
    unfold raddlelaw13_BlockJoins_l1 at h
    dsimp only at h hI
    have S := hI
    refine sSeq (fun K112 hK112 => ?_)
    refine sSeq (fun K113 hK113 => ?_)
    refine sRegion ?_
    refine sMove (iv s107) S (wN rfl) (.inl rfl) rfl rfl (lb rfl) fun a S => ?_
    refine sMove (.slice ad72 r66.2.1.length cp73) S (wN rfl) (.inl rfl) rfl rfl (lb rfl) fun a S => ?_
    refine sLen (ad := ad72) (m := r66.2.1.length) (c := cp73) S (wN rfl) rfl Try.underlying35 rfl rfl (lb rfl) fun a S => ?_
    refine sBin (.bool (decide (s107 < (r66.2.1.length : Int)))) S (wN rfl) rfl rfl rfl (bLt _ _ _ _ .i64 s107 (r66.2.1.length : Int)) rfl (lb rfl) fun a S => ?_
    refine leafL (leafT (hK113 _ _ ?_))
    rcases iteSome h with ⟨hc114, h⟩ | ⟨hc114, h⟩
    rotate_left
    · refine sCondF S rfl hc114 ?_
      obtain rfl := Option.some.inj h
      obtain rfl := hu108 _ rfl
      have h := g109
      clear g109
      try dsimp only at h
      exact wp_exit (xThen (xThen (xHit (leafT (⟨s106, Option.some.inj h, S.fix [] [0] (by decide) rfl rfl rfl⟩)))))
    refine sCondT S rfl hc114 ?_
    refine wp_skip (leafT (hK112 _ _ ?_))
    obtain ⟨t116, h, g117⟩ := bindSome h
    refine sCut (fun a w => ∃ o115, .inl o115 = t116 ∧ St [] E [] w0 165 a w [(11, .bool r18), (16, .slice ad70 r66.1.length cp71), (17, .slice ad72 r66.2.1.length cp73), (21, iv o115), (22, iv s107)] [] [fRep (rL r_api_Grid) (.slice ad70 r66.1.length cp71) r66.1, fRep (rL (rI .i64)) (.slice ad72 r66.2.1.length cp73) r66.2.1]) ?_ (fun a w hI => ?_)
    rotate_left
    · obtain ⟨o115, rfl, S⟩ := hI
      have h := g117
      clear g117
      try dsimp only at h
      refine sRegion ?_
      refine sMove (iv s107) S (wN rfl) (.inl rfl) rfl rfl (lb rfl) fun a S => ?_
      refine sBin (iv (w64 (s107 + 1))) S (wN rfl) rfl rfl rfl (bAdd _ _ _ _ s107 1) rfl (lb rfl) fun a S => ?_
      refine sMove (iv (w64 (s107 + 1))) S (wN rfl) (.inr rfl) rfl rfl (lb rfl) fun a S => ?_
      exact leafL (leafT (⟨(o115, w64 (s107 + 1)), (Option.some.inj h).symm, (S.fix [] [0, 1] (by decide) rfl rfl rfl)⟩))
    refine wp_block ?_
    refine sSeq (fun K118 hK118 => ?_)
    obtain ⟨t120, h, g121⟩ := bindSome h
    refine sCut (fun a w => ∃ o119, o119 = t120 ∧ St [] E [] w0 165 a w [(11, .bool r18), (16, .slice ad70 r66.1.length cp71), (17, .slice ad72 r66.2.1.length cp73), (21, iv s106), (22, iv s107), (129, .bool o119)] [] [fRep (rL r_api_Grid) (.slice ad70 r66.1.length cp71) r66.1, fRep (rL (rI .i64)) (.slice ad72 r66.2.1.length cp73) r66.2.1]) ?_ (fun a w hI => ?_)
    rotate_left
    · obtain ⟨o119, rfl, S⟩ := hI
      have h := g121
      clear g121
      try dsimp only at h
      rcases iteSome h with ⟨hc135, h⟩ | ⟨hc135, h⟩
      · refine sCondT S rfl hc135 ?_
        refine sSeq (fun K136 hK136 => ?_)
        refine sRegion ?_
        refine sMove (.bool false) S (wN rfl) (.inr rfl) rfl rfl (lb rfl) fun a S => ?_
        refine leafL (leafT (hK136 _ _ ?_))
        obtain rfl := Option.some.inj h
        have h := g117
        clear g117
        try dsimp only at h
        obtain rfl := Option.some.inj h
        obtain rfl := hu108 _ rfl
        have h := g109
        clear g109
        try dsimp only at h
        obtain rfl := Option.some.inj h
        have h := g104
        clear g104
        try dsimp only at h
        obtain rfl := Option.some.inj h
        exact wp_ret (rThen (rBlock (rThen (rThen (rBlock (rThen (sRet (.bool false) S (rsl1 rfl (rvT (t := 10) (v := .bool false) S rfl)) ⟨(), rfl, S.mem.sel [] [] (by decide) rfl rfl⟩)))))))
      refine sCondF S rfl hc135 ?_
      refine wp_skip (leafT (hK118 _ _ ?_))
      refine sSeq (fun K137 hK137 => ?_)
      refine sRegion ?_
      refine sMove (.slice ad72 r66.2.1.length cp73) S (wN rfl) (.inl rfl) rfl rfl (lb rfl) fun a S => ?_
      refine sMove (iv s107) S (wN rfl) (.inl rfl) rfl rfl (lb rfl) fun a S => ?_
      obtain ⟨x138, hx139, h⟩ := bindSome h
      obtain ⟨q140, hq141, S⟩ := pIdx (P := Try.prog) (r := (rI .i64)) (v := .slice ad72 r66.2.1.length cp73) (xs := r66.2.1) (j := s107) 35 3 1 S Try.underlying35 rfl rfl hx139
      refine sIdxV (v := .slice ad72 r66.2.1.length cp73) (k := .i64) (j := s107) S (wN rfl) rfl rfl rfl hq141 rfl (lb rfl) fun a S => ?_
      obtain ⟨u142, S⟩ := pLoad (r := (rI .i64)) (q := q140) (x := x138) 0 S rfl
      obtain rfl : u142 = iv x138 := S.mem.know (i := 1) (e := fRep (rI .i64) (u142) x138) rfl
      refine sLoadV1 (vq := q140) 0 (iv x138) S (wN rfl) rfl rfl rfl rfl rfl (lb rfl) fun a S => ?_
      refine sMove (iv s106) S (wN rfl) (.inl rfl) rfl rfl (lb rfl) fun a S => ?_
      refine sBin (.bool (x138 == s106)) S (wN rfl) rfl rfl rfl (bEq _ _ _ _ .i64 x138 s106) rfl (lb rfl) fun a S => ?_
      refine leafL (leafT (hK137 _ _ ?_))
      rcases iteSome h with ⟨hc143, h⟩ | ⟨hc143, h⟩
      rotate_left
      · refine sCondF S rfl hc143 ?_
        exact wp_skip (leafB (leafT (⟨s106, Option.some.inj h, S.fix [] [3, 4] (by decide) rfl rfl rfl⟩)))
      refine sCondT S rfl hc143 ?_
      refine sRegion ?_
      refine sMove (iv s106) S (wN rfl) (.inl rfl) rfl rfl (lb rfl) fun a S => ?_
      refine sBin (iv (w64 (s106 + 1))) S (wN rfl) rfl rfl rfl (bAdd _ _ _ _ s106 1) rfl (lb rfl) fun a S => ?_
      refine sMove (iv (w64 (s106 + 1))) S (wN rfl) (.inr rfl) rfl rfl (lb rfl) fun a S => ?_
      exact leafL (leafB (leafT (⟨w64 (s106 + 1), Option.some.inj h, S.fix [] [3, 4] (by decide) rfl rfl rfl⟩)))
    refine sRegion ?_
    refine sMove (.slice ad72 r66.2.1.length cp73) S (wN rfl) (.inl rfl) rfl rfl (lb rfl) fun a S => ?_
    refine sMove (iv s107) S (wN rfl) (.inl rfl) rfl rfl (lb rfl) fun a S => ?_
    obtain ⟨x122, hx123, h⟩ := bindSome h
    obtain ⟨q124, hq125, S⟩ := pIdx (P := Try.prog) (r := (rI .i64)) (v := .slice ad72 r66.2.1.length cp73) (xs := r66.2.1) (j := s107) 35 3 1 S Try.underlying35 rfl rfl hx123
    refine sIdxV (v := .slice ad72 r66.2.1.length cp73) (k := .i64) (j := s107) S (wN rfl) rfl rfl rfl hq125 rfl (lb rfl) fun a S => ?_
    obtain ⟨u126, S⟩ := pLoad (r := (rI .i64)) (q := q124) (x := x122) 0 S rfl
    obtain rfl : u126 = iv x122 := S.mem.know (i := 1) (e := fRep (rI .i64) (u126) x122) rfl
    refine sLoadV1 (vq := q124) 0 (iv x122) S (wN rfl) rfl rfl rfl rfl rfl (lb rfl) fun a S => ?_
    refine sBin (.bool (decide (x122 < 0))) S (wN rfl) rfl rfl rfl (bLt _ _ _ _ .i64 x122 0) rfl (lb rfl) fun a S => ?_
    refine sMove (.bool (decide (x122 < 0))) S (wN rfl) (.inl rfl) rfl rfl (lb rfl) fun a S => ?_
    rcases iteSome h with ⟨hc127, h⟩ | ⟨hc127, h⟩
    · refine sSkip 5 false 113 114 S rfl rfl rfl hc127 rfl (lb rfl) fun a S => ?_
      refine sSkip 5 false 113 115 S rfl rfl rfl hc127 rfl (lb rfl) fun a S => ?_
      refine sSkip 5 false 113 116 S rfl rfl rfl hc127 rfl (lb rfl) fun a S => ?_
      refine sSkip 5 false 113 117 S rfl rfl rfl hc127 rfl (lb rfl) fun a S => ?_
      refine sSkip 5 false 113 118 S rfl rfl rfl hc127 rfl (lb rfl) fun a S => ?_
      refine sSkip 5 false 113 119 S rfl rfl rfl hc127 rfl (lb rfl) fun a S => ?_
      refine sPickT (.bool true) S (wN rfl) rfl rfl hc127 rfl rfl (lb rfl) fun a S => ?_
      refine sMove (.bool true) S (wN rfl) (.inl rfl) rfl rfl (lb rfl) fun a S => ?_
      refine sSkip 13 false 121 122 S rfl rfl rfl rfl rfl (lb rfl) fun a S => ?_
      refine sSkip 13 false 121 123 S rfl rfl rfl rfl rfl (lb rfl) fun a S => ?_
      refine sSkip 13 false 121 124 S rfl rfl rfl rfl rfl (lb rfl) fun a S => ?_
      refine sSkip 13 false 121 125 S rfl rfl rfl rfl rfl (lb rfl) fun a S => ?_
      refine sSkip 13 false 121 126 S rfl rfl rfl rfl rfl (lb rfl) fun a S => ?_
      refine sSkip 13 false 121 127 S rfl rfl rfl rfl rfl (lb rfl) fun a S => ?_
      refine sSkip 13 false 121 128 S rfl rfl rfl rfl rfl (lb rfl) fun a S => ?_
      refine sPickT (.bool true) S (wN rfl) rfl rfl rfl rfl rfl (lb rfl) fun a S => ?_
      exact leafL (leafT (⟨true, Option.some.inj h, S.fix [] [3, 4] (by decide) rfl rfl rfl⟩))
    refine sMove (.slice ad72 r66.2.1.length cp73) S (wG 5 false 113 rfl rfl rfl hc127) (.inl rfl) rfl rfl (lb rfl) fun a S => ?_
    refine sMove (iv s107) S (wG 5 false 113 rfl rfl rfl hc127) (.inl rfl) rfl rfl (lb rfl) fun a S => ?_
    obtain ⟨q128, hq129, S⟩ := pIdx (P := Try.prog) (r := (rI .i64)) (v := .slice ad72 r66.2.1.length cp73) (xs := r66.2.1) (j := s107) 35 3 4 S Try.underlying35 rfl rfl hx123
    refine sIdxV (v := .slice ad72 r66.2.1.length cp73) (k := .i64) (j := s107) S (wG 5 false 113 rfl rfl rfl hc127) rfl rfl rfl hq129 rfl (lb rfl) fun a S => ?_
    obtain ⟨u130, S⟩ := pLoad (r := (rI .i64)) (q := q128) (x := x122) 0 S rfl
    obtain rfl : u130 = iv x122 := S.mem.know (i := 1) (e := fRep (rI .i64) (u130) x122) rfl
    refine sLoadV1 (vq := q128) 0 (iv x122) S (wG 5 false 113 rfl rfl rfl hc127) rfl rfl rfl rfl rfl (lb rfl) fun a S => ?_
    refine sMove (iv s106) S (wG 5 false 113 rfl rfl rfl hc127) (.inl rfl) rfl rfl (lb rfl) fun a S => ?_
    refine sBin (.bool (decide (s106 < x122))) S (wG 5 false 113 rfl rfl rfl hc127) rfl rfl rfl (bGt _ _ _ _ .i64 x122 s106) rfl (lb rfl) fun a S => ?_
    refine sPickF (.bool (decide (s106 < x122))) S (wN rfl) rfl rfl hc127 rfl rfl (lb rfl) fun a S => ?_
    refine sMove (.bool (decide (s106 < x122))) S (wN rfl) (.inl rfl) rfl rfl (lb rfl) fun a S => ?_
    rcases iteSome h with ⟨hc131, h⟩ | ⟨hc131, h⟩
    · refine sSkip 13 false 121 122 S rfl rfl rfl hc131 rfl (lb rfl) fun a S => ?_
      refine sSkip 13 false 121 123 S rfl rfl rfl hc131 rfl (lb rfl) fun a S => ?_
      refine sSkip 13 false 121 124 S rfl rfl rfl hc131 rfl (lb rfl) fun a S => ?_
      refine sSkip 13 false 121 125 S rfl rfl rfl hc131 rfl (lb rfl) fun a S => ?_
      refine sSkip 13 false 121 126 S rfl rfl rfl hc131 rfl (lb rfl) fun a S => ?_
      refine sSkip 13 false 121 127 S rfl rfl rfl hc131 rfl (lb rfl) fun a S => ?_
      refine sSkip 13 false 121 128 S rfl rfl rfl hc131 rfl (lb rfl) fun a S => ?_
      refine sPickT (.bool true) S (wN rfl) rfl rfl hc131 rfl rfl (lb rfl) fun a S => ?_
      exact leafL (leafT (⟨true, Option.some.inj h, S.fix [] [6, 7] (by decide) rfl rfl rfl⟩))
    refine sMove (.slice ad72 r66.2.1.length cp73) S (wG 13 false 121 rfl rfl rfl hc131) (.inl rfl) rfl rfl (lb rfl) fun a S => ?_
    refine sMove (iv s107) S (wG 13 false 121 rfl rfl rfl hc131) (.inl rfl) rfl rfl (lb rfl) fun a S => ?_
    obtain ⟨q132, hq133, S⟩ := pIdx (P := Try.prog) (r := (rI .i64)) (v := .slice ad72 r66.2.1.length cp73) (xs := r66.2.1) (j := s107) 35 3 7 S Try.underlying35 rfl rfl hx123
    refine sIdxV (v := .slice ad72 r66.2.1.length cp73) (k := .i64) (j := s107) S (wG 13 false 121 rfl rfl rfl hc131) rfl rfl rfl hq133 rfl (lb rfl) fun a S => ?_
    obtain ⟨u134, S⟩ := pLoad (r := (rI .i64)) (q := q132) (x := x122) 0 S rfl
    obtain rfl : u134 = iv x122 := S.mem.know (i := 1) (e := fRep (rI .i64) (u134) x122) rfl
    refine sLoadV1 (vq := q132) 0 (iv x122) S (wG 13 false 121 rfl rfl rfl hc131) rfl rfl rfl rfl rfl (lb rfl) fun a S => ?_
    refine sMove (.slice ad70 r66.1.length cp71) S (wG 13 false 121 rfl rfl rfl hc131) (.inl rfl) rfl rfl (lb rfl) fun a S => ?_
    refine sLen (ad := ad70) (m := r66.1.length) (c := cp71) S (wG 13 false 121 rfl rfl rfl hc131) rfl Try.underlying34 rfl rfl (lb rfl) fun a S => ?_
    refine sBin (.bool (decide ((r66.1.length : Int) ≤ x122))) S (wG 13 false 121 rfl rfl rfl hc131) rfl rfl rfl (bGe _ _ _ _ .i64 x122 (r66.1.length : Int)) rfl (lb rfl) fun a S => ?_
    refine sPickF (.bool (decide ((r66.1.length : Int) ≤ x122))) S (wN rfl) rfl rfl hc131 rfl rfl (lb rfl) fun a S => ?_
    exact leafL (leafT (⟨decide ((r66.1.length : Int) ≤ x122), Option.some.inj h, S.fix [] [9, 10] (by decide) rfl rfl rfl⟩))
  obtain ⟨o102, rfl, S⟩ := hI
  have h := g104
  clear g104
  try dsimp only at h
  obtain ⟨t144, h, g145⟩ := bindSome h
  refine sCut (fun a w => .inl () = t144 ∧ St [] E [] w0 165 a w [(11, .bool r18), (16, .slice ad70 r66.1.length cp71), (21, iv o102)] [] [fRep (rL r_api_Grid) (.slice ad70 r66.1.length cp71) r66.1]) ?_ (fun a w hI => ?_)
  rotate_left
  · obtain ⟨rfl, S⟩ := hI
    have h := g145
    clear g145
    try dsimp only at h
    obtain ⟨t203, h, g204⟩ := bindSome h
    refine sCut (fun a w => ∃ o202, o202 = t203 ∧ St [] E [] w0 165 a w [(10, .bool o202)] [] []) ?_ (fun a w hI => ?_)
    rotate_left
    · obtain ⟨o202, rfl, S⟩ := hI
      have h := g204
      clear g204
      try dsimp only at h
      obtain rfl := Option.some.inj h
      exact wp_ret (sRet (.bool o202) S (rsl1 rfl (rvT (t := 10) (v := .bool o202) S rfl)) ⟨(), rfl, S.mem.sel [] [] (by decide) rfl rfl⟩)
    refine sRegion ?_
    refine sMove (.bool r18) S (wN rfl) (.inl rfl) rfl rfl (lb rfl) fun a S => ?_
    refine sMove (.bool r18) S (wN rfl) (.inl rfl) rfl rfl (lb rfl) fun a S => ?_
    rcases iteSome h with ⟨hc205, h⟩ | ⟨hc205, h⟩
    rotate_left
    · refine sSkip 1 true 159 160 S rfl rfl rfl hc205 rfl (lb rfl) fun a S => ?_
      refine sSkip 1 true 159 161 S rfl rfl rfl hc205 rfl (lb rfl) fun a S => ?_
      refine sSkip 1 true 159 162 S rfl rfl rfl hc205 rfl (lb rfl) fun a S => ?_
      refine sSkip 1 true 159 163 S rfl rfl rfl hc205 rfl (lb rfl) fun a S => ?_
      refine sPickF (.bool false) S (wN rfl) rfl rfl hc205 rfl rfl (lb rfl) fun a S => ?_
      refine sMove (.bool false) S (wN rfl) (.inr rfl) rfl rfl (lb rfl) fun a S => ?_
      exact leafL (leafT (⟨false, Option.some.inj h, S.fix [] [] (by decide) rfl rfl rfl⟩))
    refine sMove (iv o102) S (wG 1 true 159 rfl rfl rfl hc205) (.inl rfl) rfl rfl (lb rfl) fun a S => ?_
    refine sMove (.slice ad70 r66.1.length cp71) S (wG 1 true 159 rfl rfl rfl hc205) (.inl rfl) rfl rfl (lb rfl) fun a S => ?_
    refine sLen (ad := ad70) (m := r66.1.length) (c := cp71) S (wG 1 true 159 rfl rfl rfl hc205) rfl Try.underlying34 rfl rfl (lb rfl) fun a S => ?_
    refine sBin (.bool (o102 == (r66.1.length : Int))) S (wG 1 true 159 rfl rfl rfl hc205) rfl rfl rfl (bEq _ _ _ _ .i64 o102 (r66.1.length : Int)) rfl (lb rfl) fun a S => ?_
    refine sPickT (.bool (o102 == (r66.1.length : Int))) S (wN rfl) rfl rfl hc205 rfl rfl (lb rfl) fun a S => ?_
    refine sMove (.bool (o102 == (r66.1.length : Int))) S (wN rfl) (.inr rfl) rfl rfl (lb rfl) fun a S => ?_
    exact leafL (leafT (⟨o102 == (r66.1.length : Int), Option.some.inj h, S.fix [] [] (by decide) rfl rfl rfl⟩))
  refine sSeq (fun K146 hK146 => ?_)
  refine sRegion ?_
  refine sMove (iv 0) S (wN rfl) (.inr rfl) rfl rfl (lb rfl) fun a S => ?_
  refine leafL (leafT (hK146 _ _ ?_))
  refine wp_block ?_
  obtain ⟨t150, hl, g149⟩ := bindSome h
  refine sLoop hl (fun s0 a w => match s0 with | s147 => St [] E [] w0 165 a w [(11, .bool r18), (16, .slice ad70 r66.1.length cp71), (21, iv o102), (23, iv s147)] [] [fRep (rL r_api_Grid) (.slice ad70 r66.1.length cp71) r66.1]) (S.fix [] [0] (by decide) rfl rfl rfl) ?_
  clear hl h
  intro s147 a w c0 hI h hu148
  unfold raddlelaw13_BlockJoins_l3 at h
  dsimp only at h hI
  have S := hI
  refine sSeq (fun K151 hK151 => ?_)
  refine sSeq (fun K152 hK152 => ?_)
  refine sRegion ?_
  refine sMove (iv s147) S (wN rfl) (.inl rfl) rfl rfl (lb rfl) fun a S => ?_
  refine sMove (.slice ad70 r66.1.length cp71) S (wN rfl) (.inl rfl) rfl rfl (lb rfl) fun a S => ?_
  refine sLen (ad := ad70) (m := r66.1.length) (c := cp71) S (wN rfl) rfl Try.underlying34 rfl rfl (lb rfl) fun a S => ?_
  refine sBin (.bool (decide (s147 < (r66.1.length : Int)))) S (wN rfl) rfl rfl rfl (bLt _ _ _ _ .i64 s147 (r66.1.length : Int)) rfl (lb rfl) fun a S => ?_
  refine leafL (leafT (hK152 _ _ ?_))
  rcases iteSome h with ⟨hc153, h⟩ | ⟨hc153, h⟩
  rotate_left
  · refine sCondF S rfl hc153 ?_
    obtain rfl := Option.some.inj h
    obtain rfl := hu148 _ rfl
    have h := g149
    clear g149
    try dsimp only at h
    exact wp_exit (xThen (xThen (xHit (leafT (⟨Option.some.inj h, S.fix [] [0] (by decide) rfl rfl rfl⟩)))))
  refine sCondT S rfl hc153 ?_
  refine wp_skip (leafT (hK151 _ _ ?_))
  obtain ⟨t154, h, g155⟩ := bindSome h
  refine sCut (fun a w => .inl () = t154 ∧ St [] E [] w0 165 a w [(11, .bool r18), (16, .slice ad70 r66.1.length cp71), (21, iv o102), (23, iv s147)] [] [fRep (rL r_api_Grid) (.slice ad70 r66.1.length cp71) r66.1]) ?_ (fun a w hI => ?_)
  rotate_left
  · obtain ⟨rfl, S⟩ := hI
    have h := g155
    clear g155
    try dsimp only at h
    refine sRegion ?_
    refine sMove (iv s147) S (wN rfl) (.inl rfl) rfl rfl (lb rfl) fun a S => ?_
    refine sBin (iv (w64 (s147 + 1))) S (wN rfl) rfl rfl rfl (bAdd _ _ _ _ s147 1) rfl (lb rfl) fun a S => ?_
    refine sMove (iv (w64 (s147 + 1))) S (wN rfl) (.inr rfl) rfl rfl (lb rfl) fun a S => ?_
    exact leafL (leafT (⟨w64 (s147 + 1), (Option.some.inj h).symm, (S.fix [] [0] (by decide) rfl rfl rfl)⟩))
  refine wp_block ?_
  refine sSeq (fun K156 hK156 => ?_)
  refine sRegion ?_
  refine sMove (iv 0) S (wN rfl) (.inr rfl) rfl rfl (lb rfl) fun a S => ?_
  refine leafL (leafT (hK156 _ _ ?_))
  refine wp_block ?_
  obtain ⟨t160, hl, g159⟩ := bindSome h
  refine sLoop hl (fun s0 a w => match s0 with | s157 => St [] E [] w0 165 a w [(11, .bool r18), (16, .slice ad70 r66.1.length cp71), (21, iv o102), (23, iv s147), (24, iv s157)] [] [fRep (rL r_api_Grid) (.slice ad70 r66.1.length cp71) r66.1]) (S.fix [] [0] (by decide) rfl rfl rfl) ?_
  clear hl h
  intro s157 a w c0 hI h hu158
  unfold raddlelaw13_BlockJoins_l2 at h
  dsimp only at h hI
  have S := hI
  refine sSeq (fun K161 hK161 => ?_)
  refine sSeq (fun K162 hK162 => ?_)
  refine sRegion ?_
  refine sMove (iv s157) S (wN rfl) (.inl rfl) rfl rfl (lb rfl) fun a S => ?_
  refine sMove (iv s147) S (wN rfl) (.inl rfl) rfl rfl (lb rfl) fun a S => ?_
  refine sBin (.bool (decide (s157 < s147))) S (wN rfl) rfl rfl rfl (bLt _ _ _ _ .i64 s157 s147) rfl (lb rfl) fun a S => ?_
  refine leafL (leafT (hK162 _ _ ?_))
  rcases iteSome h with ⟨hc163, h⟩ | ⟨hc163, h⟩
  rotate_left
  · refine sCondF S rfl hc163 ?_
    obtain rfl := Option.some.inj h
    obtain rfl := hu158 _ rfl
    have h := g159
    clear g159
    try dsimp only at h
    exact wp_exit (xThen (xThen (xHit (leafB (leafT (⟨Option.some.inj h, S.fix [] [0] (by decide) rfl rfl rfl⟩))))))
  refine sCondT S rfl hc163 ?_
  refine wp_skip (leafT (hK161 _ _ ?_))
  refine sSeq (fun K164 hK164 => ?_)
  refine wp_block ?_
  refine sSeq (fun K165 hK165 => ?_)
  obtain ⟨x166, hx167, h⟩ := bindSome h
  obtain ⟨x175, hx176, h⟩ := bindSome h
  obtain ⟨r184, hx185, h⟩ := bindSome h
  obtain ⟨q186, hq187, S⟩ := pIdx (P := Try.prog) (r := r_api_Grid) (v := .slice ad70 r66.1.length cp71) (xs := r66.1) (j := s147) 34 24 0 S Try.underlying34 rfl rfl hx167
  obtain ⟨u188, S⟩ := pLoad (r := r_api_Grid) (q := q186) (x := x166) 0 S rfl
  obtain ⟨u189, rfl, hu190⟩ := S.mem.know (i := 1) (e := fRep r_api_Grid (u188) x166) rfl
  have S := S.learn (fRep (rL rB) u189 x166.Bits) hu190
  obtain ⟨ad191, cp192, _, rfl, _⟩ := hu190
  obtain ⟨q193, hq194, S⟩ := pIdx (P := Try.prog) (r := r_api_Grid) (v := .slice ad70 r66.1.length cp71) (xs := r66.1) (j := s157) 34 24 4 S Try.underlying34 rfl rfl hx176
  obtain ⟨u195, S⟩ := pLoad (r := r_api_Grid) (q := q193) (x := x175) 0 S rfl
  obtain ⟨u196, rfl, hu197⟩ := S.mem.know (i := 1) (e := fRep r_api_Grid (u195) x175) rfl
  have S := S.learn (fRep (rL rB) u196 x175.Bits) hu197
  obtain ⟨ad198, cp199, _, rfl, _⟩ := hu197
  refine sDraw (nf := []) (W := [(0, 149, .slice ad70 r66.1.length cp71), (1, 150, iv s147), (2, 151, q186), (3, 152, .agg #[iv x166.W, iv x166.H, .slice ad191 x166.Bits.length cp192]), (4, 153, .slice ad70 r66.1.length cp71), (5, 154, iv s157), (6, 155, q193), (7, 156, .agg #[iv x175.W, iv x175.H, .slice ad198 x175.Bits.length cp199]), (8, 157, .bool r184)]) rfl S ?_
  refine node_by (A := anc_raddlelaw13_BlockJoins_0) (nf := []) (Y := []) (W := [(0, 149, .slice ad70 r66.1.length cp71), (1, 150, iv s147), (2, 151, q186), (3, 152, .agg #[iv x166.W, iv x166.H, .slice ad191 x166.Bits.length cp192]), (4, 153, .slice ad70 r66.1.length cp71), (5, 154, iv s157), (6, 155, q193), (7, 156, .agg #[iv x175.W, iv x175.H, .slice ad198 x175.Bits.length cp199]), (8, 157, .bool r184)]) 9 (by kernel_rfl) (by kernel_rfl) (by kernel_rfl) (by kernel_rfl) (by kernel_rfl) [0, 1, 2, 3, 4, 5, 6, 7, 8] (by kernel_rfl) (by decide) (by decide) (aF 0 8 (by decide) ?_ (aF 1 7 (by decide) ?_ (aF 2 6 (by decide) ?_ (aF 3 5 (by decide) ?_ (aF 4 4 (by decide) ?_ (aF 5 3 (by decide) ?_ (aF 6 2 (by decide) ?_ (aF 7 1 (by decide) ?_ (aF 8 0 (by decide) ?_ (trivial)))))))))) [(11, .bool r18), (16, .slice ad70 r66.1.length cp71), (21, iv o102), (23, iv s147), (24, iv s157), (157, .bool r184)] (fin_of [none, none, none, none, none, some 8] rfl (by kernel_rfl) (by kernel_rfl)) (fun _ a w S => ?_)
  · refine fI 149 (.slice ad70 r66.1.length cp71) [(16, .slice ad70 r66.1.length cp71)] 0 [none] rfl rfl rfl rfl rfl rfl fun G a w S => ?_
    refine sMove (.slice ad70 r66.1.length cp71) S (wN rfl) (.inl rfl) rfl rfl (lb rfl) fun a S => ?_
    exact leafL ⟨rfl, S⟩
  · refine fI 150 (iv s147) [(23, iv s147)] 1 [none] rfl rfl rfl rfl rfl rfl fun G a w S => ?_
    refine sMove (iv s147) S (wN rfl) (.inl rfl) rfl rfl (lb rfl) fun a S => ?_
    exact leafL ⟨rfl, S⟩
  · refine fI 151 q186 [(149, .slice ad70 r66.1.length cp71), (150, iv s147)] 2 [some 0, some 1] rfl rfl rfl rfl rfl rfl fun G a w S => ?_
    refine sIdxV (v := .slice ad70 r66.1.length cp71) (k := .i64) (j := s147) S (wN rfl) rfl rfl rfl hq187 rfl (lb rfl) fun a S => ?_
    exact leafL ⟨rfl, S⟩
  · refine fI 152 (.agg #[iv x166.W, iv x166.H, .slice ad191 x166.Bits.length cp192]) [(151, q186)] 3 [some 2] rfl rfl rfl rfl rfl rfl fun G a w S => ?_
    refine sLoadVN (vq := q186) 5 [iv x166.W, iv x166.H, .slice ad191 x166.Bits.length cp192] S (wN rfl) rfl rfl rfl rfl rfl rfl (lb rfl) fun a S => ?_
    exact leafL ⟨rfl, S⟩
  · refine fI 153 (.slice ad70 r66.1.length cp71) [(16, .slice ad70 r66.1.length cp71)] 4 [none] rfl rfl rfl rfl rfl rfl fun G a w S => ?_
    refine sMove (.slice ad70 r66.1.length cp71) S (wN rfl) (.inl rfl) rfl rfl (lb rfl) fun a S => ?_
    exact leafL ⟨rfl, S⟩
  · refine fI 154 (iv s157) [(24, iv s157)] 5 [none] rfl rfl rfl rfl rfl rfl fun G a w S => ?_
    refine sMove (iv s157) S (wN rfl) (.inl rfl) rfl rfl (lb rfl) fun a S => ?_
    exact leafL ⟨rfl, S⟩
  · refine fI 155 q193 [(153, .slice ad70 r66.1.length cp71), (154, iv s157)] 6 [some 4, some 5] rfl rfl rfl rfl rfl rfl fun G a w S => ?_
    refine sIdxV (v := .slice ad70 r66.1.length cp71) (k := .i64) (j := s157) S (wN rfl) rfl rfl rfl hq194 rfl (lb rfl) fun a S => ?_
    exact leafL ⟨rfl, S⟩
  · refine fI 156 (.agg #[iv x175.W, iv x175.H, .slice ad198 x175.Bits.length cp199]) [(155, q193)] 7 [some 6] rfl rfl rfl rfl rfl rfl fun G a w S => ?_
    refine sLoadVN (vq := q193) 1 [iv x175.W, iv x175.H, .slice ad198 x175.Bits.length cp199] S (wN rfl) rfl rfl rfl rfl rfl rfl (lb rfl) fun a S => ?_
    exact leafL ⟨rfl, S⟩
  · refine fI 157 (.bool r184) [(152, .agg #[iv x166.W, iv x166.H, .slice ad191 x166.Bits.length cp192]), (156, .agg #[iv x175.W, iv x175.H, .slice ad198 x175.Bits.length cp199])] 8 [some 3, some 7] rfl rfl rfl rfl rfl rfl fun G a w S => ?_
    have S1 := S.mem
    refine sCallQ (X := Unit) (f := 17) (vs := [.agg #[iv x166.W, iv x166.H, .slice ad191 x166.Bits.length cp192], .agg #[iv x175.W, iv x175.H, .slice ad198 x175.Bits.length cp199]]) (val := fun _ => .bool r184) S (wN rfl) rfl callee17 rfl (S1.quiet [6, 2] rfl) (fun E1 w1 S1 => c_raddleref01_Same E1 w1 x166 (.agg #[iv x166.W, iv x166.H, .slice ad191 x166.Bits.length cp192]) x175 (.agg #[iv x175.W, iv x175.H, .slice ad198 x175.Bits.length cp199]) r184 hx185 S1) rfl (lb rfl) fun _ a w S => ?_
    exact leafL ⟨rfl, S⟩
  refine leafT (hK165 _ _ ?_)
  rcases iteSome h with ⟨hc200, h⟩ | ⟨hc200, h⟩
  rotate_left
  · refine sCondF S rfl hc200 ?_
    refine wp_skip (leafB (leafT (hK164 _ _ ?_)))
    refine sRegion ?_
    refine sMove (iv s157) S (wN rfl) (.inl rfl) rfl rfl (lb rfl) fun a S => ?_
    refine sBin (iv (w64 (s157 + 1))) S (wN rfl) rfl rfl rfl (bAdd _ _ _ _ s157 1) rfl (lb rfl) fun a S => ?_
    refine sMove (iv (w64 (s157 + 1))) S (wN rfl) (.inr rfl) rfl rfl (lb rfl) fun a S => ?_
    exact leafL (leafT (⟨w64 (s157 + 1), (Option.some.inj h).symm, (S.fix [] [8] (by decide) rfl rfl rfl)⟩))
  refine sCondT S rfl hc200 ?_
  refine sSeq (fun K201 hK201 => ?_)
  refine sRegion ?_
  refine sMove (.bool false) S (wN rfl) (.inr rfl) rfl rfl (lb rfl) fun a S => ?_
  refine leafL (leafT (hK201 _ _ ?_))
  obtain rfl := Option.some.inj h
  obtain rfl := hu158 _ rfl
  have h := g159
  clear g159
  try dsimp only at h
  obtain rfl := Option.some.inj h
  have h := g155
  clear g155
  try dsimp only at h
  obtain rfl := Option.some.inj h
  obtain rfl := hu148 _ rfl
  have h := g149
  clear g149
  try dsimp only at h
  obtain rfl := Option.some.inj h
  have h := g145
  clear g145
  try dsimp only at h
  obtain rfl := Option.some.inj h
  exact wp_ret (rBlock (rThen (rThen (rBlock (rBlock (rThen (rThen (rBlock (rThen (sRet (.bool false) S (rsl1 rfl (rvT (t := 10) (v := .bool false) S rfl)) ⟨(), rfl, S.mem.sel [] [] (by decide) rfl rfl⟩))))))))))

end Go.Proofs.Ythfifeabomdlpaa
namespace Go.Proofs.Ythfifeabomdlpaa
open Go.RowKit
set_option linter.unusedVariables false

theorem law_BlockJoins' (ha : F_raddlelaw13_alive = some true) (g : api_Grid) (w h : Int) (x y : api_Grid) (wg : wf_api_Grid g) (ww : InK .i64 w) (wh : InK .i64 h) (wx : wf_api_Grid x) (wy : wf_api_Grid y) : F_raddlelaw13_BlockJoins g w h x y = some true := by
  unfold F_raddlelaw13_BlockJoins
  rw [ha]
  by_cases g1 : gerr g = 0
  case neg => simp only [Option.bind_some, fit_no g1, Bool.not_false, if_true]
  obtain ⟨W, H, G⟩ := gerr_zero g1
  by_cases g2 : gerr x = 0
  case neg => simp only [Option.bind_some, fit_gr G, fit_no g2, Bool.not_true, Bool.not_false, Bool.false_eq_true, if_false, if_true]
  obtain ⟨xw, xh, X⟩ := gerr_zero g2
  by_cases g3 : gerr y = 0
  case neg => simp only [Option.bind_some, fit_gr G, fit_gr X, fit_no g3, Bool.not_true, Bool.not_false, Bool.false_eq_true, if_false, if_true]
  obtain ⟨yw, yh, Y⟩ := gerr_zero g3
  have hgl := G.bits
  simp only [Option.bind_some, fit_gr G, fit_gr X, fit_gr Y, Bool.not_true, Bool.false_eq_true, if_false, prof_eq]
  refine Option.bind_eq_some_iff.2 ⟨Sum.inl (), ?_, ?_⟩
  · by_cases he : (profS g x y).2 = 0
    · have hf := fill_prof (p := (profS g x y).1) (show profS g x y = ((profS g x y).1, 0) by rw [← he])
      simp only [bT he, if_true, fill_eq, hf, bne_self_eq_false, Bool.false_eq_true, if_false, rsame_grid g g (by omega), decide_true, Bool.not_true, Option.bind_some]
    · simp only [bF he, Bool.false_eq_true, if_false]
  simp only [units_eq, Option.bind_some]
  by_cases hc : 1 ≤ w ∧ 1 ≤ h ∧ g.W % w = 0 ∧ g.H % h = 0
  case neg =>
    have hu : unitsS g w h = ([], [], 26) := by unfold unitsS; rw [if_pos g1, if_neg hc]
    rw [hu]
    rfl
  obtain ⟨a, b, n, m, rfl, rfl, a0, b0, eW, eH, dn, dm, n0, m0, n1, m1, a1, b1⟩ := units_dims G hc.1 hc.2.1 hc.2.2.1 hc.2.2.2
  have hu : unitsS g (a : Int) (b : Int) = ((ust g (n * a) a b n (m * n)).1, (ust g (n * a) a b n (m * n)).2, 0) := by
    unfold unitsS
    rw [if_pos g1, if_pos hc, G.W, G.H, Int.toNat_natCast, Int.toNat_natCast, dn, dm, ← eW]
  have q1 : quoI g.W (if (a : Int) < 1 then 1 else (a : Int)) = some (n : Int) := by
    have := G.w1
    rw [if_neg (by omega), G.hw, quo_nat (by omega) (by omega), dn]
  rw [eW, eH] at G
  have hj := join_units G a0 b0 n0 m0 a1 b1
  have hN : m * n ≤ 64 * 64 := Nat.mul_le_mul m1 n1
  obtain ⟨hl1, hl2⟩ := ust_len g (n * a) a b n (m * n)
  have hjq := join_eq (ust g (n * a) a b n (m * n)).1 (ust g (n * a) a b n (m * n)).2 (n : Int) (by omega) (by omega)
  rw [hj] at hjq
  have hgr := ust_gr (g := g) (W := n * a) (n := n) a0 a1 b0 b1 (m * n)
  have hbits : ∀ u, u ∈ (ust g (n * a) a b n (m * n)).1 → u.Bits.length ≤ 9223372036854775807 := fun u hu => by have := (hgr u hu).bits; omega
  have hnd := ust_nodup g (n * a) a b n (m * n)
  have hat : ∀ k, k < m * n → idxO (ust g (n * a) a b n (m * n)).2 (k : Int) = some ((uv g (n * a) a b n k : Nat) : Int) := by
    intro k hk
    rw [ust_at, idxO_nat (by simp; exact hk)]
    simp
  have hlt : ∀ k, k < m * n → uv g (n * a) a b n k < (ust g (n * a) a b n (m * n)).1.length := fun k hk => (uv_lt hk).1
  have ho1 : whileO (raddlelaw13_BlockJoins_l1 (unitsS g (a : Int) (b : Int))) (0, 0) = some (.inr ((ust g (n * a) a b n (m * n)).1.length : Int)) := by
    have hh := loop_seq (B := raddlelaw13_BlockJoins_l1 (unitsS g (a : Int) (b : Int))) (fun k => (((ust g (n * a) a b n k).1.length : Int), (k : Int))) (m * n) (t := .inr ((ust g (n * a) a b n (m * n)).1.length : Int))
      (fun k hk => by
        have c1 := uv_le g (n * a) a b n k
        have c2 := hlt k hk
        have c3 := (ust_len g (n * a) a b n k).1
        have c4 := ust_next g (n * a) a b n k
        unfold raddlelaw13_BlockJoins_l1
        simp only [hu, hl2, dT (show (k : Int) < ((m * n : Nat) : Int) by omega), if_true, hat k hk, Option.bind_some, dF (show ¬ ((uv g (n * a) a b n k : Nat) : Int) < 0 by omega), dF (show ¬ ((ust g (n * a) a b n k).1.length : Int) < ((uv g (n * a) a b n k : Nat) : Int) by omega), dF (show ¬ ((ust g (n * a) a b n (m * n)).1.length : Int) ≤ ((uv g (n * a) a b n k : Nat) : Int) by omega), Bool.false_eq_true, if_false, w64_succ (show k < 9223372036854775807 by omega), w64_succ (show (ust g (n * a) a b n k).1.length < 9223372036854775807 by omega)]
        by_cases e : uv g (n * a) a b n k = (ust g (n * a) a b n k).1.length
        · rw [if_pos e] at c4
          simp only [bT (show ((uv g (n * a) a b n k : Nat) : Int) = ((ust g (n * a) a b n k).1.length : Int) by omega), if_true, Option.bind_some, c4]
        · rw [if_neg e] at c4
          simp only [bF (show ¬ ((uv g (n * a) a b n k : Nat) : Int) = ((ust g (n * a) a b n k).1.length : Int) by omega), Bool.false_eq_true, if_false, Option.bind_some, c4])
      (by
        unfold raddlelaw13_BlockJoins_l1
        simp only [hu, hl2, dF (show ¬ ((m * n : Nat) : Int) < ((m * n : Nat) : Int) by omega), Bool.false_eq_true, if_false])
    exact hh
  have ho3 : whileO (raddlelaw13_BlockJoins_l3 (unitsS g (a : Int) (b : Int))) 0 = some (.inr ()) := by
    refine loop_same (ust g (n * a) a b n (m * n)).1.length _ (fun i hi => ?_) ?_
    · have hin : whileO (raddlelaw13_BlockJoins_l2 (i : Int) (unitsS g (a : Int) (b : Int))) 0 = some (.inr ()) := by
        refine loop_same i _ (fun k hk => ?_) ?_
        · have hne : ¬ (ust g (n * a) a b n (m * n)).1[i] = (ust g (n * a) a b n (m * n)).1[k]'(by omega) := fun e => List.pairwise_iff_getElem.1 hnd k i (by omega) hi hk e.symm
          unfold raddlelaw13_BlockJoins_l2
          simp only [hu, dT (show (k : Int) < (i : Int) by omega), if_true, idxO_nat hi, idxO_nat (xs := (ust g (n * a) a b n (m * n)).1) (k := k) (by omega), Option.bind_some, rsame_grid _ _ (hbits _ (List.getElem_mem hi)), dF hne, Bool.false_eq_true, if_false, w64_succ (show k < 9223372036854775807 by omega)]
        · unfold raddlelaw13_BlockJoins_l2
          simp only [dF (show ¬ (i : Int) < (i : Int) by omega), Bool.false_eq_true, if_false]
      rw [hu] at hin
      unfold raddlelaw13_BlockJoins_l3
      simp only [hu, hin, dT (show (i : Int) < ((ust g (n * a) a b n (m * n)).1.length : Int) by omega), if_true, Option.bind_some, w64_succ (show i < 9223372036854775807 by omega)]
    · unfold raddlelaw13_BlockJoins_l3
      simp only [hu, dF (show ¬ ((ust g (n * a) a b n (m * n)).1.length : Int) < ((ust g (n * a) a b n (m * n)).1.length : Int) by omega), Bool.false_eq_true, if_false]
  rw [ho1, ho3, q1, hu]
  simp only [bne_self_eq_false, Bool.false_eq_true, if_false, Option.bind_some, hjq, rsame_grid g g (by omega), decide_true, Bool.not_true, if_true, beq_self_eq_true]

end Go.Proofs.Ythfifeabomdlpaa
namespace Go.Proofs.Ythfifeabomdlpaa
open Go.RowKit
set_option linter.unusedVariables false

theorem law_BlockJoins (g : api_Grid) (w h : Int) (x y : api_Grid) (wg : wf_api_Grid g) (ww : InK .i64 w) (wh : InK .i64 h) (wx : wf_api_Grid x) (wy : wf_api_Grid y) : F_raddlelaw13_BlockJoins g w h x y = some true := law_BlockJoins' k_raddlelaw13_alive g w h x y wg ww wh wx wy

end Go.Proofs.Ythfifeabomdlpaa
namespace Go.Proofs.Ythfifeabomdlpaa
open Go.RowKit
set_option linter.unusedVariables false

namespace frameBlockJoins
open Go.ChangeShapes Go.WideShapes Go.ChangeAt Go.Joins
theorem own : ownKnob Try.prog.godebug = none := by kernel_rfl
theorem laidOut : laidOutB Try.prog = true := by kernel_rfl
set_option maxRecDepth 100000 in
theorem lifted (os : Os) (started : os.Started) (H : Type) (enc : TypeId × Value → H) :
    ReturnsInHanded {} Try.checked os 9 .any (Rows.blockJoinsSpec.pre6 enc Try.prog Try.f9 Rows.blockJoinsRow.domain false) (Rows.blockJoinsSpec.post enc Try.prog Try.f9 false true false false) := by
  refine returnsInHanded_of_change (C := Try.checked) own started (by kernel_rfl) Try.func9
    (ChangeSpec.witness6 (enc := enc) (C := Try.checked) false ⟨#[], #[.agg #[iv 0, iv 0, .slice none 0 0], .int .i64 0, .int .i64 0, .agg #[iv 0, iv 0, .slice none 0 0], .agg #[iv 0, iv 0, .slice none 0 0]], []⟩ 8 (by kernel_rfl) (by kernel_rfl) (by kernel_rfl) (by kernel_rfl)) ?_
  intro W base args ds gs before hval0 hW hcnd _
  have hval : ∀ (j : Nat) t v, Try.f9.params[j]? = some t → args[j]? = some v → Value.okWide Try.prog W .any base t v := hval0
  have hW' := hW
  obtain ⟨p, q, hA0, hV, rfl, hfz, hnd⟩ := hW
  have hA : DataW.TrodAll enc Try.prog W 0 (fun _ => true) true Try.f9.params.toList args.toList ds p := hA0
  rw [Try.params9] at hA hval
  obtain ⟨v0, vs0, d0, ds0, p0, q0, hargs, rfl, rfl, h0, r0⟩ := trodAll_cons hA
  obtain ⟨v1, vs1, d1, ds1, p1, q1, rfl, rfl, rfl, h1, r1⟩ := trodAll_cons r0
  obtain ⟨v2, vs2, d2, ds2, p2, q2, rfl, rfl, rfl, h2, r2⟩ := trodAll_cons r1
  obtain ⟨v3, vs3, d3, ds3, p3, q3, rfl, rfl, rfl, h3, r3⟩ := trodAll_cons r2
  obtain ⟨v4, vs4, d4, ds4, p4, q4, rfl, rfl, rfl, h4, r4⟩ := trodAll_cons r3
  obtain ⟨rfl, rfl, rfl⟩ := trodAll_nil r4
  obtain rfl : args = #[v0, v1, v2, v3, v4] := by cases args; simp_all
  obtain ⟨rfl, rfl⟩ := trodVars_none hV
  have k0 := h0
  have lt0 : ∀ x ∈ p0, x.block < W.heap.size := by obtain ⟨m, hm⟩ := k0; exact DataW.trod_lt m _ _ _ hm
  have k1 := h1
  have lt1 : ∀ x ∈ p1, x.block < W.heap.size := by obtain ⟨m, hm⟩ := k1; exact DataW.trod_lt m _ _ _ hm
  have k2 := h2
  have lt2 : ∀ x ∈ p2, x.block < W.heap.size := by obtain ⟨m, hm⟩ := k2; exact DataW.trod_lt m _ _ _ hm
  have k3 := h3
  have lt3 : ∀ x ∈ p3, x.block < W.heap.size := by obtain ⟨m, hm⟩ := k3; exact DataW.trod_lt m _ _ _ hm
  have k4 := h4
  have lt4 : ∀ x ∈ p4, x.block < W.heap.size := by obtain ⟨m, hm⟩ := k4; exact DataW.trod_lt m _ _ _ hm
  obtain ⟨x0, rep0, wf0⟩ := top_agg Try.underlying24 aggr_api_Grid op_api_Grid (hval 0 _ v0 rfl rfl) h0
  obtain ⟨x1, rfl, rfl, rfl, wf1⟩ := open_int Try.underlying3 (hval 1 _ v1 rfl rfl) h1
  obtain ⟨x2, rfl, rfl, rfl, wf2⟩ := open_int Try.underlying3 (hval 2 _ v2 rfl rfl) h2
  obtain ⟨x3, rep3, wf3⟩ := top_agg Try.underlying24 aggr_api_Grid op_api_Grid (hval 3 _ v3 rfl rfl) h3
  obtain ⟨x4, rep4, wf4⟩ := top_agg Try.underlying24 aggr_api_Grid op_api_Grid (hval 4 _ v4 rfl rfl) h4
  clear hA0 hval0
  refine (c_raddlelaw13_BlockJoins (fun _ => False) W x0 v0 x1 x2 x3 v3 x4 v4 true (law_BlockJoins x0 x1 x2 x3 x4 wf0 wf1 wf2 wf3 wf4) (St0.start (by intro d hd; simp only [List.mem_cons, List.not_mem_nil, or_false] at hd; rcases hd with rfl | rfl | rfl; exact rep0; exact rep3; exact rep4))).mono fun e W' hr => ?_
  obtain ⟨_, he, hS⟩ := hr
  have bel := hS.chg.below
  subst he
  exact ⟨_, rfl, _, _, _, [], _, [], hW', trodAll_mk1 (shut_bool Try.underlying4 _), (trodAll_cons_mk (Below.trod laidOut (by kernel_rfl) (of_decide_eq_true (by kernel_rfl)) k0 bel lt0) (trodAll_cons_mk (Below.trod laidOut (by kernel_rfl) (of_decide_eq_true (by kernel_rfl)) k1 bel lt1) (trodAll_cons_mk (Below.trod laidOut (by kernel_rfl) (of_decide_eq_true (by kernel_rfl)) k2 bel lt2) (trodAll_cons_mk (Below.trod laidOut (by kernel_rfl) (of_decide_eq_true (by kernel_rfl)) k3 bel lt3) (trodAll_cons_mk (Below.trod laidOut (by kernel_rfl) (of_decide_eq_true (by kernel_rfl)) k4 bel lt4) trodAll_mk0))))), rfl, bel.frame _, fun h => by cases h⟩
theorem over : Rows.blockJoinsRow.holds Try.pinned (OpenSpec.ofChange Rows.blockJoinsSpec) :=
  OpenClaim.holds_of_wide 9 Try.f9 rfl rfl rfl rfl rfl rfl rfl ⟨rfl, rfl, rfl, rfl, rfl⟩ rfl rfl rfl rfl rfl (by kernel_rfl) Try.func9 (by kernel_rfl)
    (of_decide_eq_true (by kernel_rfl)) (by unfold Func.isWrapper; first | (rw [if_pos (by decide +kernel)]; kernel_rfl) | (rw [if_neg (by decide +kernel)]; exact ⟨rfl, rfl⟩))
    (fun os started H enc _ => lifted os started H enc)
end frameBlockJoins
theorem blockJoins_holds : Rows.BlockJoinsSaid := frameBlockJoins.over

end Go.Proofs.Ythfifeabomdlpaa
