/- Several texts in one: G15 PlP PlS PlU PlUo PlC PlCr G22 G23 PlSu -/
import Derived.WalkKit
import Derived.Maps.AppendAt
import Derived.Deep.AppendLies
import Derived.KernelRfl
import Derived.Laws.OwnMore
import Derived.Great.BuildSlice
import Derived.Orders
import Derived.Laws.StructEq
import Derived.ChangeKeysEq
import Derived.Defers
import Derived.Laws.BytesString
import Derived.RangeFuncNested
import Derived.RangeFuncBound
import Derived.RangeFuncCalls
import Derived.RangeFuncLeaves
import Derived.OrdersIn
import Derived.LoopNIn
import Derived.Test.YtmedbnjhgkcndaaDoorProg
import Derived.ProofKit
import Derived.OpenShut
import Derived.ChangeOld
import Derived.Deep.Slices
import Derived.Lib.SmallJoins
import Derived.JoinedOf
import Derived.JoinedAt
import Derived.Below
import Derived.Shelf.Strings.Builder1
import Derived.Shelf.Strings.Builder2
import Derived.Shelf.Strings.OnBuilder
import Derived.Test.YtmedbnjhgkcndaaDoorRows
import Derived.LaidMore
import Derived.SevenTiedAt
import Derived.Test.YtmedbnjhgkcndaaDoorCards
import Derived.Test.YtmedbnjhgkcndaaDoorTie
import Derived.Test.YtmedbnjhgkcndaaDoorMPieceWidths5
namespace Go.Proofs.YtmedbnjhgkcndaaDoor
open Go.RowKit
set_option linter.unusedVariables false

def anc_raddleref37_Great_0 : List (List Nat) := [[], [0], [], [0, 1, 2], [0, 1, 2, 3], [], [5], [], [5, 6, 7], [5, 6, 7, 8], [0, 1, 2, 3, 4, 5, 6, 7, 8, 9], [0, 1, 2, 3, 4, 5, 6, 7, 8, 9, 10], [0, 1, 2, 3, 4, 5, 6, 7, 8, 9, 10, 11], [0, 1, 2, 3, 4, 5, 6, 7, 8, 9, 10, 11, 12], [0, 1, 2, 3, 4, 5, 6, 7, 8, 9, 10, 11, 12, 13], [0, 1, 2, 3, 4, 5, 6, 7, 8, 9, 10, 11, 12], [0, 1, 2, 3, 4, 5, 6, 7, 8, 9, 10, 11, 12, 13, 14, 15], [0, 1, 2, 3, 4, 5, 6, 7, 8, 9, 10, 11, 12, 13, 14, 15, 16], [0, 1, 2, 3, 4, 5, 6, 7, 8, 9, 10, 11, 12], [0, 1, 2, 3, 4, 5, 6, 7, 8, 9, 10, 11, 12, 18], [0, 1, 2, 3, 4, 5, 6, 7, 8, 9, 10, 11, 12], [0, 1, 2, 3, 4, 5, 6, 7, 8, 9, 10, 11, 12, 18, 19, 20], [0, 1, 2, 3, 4, 5, 6, 7, 8, 9, 10, 11, 12, 18, 19, 20, 21], [0, 1, 2, 3, 4, 5, 6, 7, 8, 9, 10, 11, 12, 13, 14, 15, 16, 17, 18, 19, 20, 21, 22], [0, 1, 2, 3, 4, 5, 6, 7, 8, 9, 10, 11, 12, 13, 14, 15, 16, 17, 18, 19, 20, 21, 22, 23], [0, 1, 2, 3, 4, 5, 6, 7, 8, 9, 10, 11, 12, 13, 14, 15, 16, 17, 18, 19, 20, 21, 22, 23, 24]]
noncomputable def raddleref37_Great_l1 (p0 : api_Piece) : Int → Option (Int ⊕ (Bool ⊕ Unit)) := fun s0 => match s0 with
  | s14 =>
    Option.bind (α := Bool) (
      if decide (s14 < (p0.Left.length : Int)) then
        some (decide (s14 < (p0.Right.length : Int)))
      else
        some false) fun o19 =>
    if o19 then
      Option.bind (α := Bool) (
        Option.bind (idxO p0.Right s14) fun x28 =>
        Option.bind (idxO p0.Left s14) fun x33 =>
        if decide (40 < (w64 (x28 - x33))) then
          some (decide ((w64 (x28 - x33)) ≤ 200))
        else
          some false) fun o25 =>
      if o25 then
        some (.inr (.inl true))
      else
        some (.inl (w64 (s14 + 1)))
    else
      some (.inr (.inr ()))
noncomputable def F_raddleref37_Great (p0 : api_Piece) : Option Bool :=
  Option.bind (α := Unit ⊕ Bool) (
    Option.bind (whileO (raddleref37_Great_l1 p0) 0) fun z0 => match z0 with
      | .inl z =>
        some (.inr z)
      | .inr _ =>
        some (.inl ())) fun z0 => match z0 with
    | .inl _ =>
      Option.bind (α := Bool) (
        if decide (20 < (p0.Left.length : Int)) then
          if decide ((p0.Left.length : Int) ≤ 100) then
            some true
          else
            if decide (110 < (p0.Left.length : Int)) then
              some true
            else
              some (decide (110 < (p0.Right.length : Int)))
        else
          if decide (110 < (p0.Left.length : Int)) then
            some true
          else
            some (decide (110 < (p0.Right.length : Int)))) fun o65 =>
      some o65
    | .inr z =>
      some z
set_option maxHeartbeats 4000000 in
set_option maxRecDepth 100000 in
theorem c_raddleref37_Great (E : Nat → Prop) (w0 : World) (p0 : api_Piece) (v0 : Value) (r : Bool) (h : F_raddleref37_Great p0 = some r) (S : St0 E [] w0 w0 [] [fRep r_api_Piece (v0) p0]) :
    Calls Tryd.prog 15 #[v0] w0 (Ret (X := Unit) E [] w0 (fun _ => .bool r) (fun _ => []) (fun _ => [])) := by
  unfold F_raddleref37_Great at h
  obtain ⟨u1, u2, rfl, hu3, hu4⟩ := S.know (i := 0) (e := fRep r_api_Piece (v0) p0) rfl
  have S := S.learn (fRep (rL (rI .i64)) u1 p0.Left) hu3
  obtain ⟨ad5, cp6, _, rfl, _⟩ := hu3
  have S := S.learn (fRep (rL (rI .i64)) u2 p0.Right) hu4
  obtain ⟨ad7, cp8, _, rfl, _⟩ := hu4
  refine sEnter (args := [.agg #[.slice ad5 p0.Left.length cp6, .slice ad7 p0.Right.length cp8]]) 66 Tryd.func15 rfl rfl (by simp) S (fun a S => ?_)
  refine sSeq (fun K9 hK9 => ?_)
  refine sRegion ?_
  refine sBox (v := .agg #[.slice ad5 p0.Left.length cp6, .slice ad7 p0.Right.length cp8]) S (wN rfl) rfl rfl [.slice ad5 p0.Left.length cp6, .slice ad7 p0.Right.length cp8] rfl rfl (lb rfl) fun a b10 w S => ?_
  refine sMove (.bool false) S (wN rfl) (.inr rfl) rfl rfl (lb rfl) fun a S => ?_
  refine leafL (leafT (hK9 _ _ ?_))
  obtain ⟨t11, h, g12⟩ := bindSome h
  refine sCut (fun a w => .inl () = t11 ∧ St [] E [] w0 66 a w [(1, .pointer (some ⟨b10, 0, none⟩))] [eBox b10 30 [.slice ad5 p0.Left.length cp6, .slice ad7 p0.Right.length cp8]] [fRep (rL (rI .i64)) (.slice ad5 p0.Left.length cp6) p0.Left, fRep (rL (rI .i64)) (.slice ad7 p0.Right.length cp8) p0.Right]) ?_ (fun a w hI => ?_)
  rotate_left
  · obtain ⟨rfl, S⟩ := hI
    have h := g12
    clear g12
    try dsimp only at h
    obtain ⟨t66, h, g67⟩ := bindSome h
    refine sCut (fun a w => ∃ o65, o65 = t66 ∧ St [] E [] w0 66 a w [(2, .bool o65)] [] []) ?_ (fun a w hI => ?_)
    rotate_left
    · obtain ⟨o65, rfl, S⟩ := hI
      have h := g67
      clear g67
      try dsimp only at h
      obtain rfl := Option.some.inj h
      exact wp_ret (sRet (.bool o65) S (rsl1 rfl (rvT (t := 2) (v := .bool o65) S rfl)) ⟨(), rfl, S.mem.sel [] [] (by decide) rfl rfl⟩)
    refine sRegion ?_
    refine sField (b := b10) (off := 0) 0 0 S (wN rfl) rfl rfl rfl rfl rfl (lb rfl) fun a S => ?_
    refine sLoad1 (p := b10) (off := 0) (T := 30) (vs := [.slice ad5 p0.Left.length cp6, .slice ad7 p0.Right.length cp8]) 0 (.slice ad5 p0.Left.length cp6) S (wN rfl) rfl rfl rfl rfl rfl rfl (lb rfl) fun a S => ?_
    refine sLen (ad := ad5) (m := p0.Left.length) (c := cp6) S (wN rfl) rfl Tryd.underlying28 rfl rfl (lb rfl) fun a S => ?_
    refine sBin (.bool (decide (20 < (p0.Left.length : Int)))) S (wN rfl) rfl rfl rfl (bGt _ _ _ _ .i64 (p0.Left.length : Int) 20) rfl (lb rfl) fun a S => ?_
    refine sMove (.bool (decide (20 < (p0.Left.length : Int)))) S (wN rfl) (.inl rfl) rfl rfl (lb rfl) fun a S => ?_
    rcases iteSome h with ⟨hc68, h⟩ | ⟨hc68, h⟩
    rotate_left
    · refine sSkip 4 true 48 49 S rfl rfl rfl hc68 rfl (lb rfl) fun a S => ?_
      refine sSkip 4 true 48 50 S rfl rfl rfl hc68 rfl (lb rfl) fun a S => ?_
      refine sSkip 4 true 48 51 S rfl rfl rfl hc68 rfl (lb rfl) fun a S => ?_
      refine sSkip 4 true 48 52 S rfl rfl rfl hc68 rfl (lb rfl) fun a S => ?_
      refine sPickF (.bool false) S (wN rfl) rfl rfl hc68 rfl rfl (lb rfl) fun a S => ?_
      refine sMove (.bool false) S (wN rfl) (.inl rfl) rfl rfl (lb rfl) fun a S => ?_
      refine sField (b := b10) (off := 0) 0 0 S (wG 10 false 54 rfl rfl rfl rfl) rfl rfl rfl rfl rfl (lb rfl) fun a S => ?_
      refine sLoad1 (p := b10) (off := 0) (T := 30) (vs := [.slice ad5 p0.Left.length cp6, .slice ad7 p0.Right.length cp8]) 0 (.slice ad5 p0.Left.length cp6) S (wG 10 false 54 rfl rfl rfl rfl) rfl rfl rfl rfl rfl rfl (lb rfl) fun a S => ?_
      refine sLen (ad := ad5) (m := p0.Left.length) (c := cp6) S (wG 10 false 54 rfl rfl rfl rfl) rfl Tryd.underlying28 rfl rfl (lb rfl) fun a S => ?_
      refine sBin (.bool (decide (110 < (p0.Left.length : Int)))) S (wG 10 false 54 rfl rfl rfl rfl) rfl rfl rfl (bGt _ _ _ _ .i64 (p0.Left.length : Int) 110) rfl (lb rfl) fun a S => ?_
      refine sPickF (.bool (decide (110 < (p0.Left.length : Int)))) S (wN rfl) rfl rfl rfl rfl rfl (lb rfl) fun a S => ?_
      refine sMove (.bool (decide (110 < (p0.Left.length : Int)))) S (wN rfl) (.inl rfl) rfl rfl (lb rfl) fun a S => ?_
      rcases iteSome h with ⟨hc71, h⟩ | ⟨hc71, h⟩
      · refine sSkip 16 false 60 61 S rfl rfl rfl hc71 rfl (lb rfl) fun a S => ?_
        refine sSkip 16 false 60 62 S rfl rfl rfl hc71 rfl (lb rfl) fun a S => ?_
        refine sSkip 16 false 60 63 S rfl rfl rfl hc71 rfl (lb rfl) fun a S => ?_
        refine sSkip 16 false 60 64 S rfl rfl rfl hc71 rfl (lb rfl) fun a S => ?_
        refine sPickT (.bool true) S (wN rfl) rfl rfl hc71 rfl rfl (lb rfl) fun a S => ?_
        refine sMove (.bool true) S (wN rfl) (.inr rfl) rfl rfl (lb rfl) fun a S => ?_
        exact leafL (leafT (⟨true, Option.some.inj h, S.fix [] [] (by decide) rfl rfl rfl⟩))
      refine sField (b := b10) (off := 0) 1 1 S (wG 16 false 60 rfl rfl rfl hc71) rfl rfl rfl rfl rfl (lb rfl) fun a S => ?_
      refine sLoad1 (p := b10) (off := 1) (T := 30) (vs := [.slice ad5 p0.Left.length cp6, .slice ad7 p0.Right.length cp8]) 0 (.slice ad7 p0.Right.length cp8) S (wG 16 false 60 rfl rfl rfl hc71) rfl rfl rfl rfl rfl rfl (lb rfl) fun a S => ?_
      refine sLen (ad := ad7) (m := p0.Right.length) (c := cp8) S (wG 16 false 60 rfl rfl rfl hc71) rfl Tryd.underlying28 rfl rfl (lb rfl) fun a S => ?_
      refine sBin (.bool (decide (110 < (p0.Right.length : Int)))) S (wG 16 false 60 rfl rfl rfl hc71) rfl rfl rfl (bGt _ _ _ _ .i64 (p0.Right.length : Int) 110) rfl (lb rfl) fun a S => ?_
      refine sPickF (.bool (decide (110 < (p0.Right.length : Int)))) S (wN rfl) rfl rfl hc71 rfl rfl (lb rfl) fun a S => ?_
      refine sMove (.bool (decide (110 < (p0.Right.length : Int)))) S (wN rfl) (.inr rfl) rfl rfl (lb rfl) fun a S => ?_
      exact leafL (leafT (⟨decide (110 < (p0.Right.length : Int)), Option.some.inj h, S.fix [] [] (by decide) rfl rfl rfl⟩))
    refine sField (b := b10) (off := 0) 0 0 S (wG 4 true 48 rfl rfl rfl hc68) rfl rfl rfl rfl rfl (lb rfl) fun a S => ?_
    refine sLoad1 (p := b10) (off := 0) (T := 30) (vs := [.slice ad5 p0.Left.length cp6, .slice ad7 p0.Right.length cp8]) 0 (.slice ad5 p0.Left.length cp6) S (wG 4 true 48 rfl rfl rfl hc68) rfl rfl rfl rfl rfl rfl (lb rfl) fun a S => ?_
    refine sLen (ad := ad5) (m := p0.Left.length) (c := cp6) S (wG 4 true 48 rfl rfl rfl hc68) rfl Tryd.underlying28 rfl rfl (lb rfl) fun a S => ?_
    refine sBin (.bool (decide ((p0.Left.length : Int) ≤ 100))) S (wG 4 true 48 rfl rfl rfl hc68) rfl rfl rfl (bLe _ _ _ _ .i64 (p0.Left.length : Int) 100) rfl (lb rfl) fun a S => ?_
    refine sPickT (.bool (decide ((p0.Left.length : Int) ≤ 100))) S (wN rfl) rfl rfl hc68 rfl rfl (lb rfl) fun a S => ?_
    refine sMove (.bool (decide ((p0.Left.length : Int) ≤ 100))) S (wN rfl) (.inl rfl) rfl rfl (lb rfl) fun a S => ?_
    rcases iteSome h with ⟨hc69, h⟩ | ⟨hc69, h⟩
    · refine sSkip 10 false 54 55 S rfl rfl rfl hc69 rfl (lb rfl) fun a S => ?_
      refine sSkip 10 false 54 56 S rfl rfl rfl hc69 rfl (lb rfl) fun a S => ?_
      refine sSkip 10 false 54 57 S rfl rfl rfl hc69 rfl (lb rfl) fun a S => ?_
      refine sSkip 10 false 54 58 S rfl rfl rfl hc69 rfl (lb rfl) fun a S => ?_
      refine sPickT (.bool true) S (wN rfl) rfl rfl hc69 rfl rfl (lb rfl) fun a S => ?_
      refine sMove (.bool true) S (wN rfl) (.inl rfl) rfl rfl (lb rfl) fun a S => ?_
      refine sSkip 16 false 60 61 S rfl rfl rfl rfl rfl (lb rfl) fun a S => ?_
      refine sSkip 16 false 60 62 S rfl rfl rfl rfl rfl (lb rfl) fun a S => ?_
      refine sSkip 16 false 60 63 S rfl rfl rfl rfl rfl (lb rfl) fun a S => ?_
      refine sSkip 16 false 60 64 S rfl rfl rfl rfl rfl (lb rfl) fun a S => ?_
      refine sPickT (.bool true) S (wN rfl) rfl rfl rfl rfl rfl (lb rfl) fun a S => ?_
      refine sMove (.bool true) S (wN rfl) (.inr rfl) rfl rfl (lb rfl) fun a S => ?_
      exact leafL (leafT (⟨true, Option.some.inj h, S.fix [] [] (by decide) rfl rfl rfl⟩))
    refine sField (b := b10) (off := 0) 0 0 S (wG 10 false 54 rfl rfl rfl hc69) rfl rfl rfl rfl rfl (lb rfl) fun a S => ?_
    refine sLoad1 (p := b10) (off := 0) (T := 30) (vs := [.slice ad5 p0.Left.length cp6, .slice ad7 p0.Right.length cp8]) 0 (.slice ad5 p0.Left.length cp6) S (wG 10 false 54 rfl rfl rfl hc69) rfl rfl rfl rfl rfl rfl (lb rfl) fun a S => ?_
    refine sLen (ad := ad5) (m := p0.Left.length) (c := cp6) S (wG 10 false 54 rfl rfl rfl hc69) rfl Tryd.underlying28 rfl rfl (lb rfl) fun a S => ?_
    refine sBin (.bool (decide (110 < (p0.Left.length : Int)))) S (wG 10 false 54 rfl rfl rfl hc69) rfl rfl rfl (bGt _ _ _ _ .i64 (p0.Left.length : Int) 110) rfl (lb rfl) fun a S => ?_
    refine sPickF (.bool (decide (110 < (p0.Left.length : Int)))) S (wN rfl) rfl rfl hc69 rfl rfl (lb rfl) fun a S => ?_
    refine sMove (.bool (decide (110 < (p0.Left.length : Int)))) S (wN rfl) (.inl rfl) rfl rfl (lb rfl) fun a S => ?_
    rcases iteSome h with ⟨hc70, h⟩ | ⟨hc70, h⟩
    · refine sSkip 16 false 60 61 S rfl rfl rfl hc70 rfl (lb rfl) fun a S => ?_
      refine sSkip 16 false 60 62 S rfl rfl rfl hc70 rfl (lb rfl) fun a S => ?_
      refine sSkip 16 false 60 63 S rfl rfl rfl hc70 rfl (lb rfl) fun a S => ?_
      refine sSkip 16 false 60 64 S rfl rfl rfl hc70 rfl (lb rfl) fun a S => ?_
      refine sPickT (.bool true) S (wN rfl) rfl rfl hc70 rfl rfl (lb rfl) fun a S => ?_
      refine sMove (.bool true) S (wN rfl) (.inr rfl) rfl rfl (lb rfl) fun a S => ?_
      exact leafL (leafT (⟨true, Option.some.inj h, S.fix [] [] (by decide) rfl rfl rfl⟩))
    refine sField (b := b10) (off := 0) 1 1 S (wG 16 false 60 rfl rfl rfl hc70) rfl rfl rfl rfl rfl (lb rfl) fun a S => ?_
    refine sLoad1 (p := b10) (off := 1) (T := 30) (vs := [.slice ad5 p0.Left.length cp6, .slice ad7 p0.Right.length cp8]) 0 (.slice ad7 p0.Right.length cp8) S (wG 16 false 60 rfl rfl rfl hc70) rfl rfl rfl rfl rfl rfl (lb rfl) fun a S => ?_
    refine sLen (ad := ad7) (m := p0.Right.length) (c := cp8) S (wG 16 false 60 rfl rfl rfl hc70) rfl Tryd.underlying28 rfl rfl (lb rfl) fun a S => ?_
    refine sBin (.bool (decide (110 < (p0.Right.length : Int)))) S (wG 16 false 60 rfl rfl rfl hc70) rfl rfl rfl (bGt _ _ _ _ .i64 (p0.Right.length : Int) 110) rfl (lb rfl) fun a S => ?_
    refine sPickF (.bool (decide (110 < (p0.Right.length : Int)))) S (wN rfl) rfl rfl hc70 rfl rfl (lb rfl) fun a S => ?_
    refine sMove (.bool (decide (110 < (p0.Right.length : Int)))) S (wN rfl) (.inr rfl) rfl rfl (lb rfl) fun a S => ?_
    exact leafL (leafT (⟨decide (110 < (p0.Right.length : Int)), Option.some.inj h, S.fix [] [] (by decide) rfl rfl rfl⟩))
  refine sSeq (fun K13 hK13 => ?_)
  refine sRegion ?_
  refine sMove (iv 0) S (wN rfl) (.inr rfl) rfl rfl (lb rfl) fun a S => ?_
  refine leafL (leafT (hK13 _ _ ?_))
  refine wp_block ?_
  obtain ⟨t17, hl, g16⟩ := bindSome h
  refine sLoop hl (fun s0 a w => match s0 with | s14 => St [] E [] w0 66 a w [(1, .pointer (some ⟨b10, 0, none⟩)), (3, iv s14)] [eBox b10 30 [.slice ad5 p0.Left.length cp6, .slice ad7 p0.Right.length cp8]] [fRep (rL (rI .i64)) (.slice ad5 p0.Left.length cp6) p0.Left, fRep (rL (rI .i64)) (.slice ad7 p0.Right.length cp8) p0.Right]) (S.fix [0] [1, 0] (by decide) rfl rfl rfl) ?_
  clear hl h
  intro s14 a w c0 hI h hu15
  unfold raddleref37_Great_l1 at h
  dsimp only at h hI
  have S := hI
  refine sSeq (fun K18 hK18 => ?_)
  obtain ⟨t20, h, g21⟩ := bindSome h
  refine sCut (fun a w => ∃ o19, o19 = t20 ∧ St [] E [] w0 66 a w [(1, .pointer (some ⟨b10, 0, none⟩)), (3, iv s14), (15, .bool o19)] [eBox b10 30 [.slice ad5 p0.Left.length cp6, .slice ad7 p0.Right.length cp8]] [fRep (rL (rI .i64)) (.slice ad5 p0.Left.length cp6) p0.Left, fRep (rL (rI .i64)) (.slice ad7 p0.Right.length cp8) p0.Right]) ?_ (fun a w hI => ?_)
  · refine sRegion ?_
    refine sMove (iv s14) S (wN rfl) (.inl rfl) rfl rfl (lb rfl) fun a S => ?_
    refine sField (b := b10) (off := 0) 0 0 S (wN rfl) rfl rfl rfl rfl rfl (lb rfl) fun a S => ?_
    refine sLoad1 (p := b10) (off := 0) (T := 30) (vs := [.slice ad5 p0.Left.length cp6, .slice ad7 p0.Right.length cp8]) 0 (.slice ad5 p0.Left.length cp6) S (wN rfl) rfl rfl rfl rfl rfl rfl (lb rfl) fun a S => ?_
    refine sLen (ad := ad5) (m := p0.Left.length) (c := cp6) S (wN rfl) rfl Tryd.underlying28 rfl rfl (lb rfl) fun a S => ?_
    refine sBin (.bool (decide (s14 < (p0.Left.length : Int)))) S (wN rfl) rfl rfl rfl (bLt _ _ _ _ .i64 s14 (p0.Left.length : Int)) rfl (lb rfl) fun a S => ?_
    refine sMove (.bool (decide (s14 < (p0.Left.length : Int)))) S (wN rfl) (.inl rfl) rfl rfl (lb rfl) fun a S => ?_
    rcases iteSome h with ⟨hc22, h⟩ | ⟨hc22, h⟩
    rotate_left
    · refine sSkip 5 true 9 10 S rfl rfl rfl hc22 rfl (lb rfl) fun a S => ?_
      refine sSkip 5 true 9 11 S rfl rfl rfl hc22 rfl (lb rfl) fun a S => ?_
      refine sSkip 5 true 9 12 S rfl rfl rfl hc22 rfl (lb rfl) fun a S => ?_
      refine sSkip 5 true 9 13 S rfl rfl rfl hc22 rfl (lb rfl) fun a S => ?_
      refine sSkip 5 true 9 14 S rfl rfl rfl hc22 rfl (lb rfl) fun a S => ?_
      refine sPickF (.bool false) S (wN rfl) rfl rfl hc22 rfl rfl (lb rfl) fun a S => ?_
      exact leafL (leafT (⟨false, Option.some.inj h, S.fix [0] [0, 1] (by decide) rfl rfl rfl⟩))
    refine sMove (iv s14) S (wG 5 true 9 rfl rfl rfl hc22) (.inl rfl) rfl rfl (lb rfl) fun a S => ?_
    refine sField (b := b10) (off := 0) 1 1 S (wG 5 true 9 rfl rfl rfl hc22) rfl rfl rfl rfl rfl (lb rfl) fun a S => ?_
    refine sLoad1 (p := b10) (off := 1) (T := 30) (vs := [.slice ad5 p0.Left.length cp6, .slice ad7 p0.Right.length cp8]) 0 (.slice ad7 p0.Right.length cp8) S (wG 5 true 9 rfl rfl rfl hc22) rfl rfl rfl rfl rfl rfl (lb rfl) fun a S => ?_
    refine sLen (ad := ad7) (m := p0.Right.length) (c := cp8) S (wG 5 true 9 rfl rfl rfl hc22) rfl Tryd.underlying28 rfl rfl (lb rfl) fun a S => ?_
    refine sBin (.bool (decide (s14 < (p0.Right.length : Int)))) S (wG 5 true 9 rfl rfl rfl hc22) rfl rfl rfl (bLt _ _ _ _ .i64 s14 (p0.Right.length : Int)) rfl (lb rfl) fun a S => ?_
    refine sPickT (.bool (decide (s14 < (p0.Right.length : Int)))) S (wN rfl) rfl rfl hc22 rfl rfl (lb rfl) fun a S => ?_
    exact leafL (leafT (⟨decide (s14 < (p0.Right.length : Int)), Option.some.inj h, S.fix [0] [0, 1] (by decide) rfl rfl rfl⟩))
  obtain ⟨o19, rfl, S⟩ := hI
  have h := g21
  clear g21
  try dsimp only at h
  rcases iteSome h with ⟨hc23, h⟩ | ⟨hc23, h⟩
  rotate_left
  · refine sCondF S rfl hc23 ?_
    obtain rfl := Option.some.inj h
    obtain rfl := hu15 _ rfl
    have h := g16
    clear g16
    try dsimp only at h
    exact wp_exit (xThen (xThen (xHit (leafT (⟨Option.some.inj h, S.fix [0] [0, 1] (by decide) rfl rfl rfl⟩)))))
  refine sCondT S rfl hc23 ?_
  refine wp_skip (leafT (hK18 _ _ ?_))
  refine sSeq (fun K24 hK24 => ?_)
  refine wp_block ?_
  obtain ⟨t26, h, g27⟩ := bindSome h
  refine sCut (fun a w => ∃ o25, o25 = t26 ∧ St [] E [] w0 66 a w [(1, .pointer (some ⟨b10, 0, none⟩)), (3, iv s14), (43, .bool o25)] [eBox b10 30 [.slice ad5 p0.Left.length cp6, .slice ad7 p0.Right.length cp8]] [fRep (rL (rI .i64)) (.slice ad5 p0.Left.length cp6) p0.Left, fRep (rL (rI .i64)) (.slice ad7 p0.Right.length cp8) p0.Right]) ?_ (fun a w hI => ?_)
  rotate_left
  · obtain ⟨o25, rfl, S⟩ := hI
    have h := g27
    clear g27
    try dsimp only at h
    rcases iteSome h with ⟨hc63, h⟩ | ⟨hc63, h⟩
    rotate_left
    · refine sCondF S rfl hc63 ?_
      refine wp_skip (leafB (leafT (hK24 _ _ ?_)))
      refine sRegion ?_
      refine sMove (iv s14) S (wN rfl) (.inl rfl) rfl rfl (lb rfl) fun a S => ?_
      refine sBin (iv (w64 (s14 + 1))) S (wN rfl) rfl rfl rfl (bAdd _ _ _ _ s14 1) rfl (lb rfl) fun a S => ?_
      refine sMove (iv (w64 (s14 + 1))) S (wN rfl) (.inr rfl) rfl rfl (lb rfl) fun a S => ?_
      exact leafL (leafT (⟨w64 (s14 + 1), (Option.some.inj h).symm, (S.fix [0] [0, 1] (by decide) rfl rfl rfl)⟩))
    refine sCondT S rfl hc63 ?_
    refine sSeq (fun K64 hK64 => ?_)
    refine sRegion ?_
    refine sMove (.bool true) S (wN rfl) (.inr rfl) rfl rfl (lb rfl) fun a S => ?_
    refine leafL (leafT (hK64 _ _ ?_))
    obtain rfl := Option.some.inj h
    obtain rfl := hu15 _ rfl
    have h := g16
    clear g16
    try dsimp only at h
    obtain rfl := Option.some.inj h
    have h := g12
    clear g12
    try dsimp only at h
    obtain rfl := Option.some.inj h
    exact wp_ret (rBlock (rThen (rThen (rBlock (rThen (sRet (.bool true) S (rsl1 rfl (rvT (t := 2) (v := .bool true) S rfl)) ⟨(), rfl, S.mem.sel [] [] (by decide) rfl rfl⟩))))))
  obtain ⟨x28, hx29, h⟩ := bindSome h
  obtain ⟨x33, hx34, h⟩ := bindSome h
  rcases iteSome h with ⟨hc38, h⟩ | ⟨hc38, h⟩
  rotate_left
  · obtain ⟨q57, hq58, S⟩ := pIdx (P := Tryd.prog) (r := (rI .i64)) (v := .slice ad7 p0.Right.length cp8) (xs := p0.Right) (j := s14) 28 3 1 S Tryd.underlying28 rfl rfl hx29
    obtain ⟨u59, S⟩ := pLoad (r := (rI .i64)) (q := q57) (x := x28) 0 S rfl
    obtain rfl : u59 = iv x28 := S.mem.know (i := 1) (e := fRep (rI .i64) (u59) x28) rfl
    obtain ⟨q60, hq61, S⟩ := pIdx (P := Tryd.prog) (r := (rI .i64)) (v := .slice ad5 p0.Left.length cp6) (xs := p0.Left) (j := s14) 28 3 3 S Tryd.underlying28 rfl rfl hx34
    obtain ⟨u62, S⟩ := pLoad (r := (rI .i64)) (q := q60) (x := x33) 0 S rfl
    obtain rfl : u62 = iv x33 := S.mem.know (i := 1) (e := fRep (rI .i64) (u62) x33) rfl
    refine sDraw (nf := []) (W := [(0, 18, .pointer (some ⟨b10, 1, none⟩)), (1, 19, .slice ad7 p0.Right.length cp8), (2, 20, iv s14), (3, 21, q57), (4, 22, iv x28), (5, 23, .pointer (some ⟨b10, 0, none⟩)), (6, 24, .slice ad5 p0.Left.length cp6), (7, 25, iv s14), (8, 26, q60), (9, 27, iv x33), (10, 28, iv (w64 (x28 - x33))), (11, 29, .bool (decide (40 < (w64 (x28 - x33))))), (12, 30, .bool (decide (40 < (w64 (x28 - x33))))), (13, 31, undef), (14, 32, undef), (15, 33, undef), (16, 34, undef), (17, 35, undef), (18, 36, undef), (19, 37, undef), (20, 38, undef), (21, 39, undef), (22, 40, undef), (23, 41, undef), (24, 42, undef), (25, 43, .bool false)]) rfl S ?_
    refine node_by (A := anc_raddleref37_Great_0) (nf := []) (Y := []) (W := [(0, 18, .pointer (some ⟨b10, 1, none⟩)), (1, 19, .slice ad7 p0.Right.length cp8), (2, 20, iv s14), (3, 21, q57), (4, 22, iv x28), (5, 23, .pointer (some ⟨b10, 0, none⟩)), (6, 24, .slice ad5 p0.Left.length cp6), (7, 25, iv s14), (8, 26, q60), (9, 27, iv x33), (10, 28, iv (w64 (x28 - x33))), (11, 29, .bool (decide (40 < (w64 (x28 - x33))))), (12, 30, .bool (decide (40 < (w64 (x28 - x33))))), (13, 31, undef), (14, 32, undef), (15, 33, undef), (16, 34, undef), (17, 35, undef), (18, 36, undef), (19, 37, undef), (20, 38, undef), (21, 39, undef), (22, 40, undef), (23, 41, undef), (24, 42, undef), (25, 43, .bool false)]) 26 (by kernel_rfl) (by kernel_rfl) (by kernel_rfl) (by kernel_rfl) (by kernel_rfl) [0, 1, 2, 3, 4, 5, 6, 7, 8, 9, 10, 11, 12, 13, 14, 15, 16, 17, 18, 19, 20, 21, 22, 23, 24, 25] (by kernel_rfl) (by decide) (by decide) (aF 0 25 (by decide) ?_ (aF 1 24 (by decide) ?_ (aF 2 23 (by decide) ?_ (aF 3 22 (by decide) ?_ (aF 4 21 (by decide) ?_ (aF 5 20 (by decide) ?_ (aF 6 19 (by decide) ?_ (aF 7 18 (by decide) ?_ (aF 8 17 (by decide) ?_ (aF 9 16 (by decide) ?_ (aF 10 15 (by decide) ?_ (aF 11 14 (by decide) ?_ (aF 12 13 (by decide) ?_ (aF 13 12 (by decide) ?_ (aF 14 11 (by decide) ?_ (aF 15 10 (by decide) ?_ (aF 16 9 (by decide) ?_ (aF 17 8 (by decide) ?_ (aF 18 7 (by decide) ?_ (aF 19 6 (by decide) ?_ (aF 20 5 (by decide) ?_ (aF 21 4 (by decide) ?_ (aF 22 3 (by decide) ?_ (aF 23 2 (by decide) ?_ (aF 24 1 (by decide) ?_ (aF 25 0 (by decide) ?_ (trivial))))))))))))))))))))))))))) [(1, .pointer (some ⟨b10, 0, none⟩)), (3, iv s14), (31, undef), (32, undef), (33, undef), (34, undef), (35, undef), (36, undef), (37, undef), (38, undef), (39, undef), (40, undef), (41, undef), (42, undef), (43, .bool false)] (fin_of [none, none, some 13, some 14, some 15, some 16, some 17, some 18, some 19, some 20, some 21, some 22, some 23, some 24, some 25] rfl (by kernel_rfl) (by kernel_rfl)) (fun _ a w S => ?_)
    · refine fI 18 (.pointer (some ⟨b10, 1, none⟩)) [(1, .pointer (some ⟨b10, 0, none⟩))] 0 [none] rfl rfl rfl rfl rfl rfl fun G a w S => ?_
      refine sField (b := b10) (off := 0) 1 1 S (wN rfl) rfl rfl rfl rfl rfl (lb rfl) fun a S => ?_
      exact leafL ⟨rfl, S⟩
    · refine fI 19 (.slice ad7 p0.Right.length cp8) [(18, .pointer (some ⟨b10, 1, none⟩))] 1 [some 0] rfl rfl rfl rfl rfl rfl fun G a w S => ?_
      refine sLoad1 (p := b10) (off := 1) (T := 30) (vs := [.slice ad5 p0.Left.length cp6, .slice ad7 p0.Right.length cp8]) 0 (.slice ad7 p0.Right.length cp8) S (wN rfl) rfl rfl rfl rfl rfl rfl (lb rfl) fun a S => ?_
      exact leafL ⟨rfl, S⟩
    · refine fI 20 (iv s14) [(3, iv s14)] 2 [none] rfl rfl rfl rfl rfl rfl fun G a w S => ?_
      refine sMove (iv s14) S (wN rfl) (.inl rfl) rfl rfl (lb rfl) fun a S => ?_
      exact leafL ⟨rfl, S⟩
    · refine fI 21 q57 [(19, .slice ad7 p0.Right.length cp8), (20, iv s14)] 3 [some 1, some 2] rfl rfl rfl rfl rfl rfl fun G a w S => ?_
      refine sIdxV (v := .slice ad7 p0.Right.length cp8) (k := .i64) (j := s14) S (wN rfl) rfl rfl rfl hq58 rfl (lb rfl) fun a S => ?_
      exact leafL ⟨rfl, S⟩
    · refine fI 22 (iv x28) [(21, q57)] 4 [some 3] rfl rfl rfl rfl rfl rfl fun G a w S => ?_
      refine sLoadV1 (vq := q57) 3 (iv x28) S (wN rfl) rfl rfl rfl rfl rfl (lb rfl) fun a S => ?_
      exact leafL ⟨rfl, S⟩
    · refine fI 23 (.pointer (some ⟨b10, 0, none⟩)) [(1, .pointer (some ⟨b10, 0, none⟩))] 5 [none] rfl rfl rfl rfl rfl rfl fun G a w S => ?_
      refine sField (b := b10) (off := 0) 0 0 S (wN rfl) rfl rfl rfl rfl rfl (lb rfl) fun a S => ?_
      exact leafL ⟨rfl, S⟩
    · refine fI 24 (.slice ad5 p0.Left.length cp6) [(23, .pointer (some ⟨b10, 0, none⟩))] 6 [some 5] rfl rfl rfl rfl rfl rfl fun G a w S => ?_
      refine sLoad1 (p := b10) (off := 0) (T := 30) (vs := [.slice ad5 p0.Left.length cp6, .slice ad7 p0.Right.length cp8]) 0 (.slice ad5 p0.Left.length cp6) S (wN rfl) rfl rfl rfl rfl rfl rfl (lb rfl) fun a S => ?_
      exact leafL ⟨rfl, S⟩
    · refine fI 25 (iv s14) [(3, iv s14)] 7 [none] rfl rfl rfl rfl rfl rfl fun G a w S => ?_
      refine sMove (iv s14) S (wN rfl) (.inl rfl) rfl rfl (lb rfl) fun a S => ?_
      exact leafL ⟨rfl, S⟩
    · refine fI 26 q60 [(24, .slice ad5 p0.Left.length cp6), (25, iv s14)] 8 [some 6, some 7] rfl rfl rfl rfl rfl rfl fun G a w S => ?_
      refine sIdxV (v := .slice ad5 p0.Left.length cp6) (k := .i64) (j := s14) S (wN rfl) rfl rfl rfl hq61 rfl (lb rfl) fun a S => ?_
      exact leafL ⟨rfl, S⟩
    · refine fI 27 (iv x33) [(26, q60)] 9 [some 8] rfl rfl rfl rfl rfl rfl fun G a w S => ?_
      refine sLoadV1 (vq := q60) 0 (iv x33) S (wN rfl) rfl rfl rfl rfl rfl (lb rfl) fun a S => ?_
      exact leafL ⟨rfl, S⟩
    · refine fI 28 (iv (w64 (x28 - x33))) [(22, iv x28), (27, iv x33)] 10 [some 4, some 9] rfl rfl rfl rfl rfl rfl fun G a w S => ?_
      refine sBin (iv (w64 (x28 - x33))) S (wN rfl) rfl rfl rfl (bSub _ _ _ _ x28 x33) rfl (lb rfl) fun a S => ?_
      exact leafL ⟨rfl, S⟩
    · refine fI 29 (.bool (decide (40 < (w64 (x28 - x33))))) [(28, iv (w64 (x28 - x33)))] 11 [some 10] rfl rfl rfl rfl rfl rfl fun G a w S => ?_
      refine sBin (.bool (decide (40 < (w64 (x28 - x33))))) S (wN rfl) rfl rfl rfl (bGt _ _ _ _ .i64 (w64 (x28 - x33)) 40) rfl (lb rfl) fun a S => ?_
      exact leafL ⟨rfl, S⟩
    · refine fI 30 (.bool (decide (40 < (w64 (x28 - x33))))) [(29, .bool (decide (40 < (w64 (x28 - x33)))))] 12 [some 11] rfl rfl rfl rfl rfl rfl fun G a w S => ?_
      refine sMove (.bool (decide (40 < (w64 (x28 - x33))))) S (wN rfl) (.inl rfl) rfl rfl (lb rfl) fun a S => ?_
      exact leafL ⟨rfl, S⟩
    · refine fI 31 undef [(1, .pointer (some ⟨b10, 0, none⟩)), (30, .bool (decide (40 < (w64 (x28 - x33)))))] 13 [none, some 12] rfl rfl rfl rfl rfl rfl fun G a w S => ?_
      refine sSkip 12 true 30 31 S rfl rfl rfl hc38 rfl (lb rfl) fun a S => ?_
      exact leafL ⟨rfl, S⟩
    · refine fI 32 undef [(31, undef), (30, .bool (decide (40 < (w64 (x28 - x33)))))] 14 [some 13, some 12] rfl rfl rfl rfl rfl rfl fun G a w S => ?_
      refine sSkip 12 true 30 32 S rfl rfl rfl hc38 rfl (lb rfl) fun a S => ?_
      exact leafL ⟨rfl, S⟩
    · refine fI 33 undef [(3, iv s14), (30, .bool (decide (40 < (w64 (x28 - x33)))))] 15 [none, some 12] rfl rfl rfl rfl rfl rfl fun G a w S => ?_
      refine sSkip 12 true 30 33 S rfl rfl rfl hc38 rfl (lb rfl) fun a S => ?_
      exact leafL ⟨rfl, S⟩
    · refine fI 34 undef [(32, undef), (33, undef), (30, .bool (decide (40 < (w64 (x28 - x33)))))] 16 [some 14, some 15, some 12] rfl rfl rfl rfl rfl rfl fun G a w S => ?_
      refine sSkip 12 true 30 34 S rfl rfl rfl hc38 rfl (lb rfl) fun a S => ?_
      exact leafL ⟨rfl, S⟩
    · refine fI 35 undef [(34, undef), (30, .bool (decide (40 < (w64 (x28 - x33)))))] 17 [some 16, some 12] rfl rfl rfl rfl rfl rfl fun G a w S => ?_
      refine sSkip 12 true 30 35 S rfl rfl rfl hc38 rfl (lb rfl) fun a S => ?_
      exact leafL ⟨rfl, S⟩
    · refine fI 36 undef [(1, .pointer (some ⟨b10, 0, none⟩)), (30, .bool (decide (40 < (w64 (x28 - x33)))))] 18 [none, some 12] rfl rfl rfl rfl rfl rfl fun G a w S => ?_
      refine sSkip 12 true 30 36 S rfl rfl rfl hc38 rfl (lb rfl) fun a S => ?_
      exact leafL ⟨rfl, S⟩
    · refine fI 37 undef [(36, undef), (30, .bool (decide (40 < (w64 (x28 - x33)))))] 19 [some 18, some 12] rfl rfl rfl rfl rfl rfl fun G a w S => ?_
      refine sSkip 12 true 30 37 S rfl rfl rfl hc38 rfl (lb rfl) fun a S => ?_
      exact leafL ⟨rfl, S⟩
    · refine fI 38 undef [(3, iv s14), (30, .bool (decide (40 < (w64 (x28 - x33)))))] 20 [none, some 12] rfl rfl rfl rfl rfl rfl fun G a w S => ?_
      refine sSkip 12 true 30 38 S rfl rfl rfl hc38 rfl (lb rfl) fun a S => ?_
      exact leafL ⟨rfl, S⟩
    · refine fI 39 undef [(37, undef), (38, undef), (30, .bool (decide (40 < (w64 (x28 - x33)))))] 21 [some 19, some 20, some 12] rfl rfl rfl rfl rfl rfl fun G a w S => ?_
      refine sSkip 12 true 30 39 S rfl rfl rfl hc38 rfl (lb rfl) fun a S => ?_
      exact leafL ⟨rfl, S⟩
    · refine fI 40 undef [(39, undef), (30, .bool (decide (40 < (w64 (x28 - x33)))))] 22 [some 21, some 12] rfl rfl rfl rfl rfl rfl fun G a w S => ?_
      refine sSkip 12 true 30 40 S rfl rfl rfl hc38 rfl (lb rfl) fun a S => ?_
      exact leafL ⟨rfl, S⟩
    · refine fI 41 undef [(35, undef), (40, undef), (30, .bool (decide (40 < (w64 (x28 - x33)))))] 23 [some 17, some 22, some 12] rfl rfl rfl rfl rfl rfl fun G a w S => ?_
      refine sSkip 12 true 30 41 S rfl rfl rfl hc38 rfl (lb rfl) fun a S => ?_
      exact leafL ⟨rfl, S⟩
    · refine fI 42 undef [(41, undef), (30, .bool (decide (40 < (w64 (x28 - x33)))))] 24 [some 23, some 12] rfl rfl rfl rfl rfl rfl fun G a w S => ?_
      refine sSkip 12 true 30 42 S rfl rfl rfl hc38 rfl (lb rfl) fun a S => ?_
      exact leafL ⟨rfl, S⟩
    · refine fI 43 (.bool false) [(30, .bool (decide (40 < (w64 (x28 - x33))))), (42, undef)] 25 [some 12, some 24] rfl rfl rfl rfl rfl rfl fun G a w S => ?_
      refine sPickF (.bool false) S (wN rfl) rfl rfl hc38 rfl rfl (lb rfl) fun a S => ?_
      exact leafL ⟨rfl, S⟩
    exact leafT (⟨false, Option.some.inj h, S.fix [0] [6, 7] (by decide) rfl rfl rfl⟩)
  obtain ⟨q45, hq46, S⟩ := pIdx (P := Tryd.prog) (r := (rI .i64)) (v := .slice ad7 p0.Right.length cp8) (xs := p0.Right) (j := s14) 28 3 1 S Tryd.underlying28 rfl rfl hx29
  obtain ⟨u47, S⟩ := pLoad (r := (rI .i64)) (q := q45) (x := x28) 0 S rfl
  obtain rfl : u47 = iv x28 := S.mem.know (i := 1) (e := fRep (rI .i64) (u47) x28) rfl
  obtain ⟨q48, hq49, S⟩ := pIdx (P := Tryd.prog) (r := (rI .i64)) (v := .slice ad5 p0.Left.length cp6) (xs := p0.Left) (j := s14) 28 3 3 S Tryd.underlying28 rfl rfl hx34
  obtain ⟨u50, S⟩ := pLoad (r := (rI .i64)) (q := q48) (x := x33) 0 S rfl
  obtain rfl : u50 = iv x33 := S.mem.know (i := 1) (e := fRep (rI .i64) (u50) x33) rfl
  obtain ⟨q51, hq52, S⟩ := pIdx (P := Tryd.prog) (r := (rI .i64)) (v := .slice ad7 p0.Right.length cp8) (xs := p0.Right) (j := s14) 28 3 7 S Tryd.underlying28 rfl rfl hx29
  obtain ⟨u53, S⟩ := pLoad (r := (rI .i64)) (q := q51) (x := x28) 0 S rfl
  obtain rfl : u53 = iv x28 := S.mem.know (i := 1) (e := fRep (rI .i64) (u53) x28) rfl
  obtain ⟨q54, hq55, S⟩ := pIdx (P := Tryd.prog) (r := (rI .i64)) (v := .slice ad5 p0.Left.length cp6) (xs := p0.Left) (j := s14) 28 3 9 S Tryd.underlying28 rfl rfl hx34
  obtain ⟨u56, S⟩ := pLoad (r := (rI .i64)) (q := q54) (x := x33) 0 S rfl
  obtain rfl : u56 = iv x33 := S.mem.know (i := 1) (e := fRep (rI .i64) (u56) x33) rfl
  refine sDraw (nf := []) (W := [(0, 18, .pointer (some ⟨b10, 1, none⟩)), (1, 19, .slice ad7 p0.Right.length cp8), (2, 20, iv s14), (3, 21, q45), (4, 22, iv x28), (5, 23, .pointer (some ⟨b10, 0, none⟩)), (6, 24, .slice ad5 p0.Left.length cp6), (7, 25, iv s14), (8, 26, q48), (9, 27, iv x33), (10, 28, iv (w64 (x28 - x33))), (11, 29, .bool (decide (40 < (w64 (x28 - x33))))), (12, 30, .bool (decide (40 < (w64 (x28 - x33))))), (13, 31, .pointer (some ⟨b10, 1, none⟩)), (14, 32, .slice ad7 p0.Right.length cp8), (15, 33, iv s14), (16, 34, q51), (17, 35, iv x28), (18, 36, .pointer (some ⟨b10, 0, none⟩)), (19, 37, .slice ad5 p0.Left.length cp6), (20, 38, iv s14), (21, 39, q54), (22, 40, iv x33), (23, 41, iv (w64 (x28 - x33))), (24, 42, .bool (decide ((w64 (x28 - x33)) ≤ 200))), (25, 43, .bool (decide ((w64 (x28 - x33)) ≤ 200)))]) rfl S ?_
  refine node_by (A := anc_raddleref37_Great_0) (nf := []) (Y := []) (W := [(0, 18, .pointer (some ⟨b10, 1, none⟩)), (1, 19, .slice ad7 p0.Right.length cp8), (2, 20, iv s14), (3, 21, q45), (4, 22, iv x28), (5, 23, .pointer (some ⟨b10, 0, none⟩)), (6, 24, .slice ad5 p0.Left.length cp6), (7, 25, iv s14), (8, 26, q48), (9, 27, iv x33), (10, 28, iv (w64 (x28 - x33))), (11, 29, .bool (decide (40 < (w64 (x28 - x33))))), (12, 30, .bool (decide (40 < (w64 (x28 - x33))))), (13, 31, .pointer (some ⟨b10, 1, none⟩)), (14, 32, .slice ad7 p0.Right.length cp8), (15, 33, iv s14), (16, 34, q51), (17, 35, iv x28), (18, 36, .pointer (some ⟨b10, 0, none⟩)), (19, 37, .slice ad5 p0.Left.length cp6), (20, 38, iv s14), (21, 39, q54), (22, 40, iv x33), (23, 41, iv (w64 (x28 - x33))), (24, 42, .bool (decide ((w64 (x28 - x33)) ≤ 200))), (25, 43, .bool (decide ((w64 (x28 - x33)) ≤ 200)))]) 26 (by kernel_rfl) (by kernel_rfl) (by kernel_rfl) (by kernel_rfl) (by kernel_rfl) [0, 1, 2, 3, 4, 5, 6, 7, 8, 9, 10, 11, 12, 13, 14, 15, 16, 17, 18, 19, 20, 21, 22, 23, 24, 25] (by kernel_rfl) (by decide) (by decide) (aF 0 25 (by decide) ?_ (aF 1 24 (by decide) ?_ (aF 2 23 (by decide) ?_ (aF 3 22 (by decide) ?_ (aF 4 21 (by decide) ?_ (aF 5 20 (by decide) ?_ (aF 6 19 (by decide) ?_ (aF 7 18 (by decide) ?_ (aF 8 17 (by decide) ?_ (aF 9 16 (by decide) ?_ (aF 10 15 (by decide) ?_ (aF 11 14 (by decide) ?_ (aF 12 13 (by decide) ?_ (aF 13 12 (by decide) ?_ (aF 14 11 (by decide) ?_ (aF 15 10 (by decide) ?_ (aF 16 9 (by decide) ?_ (aF 17 8 (by decide) ?_ (aF 18 7 (by decide) ?_ (aF 19 6 (by decide) ?_ (aF 20 5 (by decide) ?_ (aF 21 4 (by decide) ?_ (aF 22 3 (by decide) ?_ (aF 23 2 (by decide) ?_ (aF 24 1 (by decide) ?_ (aF 25 0 (by decide) ?_ (trivial))))))))))))))))))))))))))) [(1, .pointer (some ⟨b10, 0, none⟩)), (3, iv s14), (31, .pointer (some ⟨b10, 1, none⟩)), (32, .slice ad7 p0.Right.length cp8), (33, iv s14), (34, q51), (35, iv x28), (36, .pointer (some ⟨b10, 0, none⟩)), (37, .slice ad5 p0.Left.length cp6), (38, iv s14), (39, q54), (40, iv x33), (41, iv (w64 (x28 - x33))), (42, .bool (decide ((w64 (x28 - x33)) ≤ 200))), (43, .bool (decide ((w64 (x28 - x33)) ≤ 200)))] (fin_of [none, none, some 13, some 14, some 15, some 16, some 17, some 18, some 19, some 20, some 21, some 22, some 23, some 24, some 25] rfl (by kernel_rfl) (by kernel_rfl)) (fun _ a w S => ?_)
  · refine fI 18 (.pointer (some ⟨b10, 1, none⟩)) [(1, .pointer (some ⟨b10, 0, none⟩))] 0 [none] rfl rfl rfl rfl rfl rfl fun G a w S => ?_
    refine sField (b := b10) (off := 0) 1 1 S (wN rfl) rfl rfl rfl rfl rfl (lb rfl) fun a S => ?_
    exact leafL ⟨rfl, S⟩
  · refine fI 19 (.slice ad7 p0.Right.length cp8) [(18, .pointer (some ⟨b10, 1, none⟩))] 1 [some 0] rfl rfl rfl rfl rfl rfl fun G a w S => ?_
    refine sLoad1 (p := b10) (off := 1) (T := 30) (vs := [.slice ad5 p0.Left.length cp6, .slice ad7 p0.Right.length cp8]) 0 (.slice ad7 p0.Right.length cp8) S (wN rfl) rfl rfl rfl rfl rfl rfl (lb rfl) fun a S => ?_
    exact leafL ⟨rfl, S⟩
  · refine fI 20 (iv s14) [(3, iv s14)] 2 [none] rfl rfl rfl rfl rfl rfl fun G a w S => ?_
    refine sMove (iv s14) S (wN rfl) (.inl rfl) rfl rfl (lb rfl) fun a S => ?_
    exact leafL ⟨rfl, S⟩
  · refine fI 21 q45 [(19, .slice ad7 p0.Right.length cp8), (20, iv s14)] 3 [some 1, some 2] rfl rfl rfl rfl rfl rfl fun G a w S => ?_
    refine sIdxV (v := .slice ad7 p0.Right.length cp8) (k := .i64) (j := s14) S (wN rfl) rfl rfl rfl hq46 rfl (lb rfl) fun a S => ?_
    exact leafL ⟨rfl, S⟩
  · refine fI 22 (iv x28) [(21, q45)] 4 [some 3] rfl rfl rfl rfl rfl rfl fun G a w S => ?_
    refine sLoadV1 (vq := q45) 9 (iv x28) S (wN rfl) rfl rfl rfl rfl rfl (lb rfl) fun a S => ?_
    exact leafL ⟨rfl, S⟩
  · refine fI 23 (.pointer (some ⟨b10, 0, none⟩)) [(1, .pointer (some ⟨b10, 0, none⟩))] 5 [none] rfl rfl rfl rfl rfl rfl fun G a w S => ?_
    refine sField (b := b10) (off := 0) 0 0 S (wN rfl) rfl rfl rfl rfl rfl (lb rfl) fun a S => ?_
    exact leafL ⟨rfl, S⟩
  · refine fI 24 (.slice ad5 p0.Left.length cp6) [(23, .pointer (some ⟨b10, 0, none⟩))] 6 [some 5] rfl rfl rfl rfl rfl rfl fun G a w S => ?_
    refine sLoad1 (p := b10) (off := 0) (T := 30) (vs := [.slice ad5 p0.Left.length cp6, .slice ad7 p0.Right.length cp8]) 0 (.slice ad5 p0.Left.length cp6) S (wN rfl) rfl rfl rfl rfl rfl rfl (lb rfl) fun a S => ?_
    exact leafL ⟨rfl, S⟩
  · refine fI 25 (iv s14) [(3, iv s14)] 7 [none] rfl rfl rfl rfl rfl rfl fun G a w S => ?_
    refine sMove (iv s14) S (wN rfl) (.inl rfl) rfl rfl (lb rfl) fun a S => ?_
    exact leafL ⟨rfl, S⟩
  · refine fI 26 q48 [(24, .slice ad5 p0.Left.length cp6), (25, iv s14)] 8 [some 6, some 7] rfl rfl rfl rfl rfl rfl fun G a w S => ?_
    refine sIdxV (v := .slice ad5 p0.Left.length cp6) (k := .i64) (j := s14) S (wN rfl) rfl rfl rfl hq49 rfl (lb rfl) fun a S => ?_
    exact leafL ⟨rfl, S⟩
  · refine fI 27 (iv x33) [(26, q48)] 9 [some 8] rfl rfl rfl rfl rfl rfl fun G a w S => ?_
    refine sLoadV1 (vq := q48) 6 (iv x33) S (wN rfl) rfl rfl rfl rfl rfl (lb rfl) fun a S => ?_
    exact leafL ⟨rfl, S⟩
  · refine fI 28 (iv (w64 (x28 - x33))) [(22, iv x28), (27, iv x33)] 10 [some 4, some 9] rfl rfl rfl rfl rfl rfl fun G a w S => ?_
    refine sBin (iv (w64 (x28 - x33))) S (wN rfl) rfl rfl rfl (bSub _ _ _ _ x28 x33) rfl (lb rfl) fun a S => ?_
    exact leafL ⟨rfl, S⟩
  · refine fI 29 (.bool (decide (40 < (w64 (x28 - x33))))) [(28, iv (w64 (x28 - x33)))] 11 [some 10] rfl rfl rfl rfl rfl rfl fun G a w S => ?_
    refine sBin (.bool (decide (40 < (w64 (x28 - x33))))) S (wN rfl) rfl rfl rfl (bGt _ _ _ _ .i64 (w64 (x28 - x33)) 40) rfl (lb rfl) fun a S => ?_
    exact leafL ⟨rfl, S⟩
  · refine fI 30 (.bool (decide (40 < (w64 (x28 - x33))))) [(29, .bool (decide (40 < (w64 (x28 - x33)))))] 12 [some 11] rfl rfl rfl rfl rfl rfl fun G a w S => ?_
    refine sMove (.bool (decide (40 < (w64 (x28 - x33))))) S (wN rfl) (.inl rfl) rfl rfl (lb rfl) fun a S => ?_
    exact leafL ⟨rfl, S⟩
  · refine fI 31 (.pointer (some ⟨b10, 1, none⟩)) [(1, .pointer (some ⟨b10, 0, none⟩)), (30, .bool (decide (40 < (w64 (x28 - x33)))))] 13 [none, some 12] rfl rfl rfl rfl rfl rfl fun G a w S => ?_
    refine sField (b := b10) (off := 0) 1 1 S (wG 12 true 30 rfl rfl rfl hc38) rfl rfl rfl rfl rfl (lb rfl) fun a S => ?_
    exact leafL ⟨rfl, S⟩
  · refine fI 32 (.slice ad7 p0.Right.length cp8) [(31, .pointer (some ⟨b10, 1, none⟩)), (30, .bool (decide (40 < (w64 (x28 - x33)))))] 14 [some 13, some 12] rfl rfl rfl rfl rfl rfl fun G a w S => ?_
    refine sLoad1 (p := b10) (off := 1) (T := 30) (vs := [.slice ad5 p0.Left.length cp6, .slice ad7 p0.Right.length cp8]) 0 (.slice ad7 p0.Right.length cp8) S (wG 12 true 30 rfl rfl rfl hc38) rfl rfl rfl rfl rfl rfl (lb rfl) fun a S => ?_
    exact leafL ⟨rfl, S⟩
  · refine fI 33 (iv s14) [(3, iv s14), (30, .bool (decide (40 < (w64 (x28 - x33)))))] 15 [none, some 12] rfl rfl rfl rfl rfl rfl fun G a w S => ?_
    refine sMove (iv s14) S (wG 12 true 30 rfl rfl rfl hc38) (.inl rfl) rfl rfl (lb rfl) fun a S => ?_
    exact leafL ⟨rfl, S⟩
  · refine fI 34 q51 [(32, .slice ad7 p0.Right.length cp8), (33, iv s14), (30, .bool (decide (40 < (w64 (x28 - x33)))))] 16 [some 14, some 15, some 12] rfl rfl rfl rfl rfl rfl fun G a w S => ?_
    refine sIdxV (v := .slice ad7 p0.Right.length cp8) (k := .i64) (j := s14) S (wG 12 true 30 rfl rfl rfl hc38) rfl rfl rfl hq52 rfl (lb rfl) fun a S => ?_
    exact leafL ⟨rfl, S⟩
  · refine fI 35 (iv x28) [(34, q51), (30, .bool (decide (40 < (w64 (x28 - x33)))))] 17 [some 16, some 12] rfl rfl rfl rfl rfl rfl fun G a w S => ?_
    refine sLoadV1 (vq := q51) 3 (iv x28) S (wG 12 true 30 rfl rfl rfl hc38) rfl rfl rfl rfl rfl (lb rfl) fun a S => ?_
    exact leafL ⟨rfl, S⟩
  · refine fI 36 (.pointer (some ⟨b10, 0, none⟩)) [(1, .pointer (some ⟨b10, 0, none⟩)), (30, .bool (decide (40 < (w64 (x28 - x33)))))] 18 [none, some 12] rfl rfl rfl rfl rfl rfl fun G a w S => ?_
    refine sField (b := b10) (off := 0) 0 0 S (wG 12 true 30 rfl rfl rfl hc38) rfl rfl rfl rfl rfl (lb rfl) fun a S => ?_
    exact leafL ⟨rfl, S⟩
  · refine fI 37 (.slice ad5 p0.Left.length cp6) [(36, .pointer (some ⟨b10, 0, none⟩)), (30, .bool (decide (40 < (w64 (x28 - x33)))))] 19 [some 18, some 12] rfl rfl rfl rfl rfl rfl fun G a w S => ?_
    refine sLoad1 (p := b10) (off := 0) (T := 30) (vs := [.slice ad5 p0.Left.length cp6, .slice ad7 p0.Right.length cp8]) 0 (.slice ad5 p0.Left.length cp6) S (wG 12 true 30 rfl rfl rfl hc38) rfl rfl rfl rfl rfl rfl (lb rfl) fun a S => ?_
    exact leafL ⟨rfl, S⟩
  · refine fI 38 (iv s14) [(3, iv s14), (30, .bool (decide (40 < (w64 (x28 - x33)))))] 20 [none, some 12] rfl rfl rfl rfl rfl rfl fun G a w S => ?_
    refine sMove (iv s14) S (wG 12 true 30 rfl rfl rfl hc38) (.inl rfl) rfl rfl (lb rfl) fun a S => ?_
    exact leafL ⟨rfl, S⟩
  · refine fI 39 q54 [(37, .slice ad5 p0.Left.length cp6), (38, iv s14), (30, .bool (decide (40 < (w64 (x28 - x33)))))] 21 [some 19, some 20, some 12] rfl rfl rfl rfl rfl rfl fun G a w S => ?_
    refine sIdxV (v := .slice ad5 p0.Left.length cp6) (k := .i64) (j := s14) S (wG 12 true 30 rfl rfl rfl hc38) rfl rfl rfl hq55 rfl (lb rfl) fun a S => ?_
    exact leafL ⟨rfl, S⟩
  · refine fI 40 (iv x33) [(39, q54), (30, .bool (decide (40 < (w64 (x28 - x33)))))] 22 [some 21, some 12] rfl rfl rfl rfl rfl rfl fun G a w S => ?_
    refine sLoadV1 (vq := q54) 0 (iv x33) S (wG 12 true 30 rfl rfl rfl hc38) rfl rfl rfl rfl rfl (lb rfl) fun a S => ?_
    exact leafL ⟨rfl, S⟩
  · refine fI 41 (iv (w64 (x28 - x33))) [(35, iv x28), (40, iv x33), (30, .bool (decide (40 < (w64 (x28 - x33)))))] 23 [some 17, some 22, some 12] rfl rfl rfl rfl rfl rfl fun G a w S => ?_
    refine sBin (iv (w64 (x28 - x33))) S (wG 12 true 30 rfl rfl rfl hc38) rfl rfl rfl (bSub _ _ _ _ x28 x33) rfl (lb rfl) fun a S => ?_
    exact leafL ⟨rfl, S⟩
  · refine fI 42 (.bool (decide ((w64 (x28 - x33)) ≤ 200))) [(41, iv (w64 (x28 - x33))), (30, .bool (decide (40 < (w64 (x28 - x33)))))] 24 [some 23, some 12] rfl rfl rfl rfl rfl rfl fun G a w S => ?_
    refine sBin (.bool (decide ((w64 (x28 - x33)) ≤ 200))) S (wG 12 true 30 rfl rfl rfl hc38) rfl rfl rfl (bLe _ _ _ _ .i64 (w64 (x28 - x33)) 200) rfl (lb rfl) fun a S => ?_
    exact leafL ⟨rfl, S⟩
  · refine fI 43 (.bool (decide ((w64 (x28 - x33)) ≤ 200))) [(30, .bool (decide (40 < (w64 (x28 - x33))))), (42, .bool (decide ((w64 (x28 - x33)) ≤ 200)))] 25 [some 12, some 24] rfl rfl rfl rfl rfl rfl fun G a w S => ?_
    refine sPickT (.bool (decide ((w64 (x28 - x33)) ≤ 200))) S (wN rfl) rfl rfl hc38 rfl rfl (lb rfl) fun a S => ?_
    exact leafL ⟨rfl, S⟩
  exact leafT (⟨decide ((w64 (x28 - x33)) ≤ 200), Option.some.inj h, S.fix [0] [12, 13] (by decide) rfl rfl rfl⟩)

end Go.Proofs.YtmedbnjhgkcndaaDoor
namespace Go.Proofs.YtmedbnjhgkcndaaDoor
open Go.RowKit
set_option linter.unusedVariables false

theorem col_eq (x : Int) : F_piece_column x = some (decide (-500 ≤ x) && decide (x ≤ 500)) ∧ F_raddleref37_in x = some (decide (-500 ≤ x) && decide (x ≤ 500)) := by
  unfold F_piece_column F_raddleref37_in
  by_cases h : -500 ≤ x <;> simp [h]
def col (x : Int) : Bool := decide (-500 ≤ x) && decide (x ≤ 500)
def pokAt (p : api_Piece) (k : Nat) : Bool := col (p.Left.getD k 0) && (col (p.Right.getD k 0) && (decide (p.Left.getD k 0 < p.Right.getD k 0) && decide (p.Right.getD k 0 - p.Left.getD k 0 ≤ 200)))
def pok (p : api_Piece) : Bool := decide (p.Left.length = p.Right.length) && (decide (1 ≤ p.Left.length) && (decide (p.Left.length ≤ 100) && (List.range p.Left.length).all (pokAt p)))
theorem col_spec {x : Int} : col x = true ↔ -500 ≤ x ∧ x ≤ 500 := by simp [col]
theorem pcheck_eq (p : api_Piece) (h1 : p.Left.length ≤ 1000000) (h2 : p.Right.length ≤ 1000000) : F_piece_Check p = some (if pok p = true then 0 else 8) ∧ F_raddleref37_Check p = some (if pok p = true then 0 else 8) := by
  unfold F_piece_Check F_raddleref37_Check
  by_cases e1 : p.Left.length = p.Right.length
  case neg =>
    have hb : ((p.Left.length : Int) != (p.Right.length : Int)) = true := nT (by omega)
    have hp : pok p = false := by simp [pok, e1]
    simp [hb, hp]
  have hb : ((p.Left.length : Int) != (p.Right.length : Int)) = false := nF (by omega)
  by_cases e2 : 1 ≤ p.Left.length
  case neg =>
    have hc : ((p.Left.length : Int) == 0) = true := bT (by omega)
    have hd : decide ((p.Left.length : Int) < 1) = true := dT (by omega)
    have hp : pok p = false := by simp [pok, e2]
    simp [hb, hc, hd, hp]
  have hc : ((p.Left.length : Int) == 0) = false := bF (by omega)
  have hd : decide ((p.Left.length : Int) < 1) = false := dF (by omega)
  by_cases e3 : p.Left.length ≤ 100
  case neg =>
    have he : decide (100 < (p.Left.length : Int)) = true := dT (by omega)
    have hp : pok p = false := by simp [pok, e3]
    simp [hb, hc, hd, he, hp]
  have he : decide (100 < (p.Left.length : Int)) = false := dF (by omega)
  have hp : pok p = (List.range p.Left.length).all (pokAt p) := by simp only [pok, e1, e2, e3, decide_true, Bool.true_and]; rw [← e1]; simp [e2, e3]
  have hl1 : whileO (piece_Check_l1 p) 0 = some (if (List.range p.Left.length).all (pokAt p) = true then .inr () else .inl 8) := by
    refine loop_all _ _ _ _ (fun k hk => ?_) ?_
    · have hx := idxO_D (0 : Int) hk
      have hy := idxO_D (0 : Int) (show k < p.Right.length by omega)
      have hs : w64 ((k : Int) + 1) = ((k + 1 : Nat) : Int) := w64_succ (by omega)
      have hk' : decide ((k : Int) < (p.Left.length : Int)) = true := dT (by omega)
      unfold piece_Check_l1 pokAt
      simp only [hk', if_true, hx, hy, hs, Option.bind_some, (col_eq _).1, ← col.eq_1]
      generalize p.Left.getD k 0 = x
      generalize p.Right.getD k 0 = y
      cases hcx : col x with
      | false => simp
      | true =>
        cases hcy : col y with
        | false => simp
        | true =>
          rw [col_spec] at hcx hcy
          have hw : w64 (y - x) = y - x := w64_of (by omega) (by omega)
          by_cases g1 : x < y
          · by_cases g2 : y - x ≤ 200
            · simp [g1, g2, hw, show ¬ y ≤ x by omega, show ¬ 200 < y - x by omega]
            · simp [g1, g2, hw, show ¬ y ≤ x by omega, show 200 < y - x by omega]
          · simp [g1, hw, show y ≤ x by omega]
    · unfold piece_Check_l1; simp
  have hl2 : whileO (raddleref37_Check_l1 p) 0 = some (if (List.range p.Left.length).all (pokAt p) = true then .inr () else .inl 8) := by
    refine loop_all _ _ _ _ (fun k hk => ?_) ?_
    · have hx := idxO_D (0 : Int) hk
      have hy := idxO_D (0 : Int) (show k < p.Right.length by omega)
      have hs : w64 ((k : Int) + 1) = ((k + 1 : Nat) : Int) := w64_succ (by omega)
      have hk' : decide ((k : Int) < (p.Left.length : Int)) = true := dT (by omega)
      unfold raddleref37_Check_l1 pokAt
      simp only [hk', if_true, hx, hy, hs, Option.bind_some, (col_eq _).2, ← col.eq_1]
      generalize p.Left.getD k 0 = x
      generalize p.Right.getD k 0 = y
      cases hcx : col x with
      | false => simp
      | true =>
        cases hcy : col y with
        | false => simp
        | true =>
          rw [col_spec] at hcx hcy
          have hw : w64 (y - x) = y - x := w64_of (by omega) (by omega)
          by_cases g1 : x < y
          · by_cases g2 : y - x ≤ 200
            · simp [g1, g2, hw, show ¬ y ≤ x by omega, show ¬ 200 < y - x by omega]
            · simp [g1, g2, hw, show ¬ y ≤ x by omega, show 200 < y - x by omega]
          · simp [g1, hw, show y ≤ x by omega]
    · unfold raddleref37_Check_l1; simp
  rw [hl1, hl2, ← hp]
  cases pok p <;> simp [hb, hc, hd, he]
theorem great_eq (p : api_Piece) (h1 : p.Left.length ≤ 9223372036854775807) (h2 : p.Right.length ≤ 9223372036854775807) : ∃ b, F_raddleref37_Great p = some b ∧ (b = false → p.Left.length ≤ 1000 ∧ p.Right.length ≤ 1000) := by
  have hw : ∃ t, whileO (raddleref37_Great_l1 p) 0 = some t ∧ (t = .inl true ∨ t = .inr ()) := by
    refine loop_ix (min p.Left.length p.Right.length) (fun _ => True) _ trivial ?_ ?_
    · intro k hk _
      have ha : decide ((k : Int) < (p.Left.length : Int)) = true := dT (by omega)
      have hb : decide ((k : Int) < (p.Right.length : Int)) = true := dT (by omega)
      have hs : w64 ((k : Int) + 1) = ((k + 1 : Nat) : Int) := w64_succ (by omega)
      have hst : raddleref37_Great_l1 p (k : Int) = (if (decide (40 < w64 (p.Right.getD k 0 - p.Left.getD k 0)) && decide (w64 (p.Right.getD k 0 - p.Left.getD k 0) ≤ 200)) = true then some (.inr (.inl true)) else some (.inl ((k + 1 : Nat) : Int))) := by
        unfold raddleref37_Great_l1
        simp only [ha, hb, if_true, Option.bind_some, idxO_D (0 : Int) (show k < p.Left.length by omega), idxO_D (0 : Int) (show k < p.Right.length by omega), hs]
        generalize w64 (p.Right.getD k 0 - p.Left.getD k 0) = d
        by_cases g1 : 40 < d
        · simp [g1]
        · simp [g1]
      rw [hst]
      split
      · exact .inr ⟨_, rfl, .inl rfl⟩
      · exact .inl ⟨rfl, trivial⟩
    · intro _
      refine ⟨.inr (), ?_, .inr rfl⟩
      unfold raddleref37_Great_l1
      by_cases g : p.Left.length ≤ p.Right.length
      · have ha : decide (((min p.Left.length p.Right.length : Nat) : Int) < (p.Left.length : Int)) = false := dF (by omega)
        simp only [ha, Bool.false_eq_true, if_false, Option.bind_some]
      · have ha : decide (((min p.Left.length p.Right.length : Nat) : Int) < (p.Left.length : Int)) = true := dT (by omega)
        have hb : decide (((min p.Left.length p.Right.length : Nat) : Int) < (p.Right.length : Int)) = false := dF (by omega)
        simp only [ha, hb, Bool.false_eq_true, if_true, if_false, Option.bind_some]
  obtain ⟨t, t1, t2⟩ := hw
  unfold F_raddleref37_Great
  rw [t1]
  rcases t2 with rfl | rfl
  · exact ⟨true, rfl, fun h => by cases h⟩
  · simp only [Option.bind_some]
    by_cases g1 : 110 < p.Left.length
    · refine ⟨true, ?_, fun h => by cases h⟩
      simp [show (20 : Int) < (p.Left.length : Int) by omega, show ¬ (p.Left.length : Int) ≤ 100 by omega, show (110 : Int) < (p.Left.length : Int) by omega]
    by_cases g2 : 110 < p.Right.length
    · by_cases g3 : 20 < p.Left.length
      · by_cases g4 : p.Left.length ≤ 100
        · exact ⟨true, by simp [show (20 : Int) < (p.Left.length : Int) by omega, show (p.Left.length : Int) ≤ 100 by omega], fun h => by cases h⟩
        · exact ⟨true, by simp [show (20 : Int) < (p.Left.length : Int) by omega, show ¬ (p.Left.length : Int) ≤ 100 by omega, show ¬ (110 : Int) < (p.Left.length : Int) by omega, show (110 : Int) < (p.Right.length : Int) by omega], fun h => by cases h⟩
      · exact ⟨true, by simp [show ¬ (20 : Int) < (p.Left.length : Int) by omega, show ¬ (110 : Int) < (p.Left.length : Int) by omega, show (110 : Int) < (p.Right.length : Int) by omega], fun h => by cases h⟩
    · by_cases g3 : 20 < p.Left.length
      · by_cases g4 : p.Left.length ≤ 100
        · exact ⟨true, by simp [show (20 : Int) < (p.Left.length : Int) by omega, show (p.Left.length : Int) ≤ 100 by omega], fun h => by cases h⟩
        · exact ⟨false, by simp [show (20 : Int) < (p.Left.length : Int) by omega, show ¬ (p.Left.length : Int) ≤ 100 by omega, show ¬ (110 : Int) < (p.Left.length : Int) by omega, show ¬ (110 : Int) < (p.Right.length : Int) by omega], fun _ => ⟨by omega, by omega⟩⟩
      · exact ⟨false, by simp [show ¬ (20 : Int) < (p.Left.length : Int) by omega, show ¬ (110 : Int) < (p.Left.length : Int) by omega, show ¬ (110 : Int) < (p.Right.length : Int) by omega], fun _ => ⟨by omega, by omega⟩⟩

end Go.Proofs.YtmedbnjhgkcndaaDoor
namespace Go.Proofs.YtmedbnjhgkcndaaDoor
open Go.RowKit
set_option linter.unusedVariables false

/-- a loop by a count, whatever its state looks like -/
theorem loop_at {S σ τ : Type} {B : S → Option (S ⊕ τ)} (n : Nat) (st : Nat → σ → S) (I : Nat → σ → Prop) (Pt : τ → Prop) {s0 : σ} (h0 : I 0 s0)
    (step : ∀ k s, k < n → I k s → (∃ s', B (st k s) = some (.inl (st (k + 1) s')) ∧ I (k + 1) s') ∨ (∃ t, B (st k s) = some (.inr t) ∧ Pt t))
    (last : ∀ s, I n s → ∃ t, B (st n s) = some (.inr t) ∧ Pt t) : ∃ t, whileO B (st 0 s0) = some t ∧ Pt t := by
  have key : ∀ j k s, j + k = n → I k s → ∃ t, whileO B (st k s) = some t ∧ Pt t := by
    intro j
    induction j with
    | zero =>
      intro k s hk hI
      obtain rfl : k = n := by omega
      obtain ⟨t, h1, h2⟩ := last s hI
      exact ⟨t, whileO_done h1, h2⟩
    | succ j ih =>
      intro k s hk hI
      rcases step k s (by omega) hI with ⟨s', h1, h2⟩ | ⟨t, h1, h2⟩
      · rw [whileO_step h1]; exact ih _ _ (by omega) h2
      · exact ⟨t, whileO_done h1, h2⟩
  exact key n 0 s0 (by omega) h0
theorem whileO_none {σ τ : Type} {B : σ → Option (σ ⊕ τ)} {s : σ} (h : B s = none) : whileO B s = none := by
  cases hx : whileO B s with
  | none => rfl
  | some t =>
    obtain ⟨n, hn⟩ := whileO_some hx
    cases n with
    | zero => simp [iterO] at hn
    | succ n => rw [iterO, h] at hn; cases hn
theorem whileO_eq {σ τ : Type} (B : σ → Option (σ ⊕ τ)) (s : σ) : whileO B s = (B s).bind fun r => match r with | .inl s' => whileO B s' | .inr t => some t := by
  cases h : B s with
  | none => rw [whileO_none h]; rfl
  | some r =>
    cases r with
    | inl s' => rw [whileO_step h]; rfl
    | inr t => rw [whileO_done h]; rfl
/-- sums over a list -/
def sm {α : Type} (f : α → Int) : List α → Int
  | [] => 0
  | x :: l => f x + sm f l
theorem sm_append {α : Type} (f : α → Int) (l k : List α) : sm f (l ++ k) = sm f l + sm f k := by
  induction l with
  | nil => simp [sm]
  | cons x l ih => simp only [List.cons_append, sm, ih]; omega
theorem sm_take {α : Type} (f : α → Int) (l : List α) {k : Nat} (h : k < l.length) : sm f (l.take (k + 1)) = sm f (l.take k) + f l[k] := by
  rw [List.take_succ_eq_append_getElem h, sm_append]
  simp [sm]
theorem sm_bd {α : Type} {f : α → Int} {b : Int} {l : List α} (h : ∀ x, x ∈ l → 0 ≤ f x ∧ f x ≤ b) : 0 ≤ sm f l ∧ sm f l ≤ b * l.length := by
  induction l with
  | nil => simp [sm]
  | cons x l ih =>
    have h1 := h x (by simp)
    have h2 := ih fun y hy => h y (by simp [hy])
    simp only [sm, List.length_cons]
    have e : b * ((l.length + 1 : Nat) : Int) = b * l.length + b := by rw [Int.natCast_add, Int.mul_add]; simp
    rw [e]
    omega
def usedS (p : api_Stitch) : Int := if p.Kind = 2 ∨ p.Kind = 9 then 0 else if p.Kind = 3 ∨ p.Kind = 4 ∨ p.Kind = 10 then p.A else if p.Kind = 6 ∨ p.Kind = 7 then p.A + p.B else 1
def madeS (p : api_Stitch) : Int := if p.Kind = 10 then 0 else if p.Kind = 5 ∨ p.Kind = 9 then p.A else if p.Kind = 6 ∨ p.Kind = 7 then p.A + p.B else 1
def okS (p : api_Stitch) : Prop :=
  (p.Kind = 1 ∨ p.Kind = 8) ∧ p.A = 0 ∧ p.B = 0 ∨ p.Kind = 2 ∧ p.A = 0 ∧ p.B = 0 ∧ p.Purl = false ∨ (p.Kind = 3 ∨ p.Kind = 4 ∨ p.Kind = 5) ∧ 2 ≤ p.A ∧ p.A ≤ 4 ∧ p.B = 0 ∨
  (p.Kind = 6 ∨ p.Kind = 7) ∧ 1 ≤ p.A ∧ p.A ≤ 6 ∧ 1 ≤ p.B ∧ p.B ≤ 6 ∨ p.Kind = 9 ∧ 1 ≤ p.A ∧ p.A ≤ 200 ∧ p.B = 0 ∧ p.Purl = false ∨ p.Kind = 10 ∧ 1 ≤ p.A ∧ p.A ≤ 200 ∧ p.B = 0
instance (p : api_Stitch) : Decidable (okS p) := by unfold okS; infer_instance
theorem okS_bd {p : api_Stitch} (h : okS p) : 1 ≤ p.Kind ∧ p.Kind ≤ 10 ∧ 0 ≤ p.A ∧ p.A ≤ 200 ∧ 0 ≤ p.B ∧ p.B ≤ 6 := by
  unfold okS at h
  omega
theorem usedS_bd {p : api_Stitch} (h : okS p) : 0 ≤ usedS p ∧ usedS p ≤ 200 := by
  have hb := okS_bd h
  unfold okS at h
  unfold usedS
  split
  · omega
  · split
    · omega
    · split <;> omega
theorem madeS_bd {p : api_Stitch} (h : okS p) : 0 ≤ madeS p ∧ madeS p ≤ 200 := by
  have hb := okS_bd h
  unfold okS at h
  unfold madeS
  split
  · omega
  · split
    · omega
    · split <;> omega
theorem check_form (p : api_Stitch) (f : stitch_form) (h : F_stitch_forms p.Kind = some (f, true)) :
    F_stitch_Check p = some (if (f.a.1 ≤ p.A ∧ p.A ≤ f.a.2) ∧ (f.b.1 ≤ p.B ∧ p.B ≤ f.b.2) ∧ (p.Purl = true → f.sided = true) then 0 else 8) := by
  unfold F_stitch_Check F_stitch_within
  rw [h]
  by_cases a1 : f.a.1 ≤ p.A <;> by_cases a2 : p.A ≤ f.a.2 <;> by_cases b1 : f.b.1 ≤ p.B <;> by_cases b2 : p.B ≤ f.b.2 <;> cases hp : p.Purl <;> cases hs : f.sided <;> simp [a1, a2, b1, b2, hs]
theorem ifc {α : Type} {c d : Prop} [Decidable c] [Decidable d] {a b : α} (h : c ↔ d) : (if c then a else b) = if d then a else b := by
  by_cases hc : c
  · rw [if_pos hc, if_pos (h.1 hc)]
  · rw [if_neg hc, if_neg (fun hd => hc (h.2 hd))]
theorem kinds {x : Int} (h : 0 ≤ x ∧ x ≤ 255) : x = 0 ∨ x = 1 ∨ x = 2 ∨ x = 3 ∨ x = 4 ∨ x = 5 ∨ x = 6 ∨ x = 7 ∨ x = 8 ∨ x = 9 ∨ x = 10 ∨ 10 < x := by omega
theorem forms_none {x : Int} (h : 10 < x ∧ x ≤ 255) : ∃ f, F_stitch_forms x = some (f, false) := by
  unfold F_stitch_forms
  have hw : IntKind.i64.wrap x = x := w64_of (by omega) (by omega)
  simp only [dF (show ¬ x < 1 by omega), hw, Bool.false_eq_true, if_false, Option.bind_some, List.length_cons, List.length_nil]
  rw [dT (show ((0 + 1 + 1 + 1 + 1 + 1 + 1 + 1 + 1 + 1 + 1 : Nat) : Int) < x by omega)]
  exact ⟨_, rfl⟩
theorem check_none {p : api_Stitch} {f : stitch_form} (h : F_stitch_forms p.Kind = some (f, false)) : F_stitch_Check p = some 8 := by
  unfold F_stitch_Check
  rw [h]
  simp
theorem check_eq (p : api_Stitch) (hk : 0 ≤ p.Kind ∧ p.Kind ≤ 255) : F_stitch_Check p = some (if okS p then 0 else 8) := by
  rcases kinds hk with h | h | h | h | h | h | h | h | h | h | h | h
  · rw [check_none (f := ⟨⟨#[]⟩, (0, 0), (0, 0), false, 0, 0⟩) (by rw [h]; rfl), if_neg (by unfold okS; omega)]
  · rw [check_form p _ (by rw [h]; rfl)]; cases hp : p.Purl <;> exact congrArg some (ifc (by simp [okS, h]; omega))
  · rw [check_form p _ (by rw [h]; rfl)]; cases hp : p.Purl <;> exact congrArg some (ifc (by simp [okS, h, hp] <;> omega))
  · rw [check_form p _ (by rw [h]; rfl)]; cases hp : p.Purl <;> exact congrArg some (ifc (by simp [okS, h]; omega))
  · rw [check_form p _ (by rw [h]; rfl)]; cases hp : p.Purl <;> exact congrArg some (ifc (by simp [okS, h]; omega))
  · rw [check_form p _ (by rw [h]; rfl)]; cases hp : p.Purl <;> exact congrArg some (ifc (by simp [okS, h]; omega))
  · rw [check_form p _ (by rw [h]; rfl)]; cases hp : p.Purl <;> exact congrArg some (ifc (by simp [okS, h]; omega))
  · rw [check_form p _ (by rw [h]; rfl)]; cases hp : p.Purl <;> exact congrArg some (ifc (by simp [okS, h]; omega))
  · rw [check_form p _ (by rw [h]; rfl)]; cases hp : p.Purl <;> exact congrArg some (ifc (by simp [okS, h]; omega))
  · rw [check_form p _ (by rw [h]; rfl)]; cases hp : p.Purl <;> exact congrArg some (ifc (by simp [okS, h, hp] <;> omega))
  · rw [check_form p _ (by rw [h]; rfl)]; cases hp : p.Purl <;> exact congrArg some (ifc (by simp [okS, h]; omega))
  · obtain ⟨f, hf⟩ := forms_none ⟨h, hk.2⟩
    rw [check_none hf, if_neg (by unfold okS; omega)]
theorem form_ok {p : api_Stitch} (h : okS p) : ∃ f, F_stitch_forms p.Kind = some (f, true) ∧ F_stitch_loops p f.uses = some (usedS p) ∧ F_stitch_loops p f.made = some (madeS p) := by
  have hb := okS_bd h
  have hw : w64 (p.A + p.B) = p.A + p.B := w64_of (by omega) (by omega)
  have l0 : F_stitch_loops p 0 = some 0 := rfl
  have l1 : F_stitch_loops p 1 = some 1 := rfl
  have l2 : F_stitch_loops p 2 = some p.A := rfl
  have l3 : F_stitch_loops p 3 = some (p.A + p.B) := by rw [← hw]; rfl
  rcases kinds (x := p.Kind) (by omega) with k | k | k | k | k | k | k | k | k | k | k | k
  · omega
  · exact ⟨⟨⟨#[]⟩, (0, 0), (0, 0), true, 1, 1⟩, by rw [k]; rfl, by rw [l1]; simp [usedS, k], by rw [l1]; simp [madeS, k]⟩
  · exact ⟨⟨⟨#[]⟩, (0, 0), (0, 0), false, 0, 1⟩, by rw [k]; rfl, by rw [l0]; simp [usedS, k], by rw [l1]; simp [madeS, k]⟩
  · exact ⟨⟨⟨#[102]⟩, (2, 4), (0, 0), true, 2, 1⟩, by rw [k]; rfl, by rw [l2]; simp [usedS, k], by rw [l1]; simp [madeS, k]⟩
  · exact ⟨⟨⟨#[108]⟩, (2, 4), (0, 0), true, 2, 1⟩, by rw [k]; rfl, by rw [l2]; simp [usedS, k], by rw [l1]; simp [madeS, k]⟩
  · exact ⟨⟨⟨#[109]⟩, (2, 4), (0, 0), true, 1, 2⟩, by rw [k]; rfl, by rw [l1]; simp [usedS, k], by rw [l2]; simp [madeS, k]⟩
  · exact ⟨⟨⟨#[120]⟩, (1, 6), (1, 6), true, 3, 3⟩, by rw [k]; rfl, by rw [l3]; simp [usedS, k], by rw [l3]; simp [madeS, k]⟩
  · exact ⟨⟨⟨#[121]⟩, (1, 6), (1, 6), true, 3, 3⟩, by rw [k]; rfl, by rw [l3]; simp [usedS, k], by rw [l3]; simp [madeS, k]⟩
  · exact ⟨⟨⟨#[115]⟩, (0, 0), (0, 0), true, 1, 1⟩, by rw [k]; rfl, by rw [l1]; simp [usedS, k], by rw [l1]; simp [madeS, k]⟩
  · exact ⟨⟨⟨#[]⟩, (1, 200), (0, 0), false, 0, 2⟩, by rw [k]; rfl, by rw [l0]; simp [usedS, k], by rw [l2]; simp [madeS, k]⟩
  · exact ⟨⟨⟨#[111]⟩, (1, 200), (0, 0), true, 2, 0⟩, by rw [k]; rfl, by rw [l2]; simp [usedS, k], by rw [l0]; simp [madeS, k]⟩
  · omega
/-- lists of stitches -/
def allOk (l : List api_Stitch) : Prop := ∀ p, p ∈ l → okS p
instance (l : List api_Stitch) : Decidable (allOk l) := by unfold allOk; infer_instance
def wfS (p : api_Stitch) : Prop := 0 ≤ p.Kind ∧ p.Kind ≤ 255
theorem used_bd {l : List api_Stitch} (h : allOk l) : 0 ≤ sm usedS l ∧ sm usedS l ≤ 200 * l.length := sm_bd fun _ hx => usedS_bd (h _ hx)
theorem made_bd {l : List api_Stitch} (h : allOk l) : 0 ≤ sm madeS l ∧ sm madeS l ≤ 200 * l.length := sm_bd fun _ hx => madeS_bd (h _ hx)
theorem take_ok {l : List api_Stitch} (h : allOk l) (k : Nat) : allOk (l.take k) := fun _ hx => h _ (List.mem_of_mem_take hx)
theorem sum_step {l : List api_Stitch} (h : allOk l) (hl : l.length ≤ 100000) {k : Nat} (hk : k < l.length) :
    w64 (sm usedS (l.take k) + usedS l[k]) = sm usedS (l.take (k + 1)) ∧ w64 (sm madeS (l.take k) + madeS l[k]) = sm madeS (l.take (k + 1)) := by
  have h1 := used_bd (take_ok h k)
  have h2 := made_bd (take_ok h k)
  have h3 := usedS_bd (h _ (List.getElem_mem hk))
  have h4 := madeS_bd (h _ (List.getElem_mem hk))
  have hlen : (l.take k).length ≤ 100000 := by rw [List.length_take]; omega
  rw [sm_take _ _ hk, sm_take _ _ hk]
  exact ⟨w64_of (by omega) (by omega), w64_of (by omega) (by omega)⟩
theorem sum_eq {l : List api_Stitch} (h : allOk l) (hl : l.length ≤ 100000) : F_stitch_sum l = some (sm usedS l, sm madeS l) := by
  have key : ∃ t, whileO (stitch_sum_l1 l) (0, 0, 0) = some t ∧ t = (sm usedS l, sm madeS l) := by
    refine loop_at (σ := Unit) l.length (fun k _ => (sm usedS (l.take k), sm madeS (l.take k), (k : Int))) (fun _ _ => True) _ (s0 := ()) trivial ?_ ?_
    · intro k _ hk _
      refine .inl ⟨(), ?_, trivial⟩
      obtain ⟨f, f1, f2, f3⟩ := form_ok (h _ (List.getElem_mem hk))
      have hs := sum_step h hl hk
      unfold stitch_sum_l1
      simp only [dT (show (k : Int) < (l.length : Int) by omega), if_true, idxO_nat hk, Option.bind_some, f1, f2, f3, hs.1, hs.2, w64_succ (show k < 9223372036854775807 by omega)]
    · intro _ _
      refine ⟨_, ?_, rfl⟩
      unfold stitch_sum_l1
      simp only [dF (show ¬ (l.length : Int) < (l.length : Int) by omega), Bool.false_eq_true, if_false, List.take_length]
  obtain ⟨t, h1, rfl⟩ := key
  unfold F_stitch_sum
  rw [h1]; rfl
/-- the error of a list -/
def allS (l : List api_Stitch) : Int := if 200 < l.length then 4 else if allOk l then (if 200 < sm usedS l ∨ 200 < sm madeS l then 4 else 0) else 8
theorem find_bad {l : List api_Stitch} (hw : ∀ p, p ∈ l → wfS p) (hl : l.length ≤ 100000) : ∃ j, F_slices_IndexFunc___api_Stitch_api_Stitch__s0 l = some j ∧ (0 ≤ j ↔ ¬ allOk l) := by
  have key : ∃ t, whileO (slices_IndexFunc___api_Stitch_api_Stitch__s0_l1 l) 0 = some t ∧ ((t = .inr () ∧ allOk l) ∨ (∃ k : Nat, t = .inl (k : Int) ∧ ¬ allOk l)) := by
    refine loop_ix l.length (fun k => allOk (l.take k)) _ (fun p hp => by simp at hp) ?_ ?_
    · intro k hk hI
      have hc := check_eq l[k] (hw _ (List.getElem_mem hk))
      unfold slices_IndexFunc___api_Stitch_api_Stitch__s0_l1 F_stitch_All_1
      simp only [dT (show (k : Int) < (l.length : Int) by omega), if_true, idxO_nat hk, Option.bind_some, hc, w64_succ (show k < 9223372036854775807 by omega)]
      by_cases ho : okS l[k]
      · refine .inl ⟨by simp [ho], fun p hp => ?_⟩
        rw [List.take_succ_eq_append_getElem hk, List.mem_append] at hp
        rcases hp with hp | hp
        · exact hI p hp
        · simp at hp; subst hp; exact ho
      · exact .inr ⟨.inl (k : Int), by simp [ho], .inr ⟨k, rfl, fun h => ho (h _ (List.getElem_mem hk))⟩⟩
    · intro hI
      refine ⟨.inr (), ?_, .inl ⟨rfl, by simpa using hI⟩⟩
      unfold slices_IndexFunc___api_Stitch_api_Stitch__s0_l1
      simp only [dF (show ¬ (l.length : Int) < (l.length : Int) by omega), Bool.false_eq_true, if_false]
  obtain ⟨t, h1, h2⟩ := key
  unfold F_slices_IndexFunc___api_Stitch_api_Stitch__s0
  rw [h1]
  rcases h2 with ⟨rfl, h⟩ | ⟨k, rfl, h⟩
  · exact ⟨-1, rfl, by simp [h]⟩
  · exact ⟨(k : Int), rfl, by simp [h]⟩
theorem all_eq {l : List api_Stitch} (hw : ∀ p, p ∈ l → wfS p) : F_stitch_All l = some (allS l) := by
  unfold F_stitch_All allS
  by_cases hl : 200 < l.length
  · simp only [dT (show (200 : Int) < (l.length : Int) by omega), if_true, if_pos hl]
  simp only [dF (show ¬ (200 : Int) < (l.length : Int) by omega), Bool.false_eq_true, if_false, if_neg hl]
  obtain ⟨j, h1, h2⟩ := find_bad hw (by omega)
  unfold F_slices_ContainsFunc___api_Stitch_api_Stitch__s0
  rw [h1]
  by_cases ho : allOk l
  · have : ¬ 0 ≤ j := fun h => h2.1 h ho
    simp only [Option.bind_some, dF this, Bool.false_eq_true, if_false, sum_eq ho (show l.length ≤ 100000 by omega), if_pos ho]
    by_cases hm : 200 < sm usedS l ∨ 200 < sm madeS l
    · rw [dT (show (200 : Int) < if sm usedS l < sm madeS l then sm madeS l else sm usedS l by split <;> omega)]
      simp [hm]
    · rw [dF (show ¬ (200 : Int) < if sm usedS l < sm madeS l then sm madeS l else sm usedS l by split <;> omega)]
      simp [hm]
  · have : 0 ≤ j := h2.2 ho
    simp only [Option.bind_some, dT this, if_true, if_neg ho]
theorem allS_ok {l : List api_Stitch} (h : allS l = 0) : l.length ≤ 200 ∧ allOk l ∧ sm usedS l ≤ 200 ∧ sm madeS l ≤ 200 := by
  unfold allS at h
  split at h
  · omega
  · split at h
    · rename_i h1 h2
      split at h
      · omega
      · rename_i h3
        exact ⟨by omega, h2, by omega, by omega⟩
    · omega
def fin3 {σ τ : Type} (z0 : (σ ⊕ τ) ⊕ σ) : Option (σ ⊕ τ) := match z0 with
  | .inl z => some z
  | .inr g => some (.inl g)

end Go.Proofs.YtmedbnjhgkcndaaDoor
namespace Go.Proofs.YtmedbnjhgkcndaaDoor
open Go.RowKit
set_option linter.unusedVariables false

theorem take_one {α : Type} (l : List α) {k : Nat} (hk : k < l.length) : l.take (k + 1) = l.take k ++ [l[k]] := by
  rw [List.take_add_one, List.getElem?_eq_getElem hk]; rfl
def othS (p : api_Stitch) : api_Stitch := ⟨p.Kind, if p.Kind = 2 ∨ p.Kind = 9 then p.Purl else !p.Purl, if p.Kind = 6 ∨ p.Kind = 7 then p.B else p.A, if p.Kind = 6 ∨ p.Kind = 7 then p.A else p.B⟩
theorem purl_no {p : api_Stitch} (h : okS p) (k : p.Kind = 2 ∨ p.Kind = 9) : p.Purl = false := by
  rcases h with h | h | h | h | h | h
  · omega
  · exact h.2.2.2
  · omega
  · omega
  · exact h.2.2.2.2
  · omega
theorem turn_form {p : api_Stitch} (h : okS p) : ∃ f, F_stitch_forms p.Kind = some (f, true) ∧ (if f.sided = true then some (!p.Purl) else some false) = some (othS p).Purl ∧ (if decide (0 < f.b.2) = true then some (p.B, p.A) else some (p.A, p.B)) = some ((othS p).A, (othS p).B) := by
  have hb := okS_bd h
  unfold othS
  rcases kinds (x := p.Kind) (by omega) with k | k | k | k | k | k | k | k | k | k | k | k
  · omega
  · exact ⟨⟨⟨#[]⟩, (0, 0), (0, 0), true, 1, 1⟩, by rw [k]; rfl, by simp [k], by simp [k]⟩
  · exact ⟨⟨⟨#[]⟩, (0, 0), (0, 0), false, 0, 1⟩, by rw [k]; rfl, by simp [k, purl_no h (.inl k)], by simp [k]⟩
  · exact ⟨⟨⟨#[102]⟩, (2, 4), (0, 0), true, 2, 1⟩, by rw [k]; rfl, by simp [k], by simp [k]⟩
  · exact ⟨⟨⟨#[108]⟩, (2, 4), (0, 0), true, 2, 1⟩, by rw [k]; rfl, by simp [k], by simp [k]⟩
  · exact ⟨⟨⟨#[109]⟩, (2, 4), (0, 0), true, 1, 2⟩, by rw [k]; rfl, by simp [k], by simp [k]⟩
  · exact ⟨⟨⟨#[120]⟩, (1, 6), (1, 6), true, 3, 3⟩, by rw [k]; rfl, by simp [k], by simp [k]⟩
  · exact ⟨⟨⟨#[121]⟩, (1, 6), (1, 6), true, 3, 3⟩, by rw [k]; rfl, by simp [k], by simp [k]⟩
  · exact ⟨⟨⟨#[115]⟩, (0, 0), (0, 0), true, 1, 1⟩, by rw [k]; rfl, by simp [k], by simp [k]⟩
  · exact ⟨⟨⟨#[]⟩, (1, 200), (0, 0), false, 0, 2⟩, by rw [k]; rfl, by simp [k, purl_no h (.inr k)], by simp [k]⟩
  · exact ⟨⟨⟨#[111]⟩, (1, 200), (0, 0), true, 2, 0⟩, by rw [k]; rfl, by simp [k], by simp [k]⟩
  · omega
theorem turn_step {p : api_Stitch} (h : okS p) (s : List api_Stitch) (hs : s.length ≤ 1000000000) (i : Int) : stitch_Turn_l2 s (i, p) = some (.inl (s ++ [othS p])) := by
  obtain ⟨f, f1, f2, f3⟩ := turn_form h
  unfold stitch_Turn_l2
  simp only [f1, Option.bind_some, f2, f3]
  rw [appO_of (by simp; omega)]
  rfl
/-- a list from its end on -/
def bkw {α : Type} (l : List α) : Nat → List (Int × α)
  | 0 => []
  | k + 1 => match l[k]? with
    | some x => ((k : Int), x) :: bkw l k
    | none => bkw l k
theorem bkw_fold {α β τ : Type} {B : List β → (Int × α) → Option (List β ⊕ τ)} (l : List α) (g : α → β) (m : Nat) (hB : ∀ s x i, x ∈ l → s.length ≤ m → B s (i, x) = some (.inl (s ++ [g x]))) : ∀ (k : Nat) (s : List β), k ≤ l.length → s.length + k ≤ m → foldO B s (bkw l k) = some (.inl (s ++ ((l.take k).map g).reverse)) := by
  intro k
  induction k with
  | zero => intro s _ _; simp [bkw, foldO]
  | succ k ih =>
    intro s hk hs
    have hx : l[k]? = some (l[k]'(by omega)) := List.getElem?_eq_getElem (by omega)
    simp only [bkw, hx, foldO]
    rw [hB s _ _ (List.getElem_mem _) (by omega)]
    simp only [Option.bind_some]
    rw [ih _ (by omega) (by simp; omega), take_one l (by omega), List.map_append, List.reverse_append, List.append_assoc]
    rfl
theorem back_loop {σ τ : Type} (l : List api_Stitch) (hl : l.length ≤ 1000000000) (B : σ → (Int × api_Stitch) → Option (σ ⊕ τ)) : ∀ (k : Nat) (z : σ), k ≤ l.length → (whileO (slices_Backward___api_Stitch_api_Stitch__1_l1 l B) ((k : Int) - 1, z)).bind fin3 = foldO B z (bkw l k) := by
  intro k
  induction k with
  | zero =>
    intro z _
    have : slices_Backward___api_Stitch_api_Stitch__1_l1 l B (((0 : Nat) : Int) - 1, z) = some (.inr (.inr z)) := by
      unfold slices_Backward___api_Stitch_api_Stitch__1_l1
      simp only [dF (show ¬ (0 : Int) ≤ ((0 : Nat) : Int) - 1 by omega), Bool.false_eq_true, if_false]
    rw [whileO_done this]
    rfl
  | succ k ih =>
    intro z hk
    have e : ((k + 1 : Nat) : Int) - 1 = (k : Int) := by omega
    have hx : l[k]? = some (l[k]'(by omega)) := List.getElem?_eq_getElem (by omega)
    have e1 : slices_Backward___api_Stitch_api_Stitch__1_l1 l B ((k : Int), z) = (B z ((k : Int), l[k]'(by omega))).bind fun y => match y with | .inl z' => some (.inl ((k : Int) - 1, z')) | .inr t => some (.inr (.inl (.inr t))) := by
      unfold slices_Backward___api_Stitch_api_Stitch__1_l1
      simp only [dT (show (0 : Int) ≤ (k : Int) by omega), if_true, idxO_nat (show k < l.length by omega), Option.bind_some, w64_of (show (-9223372036854775808 : Int) ≤ (k : Int) - 1 by omega) (by omega)]
      try congr 1
    simp only [bkw, hx]
    rw [e, whileO_eq, e1, foldO]
    cases hb : B z ((k : Int), l[k]'(by omega)) with
    | none => rfl
    | some y =>
      cases y with
      | inl z' => exact ih z' (by omega)
      | inr t => rfl
theorem backI_eq {σ τ : Type} (l : List api_Stitch) (hl : l.length ≤ 1000000000) (B : σ → (Int × api_Stitch) → Option (σ ⊕ τ)) (z : σ) : I_slices_Backward___api_Stitch_api_Stitch__1 l σ τ B z = foldO B z (bkw l l.length) := by
  rw [← back_loop l hl B l.length z (Nat.le_refl _)]
  unfold I_slices_Backward___api_Stitch_api_Stitch__1
  rw [w64_of (show (-9223372036854775808 : Int) ≤ (l.length : Int) - 1 by omega) (by omega)]
  try congr 1
theorem turn_eq {l : List api_Stitch} (hw : ∀ p, p ∈ l → wfS p) : F_stitch_Turn l = some (if allS l = 0 then ((l.map othS).reverse, 0) else ([], allS l)) := by
  unfold F_stitch_Turn F_slices_Backward___api_Stitch_api_Stitch_
  rw [all_eq hw]
  by_cases h : allS l = 0
  case neg => simp only [Option.bind_some, nT h, if_true, if_neg h]
  have hk := allS_ok h
  simp only [Option.bind_some, nF h, Bool.false_eq_true, if_false, capO_of (n := (l.length : Int)) (k := l.length) rfl (by omega), if_pos h]
  rw [backI_eq l (by omega), bkw_fold l othS 1000000000 (fun s x i hx hs => turn_step (hk.2.1 x hx) s hs i) l.length [] (Nat.le_refl _) (by simp; omega), List.take_length]
  rfl

end Go.Proofs.YtmedbnjhgkcndaaDoor
namespace Go.Proofs.YtmedbnjhgkcndaaDoor
open Go.RowKit
set_option linter.unusedVariables false

theorem oth_ok {p : api_Stitch} (h : okS p) : okS (othS p) ∧ usedS (othS p) = usedS p ∧ madeS (othS p) = madeS p := by
  have hb := okS_bd h
  have hk : (othS p).Kind = p.Kind := rfl
  rcases kinds (x := p.Kind) (by omega) with k | k | k | k | k | k | k | k | k | k | k | k
  · omega
  · refine ⟨?_, ?_, ?_⟩ <;> simp [okS, usedS, madeS, othS, k] at h ⊢ <;> omega
  · refine ⟨?_, ?_, ?_⟩ <;> simp [okS, usedS, madeS, othS, k] at h ⊢ <;> exact h
  · refine ⟨?_, ?_, ?_⟩ <;> simp [okS, usedS, madeS, othS, k] at h ⊢ <;> omega
  · refine ⟨?_, ?_, ?_⟩ <;> simp [okS, usedS, madeS, othS, k] at h ⊢ <;> omega
  · refine ⟨?_, ?_, ?_⟩ <;> simp [okS, usedS, madeS, othS, k] at h ⊢ <;> omega
  · refine ⟨?_, ?_, ?_⟩ <;> simp [okS, usedS, madeS, othS, k] at h ⊢ <;> omega
  · refine ⟨?_, ?_, ?_⟩ <;> simp [okS, usedS, madeS, othS, k] at h ⊢ <;> omega
  · refine ⟨?_, ?_, ?_⟩ <;> simp [okS, usedS, madeS, othS, k] at h ⊢ <;> omega
  · refine ⟨?_, ?_, ?_⟩ <;> simp [okS, usedS, madeS, othS, k] at h ⊢ <;> first | exact h | omega
  · refine ⟨?_, ?_, ?_⟩ <;> simp [okS, usedS, madeS, othS, k] at h ⊢ <;> omega
  · omega
theorem sm_reverse {α : Type} (f : α → Int) (l : List α) : sm f l.reverse = sm f l := by
  induction l with
  | nil => rfl
  | cons x l ih => rw [List.reverse_cons, sm_append, ih]; simp only [sm]; omega
theorem sm_oth {l : List api_Stitch} (h : allOk l) : sm usedS (l.map othS) = sm usedS l ∧ sm madeS (l.map othS) = sm madeS l := by
  induction l with
  | nil => exact ⟨rfl, rfl⟩
  | cons x l ih =>
    have hx := oth_ok (h x (by simp))
    have ih := ih fun y hy => h y (by simp [hy])
    simp only [List.map_cons, sm, hx.2.1, hx.2.2, ih.1, ih.2, and_self]
theorem turned_ok {l : List api_Stitch} (h : allS l = 0) : allS ((l.map othS).reverse) = 0 ∧ sm usedS ((l.map othS).reverse) = sm usedS l ∧ sm madeS ((l.map othS).reverse) = sm madeS l := by
  obtain ⟨h1, h2, h3, h4⟩ := allS_ok h
  have hs := sm_oth h2
  have hok : allOk ((l.map othS).reverse) := by
    intro p hp
    rw [List.mem_reverse] at hp
    obtain ⟨q, hq, rfl⟩ := List.mem_map.1 hp
    exact (oth_ok (h2 q hq)).1
  rw [sm_reverse, sm_reverse, hs.1, hs.2]
  refine ⟨?_, rfl, rfl⟩
  unfold allS
  rw [sm_reverse, sm_reverse, hs.1, hs.2, if_neg (by simp; omega), if_pos hok, if_neg (by omega)]
end Go.Proofs.YtmedbnjhgkcndaaDoor
namespace Go.Proofs.YtmedbnjhgkcndaaDoor
open Go.RowKit
set_option linter.unusedVariables false

theorem pok_iff {p : api_Piece} : pok p = true ↔ p.Left.length = p.Right.length ∧ 1 ≤ p.Left.length ∧ p.Left.length ≤ 100 ∧ ∀ k, k < p.Left.length → (-500 ≤ p.Left.getD k 0 ∧ p.Left.getD k 0 ≤ 500) ∧ (-500 ≤ p.Right.getD k 0 ∧ p.Right.getD k 0 ≤ 500) ∧ p.Left.getD k 0 < p.Right.getD k 0 ∧ p.Right.getD k 0 - p.Left.getD k 0 ≤ 200 := by
  simp only [pok, pokAt, Bool.and_eq_true, decide_eq_true_eq, List.all_eq_true, List.mem_range, col_spec]
def bS (d kd : Int) : api_Stitch := if d = 0 then ⟨0, false, 0, 0⟩ else if 4 ≤ d then ⟨9, false, d, 0⟩ else if 0 < d then ⟨5, false, d + 1, 0⟩ else if -4 < d then ⟨kd, false, 1 - d, 0⟩ else ⟨10, false, -d, 0⟩
def bU (d : Int) : Int := if d = 0 then 0 else if 4 ≤ d then 0 else if 0 < d then 1 else if -4 < d then 1 - d else -d
theorem bend_cases (d : Int) : d = 0 ∨ 4 ≤ d ∨ (0 < d ∧ d < 4) ∨ (-4 < d ∧ d < 0) ∨ d ≤ -4 := by omega
theorem bend_eq {d : Int} (kd : Int) (h0 : -1000 ≤ d) (h1 : d ≤ 1000) : F_piece_bend d kd = some ⟨bS d kd, bU d⟩ := by
  unfold F_piece_bend bS bU
  rcases bend_cases d with h | h | h | h | h
  · simp [h]
  · rw [bF (show ¬ d = 0 by omega), dT h, if_neg (show ¬ d = 0 by omega), if_neg (show ¬ d = 0 by omega), if_pos h, if_pos h]; rfl
  · rw [bF (show ¬ d = 0 by omega), dF (show ¬ 4 ≤ d by omega), dT h.1, if_neg (show ¬ d = 0 by omega), if_neg (show ¬ d = 0 by omega), if_neg (show ¬ 4 ≤ d by omega), if_neg (show ¬ 4 ≤ d by omega), if_pos h.1, if_pos h.1, w64_of (by omega) (by omega)]; rfl
  · rw [bF (show ¬ d = 0 by omega), dF (show ¬ 4 ≤ d by omega), dF (show ¬ 0 < d by omega), dT h.1, if_neg (show ¬ d = 0 by omega), if_neg (show ¬ d = 0 by omega), if_neg (show ¬ 4 ≤ d by omega), if_neg (show ¬ 4 ≤ d by omega), if_neg (show ¬ 0 < d by omega), if_neg (show ¬ 0 < d by omega), if_pos h.1, if_pos h.1, w64_of (x := 1 - d) (by omega) (by omega)]; rfl
  · rw [bF (show ¬ d = 0 by omega), dF (show ¬ 4 ≤ d by omega), dF (show ¬ 0 < d by omega), dF (show ¬ -4 < d by omega), if_neg (show ¬ d = 0 by omega), if_neg (show ¬ d = 0 by omega), if_neg (show ¬ 4 ≤ d by omega), if_neg (show ¬ 4 ≤ d by omega), if_neg (show ¬ 0 < d by omega), if_neg (show ¬ 0 < d by omega), if_neg (show ¬ -4 < d by omega), if_neg (show ¬ -4 < d by omega), w64_of (x := 0 - d) (by omega) (by omega), show 0 - d = -d by omega]; rfl
theorem bU_bd (d : Int) : 0 ≤ bU d ∧ 0 ≤ bU d + d ∧ (d ≠ 0 → 1 ≤ bU d ∨ 4 ≤ bU d + d) := by
  unfold bU
  rcases bend_cases d with h | h | h | h | h
  · simp [h]
  · rw [if_neg (by omega), if_pos h]; omega
  · rw [if_neg (by omega), if_neg (by omega), if_pos h.1]; omega
  · rw [if_neg (by omega), if_neg (by omega), if_neg (by omega), if_pos h.1]; omega
  · rw [if_neg (by omega), if_neg (by omega), if_neg (by omega), if_neg (by omega)]; omega
theorem bU_le {d : Int} (h0 : -1000 ≤ d) (h1 : d ≤ 1000) : 0 ≤ bU d ∧ bU d ≤ 1001 := by
  unfold bU
  rcases bend_cases d with h | h | h | h | h
  · simp [h]
  · rw [if_neg (by omega), if_pos h]; omega
  · rw [if_neg (by omega), if_neg (by omega), if_pos h.1]; omega
  · rw [if_neg (by omega), if_neg (by omega), if_neg (by omega), if_pos h.1]; omega
  · rw [if_neg (by omega), if_neg (by omega), if_neg (by omega), if_neg (by omega)]; omega
theorem bS_ok {d kd : Int} (hd : d ≠ 0) (hk : kd = 3 ∨ kd = 4) (h0 : -200 ≤ d) (h1 : d ≤ 200) : okS (bS d kd) ∧ usedS (bS d kd) = bU d ∧ madeS (bS d kd) = bU d + d ∧ (bS d kd).Purl = false ∧ (bS d kd).Kind ≠ 1 ∧ (bS d kd).Kind ≠ 0 := by
  unfold bS bU
  rcases bend_cases d with h | h | h | h | h
  · exact absurd h hd
  · rw [if_neg hd, if_neg hd, if_pos h, if_pos h]
    refine ⟨?_, ?_, ?_, rfl, ?_, ?_⟩ <;> simp [okS, usedS, madeS] <;> omega
  · rw [if_neg hd, if_neg hd, if_neg (show ¬ 4 ≤ d by omega), if_neg (show ¬ 4 ≤ d by omega), if_pos h.1, if_pos h.1]
    refine ⟨?_, ?_, ?_, rfl, ?_, ?_⟩ <;> simp [okS, usedS, madeS] <;> omega
  · rw [if_neg hd, if_neg hd, if_neg (show ¬ 4 ≤ d by omega), if_neg (show ¬ 4 ≤ d by omega), if_neg (show ¬ 0 < d by omega), if_neg (show ¬ 0 < d by omega), if_pos h.1, if_pos h.1]
    rcases hk with rfl | rfl <;> refine ⟨?_, ?_, ?_, rfl, ?_, ?_⟩ <;> simp [okS, usedS, madeS] <;> omega
  · rw [if_neg hd, if_neg hd, if_neg (show ¬ 4 ≤ d by omega), if_neg (show ¬ 4 ≤ d by omega), if_neg (show ¬ 0 < d by omega), if_neg (show ¬ 0 < d by omega), if_neg (show ¬ -4 < d by omega), if_neg (show ¬ -4 < d by omega)]
    refine ⟨?_, ?_, ?_, rfl, ?_, ?_⟩ <;> simp [okS, usedS, madeS] <;> omega
def edge (d kd : Int) : List api_Stitch := if d = 0 then [] else [bS d kd]
def kns : api_Stitch := ⟨1, false, 0, 0⟩
theorem edge_spec {d kd : Int} (hk : kd = 3 ∨ kd = 4) (h0 : -200 ≤ d) (h1 : d ≤ 200) : allOk (edge d kd) ∧ sm usedS (edge d kd) = bU d ∧ sm madeS (edge d kd) = bU d + d ∧ (edge d kd).length = (if d = 0 then 0 else 1) := by
  unfold edge
  by_cases h : d = 0
  · subst h
    exact ⟨fun p hp => (by cases hp), rfl, rfl, rfl⟩
  · have := bS_ok h hk h0 h1
    rw [if_neg h]
    refine ⟨fun p hp => ?_, ?_, ?_, by simp [h]⟩
    · have hp : p = bS d kd := by simpa using hp
      rw [hp]; exact this.1
    · simp only [sm, this.2.1]; omega
    · simp only [sm, this.2.2.1]; omega
theorem edge_app {d kd : Int} (s : List api_Stitch) (hk : kd = 3 ∨ kd = 4) (hs : s.length ≤ 1000) :
    (if ((bS d kd).Kind != 0) = true then Option.bind (appO s [api_Stitch.mk (bS d kd).Kind (bS d kd).Purl (bS d kd).A (bS d kd).B]) fun l => some l else some s) = some (s ++ edge d kd) := by
  unfold edge
  by_cases h : d = 0
  · subst h
    rw [if_pos rfl, List.append_nil]
    rfl
  · have hK : (bS d kd).Kind ≠ 0 := by
      unfold bS
      rcases bend_cases d with g | g | g | g | g
      · exact absurd g h
      · rw [if_neg h, if_pos g]; simp
      · rw [if_neg h, if_neg (by omega), if_pos g.1]; simp
      · rw [if_neg h, if_neg (by omega), if_neg (by omega), if_pos g.1]; rcases hk with rfl | rfl <;> simp
      · rw [if_neg h, if_neg (by omega), if_neg (by omega), if_neg (by omega)]; simp
    rw [if_pos (nT hK), if_neg h, appO_of (by simp; omega)]
    rfl
def dR (p : api_Piece) (k : Nat) : Int := p.Right.getD (k + 1) 0 - p.Right.getD k 0
def dL (p : api_Piece) (k : Nat) : Int := p.Left.getD k 0 - p.Left.getD (k + 1) 0
def wd (p : api_Piece) (k : Nat) : Int := p.Right.getD k 0 - p.Left.getD k 0
def nk (p : api_Piece) (k : Nat) : Int := wd p k - bU (dR p k) - bU (dL p k)
def cel (p : api_Piece) (k : Nat) : List api_Stitch := edge (dR p k) 3 ++ List.replicate (nk p k).toNat kns ++ edge (dL p k) 4
def crow (p : api_Piece) (k : Nat) : api_Row := ⟨decide (k % 2 = 0), if k % 2 = 0 then ((cel p k).map othS).reverse else cel p k⟩
theorem sm_rep (f : api_Stitch → Int) (x : api_Stitch) (n : Nat) : sm f (List.replicate n x) = n * f x := by
  induction n with
  | zero => simp [sm]
  | succ n ih => rw [List.replicate_succ]; simp only [sm, ih]; rw [Int.natCast_add, Int.add_mul]; simp; omega
theorem wd_succ (p : api_Piece) (k : Nat) : wd p (k + 1) = wd p k + dR p k + dL p k := by unfold wd dR dL; omega
theorem cel_bd {p : api_Piece} (hp : pok p = true) {k : Nat} (hk : k + 1 < p.Left.length) (hn : 1 ≤ nk p k) :
    (-200 ≤ dR p k ∧ dR p k ≤ 200) ∧ (-200 ≤ dL p k ∧ dL p k ≤ 200) ∧ 1 ≤ wd p k ∧ wd p k ≤ 200 ∧ 1 ≤ wd p (k + 1) ∧ wd p (k + 1) ≤ 200 ∧ bU (dR p k) + bU (dL p k) + nk p k = wd p k := by
  obtain ⟨a, b, c, d⟩ := pok_iff.1 hp
  have d0 := d k (by omega)
  have d1 := d (k + 1) hk
  have w0 : 1 ≤ wd p k ∧ wd p k ≤ 200 := by unfold wd; omega
  have w1 : 1 ≤ wd p (k + 1) ∧ wd p (k + 1) ≤ 200 := by unfold wd; omega
  have ws := wd_succ p k
  have hnk : nk p k = wd p k - bU (dR p k) - bU (dL p k) := rfl
  have r := bU_bd (dR p k)
  have l := bU_bd (dL p k)
  omega
theorem cel_ok {p : api_Piece} (hp : pok p = true) {k : Nat} (hk : k + 1 < p.Left.length) (hn : 1 ≤ nk p k) :
    allS (cel p k) = 0 ∧ sm usedS (cel p k) = wd p k ∧ sm madeS (cel p k) = wd p (k + 1) ∧ ((cel p k).length : Int) ≤ nk p k + 2 ∧ (cel p k).length ≤ 200 := by
  obtain ⟨r, l, a0, a1, b0, b1, e⟩ := cel_bd hp hk hn
  have er := edge_spec (kd := 3) (.inl rfl) r.1 r.2
  have el := edge_spec (kd := 4) (.inr rfl) l.1 l.2
  have ws := wd_succ p k
  have ub := bU_bd (dR p k)
  have lb := bU_bd (dL p k)
  have hN : ((nk p k).toNat : Int) = nk p k := by omega
  have hu : sm usedS (cel p k) = wd p k := by
    unfold cel
    rw [sm_append, sm_append, er.2.1, el.2.1, sm_rep, hN]
    have : usedS kns = 1 := rfl
    rw [this]; omega
  have hm : sm madeS (cel p k) = wd p (k + 1) := by
    unfold cel
    rw [sm_append, sm_append, er.2.2.1, el.2.2.1, sm_rep, hN]
    have : madeS kns = 1 := rfl
    rw [this]; omega
  have hlen : (cel p k).length = (edge (dR p k) 3).length + (nk p k).toNat + (edge (dL p k) 4).length := by unfold cel; simp; omega
  rw [er.2.2.2, el.2.2.2] at hlen
  have hlen2 : (cel p k).length ≤ 200 := by
    by_cases c1 : dR p k = 0
    · by_cases c2 : dL p k = 0
      · rw [if_pos c1, if_pos c2] at hlen; omega
      · have := lb.2.2 c2; rw [if_pos c1, if_neg c2] at hlen; omega
    · have c1' := ub.2.2 c1
      by_cases c2 : dL p k = 0
      · rw [if_neg c1, if_pos c2] at hlen; omega
      · have := lb.2.2 c2; rw [if_neg c1, if_neg c2] at hlen; omega
  have hok : allOk (cel p k) := by
    intro x hx
    unfold cel at hx
    rw [List.mem_append, List.mem_append] at hx
    rcases hx with (hx | hx) | hx
    · exact er.1 x hx
    · rw [List.eq_of_mem_replicate hx]; exact .inl ⟨.inl rfl, rfl, rfl⟩
    · exact el.1 x hx
  refine ⟨?_, hu, hm, ?_, hlen2⟩
  · unfold allS
    rw [if_neg (by omega), if_pos hok, if_neg (by omega)]
  · by_cases c1 : dR p k = 0 <;> by_cases c2 : dL p k = 0 <;> simp only [c1, c2, if_true, if_false] at hlen <;> omega
theorem ok_wf {l : List api_Stitch} (h : allOk l) : ∀ p, p ∈ l → wfS p := by
  intro p hp
  have := okS_bd (h p hp)
  unfold wfS
  omega
theorem rem_two (n : Nat) : remI (n : Int) 2 = some ((n % 2 : Nat) : Int) := by unfold remI; rw [if_neg (by omega)]; rfl
theorem chart_step {p : api_Piece} (hp : pok p = true) {k : Nat} (hk : k + 1 < p.Left.length) {s : List api_Row} (hs : s.length ≤ 1000) :
    piece_Chart_l2 p (((k + 1 : Nat) : Int), s) = some (if 1 ≤ nk p k then .inl (((k + 1 + 1 : Nat) : Int), s ++ [crow p k]) else .inr (.inl (⟨0, []⟩, 22))) := by
  obtain ⟨a, b, c, d⟩ := pok_iff.1 hp
  have d0 := d k (by omega)
  have d1 := d (k + 1) hk
  have hj : w64 (((k + 1 : Nat) : Int) - 1) = (k : Int) := by rw [w64_of (by omega) (by omega)]; omega
  have e1 : w64 (p.Right.getD (k + 1) 0 - p.Right.getD k 0) = dR p k := w64_of (by omega) (by omega)
  have e2 : w64 (p.Left.getD k 0 - p.Left.getD (k + 1) 0) = dL p k := w64_of (by omega) (by omega)
  have e3 : w64 (p.Right.getD k 0 - p.Left.getD k 0) = wd p k := w64_of (by omega) (by omega)
  have rb : -1000 ≤ dR p k ∧ dR p k ≤ 1000 := by unfold dR; omega
  have lb : -1000 ≤ dL p k ∧ dL p k ≤ 1000 := by unfold dL; omega
  have ub := bU_le rb.1 rb.2
  have vb := bU_le lb.1 lb.2
  have wb : 0 ≤ wd p k ∧ wd p k ≤ 200 := by unfold wd; omega
  have e4 : w64 (w64 (wd p k - bU (dR p k)) - bU (dL p k)) = nk p k := by
    unfold nk
    rw [w64_of (x := wd p k - bU (dR p k)) (by omega) (by omega), w64_of (by omega) (by omega)]
  unfold piece_Chart_l2
  simp only [dT (show ((k + 1 : Nat) : Int) < (p.Left.length : Int) by omega), if_true, hj, idxO_D (0 : Int) hk, idxO_D (0 : Int) (show k < p.Left.length by omega), idxO_D (0 : Int) (show k + 1 < p.Right.length by omega), idxO_D (0 : Int) (show k < p.Right.length by omega), Option.bind_some, e1, e2, e3, bend_eq _ rb.1 rb.2, bend_eq _ lb.1 lb.2, e4]
  by_cases hn : 1 ≤ nk p k
  case neg => rw [dT (show nk p k < 1 by omega), if_neg hn]; rfl
  obtain ⟨c1, c2, c3, c4, c5⟩ := cel_ok hp hk hn
  obtain ⟨b1, b2, -⟩ := cel_bd hp hk hn
  have er := edge_spec (kd := 3) (.inl rfl) b1.1 b1.2
  have hlen : (cel p k).length = (edge (dR p k) 3).length + (nk p k).toNat + (edge (dL p k) 4).length := by unfold cel; simp; omega
  have hin : whileO (piece_Chart_l1 (p.Right.getD k 0) (p.Left.getD k 0) (bU (dR p k)) (bU (dL p k))) (edge (dR p k) 3, 0) = some (edge (dR p k) 3 ++ List.replicate (nk p k).toNat kns) := by
    have key : ∃ t, whileO (piece_Chart_l1 (p.Right.getD k 0) (p.Left.getD k 0) (bU (dR p k)) (bU (dL p k))) (edge (dR p k) 3, 0) = some t ∧ t = edge (dR p k) 3 ++ List.replicate (nk p k).toNat kns := by
      refine loop_st (nk p k).toNat (fun j s => s = edge (dR p k) 3 ++ List.replicate j kns) _ (by simp) ?_ ?_
      · rintro j s hj' rfl
        refine .inl ⟨edge (dR p k) 3 ++ List.replicate (j + 1) kns, ?_, rfl⟩
        unfold piece_Chart_l1
        simp only [e3, e4, dT (show (j : Int) < nk p k by omega), if_true]
        rw [appO_of (by simp; omega)]
        simp only [Option.bind_some, w64_succ (show j < 9223372036854775807 by omega), List.append_assoc, List.replicate_succ']
        rfl
      · rintro s rfl
        refine ⟨_, ?_, rfl⟩
        unfold piece_Chart_l1
        simp only [e3, e4, dF (show ¬ ((nk p k).toNat : Int) < nk p k by omega), Bool.false_eq_true, if_false]
    obtain ⟨t, t1, rfl⟩ := key
    exact t1
  have h1 := edge_app (d := dR p k) [] (kd := 3) (.inl rfl) (by simp)
  have h2 := edge_app (d := dL p k) (edge (dR p k) 3 ++ List.replicate (nk p k).toNat kns) (kd := 4) (.inr rfl) (by rw [List.length_append, List.length_replicate]; omega)
  rw [List.nil_append] at h1
  have hc : edge (dR p k) 3 ++ List.replicate (nk p k).toNat kns ++ edge (dL p k) 4 = cel p k := rfl
  rw [hc] at h2
  have hT := turn_eq (ok_wf (allS_ok c1).2.1)
  rw [if_pos c1] at hT
  rw [dF (show ¬ nk p k < 1 by omega), if_pos hn]
  simp only [Bool.false_eq_true, if_false, h1, hin, h2, Option.bind_some, rem_two]
  have hrow : (if (((k + 1) % 2 : Nat) : Int) == 1 then (some ((cel p k).map othS).reverse) else some (cel p k)) = some (crow p k).Cells := by
    unfold crow
    by_cases g : k % 2 = 0
    · rw [bT (show (((k + 1) % 2 : Nat) : Int) = 1 by omega), if_pos g]; rfl
    · rw [bF (show ¬ (((k + 1) % 2 : Nat) : Int) = 1 by omega), if_neg g]; rfl
  have hback : ((((k + 1) % 2 : Nat) : Int) == 1) = (crow p k).Back := by
    unfold crow
    by_cases g : k % 2 = 0
    · rw [bT (show (((k + 1) % 2 : Nat) : Int) = 1 by omega)]; simp [g]
    · rw [bF (show ¬ (((k + 1) % 2 : Nat) : Int) = 1 by omega)]; simp [g]
  simp only [hT, Option.bind_some, hrow, hback]
  rw [hback] at hrow
  try simp only [hrow, Option.bind_some]
  rw [appO_of (by simp; omega)]
  simp only [Option.bind_some, w64_succ (show k + 1 < 9223372036854775807 by omega)]
def chOk (p : api_Piece) : Prop := ∀ k, k < p.Left.length - 1 → 1 ≤ nk p k
instance (p : api_Piece) : Decidable (chOk p) := by unfold chOk; infer_instance
def chart (p : api_Piece) : api_Chart := ⟨wd p 0, (List.range (p.Left.length - 1)).map (crow p)⟩
theorem chart_eq (p : api_Piece) (h1 : p.Left.length ≤ 1000000) (h2 : p.Right.length ≤ 1000000) : F_piece_Chart p = some (if pok p = true then (if chOk p then (chart p, 0) else (⟨0, []⟩, 22)) else (⟨0, []⟩, 8)) := by
  unfold F_piece_Chart
  rw [(pcheck_eq p h1 h2).1]
  cases hp : pok p with
  | false => rfl
  | true =>
    obtain ⟨a, b, c, d⟩ := pok_iff.1 hp
    have d0 := d 0 (by omega)
    have e3 : w64 (p.Right.getD 0 0 - p.Left.getD 0 0) = wd p 0 := w64_of (by omega) (by omega)
    have hw : ∃ t, whileO (piece_Chart_l2 p) (1, ([] : List api_Row)) = some t ∧ ((chOk p ∧ t = .inr (chart p).Rows) ∨ (¬ chOk p ∧ t = .inl (⟨0, []⟩, 22))) := by
      refine loop_at (p.Left.length - 1) (fun k s => (((k + 1 : Nat) : Int), s)) (fun k s => s = (List.range k).map (crow p) ∧ ∀ j, j < k → 1 ≤ nk p j) _ ⟨rfl, fun j hj => absurd hj (Nat.not_lt_zero j)⟩ ?_ ?_
      · rintro k s hk ⟨rfl, hI⟩
        rw [chart_step hp (by omega) (by simp; omega)]
        by_cases hn : 1 ≤ nk p k
        · rw [if_pos hn]
          refine .inl ⟨_, rfl, ?_, fun j hj => ?_⟩
          · rw [List.range_succ, List.map_append]; rfl
          · by_cases e : j = k
            · subst e; exact hn
            · exact hI j (by omega)
        · rw [if_neg hn]
          exact .inr ⟨_, rfl, .inr ⟨fun h => hn (h k hk), rfl⟩⟩
      · rintro s ⟨rfl, hI⟩
        refine ⟨.inr (chart p).Rows, ?_, .inl ⟨hI, rfl⟩⟩
        unfold piece_Chart_l2
        simp only [dF (show ¬ ((p.Left.length - 1 + 1 : Nat) : Int) < (p.Left.length : Int) by omega), Bool.false_eq_true, if_false]
        rfl
    obtain ⟨t, t1, t2⟩ := hw
    have i0 : idxO p.Right 0 = some (p.Right.getD 0 0) := idxO_D (k := 0) (0 : Int) (by omega)
    have i1 : idxO p.Left 0 = some (p.Left.getD 0 0) := idxO_D (k := 0) (0 : Int) (by omega)
    simp only [if_true, Option.bind_some, nF (rfl : (0 : Int) = 0), Bool.false_eq_true, if_false, i0, i1, t1, e3]
    rcases t2 with ⟨g, rfl⟩ | ⟨g, rfl⟩
    · rw [if_pos g]; rfl
    · rw [if_neg g]; rfl

end Go.Proofs.YtmedbnjhgkcndaaDoor
namespace Go.Proofs.YtmedbnjhgkcndaaDoor
open Go.RowKit
set_option linter.unusedVariables false

theorem crow_ok {p : api_Piece} (hp : pok p = true) {k : Nat} (hk : k + 1 < p.Left.length) (hn : 1 ≤ nk p k) :
    allS (crow p k).Cells = 0 ∧ sm usedS (crow p k).Cells = wd p k ∧ sm madeS (crow p k).Cells = wd p (k + 1) ∧ (crow p k).Cells.length = (cel p k).length := by
  obtain ⟨c1, c2, c3, c4, c5⟩ := cel_ok hp hk hn
  unfold crow
  by_cases g : k % 2 = 0
  · have t := turned_ok c1
    simp only [g, if_true]
    exact ⟨t.1, t.2.1.trans c2, t.2.2.trans c3, by simp⟩
  · simp only [g, if_false]
    exact ⟨c1, c2, c3, trivial⟩
theorem bS_kind {d kd : Int} (hd : d ≠ 0) (hk : kd = 3 ∨ kd = 4) : (bS d kd).Purl = false ∧ (bS d kd).Kind ≠ 1 ∧ (bS d kd).Kind ≠ 2 ∧ (bS d kd).Kind ≠ 6 ∧ (bS d kd).Kind ≠ 7 := by
  unfold bS
  rcases bend_cases d with g | g | g | g | g
  · exact absurd g hd
  · rw [if_neg hd, if_pos g]; simp
  · rw [if_neg hd, if_neg (by omega), if_pos g.1]; simp
  · rw [if_neg hd, if_neg (by omega), if_neg (by omega), if_pos g.1]; rcases hk with rfl | rfl <;> simp
  · rw [if_neg hd, if_neg (by omega), if_neg (by omega), if_neg (by omega)]; simp
def plain (c : api_Stitch) : Prop := c.Purl = false ∧ c.Kind ≠ 2 ∧ c.Kind ≠ 6 ∧ c.Kind ≠ 7
theorem edge_plain {d kd : Int} (hk : kd = 3 ∨ kd = 4) : ∀ c, c ∈ edge d kd → plain c ∧ c.Kind ≠ 1 := by
  unfold edge
  by_cases h : d = 0
  · rw [if_pos h]; exact fun c hc => (by cases hc)
  · rw [if_neg h]
    intro c hc
    have hc : c = bS d kd := by simpa using hc
    have := bS_kind h hk
    rw [hc]
    exact ⟨⟨this.1, this.2.2.1, this.2.2.2.1, this.2.2.2.2⟩, this.2.1⟩
theorem cel_plain (p : api_Piece) (k : Nat) : ∀ c, c ∈ cel p k → plain c := by
  intro c hc
  unfold cel at hc
  rw [List.mem_append, List.mem_append] at hc
  rcases hc with (hc | hc) | hc
  · exact (edge_plain (.inl rfl) c hc).1
  · rw [List.eq_of_mem_replicate hc]; exact ⟨rfl, by decide, by decide, by decide⟩
  · exact (edge_plain (.inr rfl) c hc).1

end Go.Proofs.YtmedbnjhgkcndaaDoor
namespace Go.Proofs.YtmedbnjhgkcndaaDoor
open Go.RowKit
set_option linter.unusedVariables false

noncomputable def F_stitch_Uses (p0 : (List api_Stitch)) : Option (Int × Int) :=
  Option.bind (F_stitch_All p0) fun r6 =>
  if r6 != 0 then
    some (0, r6)
  else
    Option.bind (F_stitch_sum p0) fun r12 =>
    some (r12.1, 0)
set_option maxHeartbeats 4000000 in
set_option maxRecDepth 100000 in
theorem c_stitch_Uses (E : Nat → Prop) (w0 : World) (p0 : (List api_Stitch)) (v0 : Value) (r : (Int × Int)) (h : F_stitch_Uses p0 = some r) (S : St0 E [] w0 w0 [] [fRep (rL r_api_Stitch) (v0) p0]) :
    Calls Tryd.prog 22 #[v0] w0 (Ret (X := Unit) E [] w0 (fun _ => .tuple #[.int .i64 r.1, .int .i64 r.2]) (fun _ => []) (fun _ => [])) := by
  unfold F_stitch_Uses at h
  obtain ⟨ad1, cp2, _, rfl, _⟩ := S.know (i := 0) (e := fRep (rL r_api_Stitch) (v0) p0) rfl
  refine sEnter (args := [.slice ad1 p0.length cp2]) 18 Tryd.func22 rfl rfl (by simp) S (fun a S => ?_)
  refine sSeq (fun K3 hK3 => ?_)
  refine sRegion ?_
  refine sMove (iv 0) S (wN rfl) (.inr rfl) rfl rfl (lb rfl) fun a S => ?_
  refine sMove (iv 0) S (wN rfl) (.inr rfl) rfl rfl (lb rfl) fun a S => ?_
  refine leafL (leafT (hK3 _ _ ?_))
  refine sSeq (fun K4 hK4 => ?_)
  refine sSeq (fun K5 hK5 => ?_)
  refine sRegion ?_
  refine sMove (.slice ad1 p0.length cp2) S (wN rfl) (.inl rfl) rfl rfl (lb rfl) fun a S => ?_
  obtain ⟨r6, hx7, h⟩ := bindSome h
  have S1 := S.mem
  refine sCallQ (X := Unit) (f := 40) (vs := [.slice ad1 p0.length cp2]) (val := fun _ => iv r6) S (wN rfl) rfl callee40 rfl (S1.quiet [0] rfl) (fun E1 w1 S1 => c_stitch_All E1 w1 p0 (.slice ad1 p0.length cp2) r6 hx7 S1) rfl (lb rfl) fun _ a w S => ?_
  refine sMove (iv r6) S (wN rfl) (.inr rfl) rfl rfl (lb rfl) fun a S => ?_
  refine leafL (leafT (hK5 _ _ ?_))
  refine sSeq (fun K8 hK8 => ?_)
  refine sRegion ?_
  refine sMove (iv r6) S (wN rfl) (.inl rfl) rfl rfl (lb rfl) fun a S => ?_
  refine sBin (.bool (r6 != 0)) S (wN rfl) rfl rfl rfl (bNe _ _ _ _ .i64 r6 0) rfl (lb rfl) fun a S => ?_
  refine leafL (leafT (hK8 _ _ ?_))
  rcases iteSome h with ⟨hc9, h⟩ | ⟨hc9, h⟩
  · refine sCondT S rfl hc9 ?_
    refine sSeq (fun K10 hK10 => ?_)
    refine sRegion ?_
    refine sMove (iv r6) S (wN rfl) (.inl rfl) rfl rfl (lb rfl) fun a S => ?_
    refine sMove (iv 0) S (wN rfl) (.inr rfl) rfl rfl (lb rfl) fun a S => ?_
    refine sMove (iv r6) S (wN rfl) (.inr rfl) rfl rfl (lb rfl) fun a S => ?_
    refine leafL (leafT (hK10 _ _ ?_))
    obtain rfl := Option.some.inj h
    exact wp_ret (rThen (sRet (.tuple #[iv 0, iv r6]) S (rsl2 rfl (rvT (t := 2) (v := iv 0) S rfl) (rvT (t := 3) (v := iv r6) S rfl)) ⟨(), rfl, S.mem.sel [] [] (by decide) rfl rfl⟩))
  refine sCondF S rfl hc9 ?_
  refine wp_skip (leafT (hK4 _ _ ?_))
  refine sSeq (fun K11 hK11 => ?_)
  refine sRegion ?_
  refine sMove (.slice ad1 p0.length cp2) S (wN rfl) (.inl rfl) rfl rfl (lb rfl) fun a S => ?_
  obtain ⟨r12, hx13, h⟩ := bindSome h
  have S1 := S.mem
  refine sCallQ (X := Unit) (f := 46) (vs := [.slice ad1 p0.length cp2]) (val := fun _ => .tuple #[iv r12.1, iv r12.2]) S (wN rfl) rfl callee46 rfl (S1.quiet [0] rfl) (fun E1 w1 S1 => c_stitch_sum E1 w1 p0 (.slice ad1 p0.length cp2) r12 hx13 S1) rfl (lb rfl) fun _ a w S => ?_
  refine sMove (.tuple #[iv r12.1, iv r12.2]) S (wN rfl) (.inl rfl) rfl rfl (lb rfl) fun a S => ?_
  refine sExtract (vs := [iv r12.1, iv r12.2]) (iv r12.1) S (wN rfl) rfl rfl rfl rfl (lb rfl) fun a S => ?_
  refine sExtract (vs := [iv r12.1, iv r12.2]) (iv r12.2) S (wN rfl) rfl rfl rfl rfl (lb rfl) fun a S => ?_
  refine sMove (iv r12.1) S (wN rfl) (.inr rfl) rfl rfl (lb rfl) fun a S => ?_
  refine sMove (iv r12.2) S (wN rfl) (.inr rfl) rfl rfl (lb rfl) fun a S => ?_
  refine leafL (leafT (hK11 _ _ ?_))
  refine sSeq (fun K14 hK14 => ?_)
  refine sRegion ?_
  refine sMove (iv r12.1) S (wN rfl) (.inl rfl) rfl rfl (lb rfl) fun a S => ?_
  refine sMove (iv r12.1) S (wN rfl) (.inr rfl) rfl rfl (lb rfl) fun a S => ?_
  refine sMove (iv 0) S (wN rfl) (.inr rfl) rfl rfl (lb rfl) fun a S => ?_
  refine leafL (leafT (hK14 _ _ ?_))
  obtain rfl := Option.some.inj h
  exact wp_ret (sRet (.tuple #[iv r12.1, iv 0]) S (rsl2 rfl (rvT (t := 2) (v := iv r12.1) S rfl) (rvT (t := 3) (v := iv 0) S rfl)) ⟨(), rfl, S.mem.sel [] [] (by decide) rfl rfl⟩)

end Go.Proofs.YtmedbnjhgkcndaaDoor
namespace Go.Proofs.YtmedbnjhgkcndaaDoor
open Go.RowKit
set_option linter.unusedVariables false

noncomputable def F_stitch_Makes (p0 : (List api_Stitch)) : Option (Int × Int) :=
  Option.bind (F_stitch_All p0) fun r6 =>
  if r6 != 0 then
    some (0, r6)
  else
    Option.bind (F_stitch_sum p0) fun r12 =>
    some (r12.2, 0)
set_option maxHeartbeats 4000000 in
set_option maxRecDepth 100000 in
theorem c_stitch_Makes (E : Nat → Prop) (w0 : World) (p0 : (List api_Stitch)) (v0 : Value) (r : (Int × Int)) (h : F_stitch_Makes p0 = some r) (S : St0 E [] w0 w0 [] [fRep (rL r_api_Stitch) (v0) p0]) :
    Calls Tryd.prog 23 #[v0] w0 (Ret (X := Unit) E [] w0 (fun _ => .tuple #[.int .i64 r.1, .int .i64 r.2]) (fun _ => []) (fun _ => [])) := by
  unfold F_stitch_Makes at h
  obtain ⟨ad1, cp2, _, rfl, _⟩ := S.know (i := 0) (e := fRep (rL r_api_Stitch) (v0) p0) rfl
  refine sEnter (args := [.slice ad1 p0.length cp2]) 18 Tryd.func23 rfl rfl (by simp) S (fun a S => ?_)
  refine sSeq (fun K3 hK3 => ?_)
  refine sRegion ?_
  refine sMove (iv 0) S (wN rfl) (.inr rfl) rfl rfl (lb rfl) fun a S => ?_
  refine sMove (iv 0) S (wN rfl) (.inr rfl) rfl rfl (lb rfl) fun a S => ?_
  refine leafL (leafT (hK3 _ _ ?_))
  refine sSeq (fun K4 hK4 => ?_)
  refine sSeq (fun K5 hK5 => ?_)
  refine sRegion ?_
  refine sMove (.slice ad1 p0.length cp2) S (wN rfl) (.inl rfl) rfl rfl (lb rfl) fun a S => ?_
  obtain ⟨r6, hx7, h⟩ := bindSome h
  have S1 := S.mem
  refine sCallQ (X := Unit) (f := 40) (vs := [.slice ad1 p0.length cp2]) (val := fun _ => iv r6) S (wN rfl) rfl callee40 rfl (S1.quiet [0] rfl) (fun E1 w1 S1 => c_stitch_All E1 w1 p0 (.slice ad1 p0.length cp2) r6 hx7 S1) rfl (lb rfl) fun _ a w S => ?_
  refine sMove (iv r6) S (wN rfl) (.inr rfl) rfl rfl (lb rfl) fun a S => ?_
  refine leafL (leafT (hK5 _ _ ?_))
  refine sSeq (fun K8 hK8 => ?_)
  refine sRegion ?_
  refine sMove (iv r6) S (wN rfl) (.inl rfl) rfl rfl (lb rfl) fun a S => ?_
  refine sBin (.bool (r6 != 0)) S (wN rfl) rfl rfl rfl (bNe _ _ _ _ .i64 r6 0) rfl (lb rfl) fun a S => ?_
  refine leafL (leafT (hK8 _ _ ?_))
  rcases iteSome h with ⟨hc9, h⟩ | ⟨hc9, h⟩
  · refine sCondT S rfl hc9 ?_
    refine sSeq (fun K10 hK10 => ?_)
    refine sRegion ?_
    refine sMove (iv r6) S (wN rfl) (.inl rfl) rfl rfl (lb rfl) fun a S => ?_
    refine sMove (iv 0) S (wN rfl) (.inr rfl) rfl rfl (lb rfl) fun a S => ?_
    refine sMove (iv r6) S (wN rfl) (.inr rfl) rfl rfl (lb rfl) fun a S => ?_
    refine leafL (leafT (hK10 _ _ ?_))
    obtain rfl := Option.some.inj h
    exact wp_ret (rThen (sRet (.tuple #[iv 0, iv r6]) S (rsl2 rfl (rvT (t := 2) (v := iv 0) S rfl) (rvT (t := 3) (v := iv r6) S rfl)) ⟨(), rfl, S.mem.sel [] [] (by decide) rfl rfl⟩))
  refine sCondF S rfl hc9 ?_
  refine wp_skip (leafT (hK4 _ _ ?_))
  refine sSeq (fun K11 hK11 => ?_)
  refine sRegion ?_
  refine sMove (.slice ad1 p0.length cp2) S (wN rfl) (.inl rfl) rfl rfl (lb rfl) fun a S => ?_
  obtain ⟨r12, hx13, h⟩ := bindSome h
  have S1 := S.mem
  refine sCallQ (X := Unit) (f := 46) (vs := [.slice ad1 p0.length cp2]) (val := fun _ => .tuple #[iv r12.1, iv r12.2]) S (wN rfl) rfl callee46 rfl (S1.quiet [0] rfl) (fun E1 w1 S1 => c_stitch_sum E1 w1 p0 (.slice ad1 p0.length cp2) r12 hx13 S1) rfl (lb rfl) fun _ a w S => ?_
  refine sMove (.tuple #[iv r12.1, iv r12.2]) S (wN rfl) (.inl rfl) rfl rfl (lb rfl) fun a S => ?_
  refine sExtract (vs := [iv r12.1, iv r12.2]) (iv r12.1) S (wN rfl) rfl rfl rfl rfl (lb rfl) fun a S => ?_
  refine sExtract (vs := [iv r12.1, iv r12.2]) (iv r12.2) S (wN rfl) rfl rfl rfl rfl (lb rfl) fun a S => ?_
  refine sMove (iv r12.1) S (wN rfl) (.inr rfl) rfl rfl (lb rfl) fun a S => ?_
  refine sMove (iv r12.2) S (wN rfl) (.inr rfl) rfl rfl (lb rfl) fun a S => ?_
  refine leafL (leafT (hK11 _ _ ?_))
  refine sSeq (fun K14 hK14 => ?_)
  refine sRegion ?_
  refine sMove (iv r12.2) S (wN rfl) (.inl rfl) rfl rfl (lb rfl) fun a S => ?_
  refine sMove (iv r12.2) S (wN rfl) (.inr rfl) rfl rfl (lb rfl) fun a S => ?_
  refine sMove (iv 0) S (wN rfl) (.inr rfl) rfl rfl (lb rfl) fun a S => ?_
  refine leafL (leafT (hK14 _ _ ?_))
  obtain rfl := Option.some.inj h
  exact wp_ret (sRet (.tuple #[iv r12.2, iv 0]) S (rsl2 rfl (rvT (t := 2) (v := iv r12.2) S rfl) (rvT (t := 3) (v := iv 0) S rfl)) ⟨(), rfl, S.mem.sel [] [] (by decide) rfl rfl⟩)

end Go.Proofs.YtmedbnjhgkcndaaDoor
namespace Go.Proofs.YtmedbnjhgkcndaaDoor
open Go.RowKit
set_option linter.unusedVariables false

theorem uses_eq {l : List api_Stitch} (hw : ∀ p, p ∈ l → wfS p) : F_stitch_Uses l = some (if allS l = 0 then (sm usedS l, 0) else (0, allS l)) := by
  unfold F_stitch_Uses
  rw [all_eq hw, Option.bind_some]
  by_cases h : allS l = 0
  · simp only [nF h, Bool.false_eq_true, if_false, sum_eq (allS_ok h).2.1 (show l.length ≤ 100000 by have := (allS_ok h).1; omega), Option.bind_some, if_pos h]
  · simp only [nT h, if_true, if_neg h]
theorem makes_eq {l : List api_Stitch} (hw : ∀ p, p ∈ l → wfS p) : F_stitch_Makes l = some (if allS l = 0 then (sm madeS l, 0) else (0, allS l)) := by
  unfold F_stitch_Makes
  rw [all_eq hw, Option.bind_some]
  by_cases h : allS l = 0
  · simp only [nF h, Bool.false_eq_true, if_false, sum_eq (allS_ok h).2.1 (show l.length ≤ 100000 by have := (allS_ok h).1; omega), Option.bind_some, if_pos h]
  · simp only [nT h, if_true, if_neg h]

end Go.Proofs.YtmedbnjhgkcndaaDoor
