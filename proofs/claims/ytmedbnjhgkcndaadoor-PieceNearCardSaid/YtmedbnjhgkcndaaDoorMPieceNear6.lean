/- Several texts in one: G34 G11 G14 -/
import Derived.WalkKit
import Derived.Maps.AppendAt
import Derived.Deep.AppendLies
import Derived.KernelRfl
import Derived.Laws.OwnMore
import Derived.Great.BuildSlice
import Derived.Orders
import Derived.Laws.StructEq
import Derived.ChangeKeysEq
import Derived.Defers
import Derived.Laws.BytesString
import Derived.RangeFuncNested
import Derived.RangeFuncBound
import Derived.RangeFuncCalls
import Derived.RangeFuncLeaves
import Derived.OrdersIn
import Derived.LoopNIn
import Derived.Test.YtmedbnjhgkcndaaDoorProg
import Derived.ProofKit
import Derived.OpenShut
import Derived.ChangeOld
import Derived.Deep.Slices
import Derived.Lib.SmallJoins
import Derived.JoinedOf
import Derived.JoinedAt
import Derived.Below
import Derived.Shelf.Strings.Builder1
import Derived.Shelf.Strings.Builder2
import Derived.Shelf.Strings.OnBuilder
import Derived.Test.YtmedbnjhgkcndaaDoorRows
import Derived.LaidMore
import Derived.SevenTiedAt
import Derived.Test.YtmedbnjhgkcndaaDoorCards
import Derived.Test.YtmedbnjhgkcndaaDoorTie
import Derived.Test.YtmedbnjhgkcndaaDoorMPieceNear5
namespace Go.Proofs.YtmedbnjhgkcndaaDoor
open Go.RowKit
set_option linter.unusedVariables false

def anc_raddleref37_side_0 : List (List Nat) := [[], [], [0, 1], [0, 1, 2], [0, 1, 2, 3], [0, 1, 2, 3, 4], [0, 1, 2, 3, 4, 5], [0, 1, 2, 3, 4, 5, 6], [0, 1, 2, 3, 4, 5, 6, 7], [0, 1, 2, 3, 4, 5, 6, 7], [0, 1, 2, 3, 4, 5, 6, 7, 8, 9], [0, 1, 2, 3, 4, 5, 6, 7, 8, 9, 10], [0, 1, 2, 3, 4, 5, 6, 7, 8, 9, 10, 11], [0, 1, 2, 3, 4, 5, 6, 7, 8, 9, 10, 11, 12], [0, 1, 2, 3, 4, 5, 6, 7, 8, 9, 10, 11, 12, 13], [0, 1, 2, 3, 4, 5, 6, 7, 8, 9, 10, 11, 12, 13, 14], [0, 1, 2, 3, 4, 5, 6, 7, 8, 9, 10, 11, 12, 13, 14, 15], [0, 1, 2, 3, 4, 5, 6, 7, 8, 9, 10, 11, 12, 13, 14, 15], [0, 1, 2, 3, 4, 5, 6, 7, 8, 9, 10, 11, 12, 13, 14, 15, 16, 17], [0, 1, 2, 3, 4, 5, 6, 7, 8, 9, 10, 11, 12, 13, 14, 15, 16, 17, 18], [0, 1, 2, 3, 4, 5, 6, 7, 8, 9, 10, 11, 12, 13, 14, 15, 16, 17, 18, 19], [0, 1, 2, 3, 4, 5, 6, 7, 8, 9, 10, 11, 12, 13, 14, 15, 16, 17, 18, 19, 20], [0, 1, 2, 3, 4, 5, 6, 7, 8, 9, 10, 11, 12, 13, 14, 15, 16, 17, 18, 19, 20, 21], [0, 1, 2, 3, 4, 5, 6, 7, 8, 9, 10, 11, 12, 13, 14, 15, 16, 17, 18, 19, 20, 21, 22], [0, 1, 2, 3, 4, 5, 6, 7, 8, 9, 10, 11, 12, 13, 14, 15, 16, 17, 18, 19, 20, 21, 22, 23], [0, 1, 2, 3, 4, 5, 6, 7, 8, 9, 10, 11, 12, 13, 14, 15, 16, 17, 18, 19, 20, 21, 22, 23, 24], [0, 1, 2, 3, 4, 5, 6, 7, 8, 9, 10, 11, 12, 13, 14, 15, 16, 17, 18, 19, 20, 21, 22, 23, 24, 25], [0, 1, 2, 3, 4, 5, 6, 7, 8, 9, 10, 11, 12, 13, 14, 15, 16, 17, 18, 19, 20, 21, 22, 23, 24, 25, 26], [0, 1, 2, 3, 4, 5, 6, 7, 8, 9, 10, 11, 12, 13, 14, 15, 16, 17, 18, 19, 20, 21, 22, 23, 24, 25, 26], [0, 1, 2, 3, 4, 5, 6, 7, 8, 9, 10, 11, 12, 13, 14, 15, 16, 17, 18, 19, 20, 21, 22, 23, 24, 25, 26, 27, 28], [0, 1, 2, 3, 4, 5, 6, 7, 8, 9, 10, 11, 12, 13, 14, 15, 16, 17, 18, 19, 20, 21, 22, 23, 24, 25, 26, 27, 28, 29], [0, 1, 2, 3, 4, 5, 6, 7, 8, 9, 10, 11, 12, 13, 14, 15, 16, 17, 18, 19, 20, 21, 22, 23, 24, 25, 26, 27, 28, 29, 30], [0, 1, 2, 3, 4, 5, 6, 7, 8, 9, 10, 11, 12, 13, 14, 15, 16, 17, 18, 19, 20, 21, 22, 23, 24, 25, 26], [0, 1, 2, 3, 4, 5, 6, 7, 8, 9, 10, 11, 12, 13, 14, 15, 16, 17, 18, 19, 20, 21, 22, 23, 24, 25, 26], [0, 1, 2, 3, 4, 5, 6, 7, 8, 9, 10, 11, 12, 13, 14, 15, 16, 17, 18, 19, 20, 21, 22, 23, 24, 25, 26, 33], [0, 1, 2, 3, 4, 5, 6, 7, 8, 9, 10, 11, 12, 13, 14, 15, 16, 17, 18, 19, 20, 21, 22, 23, 24, 25, 26, 32, 33, 34], [0, 1, 2, 3, 4, 5, 6, 7, 8, 9, 10, 11, 12, 13, 14, 15, 16, 17, 18, 19, 20, 21, 22, 23, 24, 25, 26, 32, 33, 34, 35], [0, 1, 2, 3, 4, 5, 6, 7, 8, 9, 10, 11, 12, 13, 14, 15, 16, 17, 18, 19, 20, 21, 22, 23, 24, 25, 26, 32, 33, 34, 35, 36], [0, 1, 2, 3, 4, 5, 6, 7, 8, 9, 10, 11, 12, 13, 14, 15, 16, 17, 18, 19, 20, 21, 22, 23, 24, 25, 26, 27, 28, 29, 30, 31, 32, 33, 34, 35, 36, 37], [0, 1, 2, 3, 4, 5, 6, 7, 8, 9, 10, 11, 12, 13, 14, 15, 16, 17, 18, 19, 20, 21, 22, 23, 24, 25, 26, 27, 28, 29, 30, 31, 32, 33, 34, 35, 36, 37, 38], [0, 1, 2, 3, 4, 5, 6, 7, 8, 9, 10, 11, 12, 13, 14, 15, 16, 17, 18, 19, 20, 21, 22, 23, 24, 25, 26, 27, 28, 29, 30, 31, 32, 33, 34, 35, 36, 37, 38, 39]]
noncomputable def raddleref37_side_l1 (p0 : (List api_Point)) : Int → Option (Int ⊕ (Bool ⊕ Unit)) := fun s0 => match s0 with
  | s22 =>
    if decide (s22 < (p0.length : Int)) then
      Option.bind (α := Bool) (
        Option.bind (idxO p0 s22) fun x33 =>
        Option.bind (F_raddleref37_in x33.X) fun r40 =>
        if !r40 then
          some true
        else
          if decide (x33.Y < 0) then
            some true
          else
            if decide (99 < x33.Y) then
              some true
            else
              if decide (0 < s22) then
                Option.bind (idxO p0 (w64 (s22 - 1))) fun x91 =>
                some (decide (x33.Y ≤ x91.Y))
              else
                some false) fun o30 =>
      if o30 then
        some (.inr (.inl false))
      else
        some (.inl (w64 (s22 + 1)))
    else
      some (.inr (.inr ()))
noncomputable def F_raddleref37_side (p0 : (List api_Point)) : Option Bool :=
  Option.bind (α := Bool) (
    if decide ((p0.length : Int) < 1) then
      some true
    else
      if decide (50 < (p0.length : Int)) then
        some true
      else
        Option.bind (idxO p0 0) fun x10 =>
        some (x10.Y != 0)) fun o5 =>
  if o5 then
    some false
  else
    Option.bind (α := Unit ⊕ Bool) (
      Option.bind (whileO (raddleref37_side_l1 p0) 0) fun z0 => match z0 with
        | .inl z =>
          some (.inr z)
        | .inr _ =>
          some (.inl ())) fun z0 => match z0 with
      | .inl _ =>
        some true
      | .inr z =>
        some z
set_option maxHeartbeats 4000000 in
set_option maxRecDepth 100000 in
theorem c_raddleref37_side (E : Nat → Prop) (w0 : World) (p0 : (List api_Point)) (v0 : Value) (r : Bool) (h : F_raddleref37_side p0 = some r) (S : St0 E [] w0 w0 [] [fRep (rL r_api_Point) (v0) p0]) :
    Calls Tryd.prog 34 #[v0] w0 (Ret (X := Unit) E [] w0 (fun _ => .bool r) (fun _ => []) (fun _ => [])) := by
  unfold F_raddleref37_side at h
  obtain ⟨ad1, cp2, _, rfl, _⟩ := S.know (i := 0) (e := fRep (rL r_api_Point) (v0) p0) rfl
  refine sEnter (args := [.slice ad1 p0.length cp2]) 66 Tryd.func34 rfl rfl (by simp) S (fun a S => ?_)
  refine sSeq (fun K3 hK3 => ?_)
  refine sRegion ?_
  refine sMove (.bool false) S (wN rfl) (.inr rfl) rfl rfl (lb rfl) fun a S => ?_
  refine leafL (leafT (hK3 _ _ ?_))
  refine sSeq (fun K4 hK4 => ?_)
  obtain ⟨t6, h, g7⟩ := bindSome h
  refine sCut (fun a w => ∃ o5, o5 = t6 ∧ St [] E [] w0 66 a w [(0, .slice ad1 p0.length cp2), (18, .bool o5)] [] [fRep (rL r_api_Point) (.slice ad1 p0.length cp2) p0]) ?_ (fun a w hI => ?_)
  · refine sRegion ?_
    refine sMove (.slice ad1 p0.length cp2) S (wN rfl) (.inl rfl) rfl rfl (lb rfl) fun a S => ?_
    refine sLen (ad := ad1) (m := p0.length) (c := cp2) S (wN rfl) rfl Tryd.underlying22 rfl rfl (lb rfl) fun a S => ?_
    refine sBin (.bool (decide ((p0.length : Int) < 1))) S (wN rfl) rfl rfl rfl (bLt _ _ _ _ .i64 (p0.length : Int) 1) rfl (lb rfl) fun a S => ?_
    refine sMove (.bool (decide ((p0.length : Int) < 1))) S (wN rfl) (.inl rfl) rfl rfl (lb rfl) fun a S => ?_
    rcases iteSome h with ⟨hc8, h⟩ | ⟨hc8, h⟩
    · refine sSkip 3 false 7 8 S rfl rfl rfl hc8 rfl (lb rfl) fun a S => ?_
      refine sSkip 3 false 7 9 S rfl rfl rfl hc8 rfl (lb rfl) fun a S => ?_
      refine sSkip 3 false 7 10 S rfl rfl rfl hc8 rfl (lb rfl) fun a S => ?_
      refine sPickT (.bool true) S (wN rfl) rfl rfl hc8 rfl rfl (lb rfl) fun a S => ?_
      refine sMove (.bool true) S (wN rfl) (.inl rfl) rfl rfl (lb rfl) fun a S => ?_
      refine sSkip 8 false 12 13 S rfl rfl rfl rfl rfl (lb rfl) fun a S => ?_
      refine sSkip 8 false 12 14 S rfl rfl rfl rfl rfl (lb rfl) fun a S => ?_
      refine sSkip 8 false 12 15 S rfl rfl rfl rfl rfl (lb rfl) fun a S => ?_
      refine sSkip 8 false 12 16 S rfl rfl rfl rfl rfl (lb rfl) fun a S => ?_
      refine sSkip 8 false 12 17 S rfl rfl rfl rfl rfl (lb rfl) fun a S => ?_
      refine sPickT (.bool true) S (wN rfl) rfl rfl rfl rfl rfl (lb rfl) fun a S => ?_
      exact leafL (leafT (⟨true, Option.some.inj h, S.fix [] [0] (by decide) rfl rfl rfl⟩))
    refine sMove (.slice ad1 p0.length cp2) S (wG 3 false 7 rfl rfl rfl hc8) (.inl rfl) rfl rfl (lb rfl) fun a S => ?_
    refine sLen (ad := ad1) (m := p0.length) (c := cp2) S (wG 3 false 7 rfl rfl rfl hc8) rfl Tryd.underlying22 rfl rfl (lb rfl) fun a S => ?_
    refine sBin (.bool (decide (50 < (p0.length : Int)))) S (wG 3 false 7 rfl rfl rfl hc8) rfl rfl rfl (bGt _ _ _ _ .i64 (p0.length : Int) 50) rfl (lb rfl) fun a S => ?_
    refine sPickF (.bool (decide (50 < (p0.length : Int)))) S (wN rfl) rfl rfl hc8 rfl rfl (lb rfl) fun a S => ?_
    refine sMove (.bool (decide (50 < (p0.length : Int)))) S (wN rfl) (.inl rfl) rfl rfl (lb rfl) fun a S => ?_
    rcases iteSome h with ⟨hc9, h⟩ | ⟨hc9, h⟩
    · refine sSkip 8 false 12 13 S rfl rfl rfl hc9 rfl (lb rfl) fun a S => ?_
      refine sSkip 8 false 12 14 S rfl rfl rfl hc9 rfl (lb rfl) fun a S => ?_
      refine sSkip 8 false 12 15 S rfl rfl rfl hc9 rfl (lb rfl) fun a S => ?_
      refine sSkip 8 false 12 16 S rfl rfl rfl hc9 rfl (lb rfl) fun a S => ?_
      refine sSkip 8 false 12 17 S rfl rfl rfl hc9 rfl (lb rfl) fun a S => ?_
      refine sPickT (.bool true) S (wN rfl) rfl rfl hc9 rfl rfl (lb rfl) fun a S => ?_
      exact leafL (leafT (⟨true, Option.some.inj h, S.fix [] [0] (by decide) rfl rfl rfl⟩))
    refine sMove (.slice ad1 p0.length cp2) S (wG 8 false 12 rfl rfl rfl hc9) (.inl rfl) rfl rfl (lb rfl) fun a S => ?_
    obtain ⟨x10, hx11, h⟩ := bindSome h
    obtain ⟨q12, hq13, S⟩ := pIdx (P := Tryd.prog) (r := r_api_Point) (v := .slice ad1 p0.length cp2) (xs := p0) (j := 0) 22 35 0 S Tryd.underlying22 rfl rfl hx11
    refine sIdxV (v := .slice ad1 p0.length cp2) (k := .i64) (j := 0) S (wG 8 false 12 rfl rfl rfl hc9) rfl rfl rfl hq13 rfl (lb rfl) fun a S => ?_
    obtain ⟨q14, hq15, S⟩ := pFld (P := Tryd.prog) (r := r_api_Point) (s2 := (rI .i64)) (g := (·.Y)) (q := q12) (z := x10) 35 1 0 1 S rfl rfl comp_api_Point_Y
    refine sFldV (q := q12) S (wG 8 false 12 rfl rfl rfl hc9) rfl rfl hq15 rfl (lb rfl) fun a S => ?_
    obtain ⟨u16, S⟩ := pLoad (r := (rI .i64)) (q := q14) (x := x10.Y) 0 S rfl
    obtain rfl : u16 = iv x10.Y := S.mem.know (i := 1) (e := fRep (rI .i64) (u16) x10.Y) rfl
    refine sLoadV1 (vq := q14) 0 (iv x10.Y) S (wG 8 false 12 rfl rfl rfl hc9) rfl rfl rfl rfl rfl (lb rfl) fun a S => ?_
    refine sBin (.bool (x10.Y != 0)) S (wG 8 false 12 rfl rfl rfl hc9) rfl rfl rfl (bNe _ _ _ _ .i64 x10.Y 0) rfl (lb rfl) fun a S => ?_
    refine sPickF (.bool (x10.Y != 0)) S (wN rfl) rfl rfl hc9 rfl rfl (lb rfl) fun a S => ?_
    exact leafL (leafT (⟨x10.Y != 0, Option.some.inj h, S.fix [] [4] (by decide) rfl rfl rfl⟩))
  obtain ⟨o5, rfl, S⟩ := hI
  have h := g7
  clear g7
  try dsimp only at h
  rcases iteSome h with ⟨hc17, h⟩ | ⟨hc17, h⟩
  · refine sCondT S rfl hc17 ?_
    refine sSeq (fun K18 hK18 => ?_)
    refine sRegion ?_
    refine sMove (.bool false) S (wN rfl) (.inr rfl) rfl rfl (lb rfl) fun a S => ?_
    refine leafL (leafT (hK18 _ _ ?_))
    obtain rfl := Option.some.inj h
    exact wp_ret (rThen (sRet (.bool false) S (rsl1 rfl (rvT (t := 2) (v := .bool false) S rfl)) ⟨(), rfl, S.mem.sel [] [] (by decide) rfl rfl⟩))
  refine sCondF S rfl hc17 ?_
  refine wp_skip (leafT (hK4 _ _ ?_))
  obtain ⟨t19, h, g20⟩ := bindSome h
  refine sCut (fun a w => .inl () = t19 ∧ St [] E [] w0 66 a w [] [] []) ?_ (fun a w hI => ?_)
  rotate_left
  · obtain ⟨rfl, S⟩ := hI
    have h := g20
    clear g20
    try dsimp only at h
    refine sSeq (fun K140 hK140 => ?_)
    refine sRegion ?_
    refine sMove (.bool true) S (wN rfl) (.inr rfl) rfl rfl (lb rfl) fun a S => ?_
    refine leafL (leafT (hK140 _ _ ?_))
    obtain rfl := Option.some.inj h
    exact wp_ret (sRet (.bool true) S (rsl1 rfl (rvT (t := 2) (v := .bool true) S rfl)) ⟨(), rfl, S.mem.sel [] [] (by decide) rfl rfl⟩)
  refine sSeq (fun K21 hK21 => ?_)
  refine sRegion ?_
  refine sMove (iv 0) S (wN rfl) (.inr rfl) rfl rfl (lb rfl) fun a S => ?_
  refine leafL (leafT (hK21 _ _ ?_))
  refine wp_block ?_
  obtain ⟨t25, hl, g24⟩ := bindSome h
  refine sLoop hl (fun s0 a w => match s0 with | s22 => St [] E [] w0 66 a w [(0, .slice ad1 p0.length cp2), (3, iv s22)] [] [fRep (rL r_api_Point) (.slice ad1 p0.length cp2) p0]) (S.fix [] [0] (by decide) rfl rfl rfl) ?_
  clear hl h
  intro s22 a w c0 hI h hu23
  unfold raddleref37_side_l1 at h
  dsimp only at h hI
  have S := hI
  refine sSeq (fun K26 hK26 => ?_)
  refine sSeq (fun K27 hK27 => ?_)
  refine sRegion ?_
  refine sMove (iv s22) S (wN rfl) (.inl rfl) rfl rfl (lb rfl) fun a S => ?_
  refine sMove (.slice ad1 p0.length cp2) S (wN rfl) (.inl rfl) rfl rfl (lb rfl) fun a S => ?_
  refine sLen (ad := ad1) (m := p0.length) (c := cp2) S (wN rfl) rfl Tryd.underlying22 rfl rfl (lb rfl) fun a S => ?_
  refine sBin (.bool (decide (s22 < (p0.length : Int)))) S (wN rfl) rfl rfl rfl (bLt _ _ _ _ .i64 s22 (p0.length : Int)) rfl (lb rfl) fun a S => ?_
  refine leafL (leafT (hK27 _ _ ?_))
  rcases iteSome h with ⟨hc28, h⟩ | ⟨hc28, h⟩
  rotate_left
  · refine sCondF S rfl hc28 ?_
    obtain rfl := Option.some.inj h
    obtain rfl := hu23 _ rfl
    have h := g24
    clear g24
    try dsimp only at h
    exact wp_exit (xThen (xThen (xHit (leafT (⟨Option.some.inj h, S.fix [] [] (by decide) rfl rfl rfl⟩)))))
  refine sCondT S rfl hc28 ?_
  refine wp_skip (leafT (hK26 _ _ ?_))
  refine sSeq (fun K29 hK29 => ?_)
  refine wp_block ?_
  obtain ⟨t31, h, g32⟩ := bindSome h
  refine sCut (fun a w => ∃ o30, o30 = t31 ∧ St [] E [] w0 66 a w [(0, .slice ad1 p0.length cp2), (3, iv s22), (65, .bool o30)] [] [fRep (rL r_api_Point) (.slice ad1 p0.length cp2) p0]) ?_ (fun a w hI => ?_)
  rotate_left
  · obtain ⟨o30, rfl, S⟩ := hI
    have h := g32
    clear g32
    try dsimp only at h
    rcases iteSome h with ⟨hc138, h⟩ | ⟨hc138, h⟩
    rotate_left
    · refine sCondF S rfl hc138 ?_
      refine wp_skip (leafB (leafT (hK29 _ _ ?_)))
      refine sRegion ?_
      refine sMove (iv s22) S (wN rfl) (.inl rfl) rfl rfl (lb rfl) fun a S => ?_
      refine sBin (iv (w64 (s22 + 1))) S (wN rfl) rfl rfl rfl (bAdd _ _ _ _ s22 1) rfl (lb rfl) fun a S => ?_
      refine sMove (iv (w64 (s22 + 1))) S (wN rfl) (.inr rfl) rfl rfl (lb rfl) fun a S => ?_
      exact leafL (leafT (⟨w64 (s22 + 1), (Option.some.inj h).symm, (S.fix [] [0] (by decide) rfl rfl rfl)⟩))
    refine sCondT S rfl hc138 ?_
    refine sSeq (fun K139 hK139 => ?_)
    refine sRegion ?_
    refine sMove (.bool false) S (wN rfl) (.inr rfl) rfl rfl (lb rfl) fun a S => ?_
    refine leafL (leafT (hK139 _ _ ?_))
    obtain rfl := Option.some.inj h
    obtain rfl := hu23 _ rfl
    have h := g24
    clear g24
    try dsimp only at h
    obtain rfl := Option.some.inj h
    have h := g20
    clear g20
    try dsimp only at h
    obtain rfl := Option.some.inj h
    exact wp_ret (rBlock (rThen (rThen (rBlock (rThen (sRet (.bool false) S (rsl1 rfl (rvT (t := 2) (v := .bool false) S rfl)) ⟨(), rfl, S.mem.sel [] [] (by decide) rfl rfl⟩))))))
  obtain ⟨x33, hx34, h⟩ := bindSome h
  obtain ⟨r40, hx41, h⟩ := bindSome h
  rcases iteSome h with ⟨hc42, h⟩ | ⟨hc42, h⟩
  · obtain ⟨q43, hq44, S⟩ := pIdx (P := Tryd.prog) (r := r_api_Point) (v := .slice ad1 p0.length cp2) (xs := p0) (j := s22) 22 35 0 S Tryd.underlying22 rfl rfl hx34
    obtain ⟨q45, hq46, S⟩ := pFld (P := Tryd.prog) (r := r_api_Point) (s2 := (rI .i64)) (g := (·.X)) (q := q43) (z := x33) 35 0 0 0 S rfl rfl comp_api_Point_X
    obtain ⟨u47, S⟩ := pLoad (r := (rI .i64)) (q := q45) (x := x33.X) 0 S rfl
    obtain rfl : u47 = iv x33.X := S.mem.know (i := 1) (e := fRep (rI .i64) (u47) x33.X) rfl
    refine sDraw (nf := []) (W := [(0, 25, .slice ad1 p0.length cp2), (1, 26, iv s22), (2, 27, q43), (3, 28, q45), (4, 29, iv x33.X), (5, 30, .bool r40), (6, 31, .bool (!r40)), (7, 32, .bool (!r40)), (8, 33, undef), (9, 34, undef), (10, 35, undef), (11, 36, undef), (12, 37, undef), (13, 38, undef), (14, 39, .bool true), (15, 40, .bool true), (16, 41, undef), (17, 42, undef), (18, 43, undef), (19, 44, undef), (20, 45, undef), (21, 46, undef), (22, 47, .bool true), (23, 48, .bool true), (24, 49, undef), (25, 50, undef), (26, 51, undef), (27, 52, undef), (28, 53, undef), (29, 54, undef), (30, 55, undef), (31, 56, undef), (32, 57, undef), (33, 58, undef), (34, 59, undef), (35, 60, undef), (36, 61, undef), (37, 62, undef), (38, 63, undef), (39, 64, undef), (40, 65, .bool true)]) rfl S ?_
    refine node_by (A := anc_raddleref37_side_0) (nf := []) (Y := []) (W := [(0, 25, .slice ad1 p0.length cp2), (1, 26, iv s22), (2, 27, q43), (3, 28, q45), (4, 29, iv x33.X), (5, 30, .bool r40), (6, 31, .bool (!r40)), (7, 32, .bool (!r40)), (8, 33, undef), (9, 34, undef), (10, 35, undef), (11, 36, undef), (12, 37, undef), (13, 38, undef), (14, 39, .bool true), (15, 40, .bool true), (16, 41, undef), (17, 42, undef), (18, 43, undef), (19, 44, undef), (20, 45, undef), (21, 46, undef), (22, 47, .bool true), (23, 48, .bool true), (24, 49, undef), (25, 50, undef), (26, 51, undef), (27, 52, undef), (28, 53, undef), (29, 54, undef), (30, 55, undef), (31, 56, undef), (32, 57, undef), (33, 58, undef), (34, 59, undef), (35, 60, undef), (36, 61, undef), (37, 62, undef), (38, 63, undef), (39, 64, undef), (40, 65, .bool true)]) 41 (by kernel_rfl) (by kernel_rfl) (by kernel_rfl) (by kernel_rfl) (by kernel_rfl) [0, 1, 2, 3, 4, 5, 6, 7, 8, 9, 10, 11, 12, 13, 14, 15, 16, 17, 18, 19, 20, 21, 22, 23, 24, 25, 26, 27, 28, 29, 30, 31, 32, 33, 34, 35, 36, 37, 38, 39, 40] (by kernel_rfl) (by decide) (by decide) (aF 0 40 (by decide) ?_ (aF 1 39 (by decide) ?_ (aF 2 38 (by decide) ?_ (aF 3 37 (by decide) ?_ (aF 4 36 (by decide) ?_ (aF 5 35 (by decide) ?_ (aF 6 34 (by decide) ?_ (aF 7 33 (by decide) ?_ (aF 8 32 (by decide) ?_ (aF 9 31 (by decide) ?_ (aF 10 30 (by decide) ?_ (aF 11 29 (by decide) ?_ (aF 12 28 (by decide) ?_ (aF 13 27 (by decide) ?_ (aF 14 26 (by decide) ?_ (aF 15 25 (by decide) ?_ (aF 16 24 (by decide) ?_ (aF 17 23 (by decide) ?_ (aF 18 22 (by decide) ?_ (aF 19 21 (by decide) ?_ (aF 20 20 (by decide) ?_ (aF 21 19 (by decide) ?_ (aF 22 18 (by decide) ?_ (aF 23 17 (by decide) ?_ (aF 24 16 (by decide) ?_ (aF 25 15 (by decide) ?_ (aF 26 14 (by decide) ?_ (aF 27 13 (by decide) ?_ (aF 28 12 (by decide) ?_ (aF 29 11 (by decide) ?_ (aF 30 10 (by decide) ?_ (aF 31 9 (by decide) ?_ (aF 32 8 (by decide) ?_ (aF 33 7 (by decide) ?_ (aF 34 6 (by decide) ?_ (aF 35 5 (by decide) ?_ (aF 36 4 (by decide) ?_ (aF 37 3 (by decide) ?_ (aF 38 2 (by decide) ?_ (aF 39 1 (by decide) ?_ (aF 40 0 (by decide) ?_ (trivial)))))))))))))))))))))))))))))))))))))))))) [(0, .slice ad1 p0.length cp2), (3, iv s22), (33, undef), (34, undef), (35, undef), (36, undef), (37, undef), (38, undef), (41, undef), (42, undef), (43, undef), (44, undef), (45, undef), (46, undef), (49, undef), (50, undef), (51, undef), (52, undef), (53, undef), (54, undef), (55, undef), (56, undef), (57, undef), (58, undef), (59, undef), (60, undef), (61, undef), (62, undef), (63, undef), (64, undef), (65, .bool true)] (fin_of [none, none, some 8, some 9, some 10, some 11, some 12, some 13, some 16, some 17, some 18, some 19, some 20, some 21, some 24, some 25, some 26, some 27, some 28, some 29, some 30, some 31, some 32, some 33, some 34, some 35, some 36, some 37, some 38, some 39, some 40] rfl (by kernel_rfl) (by kernel_rfl)) (fun _ a w S => ?_)
    · refine fI 25 (.slice ad1 p0.length cp2) [(0, .slice ad1 p0.length cp2)] 0 [none] rfl rfl rfl rfl rfl rfl fun G a w S => ?_
      refine sMove (.slice ad1 p0.length cp2) S (wN rfl) (.inl rfl) rfl rfl (lb rfl) fun a S => ?_
      exact leafL ⟨rfl, S⟩
    · refine fI 26 (iv s22) [(3, iv s22)] 1 [none] rfl rfl rfl rfl rfl rfl fun G a w S => ?_
      refine sMove (iv s22) S (wN rfl) (.inl rfl) rfl rfl (lb rfl) fun a S => ?_
      exact leafL ⟨rfl, S⟩
    · refine fI 27 q43 [(25, .slice ad1 p0.length cp2), (26, iv s22)] 2 [some 0, some 1] rfl rfl rfl rfl rfl rfl fun G a w S => ?_
      refine sIdxV (v := .slice ad1 p0.length cp2) (k := .i64) (j := s22) S (wN rfl) rfl rfl rfl hq44 rfl (lb rfl) fun a S => ?_
      exact leafL ⟨rfl, S⟩
    · refine fI 28 q45 [(27, q43)] 3 [some 2] rfl rfl rfl rfl rfl rfl fun G a w S => ?_
      refine sFldV (q := q43) S (wN rfl) rfl rfl hq46 rfl (lb rfl) fun a S => ?_
      exact leafL ⟨rfl, S⟩
    · refine fI 29 (iv x33.X) [(28, q45)] 4 [some 3] rfl rfl rfl rfl rfl rfl fun G a w S => ?_
      refine sLoadV1 (vq := q45) 0 (iv x33.X) S (wN rfl) rfl rfl rfl rfl rfl (lb rfl) fun a S => ?_
      exact leafL ⟨rfl, S⟩
    · refine fI 30 (.bool r40) [(29, iv x33.X)] 5 [some 4] rfl rfl rfl rfl rfl rfl fun G a w S => ?_
      have S1 := S.mem
      refine sCallQ (X := Unit) (f := 45) (vs := [iv x33.X]) (val := fun _ => .bool r40) S (wN rfl) rfl callee45 rfl (S1.quiet [] rfl) (fun E1 w1 S1 => c_raddleref37_in E1 w1 x33.X r40 hx41 S1) rfl (lb rfl) fun _ a w S => ?_
      exact leafL ⟨rfl, S⟩
    · refine fI 31 (.bool (!r40)) [(30, .bool r40)] 6 [some 5] rfl rfl rfl rfl rfl rfl fun G a w S => ?_
      refine sNot (b := r40) S (wN rfl) rfl rfl rfl (lb rfl) fun a S => ?_
      exact leafL ⟨rfl, S⟩
    · refine fI 32 (.bool (!r40)) [(31, .bool (!r40))] 7 [some 6] rfl rfl rfl rfl rfl rfl fun G a w S => ?_
      refine sMove (.bool (!r40)) S (wN rfl) (.inl rfl) rfl rfl (lb rfl) fun a S => ?_
      exact leafL ⟨rfl, S⟩
    · refine fI 33 undef [(0, .slice ad1 p0.length cp2), (32, .bool (!r40))] 8 [none, some 7] rfl rfl rfl rfl rfl rfl fun G a w S => ?_
      refine sSkip 7 false 32 33 S rfl rfl rfl hc42 rfl (lb rfl) fun a S => ?_
      exact leafL ⟨rfl, S⟩
    · refine fI 34 undef [(3, iv s22), (32, .bool (!r40))] 9 [none, some 7] rfl rfl rfl rfl rfl rfl fun G a w S => ?_
      refine sSkip 7 false 32 34 S rfl rfl rfl hc42 rfl (lb rfl) fun a S => ?_
      exact leafL ⟨rfl, S⟩
    · refine fI 35 undef [(33, undef), (34, undef), (32, .bool (!r40))] 10 [some 8, some 9, some 7] rfl rfl rfl rfl rfl rfl fun G a w S => ?_
      refine sSkip 7 false 32 35 S rfl rfl rfl hc42 rfl (lb rfl) fun a S => ?_
      exact leafL ⟨rfl, S⟩
    · refine fI 36 undef [(35, undef), (32, .bool (!r40))] 11 [some 10, some 7] rfl rfl rfl rfl rfl rfl fun G a w S => ?_
      refine sSkip 7 false 32 36 S rfl rfl rfl hc42 rfl (lb rfl) fun a S => ?_
      exact leafL ⟨rfl, S⟩
    · refine fI 37 undef [(36, undef), (32, .bool (!r40))] 12 [some 11, some 7] rfl rfl rfl rfl rfl rfl fun G a w S => ?_
      refine sSkip 7 false 32 37 S rfl rfl rfl hc42 rfl (lb rfl) fun a S => ?_
      exact leafL ⟨rfl, S⟩
    · refine fI 38 undef [(37, undef), (32, .bool (!r40))] 13 [some 12, some 7] rfl rfl rfl rfl rfl rfl fun G a w S => ?_
      refine sSkip 7 false 32 38 S rfl rfl rfl hc42 rfl (lb rfl) fun a S => ?_
      exact leafL ⟨rfl, S⟩
    · refine fI 39 (.bool true) [(32, .bool (!r40)), (38, undef)] 14 [some 7, some 13] rfl rfl rfl rfl rfl rfl fun G a w S => ?_
      refine sPickT (.bool true) S (wN rfl) rfl rfl hc42 rfl rfl (lb rfl) fun a S => ?_
      exact leafL ⟨rfl, S⟩
    · refine fI 40 (.bool true) [(39, .bool true)] 15 [some 14] rfl rfl rfl rfl rfl rfl fun G a w S => ?_
      refine sMove (.bool true) S (wN rfl) (.inl rfl) rfl rfl (lb rfl) fun a S => ?_
      exact leafL ⟨rfl, S⟩
    · refine fI 41 undef [(0, .slice ad1 p0.length cp2), (40, .bool true)] 16 [none, some 15] rfl rfl rfl rfl rfl rfl fun G a w S => ?_
      refine sSkip 15 false 40 41 S rfl rfl rfl rfl rfl (lb rfl) fun a S => ?_
      exact leafL ⟨rfl, S⟩
    · refine fI 42 undef [(3, iv s22), (40, .bool true)] 17 [none, some 15] rfl rfl rfl rfl rfl rfl fun G a w S => ?_
      refine sSkip 15 false 40 42 S rfl rfl rfl rfl rfl (lb rfl) fun a S => ?_
      exact leafL ⟨rfl, S⟩
    · refine fI 43 undef [(41, undef), (42, undef), (40, .bool true)] 18 [some 16, some 17, some 15] rfl rfl rfl rfl rfl rfl fun G a w S => ?_
      refine sSkip 15 false 40 43 S rfl rfl rfl rfl rfl (lb rfl) fun a S => ?_
      exact leafL ⟨rfl, S⟩
    · refine fI 44 undef [(43, undef), (40, .bool true)] 19 [some 18, some 15] rfl rfl rfl rfl rfl rfl fun G a w S => ?_
      refine sSkip 15 false 40 44 S rfl rfl rfl rfl rfl (lb rfl) fun a S => ?_
      exact leafL ⟨rfl, S⟩
    · refine fI 45 undef [(44, undef), (40, .bool true)] 20 [some 19, some 15] rfl rfl rfl rfl rfl rfl fun G a w S => ?_
      refine sSkip 15 false 40 45 S rfl rfl rfl rfl rfl (lb rfl) fun a S => ?_
      exact leafL ⟨rfl, S⟩
    · refine fI 46 undef [(45, undef), (40, .bool true)] 21 [some 20, some 15] rfl rfl rfl rfl rfl rfl fun G a w S => ?_
      refine sSkip 15 false 40 46 S rfl rfl rfl rfl rfl (lb rfl) fun a S => ?_
      exact leafL ⟨rfl, S⟩
    · refine fI 47 (.bool true) [(40, .bool true), (46, undef)] 22 [some 15, some 21] rfl rfl rfl rfl rfl rfl fun G a w S => ?_
      refine sPickT (.bool true) S (wN rfl) rfl rfl rfl rfl rfl (lb rfl) fun a S => ?_
      exact leafL ⟨rfl, S⟩
    · refine fI 48 (.bool true) [(47, .bool true)] 23 [some 22] rfl rfl rfl rfl rfl rfl fun G a w S => ?_
      refine sMove (.bool true) S (wN rfl) (.inl rfl) rfl rfl (lb rfl) fun a S => ?_
      exact leafL ⟨rfl, S⟩
    · refine fI 49 undef [(3, iv s22), (48, .bool true)] 24 [none, some 23] rfl rfl rfl rfl rfl rfl fun G a w S => ?_
      refine sSkip 23 false 48 49 S rfl rfl rfl rfl rfl (lb rfl) fun a S => ?_
      exact leafL ⟨rfl, S⟩
    · refine fI 50 undef [(49, undef), (48, .bool true)] 25 [some 24, some 23] rfl rfl rfl rfl rfl rfl fun G a w S => ?_
      refine sSkip 23 false 48 50 S rfl rfl rfl rfl rfl (lb rfl) fun a S => ?_
      exact leafL ⟨rfl, S⟩
    · refine fI 51 undef [(50, undef), (48, .bool true)] 26 [some 25, some 23] rfl rfl rfl rfl rfl rfl fun G a w S => ?_
      refine sSkip 23 false 48 51 S rfl rfl rfl rfl rfl (lb rfl) fun a S => ?_
      exact leafL ⟨rfl, S⟩
    · refine fI 52 undef [(0, .slice ad1 p0.length cp2), (51, undef)] 27 [none, some 26] rfl rfl rfl rfl rfl rfl fun G a w S => ?_
      refine sSkipU 26 true 51 52 S rfl rfl rfl rfl (lb rfl) fun a S => ?_
      exact leafL ⟨rfl, S⟩
    · refine fI 53 undef [(3, iv s22), (51, undef)] 28 [none, some 26] rfl rfl rfl rfl rfl rfl fun G a w S => ?_
      refine sSkipU 26 true 51 53 S rfl rfl rfl rfl (lb rfl) fun a S => ?_
      exact leafL ⟨rfl, S⟩
    · refine fI 54 undef [(52, undef), (53, undef), (51, undef)] 29 [some 27, some 28, some 26] rfl rfl rfl rfl rfl rfl fun G a w S => ?_
      refine sSkipU 26 true 51 54 S rfl rfl rfl rfl (lb rfl) fun a S => ?_
      exact leafL ⟨rfl, S⟩
    · refine fI 55 undef [(54, undef), (51, undef)] 30 [some 29, some 26] rfl rfl rfl rfl rfl rfl fun G a w S => ?_
      refine sSkipU 26 true 51 55 S rfl rfl rfl rfl (lb rfl) fun a S => ?_
      exact leafL ⟨rfl, S⟩
    · refine fI 56 undef [(55, undef), (51, undef)] 31 [some 30, some 26] rfl rfl rfl rfl rfl rfl fun G a w S => ?_
      refine sSkipU 26 true 51 56 S rfl rfl rfl rfl (lb rfl) fun a S => ?_
      exact leafL ⟨rfl, S⟩
    · refine fI 57 undef [(0, .slice ad1 p0.length cp2), (51, undef)] 32 [none, some 26] rfl rfl rfl rfl rfl rfl fun G a w S => ?_
      refine sSkipU 26 true 51 57 S rfl rfl rfl rfl (lb rfl) fun a S => ?_
      exact leafL ⟨rfl, S⟩
    · refine fI 58 undef [(3, iv s22), (51, undef)] 33 [none, some 26] rfl rfl rfl rfl rfl rfl fun G a w S => ?_
      refine sSkipU 26 true 51 58 S rfl rfl rfl rfl (lb rfl) fun a S => ?_
      exact leafL ⟨rfl, S⟩
    · refine fI 59 undef [(58, undef), (51, undef)] 34 [some 33, some 26] rfl rfl rfl rfl rfl rfl fun G a w S => ?_
      refine sSkipU 26 true 51 59 S rfl rfl rfl rfl (lb rfl) fun a S => ?_
      exact leafL ⟨rfl, S⟩
    · refine fI 60 undef [(57, undef), (59, undef), (51, undef)] 35 [some 32, some 34, some 26] rfl rfl rfl rfl rfl rfl fun G a w S => ?_
      refine sSkipU 26 true 51 60 S rfl rfl rfl rfl (lb rfl) fun a S => ?_
      exact leafL ⟨rfl, S⟩
    · refine fI 61 undef [(60, undef), (51, undef)] 36 [some 35, some 26] rfl rfl rfl rfl rfl rfl fun G a w S => ?_
      refine sSkipU 26 true 51 61 S rfl rfl rfl rfl (lb rfl) fun a S => ?_
      exact leafL ⟨rfl, S⟩
    · refine fI 62 undef [(61, undef), (51, undef)] 37 [some 36, some 26] rfl rfl rfl rfl rfl rfl fun G a w S => ?_
      refine sSkipU 26 true 51 62 S rfl rfl rfl rfl (lb rfl) fun a S => ?_
      exact leafL ⟨rfl, S⟩
    · refine fI 63 undef [(56, undef), (62, undef), (51, undef)] 38 [some 31, some 37, some 26] rfl rfl rfl rfl rfl rfl fun G a w S => ?_
      refine sSkipU 26 true 51 63 S rfl rfl rfl rfl (lb rfl) fun a S => ?_
      exact leafL ⟨rfl, S⟩
    · refine fI 64 undef [(51, undef), (63, undef), (48, .bool true)] 39 [some 26, some 38, some 23] rfl rfl rfl rfl rfl rfl fun G a w S => ?_
      refine sSkip 23 false 48 64 S rfl rfl rfl rfl rfl (lb rfl) fun a S => ?_
      exact leafL ⟨rfl, S⟩
    · refine fI 65 (.bool true) [(48, .bool true), (64, undef)] 40 [some 23, some 39] rfl rfl rfl rfl rfl rfl fun G a w S => ?_
      refine sPickT (.bool true) S (wN rfl) rfl rfl rfl rfl rfl (lb rfl) fun a S => ?_
      exact leafL ⟨rfl, S⟩
    exact leafT (⟨true, Option.some.inj h, S.fix [] [4] (by decide) rfl rfl rfl⟩)
  rcases iteSome h with ⟨hc53, h⟩ | ⟨hc53, h⟩
  · obtain ⟨q54, hq55, S⟩ := pIdx (P := Tryd.prog) (r := r_api_Point) (v := .slice ad1 p0.length cp2) (xs := p0) (j := s22) 22 35 0 S Tryd.underlying22 rfl rfl hx34
    obtain ⟨q56, hq57, S⟩ := pFld (P := Tryd.prog) (r := r_api_Point) (s2 := (rI .i64)) (g := (·.X)) (q := q54) (z := x33) 35 0 0 0 S rfl rfl comp_api_Point_X
    obtain ⟨u58, S⟩ := pLoad (r := (rI .i64)) (q := q56) (x := x33.X) 0 S rfl
    obtain rfl : u58 = iv x33.X := S.mem.know (i := 1) (e := fRep (rI .i64) (u58) x33.X) rfl
    obtain ⟨q59, hq60, S⟩ := pIdx (P := Tryd.prog) (r := r_api_Point) (v := .slice ad1 p0.length cp2) (xs := p0) (j := s22) 22 35 4 S Tryd.underlying22 rfl rfl hx34
    obtain ⟨q61, hq62, S⟩ := pFld (P := Tryd.prog) (r := r_api_Point) (s2 := (rI .i64)) (g := (·.Y)) (q := q59) (z := x33) 35 1 0 1 S rfl rfl comp_api_Point_Y
    obtain ⟨u63, S⟩ := pLoad (r := (rI .i64)) (q := q61) (x := x33.Y) 0 S rfl
    obtain rfl : u63 = iv x33.Y := S.mem.know (i := 1) (e := fRep (rI .i64) (u63) x33.Y) rfl
    refine sDraw (nf := []) (W := [(0, 25, .slice ad1 p0.length cp2), (1, 26, iv s22), (2, 27, q54), (3, 28, q56), (4, 29, iv x33.X), (5, 30, .bool r40), (6, 31, .bool (!r40)), (7, 32, .bool (!r40)), (8, 33, .slice ad1 p0.length cp2), (9, 34, iv s22), (10, 35, q59), (11, 36, q61), (12, 37, iv x33.Y), (13, 38, .bool (decide (x33.Y < 0))), (14, 39, .bool (decide (x33.Y < 0))), (15, 40, .bool (decide (x33.Y < 0))), (16, 41, undef), (17, 42, undef), (18, 43, undef), (19, 44, undef), (20, 45, undef), (21, 46, undef), (22, 47, .bool true), (23, 48, .bool true), (24, 49, undef), (25, 50, undef), (26, 51, undef), (27, 52, undef), (28, 53, undef), (29, 54, undef), (30, 55, undef), (31, 56, undef), (32, 57, undef), (33, 58, undef), (34, 59, undef), (35, 60, undef), (36, 61, undef), (37, 62, undef), (38, 63, undef), (39, 64, undef), (40, 65, .bool true)]) rfl S ?_
    refine node_by (A := anc_raddleref37_side_0) (nf := []) (Y := []) (W := [(0, 25, .slice ad1 p0.length cp2), (1, 26, iv s22), (2, 27, q54), (3, 28, q56), (4, 29, iv x33.X), (5, 30, .bool r40), (6, 31, .bool (!r40)), (7, 32, .bool (!r40)), (8, 33, .slice ad1 p0.length cp2), (9, 34, iv s22), (10, 35, q59), (11, 36, q61), (12, 37, iv x33.Y), (13, 38, .bool (decide (x33.Y < 0))), (14, 39, .bool (decide (x33.Y < 0))), (15, 40, .bool (decide (x33.Y < 0))), (16, 41, undef), (17, 42, undef), (18, 43, undef), (19, 44, undef), (20, 45, undef), (21, 46, undef), (22, 47, .bool true), (23, 48, .bool true), (24, 49, undef), (25, 50, undef), (26, 51, undef), (27, 52, undef), (28, 53, undef), (29, 54, undef), (30, 55, undef), (31, 56, undef), (32, 57, undef), (33, 58, undef), (34, 59, undef), (35, 60, undef), (36, 61, undef), (37, 62, undef), (38, 63, undef), (39, 64, undef), (40, 65, .bool true)]) 41 (by kernel_rfl) (by kernel_rfl) (by kernel_rfl) (by kernel_rfl) (by kernel_rfl) [0, 1, 2, 3, 4, 5, 6, 7, 8, 9, 10, 11, 12, 13, 14, 15, 16, 17, 18, 19, 20, 21, 22, 23, 24, 25, 26, 27, 28, 29, 30, 31, 32, 33, 34, 35, 36, 37, 38, 39, 40] (by kernel_rfl) (by decide) (by decide) (aF 0 40 (by decide) ?_ (aF 1 39 (by decide) ?_ (aF 2 38 (by decide) ?_ (aF 3 37 (by decide) ?_ (aF 4 36 (by decide) ?_ (aF 5 35 (by decide) ?_ (aF 6 34 (by decide) ?_ (aF 7 33 (by decide) ?_ (aF 8 32 (by decide) ?_ (aF 9 31 (by decide) ?_ (aF 10 30 (by decide) ?_ (aF 11 29 (by decide) ?_ (aF 12 28 (by decide) ?_ (aF 13 27 (by decide) ?_ (aF 14 26 (by decide) ?_ (aF 15 25 (by decide) ?_ (aF 16 24 (by decide) ?_ (aF 17 23 (by decide) ?_ (aF 18 22 (by decide) ?_ (aF 19 21 (by decide) ?_ (aF 20 20 (by decide) ?_ (aF 21 19 (by decide) ?_ (aF 22 18 (by decide) ?_ (aF 23 17 (by decide) ?_ (aF 24 16 (by decide) ?_ (aF 25 15 (by decide) ?_ (aF 26 14 (by decide) ?_ (aF 27 13 (by decide) ?_ (aF 28 12 (by decide) ?_ (aF 29 11 (by decide) ?_ (aF 30 10 (by decide) ?_ (aF 31 9 (by decide) ?_ (aF 32 8 (by decide) ?_ (aF 33 7 (by decide) ?_ (aF 34 6 (by decide) ?_ (aF 35 5 (by decide) ?_ (aF 36 4 (by decide) ?_ (aF 37 3 (by decide) ?_ (aF 38 2 (by decide) ?_ (aF 39 1 (by decide) ?_ (aF 40 0 (by decide) ?_ (trivial)))))))))))))))))))))))))))))))))))))))))) [(0, .slice ad1 p0.length cp2), (3, iv s22), (33, .slice ad1 p0.length cp2), (34, iv s22), (35, q59), (36, q61), (37, iv x33.Y), (38, .bool (decide (x33.Y < 0))), (41, undef), (42, undef), (43, undef), (44, undef), (45, undef), (46, undef), (49, undef), (50, undef), (51, undef), (52, undef), (53, undef), (54, undef), (55, undef), (56, undef), (57, undef), (58, undef), (59, undef), (60, undef), (61, undef), (62, undef), (63, undef), (64, undef), (65, .bool true)] (fin_of [none, none, some 8, some 9, some 10, some 11, some 12, some 13, some 16, some 17, some 18, some 19, some 20, some 21, some 24, some 25, some 26, some 27, some 28, some 29, some 30, some 31, some 32, some 33, some 34, some 35, some 36, some 37, some 38, some 39, some 40] rfl (by kernel_rfl) (by kernel_rfl)) (fun _ a w S => ?_)
    · refine fI 25 (.slice ad1 p0.length cp2) [(0, .slice ad1 p0.length cp2)] 0 [none] rfl rfl rfl rfl rfl rfl fun G a w S => ?_
      refine sMove (.slice ad1 p0.length cp2) S (wN rfl) (.inl rfl) rfl rfl (lb rfl) fun a S => ?_
      exact leafL ⟨rfl, S⟩
    · refine fI 26 (iv s22) [(3, iv s22)] 1 [none] rfl rfl rfl rfl rfl rfl fun G a w S => ?_
      refine sMove (iv s22) S (wN rfl) (.inl rfl) rfl rfl (lb rfl) fun a S => ?_
      exact leafL ⟨rfl, S⟩
    · refine fI 27 q54 [(25, .slice ad1 p0.length cp2), (26, iv s22)] 2 [some 0, some 1] rfl rfl rfl rfl rfl rfl fun G a w S => ?_
      refine sIdxV (v := .slice ad1 p0.length cp2) (k := .i64) (j := s22) S (wN rfl) rfl rfl rfl hq55 rfl (lb rfl) fun a S => ?_
      exact leafL ⟨rfl, S⟩
    · refine fI 28 q56 [(27, q54)] 3 [some 2] rfl rfl rfl rfl rfl rfl fun G a w S => ?_
      refine sFldV (q := q54) S (wN rfl) rfl rfl hq57 rfl (lb rfl) fun a S => ?_
      exact leafL ⟨rfl, S⟩
    · refine fI 29 (iv x33.X) [(28, q56)] 4 [some 3] rfl rfl rfl rfl rfl rfl fun G a w S => ?_
      refine sLoadV1 (vq := q56) 4 (iv x33.X) S (wN rfl) rfl rfl rfl rfl rfl (lb rfl) fun a S => ?_
      exact leafL ⟨rfl, S⟩
    · refine fI 30 (.bool r40) [(29, iv x33.X)] 5 [some 4] rfl rfl rfl rfl rfl rfl fun G a w S => ?_
      have S1 := S.mem
      refine sCallQ (X := Unit) (f := 45) (vs := [iv x33.X]) (val := fun _ => .bool r40) S (wN rfl) rfl callee45 rfl (S1.quiet [] rfl) (fun E1 w1 S1 => c_raddleref37_in E1 w1 x33.X r40 hx41 S1) rfl (lb rfl) fun _ a w S => ?_
      exact leafL ⟨rfl, S⟩
    · refine fI 31 (.bool (!r40)) [(30, .bool r40)] 6 [some 5] rfl rfl rfl rfl rfl rfl fun G a w S => ?_
      refine sNot (b := r40) S (wN rfl) rfl rfl rfl (lb rfl) fun a S => ?_
      exact leafL ⟨rfl, S⟩
    · refine fI 32 (.bool (!r40)) [(31, .bool (!r40))] 7 [some 6] rfl rfl rfl rfl rfl rfl fun G a w S => ?_
      refine sMove (.bool (!r40)) S (wN rfl) (.inl rfl) rfl rfl (lb rfl) fun a S => ?_
      exact leafL ⟨rfl, S⟩
    · refine fI 33 (.slice ad1 p0.length cp2) [(0, .slice ad1 p0.length cp2), (32, .bool (!r40))] 8 [none, some 7] rfl rfl rfl rfl rfl rfl fun G a w S => ?_
      refine sMove (.slice ad1 p0.length cp2) S (wG 7 false 32 rfl rfl rfl hc42) (.inl rfl) rfl rfl (lb rfl) fun a S => ?_
      exact leafL ⟨rfl, S⟩
    · refine fI 34 (iv s22) [(3, iv s22), (32, .bool (!r40))] 9 [none, some 7] rfl rfl rfl rfl rfl rfl fun G a w S => ?_
      refine sMove (iv s22) S (wG 7 false 32 rfl rfl rfl hc42) (.inl rfl) rfl rfl (lb rfl) fun a S => ?_
      exact leafL ⟨rfl, S⟩
    · refine fI 35 q59 [(33, .slice ad1 p0.length cp2), (34, iv s22), (32, .bool (!r40))] 10 [some 8, some 9, some 7] rfl rfl rfl rfl rfl rfl fun G a w S => ?_
      refine sIdxV (v := .slice ad1 p0.length cp2) (k := .i64) (j := s22) S (wG 7 false 32 rfl rfl rfl hc42) rfl rfl rfl hq60 rfl (lb rfl) fun a S => ?_
      exact leafL ⟨rfl, S⟩
    · refine fI 36 q61 [(35, q59), (32, .bool (!r40))] 11 [some 10, some 7] rfl rfl rfl rfl rfl rfl fun G a w S => ?_
      refine sFldV (q := q59) S (wG 7 false 32 rfl rfl rfl hc42) rfl rfl hq62 rfl (lb rfl) fun a S => ?_
      exact leafL ⟨rfl, S⟩
    · refine fI 37 (iv x33.Y) [(36, q61), (32, .bool (!r40))] 12 [some 11, some 7] rfl rfl rfl rfl rfl rfl fun G a w S => ?_
      refine sLoadV1 (vq := q61) 0 (iv x33.Y) S (wG 7 false 32 rfl rfl rfl hc42) rfl rfl rfl rfl rfl (lb rfl) fun a S => ?_
      exact leafL ⟨rfl, S⟩
    · refine fI 38 (.bool (decide (x33.Y < 0))) [(37, iv x33.Y), (32, .bool (!r40))] 13 [some 12, some 7] rfl rfl rfl rfl rfl rfl fun G a w S => ?_
      refine sBin (.bool (decide (x33.Y < 0))) S (wG 7 false 32 rfl rfl rfl hc42) rfl rfl rfl (bLt _ _ _ _ .i64 x33.Y 0) rfl (lb rfl) fun a S => ?_
      exact leafL ⟨rfl, S⟩
    · refine fI 39 (.bool (decide (x33.Y < 0))) [(32, .bool (!r40)), (38, .bool (decide (x33.Y < 0)))] 14 [some 7, some 13] rfl rfl rfl rfl rfl rfl fun G a w S => ?_
      refine sPickF (.bool (decide (x33.Y < 0))) S (wN rfl) rfl rfl hc42 rfl rfl (lb rfl) fun a S => ?_
      exact leafL ⟨rfl, S⟩
    · refine fI 40 (.bool (decide (x33.Y < 0))) [(39, .bool (decide (x33.Y < 0)))] 15 [some 14] rfl rfl rfl rfl rfl rfl fun G a w S => ?_
      refine sMove (.bool (decide (x33.Y < 0))) S (wN rfl) (.inl rfl) rfl rfl (lb rfl) fun a S => ?_
      exact leafL ⟨rfl, S⟩
    · refine fI 41 undef [(0, .slice ad1 p0.length cp2), (40, .bool (decide (x33.Y < 0)))] 16 [none, some 15] rfl rfl rfl rfl rfl rfl fun G a w S => ?_
      refine sSkip 15 false 40 41 S rfl rfl rfl hc53 rfl (lb rfl) fun a S => ?_
      exact leafL ⟨rfl, S⟩
    · refine fI 42 undef [(3, iv s22), (40, .bool (decide (x33.Y < 0)))] 17 [none, some 15] rfl rfl rfl rfl rfl rfl fun G a w S => ?_
      refine sSkip 15 false 40 42 S rfl rfl rfl hc53 rfl (lb rfl) fun a S => ?_
      exact leafL ⟨rfl, S⟩
    · refine fI 43 undef [(41, undef), (42, undef), (40, .bool (decide (x33.Y < 0)))] 18 [some 16, some 17, some 15] rfl rfl rfl rfl rfl rfl fun G a w S => ?_
      refine sSkip 15 false 40 43 S rfl rfl rfl hc53 rfl (lb rfl) fun a S => ?_
      exact leafL ⟨rfl, S⟩
    · refine fI 44 undef [(43, undef), (40, .bool (decide (x33.Y < 0)))] 19 [some 18, some 15] rfl rfl rfl rfl rfl rfl fun G a w S => ?_
      refine sSkip 15 false 40 44 S rfl rfl rfl hc53 rfl (lb rfl) fun a S => ?_
      exact leafL ⟨rfl, S⟩
    · refine fI 45 undef [(44, undef), (40, .bool (decide (x33.Y < 0)))] 20 [some 19, some 15] rfl rfl rfl rfl rfl rfl fun G a w S => ?_
      refine sSkip 15 false 40 45 S rfl rfl rfl hc53 rfl (lb rfl) fun a S => ?_
      exact leafL ⟨rfl, S⟩
    · refine fI 46 undef [(45, undef), (40, .bool (decide (x33.Y < 0)))] 21 [some 20, some 15] rfl rfl rfl rfl rfl rfl fun G a w S => ?_
      refine sSkip 15 false 40 46 S rfl rfl rfl hc53 rfl (lb rfl) fun a S => ?_
      exact leafL ⟨rfl, S⟩
    · refine fI 47 (.bool true) [(40, .bool (decide (x33.Y < 0))), (46, undef)] 22 [some 15, some 21] rfl rfl rfl rfl rfl rfl fun G a w S => ?_
      refine sPickT (.bool true) S (wN rfl) rfl rfl hc53 rfl rfl (lb rfl) fun a S => ?_
      exact leafL ⟨rfl, S⟩
    · refine fI 48 (.bool true) [(47, .bool true)] 23 [some 22] rfl rfl rfl rfl rfl rfl fun G a w S => ?_
      refine sMove (.bool true) S (wN rfl) (.inl rfl) rfl rfl (lb rfl) fun a S => ?_
      exact leafL ⟨rfl, S⟩
    · refine fI 49 undef [(3, iv s22), (48, .bool true)] 24 [none, some 23] rfl rfl rfl rfl rfl rfl fun G a w S => ?_
      refine sSkip 23 false 48 49 S rfl rfl rfl rfl rfl (lb rfl) fun a S => ?_
      exact leafL ⟨rfl, S⟩
    · refine fI 50 undef [(49, undef), (48, .bool true)] 25 [some 24, some 23] rfl rfl rfl rfl rfl rfl fun G a w S => ?_
      refine sSkip 23 false 48 50 S rfl rfl rfl rfl rfl (lb rfl) fun a S => ?_
      exact leafL ⟨rfl, S⟩
    · refine fI 51 undef [(50, undef), (48, .bool true)] 26 [some 25, some 23] rfl rfl rfl rfl rfl rfl fun G a w S => ?_
      refine sSkip 23 false 48 51 S rfl rfl rfl rfl rfl (lb rfl) fun a S => ?_
      exact leafL ⟨rfl, S⟩
    · refine fI 52 undef [(0, .slice ad1 p0.length cp2), (51, undef)] 27 [none, some 26] rfl rfl rfl rfl rfl rfl fun G a w S => ?_
      refine sSkipU 26 true 51 52 S rfl rfl rfl rfl (lb rfl) fun a S => ?_
      exact leafL ⟨rfl, S⟩
    · refine fI 53 undef [(3, iv s22), (51, undef)] 28 [none, some 26] rfl rfl rfl rfl rfl rfl fun G a w S => ?_
      refine sSkipU 26 true 51 53 S rfl rfl rfl rfl (lb rfl) fun a S => ?_
      exact leafL ⟨rfl, S⟩
    · refine fI 54 undef [(52, undef), (53, undef), (51, undef)] 29 [some 27, some 28, some 26] rfl rfl rfl rfl rfl rfl fun G a w S => ?_
      refine sSkipU 26 true 51 54 S rfl rfl rfl rfl (lb rfl) fun a S => ?_
      exact leafL ⟨rfl, S⟩
    · refine fI 55 undef [(54, undef), (51, undef)] 30 [some 29, some 26] rfl rfl rfl rfl rfl rfl fun G a w S => ?_
      refine sSkipU 26 true 51 55 S rfl rfl rfl rfl (lb rfl) fun a S => ?_
      exact leafL ⟨rfl, S⟩
    · refine fI 56 undef [(55, undef), (51, undef)] 31 [some 30, some 26] rfl rfl rfl rfl rfl rfl fun G a w S => ?_
      refine sSkipU 26 true 51 56 S rfl rfl rfl rfl (lb rfl) fun a S => ?_
      exact leafL ⟨rfl, S⟩
    · refine fI 57 undef [(0, .slice ad1 p0.length cp2), (51, undef)] 32 [none, some 26] rfl rfl rfl rfl rfl rfl fun G a w S => ?_
      refine sSkipU 26 true 51 57 S rfl rfl rfl rfl (lb rfl) fun a S => ?_
      exact leafL ⟨rfl, S⟩
    · refine fI 58 undef [(3, iv s22), (51, undef)] 33 [none, some 26] rfl rfl rfl rfl rfl rfl fun G a w S => ?_
      refine sSkipU 26 true 51 58 S rfl rfl rfl rfl (lb rfl) fun a S => ?_
      exact leafL ⟨rfl, S⟩
    · refine fI 59 undef [(58, undef), (51, undef)] 34 [some 33, some 26] rfl rfl rfl rfl rfl rfl fun G a w S => ?_
      refine sSkipU 26 true 51 59 S rfl rfl rfl rfl (lb rfl) fun a S => ?_
      exact leafL ⟨rfl, S⟩
    · refine fI 60 undef [(57, undef), (59, undef), (51, undef)] 35 [some 32, some 34, some 26] rfl rfl rfl rfl rfl rfl fun G a w S => ?_
      refine sSkipU 26 true 51 60 S rfl rfl rfl rfl (lb rfl) fun a S => ?_
      exact leafL ⟨rfl, S⟩
    · refine fI 61 undef [(60, undef), (51, undef)] 36 [some 35, some 26] rfl rfl rfl rfl rfl rfl fun G a w S => ?_
      refine sSkipU 26 true 51 61 S rfl rfl rfl rfl (lb rfl) fun a S => ?_
      exact leafL ⟨rfl, S⟩
    · refine fI 62 undef [(61, undef), (51, undef)] 37 [some 36, some 26] rfl rfl rfl rfl rfl rfl fun G a w S => ?_
      refine sSkipU 26 true 51 62 S rfl rfl rfl rfl (lb rfl) fun a S => ?_
      exact leafL ⟨rfl, S⟩
    · refine fI 63 undef [(56, undef), (62, undef), (51, undef)] 38 [some 31, some 37, some 26] rfl rfl rfl rfl rfl rfl fun G a w S => ?_
      refine sSkipU 26 true 51 63 S rfl rfl rfl rfl (lb rfl) fun a S => ?_
      exact leafL ⟨rfl, S⟩
    · refine fI 64 undef [(51, undef), (63, undef), (48, .bool true)] 39 [some 26, some 38, some 23] rfl rfl rfl rfl rfl rfl fun G a w S => ?_
      refine sSkip 23 false 48 64 S rfl rfl rfl rfl rfl (lb rfl) fun a S => ?_
      exact leafL ⟨rfl, S⟩
    · refine fI 65 (.bool true) [(48, .bool true), (64, undef)] 40 [some 23, some 39] rfl rfl rfl rfl rfl rfl fun G a w S => ?_
      refine sPickT (.bool true) S (wN rfl) rfl rfl rfl rfl rfl (lb rfl) fun a S => ?_
      exact leafL ⟨rfl, S⟩
    exact leafT (⟨true, Option.some.inj h, S.fix [] [8] (by decide) rfl rfl rfl⟩)
  rcases iteSome h with ⟨hc69, h⟩ | ⟨hc69, h⟩
  · obtain ⟨q70, hq71, S⟩ := pIdx (P := Tryd.prog) (r := r_api_Point) (v := .slice ad1 p0.length cp2) (xs := p0) (j := s22) 22 35 0 S Tryd.underlying22 rfl rfl hx34
    obtain ⟨q72, hq73, S⟩ := pFld (P := Tryd.prog) (r := r_api_Point) (s2 := (rI .i64)) (g := (·.X)) (q := q70) (z := x33) 35 0 0 0 S rfl rfl comp_api_Point_X
    obtain ⟨u74, S⟩ := pLoad (r := (rI .i64)) (q := q72) (x := x33.X) 0 S rfl
    obtain rfl : u74 = iv x33.X := S.mem.know (i := 1) (e := fRep (rI .i64) (u74) x33.X) rfl
    obtain ⟨q75, hq76, S⟩ := pIdx (P := Tryd.prog) (r := r_api_Point) (v := .slice ad1 p0.length cp2) (xs := p0) (j := s22) 22 35 4 S Tryd.underlying22 rfl rfl hx34
    obtain ⟨q77, hq78, S⟩ := pFld (P := Tryd.prog) (r := r_api_Point) (s2 := (rI .i64)) (g := (·.Y)) (q := q75) (z := x33) 35 1 0 1 S rfl rfl comp_api_Point_Y
    obtain ⟨u79, S⟩ := pLoad (r := (rI .i64)) (q := q77) (x := x33.Y) 0 S rfl
    obtain rfl : u79 = iv x33.Y := S.mem.know (i := 1) (e := fRep (rI .i64) (u79) x33.Y) rfl
    obtain ⟨q80, hq81, S⟩ := pIdx (P := Tryd.prog) (r := r_api_Point) (v := .slice ad1 p0.length cp2) (xs := p0) (j := s22) 22 35 8 S Tryd.underlying22 rfl rfl hx34
    obtain ⟨q82, hq83, S⟩ := pFld (P := Tryd.prog) (r := r_api_Point) (s2 := (rI .i64)) (g := (·.Y)) (q := q80) (z := x33) 35 1 0 1 S rfl rfl comp_api_Point_Y
    obtain ⟨u84, S⟩ := pLoad (r := (rI .i64)) (q := q82) (x := x33.Y) 0 S rfl
    obtain rfl : u84 = iv x33.Y := S.mem.know (i := 1) (e := fRep (rI .i64) (u84) x33.Y) rfl
    refine sDraw (nf := []) (W := [(0, 25, .slice ad1 p0.length cp2), (1, 26, iv s22), (2, 27, q70), (3, 28, q72), (4, 29, iv x33.X), (5, 30, .bool r40), (6, 31, .bool (!r40)), (7, 32, .bool (!r40)), (8, 33, .slice ad1 p0.length cp2), (9, 34, iv s22), (10, 35, q75), (11, 36, q77), (12, 37, iv x33.Y), (13, 38, .bool (decide (x33.Y < 0))), (14, 39, .bool (decide (x33.Y < 0))), (15, 40, .bool (decide (x33.Y < 0))), (16, 41, .slice ad1 p0.length cp2), (17, 42, iv s22), (18, 43, q80), (19, 44, q82), (20, 45, iv x33.Y), (21, 46, .bool (decide (99 < x33.Y))), (22, 47, .bool (decide (99 < x33.Y))), (23, 48, .bool (decide (99 < x33.Y))), (24, 49, undef), (25, 50, undef), (26, 51, undef), (27, 52, undef), (28, 53, undef), (29, 54, undef), (30, 55, undef), (31, 56, undef), (32, 57, undef), (33, 58, undef), (34, 59, undef), (35, 60, undef), (36, 61, undef), (37, 62, undef), (38, 63, undef), (39, 64, undef), (40, 65, .bool true)]) rfl S ?_
    refine node_by (A := anc_raddleref37_side_0) (nf := []) (Y := []) (W := [(0, 25, .slice ad1 p0.length cp2), (1, 26, iv s22), (2, 27, q70), (3, 28, q72), (4, 29, iv x33.X), (5, 30, .bool r40), (6, 31, .bool (!r40)), (7, 32, .bool (!r40)), (8, 33, .slice ad1 p0.length cp2), (9, 34, iv s22), (10, 35, q75), (11, 36, q77), (12, 37, iv x33.Y), (13, 38, .bool (decide (x33.Y < 0))), (14, 39, .bool (decide (x33.Y < 0))), (15, 40, .bool (decide (x33.Y < 0))), (16, 41, .slice ad1 p0.length cp2), (17, 42, iv s22), (18, 43, q80), (19, 44, q82), (20, 45, iv x33.Y), (21, 46, .bool (decide (99 < x33.Y))), (22, 47, .bool (decide (99 < x33.Y))), (23, 48, .bool (decide (99 < x33.Y))), (24, 49, undef), (25, 50, undef), (26, 51, undef), (27, 52, undef), (28, 53, undef), (29, 54, undef), (30, 55, undef), (31, 56, undef), (32, 57, undef), (33, 58, undef), (34, 59, undef), (35, 60, undef), (36, 61, undef), (37, 62, undef), (38, 63, undef), (39, 64, undef), (40, 65, .bool true)]) 41 (by kernel_rfl) (by kernel_rfl) (by kernel_rfl) (by kernel_rfl) (by kernel_rfl) [0, 1, 2, 3, 4, 5, 6, 7, 8, 9, 10, 11, 12, 13, 14, 15, 16, 17, 18, 19, 20, 21, 22, 23, 24, 25, 26, 27, 28, 29, 30, 31, 32, 33, 34, 35, 36, 37, 38, 39, 40] (by kernel_rfl) (by decide) (by decide) (aF 0 40 (by decide) ?_ (aF 1 39 (by decide) ?_ (aF 2 38 (by decide) ?_ (aF 3 37 (by decide) ?_ (aF 4 36 (by decide) ?_ (aF 5 35 (by decide) ?_ (aF 6 34 (by decide) ?_ (aF 7 33 (by decide) ?_ (aF 8 32 (by decide) ?_ (aF 9 31 (by decide) ?_ (aF 10 30 (by decide) ?_ (aF 11 29 (by decide) ?_ (aF 12 28 (by decide) ?_ (aF 13 27 (by decide) ?_ (aF 14 26 (by decide) ?_ (aF 15 25 (by decide) ?_ (aF 16 24 (by decide) ?_ (aF 17 23 (by decide) ?_ (aF 18 22 (by decide) ?_ (aF 19 21 (by decide) ?_ (aF 20 20 (by decide) ?_ (aF 21 19 (by decide) ?_ (aF 22 18 (by decide) ?_ (aF 23 17 (by decide) ?_ (aF 24 16 (by decide) ?_ (aF 25 15 (by decide) ?_ (aF 26 14 (by decide) ?_ (aF 27 13 (by decide) ?_ (aF 28 12 (by decide) ?_ (aF 29 11 (by decide) ?_ (aF 30 10 (by decide) ?_ (aF 31 9 (by decide) ?_ (aF 32 8 (by decide) ?_ (aF 33 7 (by decide) ?_ (aF 34 6 (by decide) ?_ (aF 35 5 (by decide) ?_ (aF 36 4 (by decide) ?_ (aF 37 3 (by decide) ?_ (aF 38 2 (by decide) ?_ (aF 39 1 (by decide) ?_ (aF 40 0 (by decide) ?_ (trivial)))))))))))))))))))))))))))))))))))))))))) [(0, .slice ad1 p0.length cp2), (3, iv s22), (33, .slice ad1 p0.length cp2), (34, iv s22), (35, q75), (36, q77), (37, iv x33.Y), (38, .bool (decide (x33.Y < 0))), (41, .slice ad1 p0.length cp2), (42, iv s22), (43, q80), (44, q82), (45, iv x33.Y), (46, .bool (decide (99 < x33.Y))), (49, undef), (50, undef), (51, undef), (52, undef), (53, undef), (54, undef), (55, undef), (56, undef), (57, undef), (58, undef), (59, undef), (60, undef), (61, undef), (62, undef), (63, undef), (64, undef), (65, .bool true)] (fin_of [none, none, some 8, some 9, some 10, some 11, some 12, some 13, some 16, some 17, some 18, some 19, some 20, some 21, some 24, some 25, some 26, some 27, some 28, some 29, some 30, some 31, some 32, some 33, some 34, some 35, some 36, some 37, some 38, some 39, some 40] rfl (by kernel_rfl) (by kernel_rfl)) (fun _ a w S => ?_)
    · refine fI 25 (.slice ad1 p0.length cp2) [(0, .slice ad1 p0.length cp2)] 0 [none] rfl rfl rfl rfl rfl rfl fun G a w S => ?_
      refine sMove (.slice ad1 p0.length cp2) S (wN rfl) (.inl rfl) rfl rfl (lb rfl) fun a S => ?_
      exact leafL ⟨rfl, S⟩
    · refine fI 26 (iv s22) [(3, iv s22)] 1 [none] rfl rfl rfl rfl rfl rfl fun G a w S => ?_
      refine sMove (iv s22) S (wN rfl) (.inl rfl) rfl rfl (lb rfl) fun a S => ?_
      exact leafL ⟨rfl, S⟩
    · refine fI 27 q70 [(25, .slice ad1 p0.length cp2), (26, iv s22)] 2 [some 0, some 1] rfl rfl rfl rfl rfl rfl fun G a w S => ?_
      refine sIdxV (v := .slice ad1 p0.length cp2) (k := .i64) (j := s22) S (wN rfl) rfl rfl rfl hq71 rfl (lb rfl) fun a S => ?_
      exact leafL ⟨rfl, S⟩
    · refine fI 28 q72 [(27, q70)] 3 [some 2] rfl rfl rfl rfl rfl rfl fun G a w S => ?_
      refine sFldV (q := q70) S (wN rfl) rfl rfl hq73 rfl (lb rfl) fun a S => ?_
      exact leafL ⟨rfl, S⟩
    · refine fI 29 (iv x33.X) [(28, q72)] 4 [some 3] rfl rfl rfl rfl rfl rfl fun G a w S => ?_
      refine sLoadV1 (vq := q72) 8 (iv x33.X) S (wN rfl) rfl rfl rfl rfl rfl (lb rfl) fun a S => ?_
      exact leafL ⟨rfl, S⟩
    · refine fI 30 (.bool r40) [(29, iv x33.X)] 5 [some 4] rfl rfl rfl rfl rfl rfl fun G a w S => ?_
      have S1 := S.mem
      refine sCallQ (X := Unit) (f := 45) (vs := [iv x33.X]) (val := fun _ => .bool r40) S (wN rfl) rfl callee45 rfl (S1.quiet [] rfl) (fun E1 w1 S1 => c_raddleref37_in E1 w1 x33.X r40 hx41 S1) rfl (lb rfl) fun _ a w S => ?_
      exact leafL ⟨rfl, S⟩
    · refine fI 31 (.bool (!r40)) [(30, .bool r40)] 6 [some 5] rfl rfl rfl rfl rfl rfl fun G a w S => ?_
      refine sNot (b := r40) S (wN rfl) rfl rfl rfl (lb rfl) fun a S => ?_
      exact leafL ⟨rfl, S⟩
    · refine fI 32 (.bool (!r40)) [(31, .bool (!r40))] 7 [some 6] rfl rfl rfl rfl rfl rfl fun G a w S => ?_
      refine sMove (.bool (!r40)) S (wN rfl) (.inl rfl) rfl rfl (lb rfl) fun a S => ?_
      exact leafL ⟨rfl, S⟩
    · refine fI 33 (.slice ad1 p0.length cp2) [(0, .slice ad1 p0.length cp2), (32, .bool (!r40))] 8 [none, some 7] rfl rfl rfl rfl rfl rfl fun G a w S => ?_
      refine sMove (.slice ad1 p0.length cp2) S (wG 7 false 32 rfl rfl rfl hc42) (.inl rfl) rfl rfl (lb rfl) fun a S => ?_
      exact leafL ⟨rfl, S⟩
    · refine fI 34 (iv s22) [(3, iv s22), (32, .bool (!r40))] 9 [none, some 7] rfl rfl rfl rfl rfl rfl fun G a w S => ?_
      refine sMove (iv s22) S (wG 7 false 32 rfl rfl rfl hc42) (.inl rfl) rfl rfl (lb rfl) fun a S => ?_
      exact leafL ⟨rfl, S⟩
    · refine fI 35 q75 [(33, .slice ad1 p0.length cp2), (34, iv s22), (32, .bool (!r40))] 10 [some 8, some 9, some 7] rfl rfl rfl rfl rfl rfl fun G a w S => ?_
      refine sIdxV (v := .slice ad1 p0.length cp2) (k := .i64) (j := s22) S (wG 7 false 32 rfl rfl rfl hc42) rfl rfl rfl hq76 rfl (lb rfl) fun a S => ?_
      exact leafL ⟨rfl, S⟩
    · refine fI 36 q77 [(35, q75), (32, .bool (!r40))] 11 [some 10, some 7] rfl rfl rfl rfl rfl rfl fun G a w S => ?_
      refine sFldV (q := q75) S (wG 7 false 32 rfl rfl rfl hc42) rfl rfl hq78 rfl (lb rfl) fun a S => ?_
      exact leafL ⟨rfl, S⟩
    · refine fI 37 (iv x33.Y) [(36, q77), (32, .bool (!r40))] 12 [some 11, some 7] rfl rfl rfl rfl rfl rfl fun G a w S => ?_
      refine sLoadV1 (vq := q77) 4 (iv x33.Y) S (wG 7 false 32 rfl rfl rfl hc42) rfl rfl rfl rfl rfl (lb rfl) fun a S => ?_
      exact leafL ⟨rfl, S⟩
    · refine fI 38 (.bool (decide (x33.Y < 0))) [(37, iv x33.Y), (32, .bool (!r40))] 13 [some 12, some 7] rfl rfl rfl rfl rfl rfl fun G a w S => ?_
      refine sBin (.bool (decide (x33.Y < 0))) S (wG 7 false 32 rfl rfl rfl hc42) rfl rfl rfl (bLt _ _ _ _ .i64 x33.Y 0) rfl (lb rfl) fun a S => ?_
      exact leafL ⟨rfl, S⟩
    · refine fI 39 (.bool (decide (x33.Y < 0))) [(32, .bool (!r40)), (38, .bool (decide (x33.Y < 0)))] 14 [some 7, some 13] rfl rfl rfl rfl rfl rfl fun G a w S => ?_
      refine sPickF (.bool (decide (x33.Y < 0))) S (wN rfl) rfl rfl hc42 rfl rfl (lb rfl) fun a S => ?_
      exact leafL ⟨rfl, S⟩
    · refine fI 40 (.bool (decide (x33.Y < 0))) [(39, .bool (decide (x33.Y < 0)))] 15 [some 14] rfl rfl rfl rfl rfl rfl fun G a w S => ?_
      refine sMove (.bool (decide (x33.Y < 0))) S (wN rfl) (.inl rfl) rfl rfl (lb rfl) fun a S => ?_
      exact leafL ⟨rfl, S⟩
    · refine fI 41 (.slice ad1 p0.length cp2) [(0, .slice ad1 p0.length cp2), (40, .bool (decide (x33.Y < 0)))] 16 [none, some 15] rfl rfl rfl rfl rfl rfl fun G a w S => ?_
      refine sMove (.slice ad1 p0.length cp2) S (wG 15 false 40 rfl rfl rfl hc53) (.inl rfl) rfl rfl (lb rfl) fun a S => ?_
      exact leafL ⟨rfl, S⟩
    · refine fI 42 (iv s22) [(3, iv s22), (40, .bool (decide (x33.Y < 0)))] 17 [none, some 15] rfl rfl rfl rfl rfl rfl fun G a w S => ?_
      refine sMove (iv s22) S (wG 15 false 40 rfl rfl rfl hc53) (.inl rfl) rfl rfl (lb rfl) fun a S => ?_
      exact leafL ⟨rfl, S⟩
    · refine fI 43 q80 [(41, .slice ad1 p0.length cp2), (42, iv s22), (40, .bool (decide (x33.Y < 0)))] 18 [some 16, some 17, some 15] rfl rfl rfl rfl rfl rfl fun G a w S => ?_
      refine sIdxV (v := .slice ad1 p0.length cp2) (k := .i64) (j := s22) S (wG 15 false 40 rfl rfl rfl hc53) rfl rfl rfl hq81 rfl (lb rfl) fun a S => ?_
      exact leafL ⟨rfl, S⟩
    · refine fI 44 q82 [(43, q80), (40, .bool (decide (x33.Y < 0)))] 19 [some 18, some 15] rfl rfl rfl rfl rfl rfl fun G a w S => ?_
      refine sFldV (q := q80) S (wG 15 false 40 rfl rfl rfl hc53) rfl rfl hq83 rfl (lb rfl) fun a S => ?_
      exact leafL ⟨rfl, S⟩
    · refine fI 45 (iv x33.Y) [(44, q82), (40, .bool (decide (x33.Y < 0)))] 20 [some 19, some 15] rfl rfl rfl rfl rfl rfl fun G a w S => ?_
      refine sLoadV1 (vq := q82) 0 (iv x33.Y) S (wG 15 false 40 rfl rfl rfl hc53) rfl rfl rfl rfl rfl (lb rfl) fun a S => ?_
      exact leafL ⟨rfl, S⟩
    · refine fI 46 (.bool (decide (99 < x33.Y))) [(45, iv x33.Y), (40, .bool (decide (x33.Y < 0)))] 21 [some 20, some 15] rfl rfl rfl rfl rfl rfl fun G a w S => ?_
      refine sBin (.bool (decide (99 < x33.Y))) S (wG 15 false 40 rfl rfl rfl hc53) rfl rfl rfl (bGt _ _ _ _ .i64 x33.Y 99) rfl (lb rfl) fun a S => ?_
      exact leafL ⟨rfl, S⟩
    · refine fI 47 (.bool (decide (99 < x33.Y))) [(40, .bool (decide (x33.Y < 0))), (46, .bool (decide (99 < x33.Y)))] 22 [some 15, some 21] rfl rfl rfl rfl rfl rfl fun G a w S => ?_
      refine sPickF (.bool (decide (99 < x33.Y))) S (wN rfl) rfl rfl hc53 rfl rfl (lb rfl) fun a S => ?_
      exact leafL ⟨rfl, S⟩
    · refine fI 48 (.bool (decide (99 < x33.Y))) [(47, .bool (decide (99 < x33.Y)))] 23 [some 22] rfl rfl rfl rfl rfl rfl fun G a w S => ?_
      refine sMove (.bool (decide (99 < x33.Y))) S (wN rfl) (.inl rfl) rfl rfl (lb rfl) fun a S => ?_
      exact leafL ⟨rfl, S⟩
    · refine fI 49 undef [(3, iv s22), (48, .bool (decide (99 < x33.Y)))] 24 [none, some 23] rfl rfl rfl rfl rfl rfl fun G a w S => ?_
      refine sSkip 23 false 48 49 S rfl rfl rfl hc69 rfl (lb rfl) fun a S => ?_
      exact leafL ⟨rfl, S⟩
    · refine fI 50 undef [(49, undef), (48, .bool (decide (99 < x33.Y)))] 25 [some 24, some 23] rfl rfl rfl rfl rfl rfl fun G a w S => ?_
      refine sSkip 23 false 48 50 S rfl rfl rfl hc69 rfl (lb rfl) fun a S => ?_
      exact leafL ⟨rfl, S⟩
    · refine fI 51 undef [(50, undef), (48, .bool (decide (99 < x33.Y)))] 26 [some 25, some 23] rfl rfl rfl rfl rfl rfl fun G a w S => ?_
      refine sSkip 23 false 48 51 S rfl rfl rfl hc69 rfl (lb rfl) fun a S => ?_
      exact leafL ⟨rfl, S⟩
    · refine fI 52 undef [(0, .slice ad1 p0.length cp2), (51, undef)] 27 [none, some 26] rfl rfl rfl rfl rfl rfl fun G a w S => ?_
      refine sSkipU 26 true 51 52 S rfl rfl rfl rfl (lb rfl) fun a S => ?_
      exact leafL ⟨rfl, S⟩
    · refine fI 53 undef [(3, iv s22), (51, undef)] 28 [none, some 26] rfl rfl rfl rfl rfl rfl fun G a w S => ?_
      refine sSkipU 26 true 51 53 S rfl rfl rfl rfl (lb rfl) fun a S => ?_
      exact leafL ⟨rfl, S⟩
    · refine fI 54 undef [(52, undef), (53, undef), (51, undef)] 29 [some 27, some 28, some 26] rfl rfl rfl rfl rfl rfl fun G a w S => ?_
      refine sSkipU 26 true 51 54 S rfl rfl rfl rfl (lb rfl) fun a S => ?_
      exact leafL ⟨rfl, S⟩
    · refine fI 55 undef [(54, undef), (51, undef)] 30 [some 29, some 26] rfl rfl rfl rfl rfl rfl fun G a w S => ?_
      refine sSkipU 26 true 51 55 S rfl rfl rfl rfl (lb rfl) fun a S => ?_
      exact leafL ⟨rfl, S⟩
    · refine fI 56 undef [(55, undef), (51, undef)] 31 [some 30, some 26] rfl rfl rfl rfl rfl rfl fun G a w S => ?_
      refine sSkipU 26 true 51 56 S rfl rfl rfl rfl (lb rfl) fun a S => ?_
      exact leafL ⟨rfl, S⟩
    · refine fI 57 undef [(0, .slice ad1 p0.length cp2), (51, undef)] 32 [none, some 26] rfl rfl rfl rfl rfl rfl fun G a w S => ?_
      refine sSkipU 26 true 51 57 S rfl rfl rfl rfl (lb rfl) fun a S => ?_
      exact leafL ⟨rfl, S⟩
    · refine fI 58 undef [(3, iv s22), (51, undef)] 33 [none, some 26] rfl rfl rfl rfl rfl rfl fun G a w S => ?_
      refine sSkipU 26 true 51 58 S rfl rfl rfl rfl (lb rfl) fun a S => ?_
      exact leafL ⟨rfl, S⟩
    · refine fI 59 undef [(58, undef), (51, undef)] 34 [some 33, some 26] rfl rfl rfl rfl rfl rfl fun G a w S => ?_
      refine sSkipU 26 true 51 59 S rfl rfl rfl rfl (lb rfl) fun a S => ?_
      exact leafL ⟨rfl, S⟩
    · refine fI 60 undef [(57, undef), (59, undef), (51, undef)] 35 [some 32, some 34, some 26] rfl rfl rfl rfl rfl rfl fun G a w S => ?_
      refine sSkipU 26 true 51 60 S rfl rfl rfl rfl (lb rfl) fun a S => ?_
      exact leafL ⟨rfl, S⟩
    · refine fI 61 undef [(60, undef), (51, undef)] 36 [some 35, some 26] rfl rfl rfl rfl rfl rfl fun G a w S => ?_
      refine sSkipU 26 true 51 61 S rfl rfl rfl rfl (lb rfl) fun a S => ?_
      exact leafL ⟨rfl, S⟩
    · refine fI 62 undef [(61, undef), (51, undef)] 37 [some 36, some 26] rfl rfl rfl rfl rfl rfl fun G a w S => ?_
      refine sSkipU 26 true 51 62 S rfl rfl rfl rfl (lb rfl) fun a S => ?_
      exact leafL ⟨rfl, S⟩
    · refine fI 63 undef [(56, undef), (62, undef), (51, undef)] 38 [some 31, some 37, some 26] rfl rfl rfl rfl rfl rfl fun G a w S => ?_
      refine sSkipU 26 true 51 63 S rfl rfl rfl rfl (lb rfl) fun a S => ?_
      exact leafL ⟨rfl, S⟩
    · refine fI 64 undef [(51, undef), (63, undef), (48, .bool (decide (99 < x33.Y)))] 39 [some 26, some 38, some 23] rfl rfl rfl rfl rfl rfl fun G a w S => ?_
      refine sSkip 23 false 48 64 S rfl rfl rfl hc69 rfl (lb rfl) fun a S => ?_
      exact leafL ⟨rfl, S⟩
    · refine fI 65 (.bool true) [(48, .bool (decide (99 < x33.Y))), (64, undef)] 40 [some 23, some 39] rfl rfl rfl rfl rfl rfl fun G a w S => ?_
      refine sPickT (.bool true) S (wN rfl) rfl rfl hc69 rfl rfl (lb rfl) fun a S => ?_
      exact leafL ⟨rfl, S⟩
    exact leafT (⟨true, Option.some.inj h, S.fix [] [12] (by decide) rfl rfl rfl⟩)
  rcases iteSome h with ⟨hc85, h⟩ | ⟨hc85, h⟩
  rotate_left
  · obtain ⟨q123, hq124, S⟩ := pIdx (P := Tryd.prog) (r := r_api_Point) (v := .slice ad1 p0.length cp2) (xs := p0) (j := s22) 22 35 0 S Tryd.underlying22 rfl rfl hx34
    obtain ⟨q125, hq126, S⟩ := pFld (P := Tryd.prog) (r := r_api_Point) (s2 := (rI .i64)) (g := (·.X)) (q := q123) (z := x33) 35 0 0 0 S rfl rfl comp_api_Point_X
    obtain ⟨u127, S⟩ := pLoad (r := (rI .i64)) (q := q125) (x := x33.X) 0 S rfl
    obtain rfl : u127 = iv x33.X := S.mem.know (i := 1) (e := fRep (rI .i64) (u127) x33.X) rfl
    obtain ⟨q128, hq129, S⟩ := pIdx (P := Tryd.prog) (r := r_api_Point) (v := .slice ad1 p0.length cp2) (xs := p0) (j := s22) 22 35 4 S Tryd.underlying22 rfl rfl hx34
    obtain ⟨q130, hq131, S⟩ := pFld (P := Tryd.prog) (r := r_api_Point) (s2 := (rI .i64)) (g := (·.Y)) (q := q128) (z := x33) 35 1 0 1 S rfl rfl comp_api_Point_Y
    obtain ⟨u132, S⟩ := pLoad (r := (rI .i64)) (q := q130) (x := x33.Y) 0 S rfl
    obtain rfl : u132 = iv x33.Y := S.mem.know (i := 1) (e := fRep (rI .i64) (u132) x33.Y) rfl
    obtain ⟨q133, hq134, S⟩ := pIdx (P := Tryd.prog) (r := r_api_Point) (v := .slice ad1 p0.length cp2) (xs := p0) (j := s22) 22 35 8 S Tryd.underlying22 rfl rfl hx34
    obtain ⟨q135, hq136, S⟩ := pFld (P := Tryd.prog) (r := r_api_Point) (s2 := (rI .i64)) (g := (·.Y)) (q := q133) (z := x33) 35 1 0 1 S rfl rfl comp_api_Point_Y
    obtain ⟨u137, S⟩ := pLoad (r := (rI .i64)) (q := q135) (x := x33.Y) 0 S rfl
    obtain rfl : u137 = iv x33.Y := S.mem.know (i := 1) (e := fRep (rI .i64) (u137) x33.Y) rfl
    refine sDraw (nf := []) (W := [(0, 25, .slice ad1 p0.length cp2), (1, 26, iv s22), (2, 27, q123), (3, 28, q125), (4, 29, iv x33.X), (5, 30, .bool r40), (6, 31, .bool (!r40)), (7, 32, .bool (!r40)), (8, 33, .slice ad1 p0.length cp2), (9, 34, iv s22), (10, 35, q128), (11, 36, q130), (12, 37, iv x33.Y), (13, 38, .bool (decide (x33.Y < 0))), (14, 39, .bool (decide (x33.Y < 0))), (15, 40, .bool (decide (x33.Y < 0))), (16, 41, .slice ad1 p0.length cp2), (17, 42, iv s22), (18, 43, q133), (19, 44, q135), (20, 45, iv x33.Y), (21, 46, .bool (decide (99 < x33.Y))), (22, 47, .bool (decide (99 < x33.Y))), (23, 48, .bool (decide (99 < x33.Y))), (24, 49, iv s22), (25, 50, .bool (decide (0 < s22))), (26, 51, .bool (decide (0 < s22))), (27, 52, undef), (28, 53, undef), (29, 54, undef), (30, 55, undef), (31, 56, undef), (32, 57, undef), (33, 58, undef), (34, 59, undef), (35, 60, undef), (36, 61, undef), (37, 62, undef), (38, 63, undef), (39, 64, .bool false), (40, 65, .bool false)]) rfl S ?_
    refine node_by (A := anc_raddleref37_side_0) (nf := []) (Y := []) (W := [(0, 25, .slice ad1 p0.length cp2), (1, 26, iv s22), (2, 27, q123), (3, 28, q125), (4, 29, iv x33.X), (5, 30, .bool r40), (6, 31, .bool (!r40)), (7, 32, .bool (!r40)), (8, 33, .slice ad1 p0.length cp2), (9, 34, iv s22), (10, 35, q128), (11, 36, q130), (12, 37, iv x33.Y), (13, 38, .bool (decide (x33.Y < 0))), (14, 39, .bool (decide (x33.Y < 0))), (15, 40, .bool (decide (x33.Y < 0))), (16, 41, .slice ad1 p0.length cp2), (17, 42, iv s22), (18, 43, q133), (19, 44, q135), (20, 45, iv x33.Y), (21, 46, .bool (decide (99 < x33.Y))), (22, 47, .bool (decide (99 < x33.Y))), (23, 48, .bool (decide (99 < x33.Y))), (24, 49, iv s22), (25, 50, .bool (decide (0 < s22))), (26, 51, .bool (decide (0 < s22))), (27, 52, undef), (28, 53, undef), (29, 54, undef), (30, 55, undef), (31, 56, undef), (32, 57, undef), (33, 58, undef), (34, 59, undef), (35, 60, undef), (36, 61, undef), (37, 62, undef), (38, 63, undef), (39, 64, .bool false), (40, 65, .bool false)]) 41 (by kernel_rfl) (by kernel_rfl) (by kernel_rfl) (by kernel_rfl) (by kernel_rfl) [0, 1, 2, 3, 4, 5, 6, 7, 8, 9, 10, 11, 12, 13, 14, 15, 16, 17, 18, 19, 20, 21, 22, 23, 24, 25, 26, 27, 28, 29, 30, 31, 32, 33, 34, 35, 36, 37, 38, 39, 40] (by kernel_rfl) (by decide) (by decide) (aF 0 40 (by decide) ?_ (aF 1 39 (by decide) ?_ (aF 2 38 (by decide) ?_ (aF 3 37 (by decide) ?_ (aF 4 36 (by decide) ?_ (aF 5 35 (by decide) ?_ (aF 6 34 (by decide) ?_ (aF 7 33 (by decide) ?_ (aF 8 32 (by decide) ?_ (aF 9 31 (by decide) ?_ (aF 10 30 (by decide) ?_ (aF 11 29 (by decide) ?_ (aF 12 28 (by decide) ?_ (aF 13 27 (by decide) ?_ (aF 14 26 (by decide) ?_ (aF 15 25 (by decide) ?_ (aF 16 24 (by decide) ?_ (aF 17 23 (by decide) ?_ (aF 18 22 (by decide) ?_ (aF 19 21 (by decide) ?_ (aF 20 20 (by decide) ?_ (aF 21 19 (by decide) ?_ (aF 22 18 (by decide) ?_ (aF 23 17 (by decide) ?_ (aF 24 16 (by decide) ?_ (aF 25 15 (by decide) ?_ (aF 26 14 (by decide) ?_ (aF 27 13 (by decide) ?_ (aF 28 12 (by decide) ?_ (aF 29 11 (by decide) ?_ (aF 30 10 (by decide) ?_ (aF 31 9 (by decide) ?_ (aF 32 8 (by decide) ?_ (aF 33 7 (by decide) ?_ (aF 34 6 (by decide) ?_ (aF 35 5 (by decide) ?_ (aF 36 4 (by decide) ?_ (aF 37 3 (by decide) ?_ (aF 38 2 (by decide) ?_ (aF 39 1 (by decide) ?_ (aF 40 0 (by decide) ?_ (trivial)))))))))))))))))))))))))))))))))))))))))) [(0, .slice ad1 p0.length cp2), (3, iv s22), (33, .slice ad1 p0.length cp2), (34, iv s22), (35, q128), (36, q130), (37, iv x33.Y), (38, .bool (decide (x33.Y < 0))), (41, .slice ad1 p0.length cp2), (42, iv s22), (43, q133), (44, q135), (45, iv x33.Y), (46, .bool (decide (99 < x33.Y))), (49, iv s22), (50, .bool (decide (0 < s22))), (51, .bool (decide (0 < s22))), (52, undef), (53, undef), (54, undef), (55, undef), (56, undef), (57, undef), (58, undef), (59, undef), (60, undef), (61, undef), (62, undef), (63, undef), (64, .bool false), (65, .bool false)] (fin_of [none, none, some 8, some 9, some 10, some 11, some 12, some 13, some 16, some 17, some 18, some 19, some 20, some 21, some 24, some 25, some 26, some 27, some 28, some 29, some 30, some 31, some 32, some 33, some 34, some 35, some 36, some 37, some 38, some 39, some 40] rfl (by kernel_rfl) (by kernel_rfl)) (fun _ a w S => ?_)
    · refine fI 25 (.slice ad1 p0.length cp2) [(0, .slice ad1 p0.length cp2)] 0 [none] rfl rfl rfl rfl rfl rfl fun G a w S => ?_
      refine sMove (.slice ad1 p0.length cp2) S (wN rfl) (.inl rfl) rfl rfl (lb rfl) fun a S => ?_
      exact leafL ⟨rfl, S⟩
    · refine fI 26 (iv s22) [(3, iv s22)] 1 [none] rfl rfl rfl rfl rfl rfl fun G a w S => ?_
      refine sMove (iv s22) S (wN rfl) (.inl rfl) rfl rfl (lb rfl) fun a S => ?_
      exact leafL ⟨rfl, S⟩
    · refine fI 27 q123 [(25, .slice ad1 p0.length cp2), (26, iv s22)] 2 [some 0, some 1] rfl rfl rfl rfl rfl rfl fun G a w S => ?_
      refine sIdxV (v := .slice ad1 p0.length cp2) (k := .i64) (j := s22) S (wN rfl) rfl rfl rfl hq124 rfl (lb rfl) fun a S => ?_
      exact leafL ⟨rfl, S⟩
    · refine fI 28 q125 [(27, q123)] 3 [some 2] rfl rfl rfl rfl rfl rfl fun G a w S => ?_
      refine sFldV (q := q123) S (wN rfl) rfl rfl hq126 rfl (lb rfl) fun a S => ?_
      exact leafL ⟨rfl, S⟩
    · refine fI 29 (iv x33.X) [(28, q125)] 4 [some 3] rfl rfl rfl rfl rfl rfl fun G a w S => ?_
      refine sLoadV1 (vq := q125) 8 (iv x33.X) S (wN rfl) rfl rfl rfl rfl rfl (lb rfl) fun a S => ?_
      exact leafL ⟨rfl, S⟩
    · refine fI 30 (.bool r40) [(29, iv x33.X)] 5 [some 4] rfl rfl rfl rfl rfl rfl fun G a w S => ?_
      have S1 := S.mem
      refine sCallQ (X := Unit) (f := 45) (vs := [iv x33.X]) (val := fun _ => .bool r40) S (wN rfl) rfl callee45 rfl (S1.quiet [] rfl) (fun E1 w1 S1 => c_raddleref37_in E1 w1 x33.X r40 hx41 S1) rfl (lb rfl) fun _ a w S => ?_
      exact leafL ⟨rfl, S⟩
    · refine fI 31 (.bool (!r40)) [(30, .bool r40)] 6 [some 5] rfl rfl rfl rfl rfl rfl fun G a w S => ?_
      refine sNot (b := r40) S (wN rfl) rfl rfl rfl (lb rfl) fun a S => ?_
      exact leafL ⟨rfl, S⟩
    · refine fI 32 (.bool (!r40)) [(31, .bool (!r40))] 7 [some 6] rfl rfl rfl rfl rfl rfl fun G a w S => ?_
      refine sMove (.bool (!r40)) S (wN rfl) (.inl rfl) rfl rfl (lb rfl) fun a S => ?_
      exact leafL ⟨rfl, S⟩
    · refine fI 33 (.slice ad1 p0.length cp2) [(0, .slice ad1 p0.length cp2), (32, .bool (!r40))] 8 [none, some 7] rfl rfl rfl rfl rfl rfl fun G a w S => ?_
      refine sMove (.slice ad1 p0.length cp2) S (wG 7 false 32 rfl rfl rfl hc42) (.inl rfl) rfl rfl (lb rfl) fun a S => ?_
      exact leafL ⟨rfl, S⟩
    · refine fI 34 (iv s22) [(3, iv s22), (32, .bool (!r40))] 9 [none, some 7] rfl rfl rfl rfl rfl rfl fun G a w S => ?_
      refine sMove (iv s22) S (wG 7 false 32 rfl rfl rfl hc42) (.inl rfl) rfl rfl (lb rfl) fun a S => ?_
      exact leafL ⟨rfl, S⟩
    · refine fI 35 q128 [(33, .slice ad1 p0.length cp2), (34, iv s22), (32, .bool (!r40))] 10 [some 8, some 9, some 7] rfl rfl rfl rfl rfl rfl fun G a w S => ?_
      refine sIdxV (v := .slice ad1 p0.length cp2) (k := .i64) (j := s22) S (wG 7 false 32 rfl rfl rfl hc42) rfl rfl rfl hq129 rfl (lb rfl) fun a S => ?_
      exact leafL ⟨rfl, S⟩
    · refine fI 36 q130 [(35, q128), (32, .bool (!r40))] 11 [some 10, some 7] rfl rfl rfl rfl rfl rfl fun G a w S => ?_
      refine sFldV (q := q128) S (wG 7 false 32 rfl rfl rfl hc42) rfl rfl hq131 rfl (lb rfl) fun a S => ?_
      exact leafL ⟨rfl, S⟩
    · refine fI 37 (iv x33.Y) [(36, q130), (32, .bool (!r40))] 12 [some 11, some 7] rfl rfl rfl rfl rfl rfl fun G a w S => ?_
      refine sLoadV1 (vq := q130) 4 (iv x33.Y) S (wG 7 false 32 rfl rfl rfl hc42) rfl rfl rfl rfl rfl (lb rfl) fun a S => ?_
      exact leafL ⟨rfl, S⟩
    · refine fI 38 (.bool (decide (x33.Y < 0))) [(37, iv x33.Y), (32, .bool (!r40))] 13 [some 12, some 7] rfl rfl rfl rfl rfl rfl fun G a w S => ?_
      refine sBin (.bool (decide (x33.Y < 0))) S (wG 7 false 32 rfl rfl rfl hc42) rfl rfl rfl (bLt _ _ _ _ .i64 x33.Y 0) rfl (lb rfl) fun a S => ?_
      exact leafL ⟨rfl, S⟩
    · refine fI 39 (.bool (decide (x33.Y < 0))) [(32, .bool (!r40)), (38, .bool (decide (x33.Y < 0)))] 14 [some 7, some 13] rfl rfl rfl rfl rfl rfl fun G a w S => ?_
      refine sPickF (.bool (decide (x33.Y < 0))) S (wN rfl) rfl rfl hc42 rfl rfl (lb rfl) fun a S => ?_
      exact leafL ⟨rfl, S⟩
    · refine fI 40 (.bool (decide (x33.Y < 0))) [(39, .bool (decide (x33.Y < 0)))] 15 [some 14] rfl rfl rfl rfl rfl rfl fun G a w S => ?_
      refine sMove (.bool (decide (x33.Y < 0))) S (wN rfl) (.inl rfl) rfl rfl (lb rfl) fun a S => ?_
      exact leafL ⟨rfl, S⟩
    · refine fI 41 (.slice ad1 p0.length cp2) [(0, .slice ad1 p0.length cp2), (40, .bool (decide (x33.Y < 0)))] 16 [none, some 15] rfl rfl rfl rfl rfl rfl fun G a w S => ?_
      refine sMove (.slice ad1 p0.length cp2) S (wG 15 false 40 rfl rfl rfl hc53) (.inl rfl) rfl rfl (lb rfl) fun a S => ?_
      exact leafL ⟨rfl, S⟩
    · refine fI 42 (iv s22) [(3, iv s22), (40, .bool (decide (x33.Y < 0)))] 17 [none, some 15] rfl rfl rfl rfl rfl rfl fun G a w S => ?_
      refine sMove (iv s22) S (wG 15 false 40 rfl rfl rfl hc53) (.inl rfl) rfl rfl (lb rfl) fun a S => ?_
      exact leafL ⟨rfl, S⟩
    · refine fI 43 q133 [(41, .slice ad1 p0.length cp2), (42, iv s22), (40, .bool (decide (x33.Y < 0)))] 18 [some 16, some 17, some 15] rfl rfl rfl rfl rfl rfl fun G a w S => ?_
      refine sIdxV (v := .slice ad1 p0.length cp2) (k := .i64) (j := s22) S (wG 15 false 40 rfl rfl rfl hc53) rfl rfl rfl hq134 rfl (lb rfl) fun a S => ?_
      exact leafL ⟨rfl, S⟩
    · refine fI 44 q135 [(43, q133), (40, .bool (decide (x33.Y < 0)))] 19 [some 18, some 15] rfl rfl rfl rfl rfl rfl fun G a w S => ?_
      refine sFldV (q := q133) S (wG 15 false 40 rfl rfl rfl hc53) rfl rfl hq136 rfl (lb rfl) fun a S => ?_
      exact leafL ⟨rfl, S⟩
    · refine fI 45 (iv x33.Y) [(44, q135), (40, .bool (decide (x33.Y < 0)))] 20 [some 19, some 15] rfl rfl rfl rfl rfl rfl fun G a w S => ?_
      refine sLoadV1 (vq := q135) 0 (iv x33.Y) S (wG 15 false 40 rfl rfl rfl hc53) rfl rfl rfl rfl rfl (lb rfl) fun a S => ?_
      exact leafL ⟨rfl, S⟩
    · refine fI 46 (.bool (decide (99 < x33.Y))) [(45, iv x33.Y), (40, .bool (decide (x33.Y < 0)))] 21 [some 20, some 15] rfl rfl rfl rfl rfl rfl fun G a w S => ?_
      refine sBin (.bool (decide (99 < x33.Y))) S (wG 15 false 40 rfl rfl rfl hc53) rfl rfl rfl (bGt _ _ _ _ .i64 x33.Y 99) rfl (lb rfl) fun a S => ?_
      exact leafL ⟨rfl, S⟩
    · refine fI 47 (.bool (decide (99 < x33.Y))) [(40, .bool (decide (x33.Y < 0))), (46, .bool (decide (99 < x33.Y)))] 22 [some 15, some 21] rfl rfl rfl rfl rfl rfl fun G a w S => ?_
      refine sPickF (.bool (decide (99 < x33.Y))) S (wN rfl) rfl rfl hc53 rfl rfl (lb rfl) fun a S => ?_
      exact leafL ⟨rfl, S⟩
    · refine fI 48 (.bool (decide (99 < x33.Y))) [(47, .bool (decide (99 < x33.Y)))] 23 [some 22] rfl rfl rfl rfl rfl rfl fun G a w S => ?_
      refine sMove (.bool (decide (99 < x33.Y))) S (wN rfl) (.inl rfl) rfl rfl (lb rfl) fun a S => ?_
      exact leafL ⟨rfl, S⟩
    · refine fI 49 (iv s22) [(3, iv s22), (48, .bool (decide (99 < x33.Y)))] 24 [none, some 23] rfl rfl rfl rfl rfl rfl fun G a w S => ?_
      refine sMove (iv s22) S (wG 23 false 48 rfl rfl rfl hc69) (.inl rfl) rfl rfl (lb rfl) fun a S => ?_
      exact leafL ⟨rfl, S⟩
    · refine fI 50 (.bool (decide (0 < s22))) [(49, iv s22), (48, .bool (decide (99 < x33.Y)))] 25 [some 24, some 23] rfl rfl rfl rfl rfl rfl fun G a w S => ?_
      refine sBin (.bool (decide (0 < s22))) S (wG 23 false 48 rfl rfl rfl hc69) rfl rfl rfl (bGt _ _ _ _ .i64 s22 0) rfl (lb rfl) fun a S => ?_
      exact leafL ⟨rfl, S⟩
    · refine fI 51 (.bool (decide (0 < s22))) [(50, .bool (decide (0 < s22))), (48, .bool (decide (99 < x33.Y)))] 26 [some 25, some 23] rfl rfl rfl rfl rfl rfl fun G a w S => ?_
      refine sMove (.bool (decide (0 < s22))) S (wG 23 false 48 rfl rfl rfl hc69) (.inl rfl) rfl rfl (lb rfl) fun a S => ?_
      exact leafL ⟨rfl, S⟩
    · refine fI 52 undef [(0, .slice ad1 p0.length cp2), (51, .bool (decide (0 < s22)))] 27 [none, some 26] rfl rfl rfl rfl rfl rfl fun G a w S => ?_
      refine sSkip 26 true 51 52 S rfl rfl rfl hc85 rfl (lb rfl) fun a S => ?_
      exact leafL ⟨rfl, S⟩
    · refine fI 53 undef [(3, iv s22), (51, .bool (decide (0 < s22)))] 28 [none, some 26] rfl rfl rfl rfl rfl rfl fun G a w S => ?_
      refine sSkip 26 true 51 53 S rfl rfl rfl hc85 rfl (lb rfl) fun a S => ?_
      exact leafL ⟨rfl, S⟩
    · refine fI 54 undef [(52, undef), (53, undef), (51, .bool (decide (0 < s22)))] 29 [some 27, some 28, some 26] rfl rfl rfl rfl rfl rfl fun G a w S => ?_
      refine sSkip 26 true 51 54 S rfl rfl rfl hc85 rfl (lb rfl) fun a S => ?_
      exact leafL ⟨rfl, S⟩
    · refine fI 55 undef [(54, undef), (51, .bool (decide (0 < s22)))] 30 [some 29, some 26] rfl rfl rfl rfl rfl rfl fun G a w S => ?_
      refine sSkip 26 true 51 55 S rfl rfl rfl hc85 rfl (lb rfl) fun a S => ?_
      exact leafL ⟨rfl, S⟩
    · refine fI 56 undef [(55, undef), (51, .bool (decide (0 < s22)))] 31 [some 30, some 26] rfl rfl rfl rfl rfl rfl fun G a w S => ?_
      refine sSkip 26 true 51 56 S rfl rfl rfl hc85 rfl (lb rfl) fun a S => ?_
      exact leafL ⟨rfl, S⟩
    · refine fI 57 undef [(0, .slice ad1 p0.length cp2), (51, .bool (decide (0 < s22)))] 32 [none, some 26] rfl rfl rfl rfl rfl rfl fun G a w S => ?_
      refine sSkip 26 true 51 57 S rfl rfl rfl hc85 rfl (lb rfl) fun a S => ?_
      exact leafL ⟨rfl, S⟩
    · refine fI 58 undef [(3, iv s22), (51, .bool (decide (0 < s22)))] 33 [none, some 26] rfl rfl rfl rfl rfl rfl fun G a w S => ?_
      refine sSkip 26 true 51 58 S rfl rfl rfl hc85 rfl (lb rfl) fun a S => ?_
      exact leafL ⟨rfl, S⟩
    · refine fI 59 undef [(58, undef), (51, .bool (decide (0 < s22)))] 34 [some 33, some 26] rfl rfl rfl rfl rfl rfl fun G a w S => ?_
      refine sSkip 26 true 51 59 S rfl rfl rfl hc85 rfl (lb rfl) fun a S => ?_
      exact leafL ⟨rfl, S⟩
    · refine fI 60 undef [(57, undef), (59, undef), (51, .bool (decide (0 < s22)))] 35 [some 32, some 34, some 26] rfl rfl rfl rfl rfl rfl fun G a w S => ?_
      refine sSkip 26 true 51 60 S rfl rfl rfl hc85 rfl (lb rfl) fun a S => ?_
      exact leafL ⟨rfl, S⟩
    · refine fI 61 undef [(60, undef), (51, .bool (decide (0 < s22)))] 36 [some 35, some 26] rfl rfl rfl rfl rfl rfl fun G a w S => ?_
      refine sSkip 26 true 51 61 S rfl rfl rfl hc85 rfl (lb rfl) fun a S => ?_
      exact leafL ⟨rfl, S⟩
    · refine fI 62 undef [(61, undef), (51, .bool (decide (0 < s22)))] 37 [some 36, some 26] rfl rfl rfl rfl rfl rfl fun G a w S => ?_
      refine sSkip 26 true 51 62 S rfl rfl rfl hc85 rfl (lb rfl) fun a S => ?_
      exact leafL ⟨rfl, S⟩
    · refine fI 63 undef [(56, undef), (62, undef), (51, .bool (decide (0 < s22)))] 38 [some 31, some 37, some 26] rfl rfl rfl rfl rfl rfl fun G a w S => ?_
      refine sSkip 26 true 51 63 S rfl rfl rfl hc85 rfl (lb rfl) fun a S => ?_
      exact leafL ⟨rfl, S⟩
    · refine fI 64 (.bool false) [(51, .bool (decide (0 < s22))), (63, undef), (48, .bool (decide (99 < x33.Y)))] 39 [some 26, some 38, some 23] rfl rfl rfl rfl rfl rfl fun G a w S => ?_
      refine sPickF (.bool false) S (wG 23 false 48 rfl rfl rfl hc69) rfl rfl hc85 rfl rfl (lb rfl) fun a S => ?_
      exact leafL ⟨rfl, S⟩
    · refine fI 65 (.bool false) [(48, .bool (decide (99 < x33.Y))), (64, .bool false)] 40 [some 23, some 39] rfl rfl rfl rfl rfl rfl fun G a w S => ?_
      refine sPickF (.bool false) S (wN rfl) rfl rfl hc69 rfl rfl (lb rfl) fun a S => ?_
      exact leafL ⟨rfl, S⟩
    exact leafT (⟨false, Option.some.inj h, S.fix [] [12] (by decide) rfl rfl rfl⟩)
  obtain ⟨x91, hx92, h⟩ := bindSome h
  obtain ⟨q98, hq99, S⟩ := pIdx (P := Tryd.prog) (r := r_api_Point) (v := .slice ad1 p0.length cp2) (xs := p0) (j := s22) 22 35 0 S Tryd.underlying22 rfl rfl hx34
  obtain ⟨q100, hq101, S⟩ := pFld (P := Tryd.prog) (r := r_api_Point) (s2 := (rI .i64)) (g := (·.X)) (q := q98) (z := x33) 35 0 0 0 S rfl rfl comp_api_Point_X
  obtain ⟨u102, S⟩ := pLoad (r := (rI .i64)) (q := q100) (x := x33.X) 0 S rfl
  obtain rfl : u102 = iv x33.X := S.mem.know (i := 1) (e := fRep (rI .i64) (u102) x33.X) rfl
  obtain ⟨q103, hq104, S⟩ := pIdx (P := Tryd.prog) (r := r_api_Point) (v := .slice ad1 p0.length cp2) (xs := p0) (j := s22) 22 35 4 S Tryd.underlying22 rfl rfl hx34
  obtain ⟨q105, hq106, S⟩ := pFld (P := Tryd.prog) (r := r_api_Point) (s2 := (rI .i64)) (g := (·.Y)) (q := q103) (z := x33) 35 1 0 1 S rfl rfl comp_api_Point_Y
  obtain ⟨u107, S⟩ := pLoad (r := (rI .i64)) (q := q105) (x := x33.Y) 0 S rfl
  obtain rfl : u107 = iv x33.Y := S.mem.know (i := 1) (e := fRep (rI .i64) (u107) x33.Y) rfl
  obtain ⟨q108, hq109, S⟩ := pIdx (P := Tryd.prog) (r := r_api_Point) (v := .slice ad1 p0.length cp2) (xs := p0) (j := s22) 22 35 8 S Tryd.underlying22 rfl rfl hx34
  obtain ⟨q110, hq111, S⟩ := pFld (P := Tryd.prog) (r := r_api_Point) (s2 := (rI .i64)) (g := (·.Y)) (q := q108) (z := x33) 35 1 0 1 S rfl rfl comp_api_Point_Y
  obtain ⟨u112, S⟩ := pLoad (r := (rI .i64)) (q := q110) (x := x33.Y) 0 S rfl
  obtain rfl : u112 = iv x33.Y := S.mem.know (i := 1) (e := fRep (rI .i64) (u112) x33.Y) rfl
  obtain ⟨q113, hq114, S⟩ := pIdx (P := Tryd.prog) (r := r_api_Point) (v := .slice ad1 p0.length cp2) (xs := p0) (j := s22) 22 35 12 S Tryd.underlying22 rfl rfl hx34
  obtain ⟨q115, hq116, S⟩ := pFld (P := Tryd.prog) (r := r_api_Point) (s2 := (rI .i64)) (g := (·.Y)) (q := q113) (z := x33) 35 1 0 1 S rfl rfl comp_api_Point_Y
  obtain ⟨u117, S⟩ := pLoad (r := (rI .i64)) (q := q115) (x := x33.Y) 0 S rfl
  obtain rfl : u117 = iv x33.Y := S.mem.know (i := 1) (e := fRep (rI .i64) (u117) x33.Y) rfl
  obtain ⟨q118, hq119, S⟩ := pIdx (P := Tryd.prog) (r := r_api_Point) (v := .slice ad1 p0.length cp2) (xs := p0) (j := w64 (s22 - 1)) 22 35 16 S Tryd.underlying22 rfl rfl hx92
  obtain ⟨q120, hq121, S⟩ := pFld (P := Tryd.prog) (r := r_api_Point) (s2 := (rI .i64)) (g := (·.Y)) (q := q118) (z := x91) 35 1 0 1 S rfl rfl comp_api_Point_Y
  obtain ⟨u122, S⟩ := pLoad (r := (rI .i64)) (q := q120) (x := x91.Y) 0 S rfl
  obtain rfl : u122 = iv x91.Y := S.mem.know (i := 1) (e := fRep (rI .i64) (u122) x91.Y) rfl
  refine sDraw (nf := []) (W := [(0, 25, .slice ad1 p0.length cp2), (1, 26, iv s22), (2, 27, q98), (3, 28, q100), (4, 29, iv x33.X), (5, 30, .bool r40), (6, 31, .bool (!r40)), (7, 32, .bool (!r40)), (8, 33, .slice ad1 p0.length cp2), (9, 34, iv s22), (10, 35, q103), (11, 36, q105), (12, 37, iv x33.Y), (13, 38, .bool (decide (x33.Y < 0))), (14, 39, .bool (decide (x33.Y < 0))), (15, 40, .bool (decide (x33.Y < 0))), (16, 41, .slice ad1 p0.length cp2), (17, 42, iv s22), (18, 43, q108), (19, 44, q110), (20, 45, iv x33.Y), (21, 46, .bool (decide (99 < x33.Y))), (22, 47, .bool (decide (99 < x33.Y))), (23, 48, .bool (decide (99 < x33.Y))), (24, 49, iv s22), (25, 50, .bool (decide (0 < s22))), (26, 51, .bool (decide (0 < s22))), (27, 52, .slice ad1 p0.length cp2), (28, 53, iv s22), (29, 54, q113), (30, 55, q115), (31, 56, iv x33.Y), (32, 57, .slice ad1 p0.length cp2), (33, 58, iv s22), (34, 59, iv (w64 (s22 - 1))), (35, 60, q118), (36, 61, q120), (37, 62, iv x91.Y), (38, 63, .bool (decide (x33.Y ≤ x91.Y))), (39, 64, .bool (decide (x33.Y ≤ x91.Y))), (40, 65, .bool (decide (x33.Y ≤ x91.Y)))]) rfl S ?_
  refine node_by (A := anc_raddleref37_side_0) (nf := []) (Y := []) (W := [(0, 25, .slice ad1 p0.length cp2), (1, 26, iv s22), (2, 27, q98), (3, 28, q100), (4, 29, iv x33.X), (5, 30, .bool r40), (6, 31, .bool (!r40)), (7, 32, .bool (!r40)), (8, 33, .slice ad1 p0.length cp2), (9, 34, iv s22), (10, 35, q103), (11, 36, q105), (12, 37, iv x33.Y), (13, 38, .bool (decide (x33.Y < 0))), (14, 39, .bool (decide (x33.Y < 0))), (15, 40, .bool (decide (x33.Y < 0))), (16, 41, .slice ad1 p0.length cp2), (17, 42, iv s22), (18, 43, q108), (19, 44, q110), (20, 45, iv x33.Y), (21, 46, .bool (decide (99 < x33.Y))), (22, 47, .bool (decide (99 < x33.Y))), (23, 48, .bool (decide (99 < x33.Y))), (24, 49, iv s22), (25, 50, .bool (decide (0 < s22))), (26, 51, .bool (decide (0 < s22))), (27, 52, .slice ad1 p0.length cp2), (28, 53, iv s22), (29, 54, q113), (30, 55, q115), (31, 56, iv x33.Y), (32, 57, .slice ad1 p0.length cp2), (33, 58, iv s22), (34, 59, iv (w64 (s22 - 1))), (35, 60, q118), (36, 61, q120), (37, 62, iv x91.Y), (38, 63, .bool (decide (x33.Y ≤ x91.Y))), (39, 64, .bool (decide (x33.Y ≤ x91.Y))), (40, 65, .bool (decide (x33.Y ≤ x91.Y)))]) 41 (by kernel_rfl) (by kernel_rfl) (by kernel_rfl) (by kernel_rfl) (by kernel_rfl) [0, 1, 2, 3, 4, 5, 6, 7, 8, 9, 10, 11, 12, 13, 14, 15, 16, 17, 18, 19, 20, 21, 22, 23, 24, 25, 26, 27, 28, 29, 30, 31, 32, 33, 34, 35, 36, 37, 38, 39, 40] (by kernel_rfl) (by decide) (by decide) (aF 0 40 (by decide) ?_ (aF 1 39 (by decide) ?_ (aF 2 38 (by decide) ?_ (aF 3 37 (by decide) ?_ (aF 4 36 (by decide) ?_ (aF 5 35 (by decide) ?_ (aF 6 34 (by decide) ?_ (aF 7 33 (by decide) ?_ (aF 8 32 (by decide) ?_ (aF 9 31 (by decide) ?_ (aF 10 30 (by decide) ?_ (aF 11 29 (by decide) ?_ (aF 12 28 (by decide) ?_ (aF 13 27 (by decide) ?_ (aF 14 26 (by decide) ?_ (aF 15 25 (by decide) ?_ (aF 16 24 (by decide) ?_ (aF 17 23 (by decide) ?_ (aF 18 22 (by decide) ?_ (aF 19 21 (by decide) ?_ (aF 20 20 (by decide) ?_ (aF 21 19 (by decide) ?_ (aF 22 18 (by decide) ?_ (aF 23 17 (by decide) ?_ (aF 24 16 (by decide) ?_ (aF 25 15 (by decide) ?_ (aF 26 14 (by decide) ?_ (aF 27 13 (by decide) ?_ (aF 28 12 (by decide) ?_ (aF 29 11 (by decide) ?_ (aF 30 10 (by decide) ?_ (aF 31 9 (by decide) ?_ (aF 32 8 (by decide) ?_ (aF 33 7 (by decide) ?_ (aF 34 6 (by decide) ?_ (aF 35 5 (by decide) ?_ (aF 36 4 (by decide) ?_ (aF 37 3 (by decide) ?_ (aF 38 2 (by decide) ?_ (aF 39 1 (by decide) ?_ (aF 40 0 (by decide) ?_ (trivial)))))))))))))))))))))))))))))))))))))))))) [(0, .slice ad1 p0.length cp2), (3, iv s22), (33, .slice ad1 p0.length cp2), (34, iv s22), (35, q103), (36, q105), (37, iv x33.Y), (38, .bool (decide (x33.Y < 0))), (41, .slice ad1 p0.length cp2), (42, iv s22), (43, q108), (44, q110), (45, iv x33.Y), (46, .bool (decide (99 < x33.Y))), (49, iv s22), (50, .bool (decide (0 < s22))), (51, .bool (decide (0 < s22))), (52, .slice ad1 p0.length cp2), (53, iv s22), (54, q113), (55, q115), (56, iv x33.Y), (57, .slice ad1 p0.length cp2), (58, iv s22), (59, iv (w64 (s22 - 1))), (60, q118), (61, q120), (62, iv x91.Y), (63, .bool (decide (x33.Y ≤ x91.Y))), (64, .bool (decide (x33.Y ≤ x91.Y))), (65, .bool (decide (x33.Y ≤ x91.Y)))] (fin_of [none, none, some 8, some 9, some 10, some 11, some 12, some 13, some 16, some 17, some 18, some 19, some 20, some 21, some 24, some 25, some 26, some 27, some 28, some 29, some 30, some 31, some 32, some 33, some 34, some 35, some 36, some 37, some 38, some 39, some 40] rfl (by kernel_rfl) (by kernel_rfl)) (fun _ a w S => ?_)
  · refine fI 25 (.slice ad1 p0.length cp2) [(0, .slice ad1 p0.length cp2)] 0 [none] rfl rfl rfl rfl rfl rfl fun G a w S => ?_
    refine sMove (.slice ad1 p0.length cp2) S (wN rfl) (.inl rfl) rfl rfl (lb rfl) fun a S => ?_
    exact leafL ⟨rfl, S⟩
  · refine fI 26 (iv s22) [(3, iv s22)] 1 [none] rfl rfl rfl rfl rfl rfl fun G a w S => ?_
    refine sMove (iv s22) S (wN rfl) (.inl rfl) rfl rfl (lb rfl) fun a S => ?_
    exact leafL ⟨rfl, S⟩
  · refine fI 27 q98 [(25, .slice ad1 p0.length cp2), (26, iv s22)] 2 [some 0, some 1] rfl rfl rfl rfl rfl rfl fun G a w S => ?_
    refine sIdxV (v := .slice ad1 p0.length cp2) (k := .i64) (j := s22) S (wN rfl) rfl rfl rfl hq99 rfl (lb rfl) fun a S => ?_
    exact leafL ⟨rfl, S⟩
  · refine fI 28 q100 [(27, q98)] 3 [some 2] rfl rfl rfl rfl rfl rfl fun G a w S => ?_
    refine sFldV (q := q98) S (wN rfl) rfl rfl hq101 rfl (lb rfl) fun a S => ?_
    exact leafL ⟨rfl, S⟩
  · refine fI 29 (iv x33.X) [(28, q100)] 4 [some 3] rfl rfl rfl rfl rfl rfl fun G a w S => ?_
    refine sLoadV1 (vq := q100) 16 (iv x33.X) S (wN rfl) rfl rfl rfl rfl rfl (lb rfl) fun a S => ?_
    exact leafL ⟨rfl, S⟩
  · refine fI 30 (.bool r40) [(29, iv x33.X)] 5 [some 4] rfl rfl rfl rfl rfl rfl fun G a w S => ?_
    have S1 := S.mem
    refine sCallQ (X := Unit) (f := 45) (vs := [iv x33.X]) (val := fun _ => .bool r40) S (wN rfl) rfl callee45 rfl (S1.quiet [] rfl) (fun E1 w1 S1 => c_raddleref37_in E1 w1 x33.X r40 hx41 S1) rfl (lb rfl) fun _ a w S => ?_
    exact leafL ⟨rfl, S⟩
  · refine fI 31 (.bool (!r40)) [(30, .bool r40)] 6 [some 5] rfl rfl rfl rfl rfl rfl fun G a w S => ?_
    refine sNot (b := r40) S (wN rfl) rfl rfl rfl (lb rfl) fun a S => ?_
    exact leafL ⟨rfl, S⟩
  · refine fI 32 (.bool (!r40)) [(31, .bool (!r40))] 7 [some 6] rfl rfl rfl rfl rfl rfl fun G a w S => ?_
    refine sMove (.bool (!r40)) S (wN rfl) (.inl rfl) rfl rfl (lb rfl) fun a S => ?_
    exact leafL ⟨rfl, S⟩
  · refine fI 33 (.slice ad1 p0.length cp2) [(0, .slice ad1 p0.length cp2), (32, .bool (!r40))] 8 [none, some 7] rfl rfl rfl rfl rfl rfl fun G a w S => ?_
    refine sMove (.slice ad1 p0.length cp2) S (wG 7 false 32 rfl rfl rfl hc42) (.inl rfl) rfl rfl (lb rfl) fun a S => ?_
    exact leafL ⟨rfl, S⟩
  · refine fI 34 (iv s22) [(3, iv s22), (32, .bool (!r40))] 9 [none, some 7] rfl rfl rfl rfl rfl rfl fun G a w S => ?_
    refine sMove (iv s22) S (wG 7 false 32 rfl rfl rfl hc42) (.inl rfl) rfl rfl (lb rfl) fun a S => ?_
    exact leafL ⟨rfl, S⟩
  · refine fI 35 q103 [(33, .slice ad1 p0.length cp2), (34, iv s22), (32, .bool (!r40))] 10 [some 8, some 9, some 7] rfl rfl rfl rfl rfl rfl fun G a w S => ?_
    refine sIdxV (v := .slice ad1 p0.length cp2) (k := .i64) (j := s22) S (wG 7 false 32 rfl rfl rfl hc42) rfl rfl rfl hq104 rfl (lb rfl) fun a S => ?_
    exact leafL ⟨rfl, S⟩
  · refine fI 36 q105 [(35, q103), (32, .bool (!r40))] 11 [some 10, some 7] rfl rfl rfl rfl rfl rfl fun G a w S => ?_
    refine sFldV (q := q103) S (wG 7 false 32 rfl rfl rfl hc42) rfl rfl hq106 rfl (lb rfl) fun a S => ?_
    exact leafL ⟨rfl, S⟩
  · refine fI 37 (iv x33.Y) [(36, q105), (32, .bool (!r40))] 12 [some 11, some 7] rfl rfl rfl rfl rfl rfl fun G a w S => ?_
    refine sLoadV1 (vq := q105) 12 (iv x33.Y) S (wG 7 false 32 rfl rfl rfl hc42) rfl rfl rfl rfl rfl (lb rfl) fun a S => ?_
    exact leafL ⟨rfl, S⟩
  · refine fI 38 (.bool (decide (x33.Y < 0))) [(37, iv x33.Y), (32, .bool (!r40))] 13 [some 12, some 7] rfl rfl rfl rfl rfl rfl fun G a w S => ?_
    refine sBin (.bool (decide (x33.Y < 0))) S (wG 7 false 32 rfl rfl rfl hc42) rfl rfl rfl (bLt _ _ _ _ .i64 x33.Y 0) rfl (lb rfl) fun a S => ?_
    exact leafL ⟨rfl, S⟩
  · refine fI 39 (.bool (decide (x33.Y < 0))) [(32, .bool (!r40)), (38, .bool (decide (x33.Y < 0)))] 14 [some 7, some 13] rfl rfl rfl rfl rfl rfl fun G a w S => ?_
    refine sPickF (.bool (decide (x33.Y < 0))) S (wN rfl) rfl rfl hc42 rfl rfl (lb rfl) fun a S => ?_
    exact leafL ⟨rfl, S⟩
  · refine fI 40 (.bool (decide (x33.Y < 0))) [(39, .bool (decide (x33.Y < 0)))] 15 [some 14] rfl rfl rfl rfl rfl rfl fun G a w S => ?_
    refine sMove (.bool (decide (x33.Y < 0))) S (wN rfl) (.inl rfl) rfl rfl (lb rfl) fun a S => ?_
    exact leafL ⟨rfl, S⟩
  · refine fI 41 (.slice ad1 p0.length cp2) [(0, .slice ad1 p0.length cp2), (40, .bool (decide (x33.Y < 0)))] 16 [none, some 15] rfl rfl rfl rfl rfl rfl fun G a w S => ?_
    refine sMove (.slice ad1 p0.length cp2) S (wG 15 false 40 rfl rfl rfl hc53) (.inl rfl) rfl rfl (lb rfl) fun a S => ?_
    exact leafL ⟨rfl, S⟩
  · refine fI 42 (iv s22) [(3, iv s22), (40, .bool (decide (x33.Y < 0)))] 17 [none, some 15] rfl rfl rfl rfl rfl rfl fun G a w S => ?_
    refine sMove (iv s22) S (wG 15 false 40 rfl rfl rfl hc53) (.inl rfl) rfl rfl (lb rfl) fun a S => ?_
    exact leafL ⟨rfl, S⟩
  · refine fI 43 q108 [(41, .slice ad1 p0.length cp2), (42, iv s22), (40, .bool (decide (x33.Y < 0)))] 18 [some 16, some 17, some 15] rfl rfl rfl rfl rfl rfl fun G a w S => ?_
    refine sIdxV (v := .slice ad1 p0.length cp2) (k := .i64) (j := s22) S (wG 15 false 40 rfl rfl rfl hc53) rfl rfl rfl hq109 rfl (lb rfl) fun a S => ?_
    exact leafL ⟨rfl, S⟩
  · refine fI 44 q110 [(43, q108), (40, .bool (decide (x33.Y < 0)))] 19 [some 18, some 15] rfl rfl rfl rfl rfl rfl fun G a w S => ?_
    refine sFldV (q := q108) S (wG 15 false 40 rfl rfl rfl hc53) rfl rfl hq111 rfl (lb rfl) fun a S => ?_
    exact leafL ⟨rfl, S⟩
  · refine fI 45 (iv x33.Y) [(44, q110), (40, .bool (decide (x33.Y < 0)))] 20 [some 19, some 15] rfl rfl rfl rfl rfl rfl fun G a w S => ?_
    refine sLoadV1 (vq := q110) 8 (iv x33.Y) S (wG 15 false 40 rfl rfl rfl hc53) rfl rfl rfl rfl rfl (lb rfl) fun a S => ?_
    exact leafL ⟨rfl, S⟩
  · refine fI 46 (.bool (decide (99 < x33.Y))) [(45, iv x33.Y), (40, .bool (decide (x33.Y < 0)))] 21 [some 20, some 15] rfl rfl rfl rfl rfl rfl fun G a w S => ?_
    refine sBin (.bool (decide (99 < x33.Y))) S (wG 15 false 40 rfl rfl rfl hc53) rfl rfl rfl (bGt _ _ _ _ .i64 x33.Y 99) rfl (lb rfl) fun a S => ?_
    exact leafL ⟨rfl, S⟩
  · refine fI 47 (.bool (decide (99 < x33.Y))) [(40, .bool (decide (x33.Y < 0))), (46, .bool (decide (99 < x33.Y)))] 22 [some 15, some 21] rfl rfl rfl rfl rfl rfl fun G a w S => ?_
    refine sPickF (.bool (decide (99 < x33.Y))) S (wN rfl) rfl rfl hc53 rfl rfl (lb rfl) fun a S => ?_
    exact leafL ⟨rfl, S⟩
  · refine fI 48 (.bool (decide (99 < x33.Y))) [(47, .bool (decide (99 < x33.Y)))] 23 [some 22] rfl rfl rfl rfl rfl rfl fun G a w S => ?_
    refine sMove (.bool (decide (99 < x33.Y))) S (wN rfl) (.inl rfl) rfl rfl (lb rfl) fun a S => ?_
    exact leafL ⟨rfl, S⟩
  · refine fI 49 (iv s22) [(3, iv s22), (48, .bool (decide (99 < x33.Y)))] 24 [none, some 23] rfl rfl rfl rfl rfl rfl fun G a w S => ?_
    refine sMove (iv s22) S (wG 23 false 48 rfl rfl rfl hc69) (.inl rfl) rfl rfl (lb rfl) fun a S => ?_
    exact leafL ⟨rfl, S⟩
  · refine fI 50 (.bool (decide (0 < s22))) [(49, iv s22), (48, .bool (decide (99 < x33.Y)))] 25 [some 24, some 23] rfl rfl rfl rfl rfl rfl fun G a w S => ?_
    refine sBin (.bool (decide (0 < s22))) S (wG 23 false 48 rfl rfl rfl hc69) rfl rfl rfl (bGt _ _ _ _ .i64 s22 0) rfl (lb rfl) fun a S => ?_
    exact leafL ⟨rfl, S⟩
  · refine fI 51 (.bool (decide (0 < s22))) [(50, .bool (decide (0 < s22))), (48, .bool (decide (99 < x33.Y)))] 26 [some 25, some 23] rfl rfl rfl rfl rfl rfl fun G a w S => ?_
    refine sMove (.bool (decide (0 < s22))) S (wG 23 false 48 rfl rfl rfl hc69) (.inl rfl) rfl rfl (lb rfl) fun a S => ?_
    exact leafL ⟨rfl, S⟩
  · refine fI 52 (.slice ad1 p0.length cp2) [(0, .slice ad1 p0.length cp2), (51, .bool (decide (0 < s22)))] 27 [none, some 26] rfl rfl rfl rfl rfl rfl fun G a w S => ?_
    refine sMove (.slice ad1 p0.length cp2) S (wG 26 true 51 rfl rfl rfl hc85) (.inl rfl) rfl rfl (lb rfl) fun a S => ?_
    exact leafL ⟨rfl, S⟩
  · refine fI 53 (iv s22) [(3, iv s22), (51, .bool (decide (0 < s22)))] 28 [none, some 26] rfl rfl rfl rfl rfl rfl fun G a w S => ?_
    refine sMove (iv s22) S (wG 26 true 51 rfl rfl rfl hc85) (.inl rfl) rfl rfl (lb rfl) fun a S => ?_
    exact leafL ⟨rfl, S⟩
  · refine fI 54 q113 [(52, .slice ad1 p0.length cp2), (53, iv s22), (51, .bool (decide (0 < s22)))] 29 [some 27, some 28, some 26] rfl rfl rfl rfl rfl rfl fun G a w S => ?_
    refine sIdxV (v := .slice ad1 p0.length cp2) (k := .i64) (j := s22) S (wG 26 true 51 rfl rfl rfl hc85) rfl rfl rfl hq114 rfl (lb rfl) fun a S => ?_
    exact leafL ⟨rfl, S⟩
  · refine fI 55 q115 [(54, q113), (51, .bool (decide (0 < s22)))] 30 [some 29, some 26] rfl rfl rfl rfl rfl rfl fun G a w S => ?_
    refine sFldV (q := q113) S (wG 26 true 51 rfl rfl rfl hc85) rfl rfl hq116 rfl (lb rfl) fun a S => ?_
    exact leafL ⟨rfl, S⟩
  · refine fI 56 (iv x33.Y) [(55, q115), (51, .bool (decide (0 < s22)))] 31 [some 30, some 26] rfl rfl rfl rfl rfl rfl fun G a w S => ?_
    refine sLoadV1 (vq := q115) 4 (iv x33.Y) S (wG 26 true 51 rfl rfl rfl hc85) rfl rfl rfl rfl rfl (lb rfl) fun a S => ?_
    exact leafL ⟨rfl, S⟩
  · refine fI 57 (.slice ad1 p0.length cp2) [(0, .slice ad1 p0.length cp2), (51, .bool (decide (0 < s22)))] 32 [none, some 26] rfl rfl rfl rfl rfl rfl fun G a w S => ?_
    refine sMove (.slice ad1 p0.length cp2) S (wG 26 true 51 rfl rfl rfl hc85) (.inl rfl) rfl rfl (lb rfl) fun a S => ?_
    exact leafL ⟨rfl, S⟩
  · refine fI 58 (iv s22) [(3, iv s22), (51, .bool (decide (0 < s22)))] 33 [none, some 26] rfl rfl rfl rfl rfl rfl fun G a w S => ?_
    refine sMove (iv s22) S (wG 26 true 51 rfl rfl rfl hc85) (.inl rfl) rfl rfl (lb rfl) fun a S => ?_
    exact leafL ⟨rfl, S⟩
  · refine fI 59 (iv (w64 (s22 - 1))) [(58, iv s22), (51, .bool (decide (0 < s22)))] 34 [some 33, some 26] rfl rfl rfl rfl rfl rfl fun G a w S => ?_
    refine sBin (iv (w64 (s22 - 1))) S (wG 26 true 51 rfl rfl rfl hc85) rfl rfl rfl (bSub _ _ _ _ s22 1) rfl (lb rfl) fun a S => ?_
    exact leafL ⟨rfl, S⟩
  · refine fI 60 q118 [(57, .slice ad1 p0.length cp2), (59, iv (w64 (s22 - 1))), (51, .bool (decide (0 < s22)))] 35 [some 32, some 34, some 26] rfl rfl rfl rfl rfl rfl fun G a w S => ?_
    refine sIdxV (v := .slice ad1 p0.length cp2) (k := .i64) (j := w64 (s22 - 1)) S (wG 26 true 51 rfl rfl rfl hc85) rfl rfl rfl hq119 rfl (lb rfl) fun a S => ?_
    exact leafL ⟨rfl, S⟩
  · refine fI 61 q120 [(60, q118), (51, .bool (decide (0 < s22)))] 36 [some 35, some 26] rfl rfl rfl rfl rfl rfl fun G a w S => ?_
    refine sFldV (q := q118) S (wG 26 true 51 rfl rfl rfl hc85) rfl rfl hq121 rfl (lb rfl) fun a S => ?_
    exact leafL ⟨rfl, S⟩
  · refine fI 62 (iv x91.Y) [(61, q120), (51, .bool (decide (0 < s22)))] 37 [some 36, some 26] rfl rfl rfl rfl rfl rfl fun G a w S => ?_
    refine sLoadV1 (vq := q120) 0 (iv x91.Y) S (wG 26 true 51 rfl rfl rfl hc85) rfl rfl rfl rfl rfl (lb rfl) fun a S => ?_
    exact leafL ⟨rfl, S⟩
  · refine fI 63 (.bool (decide (x33.Y ≤ x91.Y))) [(56, iv x33.Y), (62, iv x91.Y), (51, .bool (decide (0 < s22)))] 38 [some 31, some 37, some 26] rfl rfl rfl rfl rfl rfl fun G a w S => ?_
    refine sBin (.bool (decide (x33.Y ≤ x91.Y))) S (wG 26 true 51 rfl rfl rfl hc85) rfl rfl rfl (bLe _ _ _ _ .i64 x33.Y x91.Y) rfl (lb rfl) fun a S => ?_
    exact leafL ⟨rfl, S⟩
  · refine fI 64 (.bool (decide (x33.Y ≤ x91.Y))) [(51, .bool (decide (0 < s22))), (63, .bool (decide (x33.Y ≤ x91.Y))), (48, .bool (decide (99 < x33.Y)))] 39 [some 26, some 38, some 23] rfl rfl rfl rfl rfl rfl fun G a w S => ?_
    refine sPickT (.bool (decide (x33.Y ≤ x91.Y))) S (wG 23 false 48 rfl rfl rfl hc69) rfl rfl hc85 rfl rfl (lb rfl) fun a S => ?_
    exact leafL ⟨rfl, S⟩
  · refine fI 65 (.bool (decide (x33.Y ≤ x91.Y))) [(48, .bool (decide (99 < x33.Y))), (64, .bool (decide (x33.Y ≤ x91.Y)))] 40 [some 23, some 39] rfl rfl rfl rfl rfl rfl fun G a w S => ?_
    refine sPickF (.bool (decide (x33.Y ≤ x91.Y))) S (wN rfl) rfl rfl hc69 rfl rfl (lb rfl) fun a S => ?_
    exact leafL ⟨rfl, S⟩
  exact leafT (⟨decide (x33.Y ≤ x91.Y), Option.some.inj h, S.fix [] [20] (by decide) rfl rfl rfl⟩)

end Go.Proofs.YtmedbnjhgkcndaaDoor
namespace Go.Proofs.YtmedbnjhgkcndaaDoor
open Go.RowKit
set_option linter.unusedVariables false

def anc_raddleref37_Shape_0 : List (List Nat) := [[], [0], [0, 1], [0, 1, 2], [0, 1, 2, 3], [0, 1, 2, 3, 4], [0, 1, 2, 3, 4, 5], [0, 1, 2, 3, 4, 5, 6], [0, 1, 2, 3, 4, 5, 6, 7], [0, 1, 2, 3, 4, 5, 6, 7, 8], [0, 1, 2, 3, 4, 5, 6, 7, 8, 9], [0, 1, 2, 3, 4, 5, 6, 7, 8, 9, 10], [0, 1, 2, 3, 4, 5, 6, 7, 8, 9, 10, 11], [0, 1, 2, 3, 4, 5, 6, 7, 8, 9, 10], [0, 1, 2, 3, 4, 5, 6, 7, 8, 9, 10, 13], [0, 1, 2, 3, 4, 5, 6, 7, 8, 9, 10, 13, 14], [0, 1, 2, 3, 4, 5, 6, 7, 8, 9, 10, 13, 14, 15], [0, 1, 2, 3, 4, 5, 6, 7, 8, 9, 10, 11, 12, 13, 14, 15, 16], [0, 1, 2, 3, 4, 5, 6, 7, 8, 9, 10, 11, 12, 13, 14, 15, 16, 17], [0, 1, 2, 3, 4, 5, 6, 7, 8, 9, 10, 11, 12, 13, 14, 15, 16, 17, 18], [0, 1, 2, 3, 4, 5, 6, 7, 8, 9, 10], [0, 1, 2, 3, 4, 5, 6, 7, 8, 9, 10, 20], [0, 1, 2, 3, 4, 5, 6, 7, 8, 9, 10], [0, 1, 2, 3, 4, 5, 6, 7, 8, 9, 10, 22], [0, 1, 2, 3, 4, 5, 6, 7, 8, 9, 10, 22, 23], [0, 1, 2, 3, 4, 5, 6, 7, 8, 9, 10, 22, 23, 24], [0, 1, 2, 3, 4, 5, 6, 7, 8, 9, 10, 20, 21, 22, 23, 24, 25], [0, 1, 2, 3, 4, 5, 6, 7, 8, 9, 10, 20, 21, 22, 23, 24, 25, 26], [0, 1, 2, 3, 4, 5, 6, 7, 8, 9, 10, 20, 21, 22, 23, 24, 25, 26, 27], [0, 1, 2, 3, 4, 5, 6, 7, 8, 9, 10, 11, 12, 13, 14, 15, 16, 17, 18, 19, 20, 21, 22, 23, 24, 25, 26, 27, 28], [0, 1, 2, 3, 4, 5, 6, 7, 8, 9, 10, 11, 12, 13, 14, 15, 16, 17, 18, 19, 20, 21, 22, 23, 24, 25, 26, 27, 28, 29]]
noncomputable def F_raddleref37_Shape (p0 : api_Shape) : Option Int :=
  Option.bind (α := Bool) (
    Option.bind (F_raddleref37_side p0.Left) fun r15 =>
    if !r15 then
      some true
    else
      Option.bind (F_raddleref37_side p0.Right) fun r18 =>
      if !r18 then
        some true
      else
        Option.bind (idxO p0.Left (w64 ((p0.Left.length : Int) - 1))) fun x21 =>
        Option.bind (idxO p0.Right (w64 ((p0.Right.length : Int) - 1))) fun x28 =>
        some (x21.Y != x28.Y)) fun o12 =>
  if o12 then
    some 8
  else
    some 0
set_option maxHeartbeats 4000000 in
set_option maxRecDepth 100000 in
theorem c_raddleref37_Shape (E : Nat → Prop) (w0 : World) (p0 : api_Shape) (v0 : Value) (r : Int) (h : F_raddleref37_Shape p0 = some r) (S : St0 E [] w0 w0 [] [fRep r_api_Shape (v0) p0]) :
    Calls Tryd.prog 11 #[v0] w0 (Ret (X := Unit) E [] w0 (fun _ => .int .i64 r) (fun _ => []) (fun _ => [])) := by
  unfold F_raddleref37_Shape at h
  obtain ⟨u1, u2, rfl, hu3, hu4⟩ := S.know (i := 0) (e := fRep r_api_Shape (v0) p0) rfl
  have S := S.learn (fRep (rL r_api_Point) u1 p0.Left) hu3
  obtain ⟨ad5, cp6, _, rfl, _⟩ := hu3
  have S := S.learn (fRep (rL r_api_Point) u2 p0.Right) hu4
  obtain ⟨ad7, cp8, _, rfl, _⟩ := hu4
  refine sEnter (args := [.agg #[.slice ad5 p0.Left.length cp6, .slice ad7 p0.Right.length cp8]]) 34 Tryd.func11 rfl rfl (by simp) S (fun a S => ?_)
  refine sSeq (fun K9 hK9 => ?_)
  refine sRegion ?_
  refine sBox (v := .agg #[.slice ad5 p0.Left.length cp6, .slice ad7 p0.Right.length cp8]) S (wN rfl) rfl rfl [.slice ad5 p0.Left.length cp6, .slice ad7 p0.Right.length cp8] rfl rfl (lb rfl) fun a b10 w S => ?_
  refine sMove (iv 0) S (wN rfl) (.inr rfl) rfl rfl (lb rfl) fun a S => ?_
  refine leafL (leafT (hK9 _ _ ?_))
  refine sSeq (fun K11 hK11 => ?_)
  obtain ⟨t13, h, g14⟩ := bindSome h
  refine sCut (fun a w => ∃ o12, o12 = t13 ∧ St [] E [] w0 34 a w [(33, .bool o12)] [] []) ?_ (fun a w hI => ?_)
  rotate_left
  · obtain ⟨o12, rfl, S⟩ := hI
    have h := g14
    clear g14
    try dsimp only at h
    rcases iteSome h with ⟨hc45, h⟩ | ⟨hc45, h⟩
    · refine sCondT S rfl hc45 ?_
      refine sSeq (fun K46 hK46 => ?_)
      refine sRegion ?_
      refine sMove (iv 8) S (wN rfl) (.inr rfl) rfl rfl (lb rfl) fun a S => ?_
      refine leafL (leafT (hK46 _ _ ?_))
      obtain rfl := Option.some.inj h
      exact wp_ret (rThen (sRet (iv 8) S (rsl1 rfl (rvT (t := 2) (v := iv 8) S rfl)) ⟨(), rfl, S.mem.sel [] [] (by decide) rfl rfl⟩))
    refine sCondF S rfl hc45 ?_
    refine wp_skip (leafT (hK11 _ _ ?_))
    refine sSeq (fun K47 hK47 => ?_)
    refine sRegion ?_
    refine sMove (iv 0) S (wN rfl) (.inr rfl) rfl rfl (lb rfl) fun a S => ?_
    refine leafL (leafT (hK47 _ _ ?_))
    obtain rfl := Option.some.inj h
    exact wp_ret (sRet (iv 0) S (rsl1 rfl (rvT (t := 2) (v := iv 0) S rfl)) ⟨(), rfl, S.mem.sel [] [] (by decide) rfl rfl⟩)
  obtain ⟨r15, hx16, h⟩ := bindSome h
  rcases iteSome h with ⟨hc17, h⟩ | ⟨hc17, h⟩
  · refine sDraw (nf := []) (W := [(0, 3, .pointer (some ⟨b10, 0, none⟩)), (1, 4, .slice ad5 p0.Left.length cp6), (2, 5, .bool r15), (3, 6, .bool (!r15)), (4, 7, .bool (!r15)), (5, 8, undef), (6, 9, undef), (7, 10, undef), (8, 11, undef), (9, 12, .bool true), (10, 13, .bool true), (11, 14, undef), (12, 15, undef), (13, 16, undef), (14, 17, undef), (15, 18, undef), (16, 19, undef), (17, 20, undef), (18, 21, undef), (19, 22, undef), (20, 23, undef), (21, 24, undef), (22, 25, undef), (23, 26, undef), (24, 27, undef), (25, 28, undef), (26, 29, undef), (27, 30, undef), (28, 31, undef), (29, 32, undef), (30, 33, .bool true)]) rfl S ?_
    refine node_by (A := anc_raddleref37_Shape_0) (nf := []) (Y := []) (W := [(0, 3, .pointer (some ⟨b10, 0, none⟩)), (1, 4, .slice ad5 p0.Left.length cp6), (2, 5, .bool r15), (3, 6, .bool (!r15)), (4, 7, .bool (!r15)), (5, 8, undef), (6, 9, undef), (7, 10, undef), (8, 11, undef), (9, 12, .bool true), (10, 13, .bool true), (11, 14, undef), (12, 15, undef), (13, 16, undef), (14, 17, undef), (15, 18, undef), (16, 19, undef), (17, 20, undef), (18, 21, undef), (19, 22, undef), (20, 23, undef), (21, 24, undef), (22, 25, undef), (23, 26, undef), (24, 27, undef), (25, 28, undef), (26, 29, undef), (27, 30, undef), (28, 31, undef), (29, 32, undef), (30, 33, .bool true)]) 31 (by kernel_rfl) (by kernel_rfl) (by kernel_rfl) (by kernel_rfl) (by kernel_rfl) [0, 1, 2, 3, 4, 5, 6, 7, 8, 9, 10, 11, 12, 13, 14, 15, 16, 17, 18, 19, 20, 21, 22, 23, 24, 25, 26, 27, 28, 29, 30] (by kernel_rfl) (by decide) (by decide) (aF 0 30 (by decide) ?_ (aF 1 29 (by decide) ?_ (aF 2 28 (by decide) ?_ (aF 3 27 (by decide) ?_ (aF 4 26 (by decide) ?_ (aF 5 25 (by decide) ?_ (aF 6 24 (by decide) ?_ (aF 7 23 (by decide) ?_ (aF 8 22 (by decide) ?_ (aF 9 21 (by decide) ?_ (aF 10 20 (by decide) ?_ (aF 11 19 (by decide) ?_ (aF 12 18 (by decide) ?_ (aF 13 17 (by decide) ?_ (aF 14 16 (by decide) ?_ (aF 15 15 (by decide) ?_ (aF 16 14 (by decide) ?_ (aF 17 13 (by decide) ?_ (aF 18 12 (by decide) ?_ (aF 19 11 (by decide) ?_ (aF 20 10 (by decide) ?_ (aF 21 9 (by decide) ?_ (aF 22 8 (by decide) ?_ (aF 23 7 (by decide) ?_ (aF 24 6 (by decide) ?_ (aF 25 5 (by decide) ?_ (aF 26 4 (by decide) ?_ (aF 27 3 (by decide) ?_ (aF 28 2 (by decide) ?_ (aF 29 1 (by decide) ?_ (aF 30 0 (by decide) ?_ (trivial)))))))))))))))))))))))))))))))) [(33, .bool true)] (fin_of [some 30] rfl (by kernel_rfl) (by kernel_rfl)) (fun _ a w S => ?_)
    · refine fI 3 (.pointer (some ⟨b10, 0, none⟩)) [(1, .pointer (some ⟨b10, 0, none⟩))] 0 [none] rfl rfl rfl rfl rfl rfl fun G a w S => ?_
      refine sField (b := b10) (off := 0) 0 0 S (wN rfl) rfl rfl rfl rfl rfl (lb rfl) fun a S => ?_
      exact leafL ⟨rfl, S⟩
    · refine fI 4 (.slice ad5 p0.Left.length cp6) [(3, .pointer (some ⟨b10, 0, none⟩))] 1 [some 0] rfl rfl rfl rfl rfl rfl fun G a w S => ?_
      refine sLoad1 (p := b10) (off := 0) (T := 24) (vs := [.slice ad5 p0.Left.length cp6, .slice ad7 p0.Right.length cp8]) 0 (.slice ad5 p0.Left.length cp6) S (wN rfl) rfl rfl rfl rfl rfl rfl (lb rfl) fun a S => ?_
      exact leafL ⟨rfl, S⟩
    · refine fI 5 (.bool r15) [(4, .slice ad5 p0.Left.length cp6)] 2 [some 1] rfl rfl rfl rfl rfl rfl fun G a w S => ?_
      have S1 := S.mem
      refine sCallQ (X := Unit) (f := 34) (vs := [.slice ad5 p0.Left.length cp6]) (val := fun _ => .bool r15) S (wN rfl) rfl callee34 rfl (S1.quiet [1] rfl) (fun E1 w1 S1 => c_raddleref37_side E1 w1 p0.Left (.slice ad5 p0.Left.length cp6) r15 hx16 S1) rfl (lb rfl) fun _ a w S => ?_
      exact leafL ⟨rfl, S⟩
    · refine fI 6 (.bool (!r15)) [(5, .bool r15)] 3 [some 2] rfl rfl rfl rfl rfl rfl fun G a w S => ?_
      refine sNot (b := r15) S (wN rfl) rfl rfl rfl (lb rfl) fun a S => ?_
      exact leafL ⟨rfl, S⟩
    · refine fI 7 (.bool (!r15)) [(6, .bool (!r15))] 4 [some 3] rfl rfl rfl rfl rfl rfl fun G a w S => ?_
      refine sMove (.bool (!r15)) S (wN rfl) (.inl rfl) rfl rfl (lb rfl) fun a S => ?_
      exact leafL ⟨rfl, S⟩
    · refine fI 8 undef [(1, .pointer (some ⟨b10, 0, none⟩)), (7, .bool (!r15))] 5 [none, some 4] rfl rfl rfl rfl rfl rfl fun G a w S => ?_
      refine sSkip 4 false 7 8 S rfl rfl rfl hc17 rfl (lb rfl) fun a S => ?_
      exact leafL ⟨rfl, S⟩
    · refine fI 9 undef [(8, undef), (7, .bool (!r15))] 6 [some 5, some 4] rfl rfl rfl rfl rfl rfl fun G a w S => ?_
      refine sSkip 4 false 7 9 S rfl rfl rfl hc17 rfl (lb rfl) fun a S => ?_
      exact leafL ⟨rfl, S⟩
    · refine fI 10 undef [(9, undef), (7, .bool (!r15))] 7 [some 6, some 4] rfl rfl rfl rfl rfl rfl fun G a w S => ?_
      refine sSkip 4 false 7 10 S rfl rfl rfl hc17 rfl (lb rfl) fun a S => ?_
      exact leafL ⟨rfl, S⟩
    · refine fI 11 undef [(10, undef), (7, .bool (!r15))] 8 [some 7, some 4] rfl rfl rfl rfl rfl rfl fun G a w S => ?_
      refine sSkip 4 false 7 11 S rfl rfl rfl hc17 rfl (lb rfl) fun a S => ?_
      exact leafL ⟨rfl, S⟩
    · refine fI 12 (.bool true) [(7, .bool (!r15)), (11, undef)] 9 [some 4, some 8] rfl rfl rfl rfl rfl rfl fun G a w S => ?_
      refine sPickT (.bool true) S (wN rfl) rfl rfl hc17 rfl rfl (lb rfl) fun a S => ?_
      exact leafL ⟨rfl, S⟩
    · refine fI 13 (.bool true) [(12, .bool true)] 10 [some 9] rfl rfl rfl rfl rfl rfl fun G a w S => ?_
      refine sMove (.bool true) S (wN rfl) (.inl rfl) rfl rfl (lb rfl) fun a S => ?_
      exact leafL ⟨rfl, S⟩
    · refine fI 14 undef [(1, .pointer (some ⟨b10, 0, none⟩)), (13, .bool true)] 11 [none, some 10] rfl rfl rfl rfl rfl rfl fun G a w S => ?_
      refine sSkip 10 false 13 14 S rfl rfl rfl rfl rfl (lb rfl) fun a S => ?_
      exact leafL ⟨rfl, S⟩
    · refine fI 15 undef [(14, undef), (13, .bool true)] 12 [some 11, some 10] rfl rfl rfl rfl rfl rfl fun G a w S => ?_
      refine sSkip 10 false 13 15 S rfl rfl rfl rfl rfl (lb rfl) fun a S => ?_
      exact leafL ⟨rfl, S⟩
    · refine fI 16 undef [(1, .pointer (some ⟨b10, 0, none⟩)), (13, .bool true)] 13 [none, some 10] rfl rfl rfl rfl rfl rfl fun G a w S => ?_
      refine sSkip 10 false 13 16 S rfl rfl rfl rfl rfl (lb rfl) fun a S => ?_
      exact leafL ⟨rfl, S⟩
    · refine fI 17 undef [(16, undef), (13, .bool true)] 14 [some 13, some 10] rfl rfl rfl rfl rfl rfl fun G a w S => ?_
      refine sSkip 10 false 13 17 S rfl rfl rfl rfl rfl (lb rfl) fun a S => ?_
      exact leafL ⟨rfl, S⟩
    · refine fI 18 undef [(17, undef), (13, .bool true)] 15 [some 14, some 10] rfl rfl rfl rfl rfl rfl fun G a w S => ?_
      refine sSkip 10 false 13 18 S rfl rfl rfl rfl rfl (lb rfl) fun a S => ?_
      exact leafL ⟨rfl, S⟩
    · refine fI 19 undef [(18, undef), (13, .bool true)] 16 [some 15, some 10] rfl rfl rfl rfl rfl rfl fun G a w S => ?_
      refine sSkip 10 false 13 19 S rfl rfl rfl rfl rfl (lb rfl) fun a S => ?_
      exact leafL ⟨rfl, S⟩
    · refine fI 20 undef [(15, undef), (19, undef), (13, .bool true)] 17 [some 12, some 16, some 10] rfl rfl rfl rfl rfl rfl fun G a w S => ?_
      refine sSkip 10 false 13 20 S rfl rfl rfl rfl rfl (lb rfl) fun a S => ?_
      exact leafL ⟨rfl, S⟩
    · refine fI 21 undef [(20, undef), (13, .bool true)] 18 [some 17, some 10] rfl rfl rfl rfl rfl rfl fun G a w S => ?_
      refine sSkip 10 false 13 21 S rfl rfl rfl rfl rfl (lb rfl) fun a S => ?_
      exact leafL ⟨rfl, S⟩
    · refine fI 22 undef [(21, undef), (13, .bool true)] 19 [some 18, some 10] rfl rfl rfl rfl rfl rfl fun G a w S => ?_
      refine sSkip 10 false 13 22 S rfl rfl rfl rfl rfl (lb rfl) fun a S => ?_
      exact leafL ⟨rfl, S⟩
    · refine fI 23 undef [(1, .pointer (some ⟨b10, 0, none⟩)), (13, .bool true)] 20 [none, some 10] rfl rfl rfl rfl rfl rfl fun G a w S => ?_
      refine sSkip 10 false 13 23 S rfl rfl rfl rfl rfl (lb rfl) fun a S => ?_
      exact leafL ⟨rfl, S⟩
    · refine fI 24 undef [(23, undef), (13, .bool true)] 21 [some 20, some 10] rfl rfl rfl rfl rfl rfl fun G a w S => ?_
      refine sSkip 10 false 13 24 S rfl rfl rfl rfl rfl (lb rfl) fun a S => ?_
      exact leafL ⟨rfl, S⟩
    · refine fI 25 undef [(1, .pointer (some ⟨b10, 0, none⟩)), (13, .bool true)] 22 [none, some 10] rfl rfl rfl rfl rfl rfl fun G a w S => ?_
      refine sSkip 10 false 13 25 S rfl rfl rfl rfl rfl (lb rfl) fun a S => ?_
      exact leafL ⟨rfl, S⟩
    · refine fI 26 undef [(25, undef), (13, .bool true)] 23 [some 22, some 10] rfl rfl rfl rfl rfl rfl fun G a w S => ?_
      refine sSkip 10 false 13 26 S rfl rfl rfl rfl rfl (lb rfl) fun a S => ?_
      exact leafL ⟨rfl, S⟩
    · refine fI 27 undef [(26, undef), (13, .bool true)] 24 [some 23, some 10] rfl rfl rfl rfl rfl rfl fun G a w S => ?_
      refine sSkip 10 false 13 27 S rfl rfl rfl rfl rfl (lb rfl) fun a S => ?_
      exact leafL ⟨rfl, S⟩
    · refine fI 28 undef [(27, undef), (13, .bool true)] 25 [some 24, some 10] rfl rfl rfl rfl rfl rfl fun G a w S => ?_
      refine sSkip 10 false 13 28 S rfl rfl rfl rfl rfl (lb rfl) fun a S => ?_
      exact leafL ⟨rfl, S⟩
    · refine fI 29 undef [(24, undef), (28, undef), (13, .bool true)] 26 [some 21, some 25, some 10] rfl rfl rfl rfl rfl rfl fun G a w S => ?_
      refine sSkip 10 false 13 29 S rfl rfl rfl rfl rfl (lb rfl) fun a S => ?_
      exact leafL ⟨rfl, S⟩
    · refine fI 30 undef [(29, undef), (13, .bool true)] 27 [some 26, some 10] rfl rfl rfl rfl rfl rfl fun G a w S => ?_
      refine sSkip 10 false 13 30 S rfl rfl rfl rfl rfl (lb rfl) fun a S => ?_
      exact leafL ⟨rfl, S⟩
    · refine fI 31 undef [(30, undef), (13, .bool true)] 28 [some 27, some 10] rfl rfl rfl rfl rfl rfl fun G a w S => ?_
      refine sSkip 10 false 13 31 S rfl rfl rfl rfl rfl (lb rfl) fun a S => ?_
      exact leafL ⟨rfl, S⟩
    · refine fI 32 undef [(22, undef), (31, undef), (13, .bool true)] 29 [some 19, some 28, some 10] rfl rfl rfl rfl rfl rfl fun G a w S => ?_
      refine sSkip 10 false 13 32 S rfl rfl rfl rfl rfl (lb rfl) fun a S => ?_
      exact leafL ⟨rfl, S⟩
    · refine fI 33 (.bool true) [(13, .bool true), (32, undef)] 30 [some 10, some 29] rfl rfl rfl rfl rfl rfl fun G a w S => ?_
      refine sPickT (.bool true) S (wN rfl) rfl rfl rfl rfl rfl (lb rfl) fun a S => ?_
      exact leafL ⟨rfl, S⟩
    exact leafT (⟨true, Option.some.inj h, S.fix [] [] (by decide) rfl rfl rfl⟩)
  obtain ⟨r18, hx19, h⟩ := bindSome h
  rcases iteSome h with ⟨hc20, h⟩ | ⟨hc20, h⟩
  · refine sDraw (nf := []) (W := [(0, 3, .pointer (some ⟨b10, 0, none⟩)), (1, 4, .slice ad5 p0.Left.length cp6), (2, 5, .bool r15), (3, 6, .bool (!r15)), (4, 7, .bool (!r15)), (5, 8, .pointer (some ⟨b10, 1, none⟩)), (6, 9, .slice ad7 p0.Right.length cp8), (7, 10, .bool r18), (8, 11, .bool (!r18)), (9, 12, .bool (!r18)), (10, 13, .bool (!r18)), (11, 14, undef), (12, 15, undef), (13, 16, undef), (14, 17, undef), (15, 18, undef), (16, 19, undef), (17, 20, undef), (18, 21, undef), (19, 22, undef), (20, 23, undef), (21, 24, undef), (22, 25, undef), (23, 26, undef), (24, 27, undef), (25, 28, undef), (26, 29, undef), (27, 30, undef), (28, 31, undef), (29, 32, undef), (30, 33, .bool true)]) rfl S ?_
    refine node_by (A := anc_raddleref37_Shape_0) (nf := []) (Y := []) (W := [(0, 3, .pointer (some ⟨b10, 0, none⟩)), (1, 4, .slice ad5 p0.Left.length cp6), (2, 5, .bool r15), (3, 6, .bool (!r15)), (4, 7, .bool (!r15)), (5, 8, .pointer (some ⟨b10, 1, none⟩)), (6, 9, .slice ad7 p0.Right.length cp8), (7, 10, .bool r18), (8, 11, .bool (!r18)), (9, 12, .bool (!r18)), (10, 13, .bool (!r18)), (11, 14, undef), (12, 15, undef), (13, 16, undef), (14, 17, undef), (15, 18, undef), (16, 19, undef), (17, 20, undef), (18, 21, undef), (19, 22, undef), (20, 23, undef), (21, 24, undef), (22, 25, undef), (23, 26, undef), (24, 27, undef), (25, 28, undef), (26, 29, undef), (27, 30, undef), (28, 31, undef), (29, 32, undef), (30, 33, .bool true)]) 31 (by kernel_rfl) (by kernel_rfl) (by kernel_rfl) (by kernel_rfl) (by kernel_rfl) [0, 1, 2, 3, 4, 5, 6, 7, 8, 9, 10, 11, 12, 13, 14, 15, 16, 17, 18, 19, 20, 21, 22, 23, 24, 25, 26, 27, 28, 29, 30] (by kernel_rfl) (by decide) (by decide) (aF 0 30 (by decide) ?_ (aF 1 29 (by decide) ?_ (aF 2 28 (by decide) ?_ (aF 3 27 (by decide) ?_ (aF 4 26 (by decide) ?_ (aF 5 25 (by decide) ?_ (aF 6 24 (by decide) ?_ (aF 7 23 (by decide) ?_ (aF 8 22 (by decide) ?_ (aF 9 21 (by decide) ?_ (aF 10 20 (by decide) ?_ (aF 11 19 (by decide) ?_ (aF 12 18 (by decide) ?_ (aF 13 17 (by decide) ?_ (aF 14 16 (by decide) ?_ (aF 15 15 (by decide) ?_ (aF 16 14 (by decide) ?_ (aF 17 13 (by decide) ?_ (aF 18 12 (by decide) ?_ (aF 19 11 (by decide) ?_ (aF 20 10 (by decide) ?_ (aF 21 9 (by decide) ?_ (aF 22 8 (by decide) ?_ (aF 23 7 (by decide) ?_ (aF 24 6 (by decide) ?_ (aF 25 5 (by decide) ?_ (aF 26 4 (by decide) ?_ (aF 27 3 (by decide) ?_ (aF 28 2 (by decide) ?_ (aF 29 1 (by decide) ?_ (aF 30 0 (by decide) ?_ (trivial)))))))))))))))))))))))))))))))) [(33, .bool true)] (fin_of [some 30] rfl (by kernel_rfl) (by kernel_rfl)) (fun _ a w S => ?_)
    · refine fI 3 (.pointer (some ⟨b10, 0, none⟩)) [(1, .pointer (some ⟨b10, 0, none⟩))] 0 [none] rfl rfl rfl rfl rfl rfl fun G a w S => ?_
      refine sField (b := b10) (off := 0) 0 0 S (wN rfl) rfl rfl rfl rfl rfl (lb rfl) fun a S => ?_
      exact leafL ⟨rfl, S⟩
    · refine fI 4 (.slice ad5 p0.Left.length cp6) [(3, .pointer (some ⟨b10, 0, none⟩))] 1 [some 0] rfl rfl rfl rfl rfl rfl fun G a w S => ?_
      refine sLoad1 (p := b10) (off := 0) (T := 24) (vs := [.slice ad5 p0.Left.length cp6, .slice ad7 p0.Right.length cp8]) 0 (.slice ad5 p0.Left.length cp6) S (wN rfl) rfl rfl rfl rfl rfl rfl (lb rfl) fun a S => ?_
      exact leafL ⟨rfl, S⟩
    · refine fI 5 (.bool r15) [(4, .slice ad5 p0.Left.length cp6)] 2 [some 1] rfl rfl rfl rfl rfl rfl fun G a w S => ?_
      have S1 := S.mem
      refine sCallQ (X := Unit) (f := 34) (vs := [.slice ad5 p0.Left.length cp6]) (val := fun _ => .bool r15) S (wN rfl) rfl callee34 rfl (S1.quiet [1] rfl) (fun E1 w1 S1 => c_raddleref37_side E1 w1 p0.Left (.slice ad5 p0.Left.length cp6) r15 hx16 S1) rfl (lb rfl) fun _ a w S => ?_
      exact leafL ⟨rfl, S⟩
    · refine fI 6 (.bool (!r15)) [(5, .bool r15)] 3 [some 2] rfl rfl rfl rfl rfl rfl fun G a w S => ?_
      refine sNot (b := r15) S (wN rfl) rfl rfl rfl (lb rfl) fun a S => ?_
      exact leafL ⟨rfl, S⟩
    · refine fI 7 (.bool (!r15)) [(6, .bool (!r15))] 4 [some 3] rfl rfl rfl rfl rfl rfl fun G a w S => ?_
      refine sMove (.bool (!r15)) S (wN rfl) (.inl rfl) rfl rfl (lb rfl) fun a S => ?_
      exact leafL ⟨rfl, S⟩
    · refine fI 8 (.pointer (some ⟨b10, 1, none⟩)) [(1, .pointer (some ⟨b10, 0, none⟩)), (7, .bool (!r15))] 5 [none, some 4] rfl rfl rfl rfl rfl rfl fun G a w S => ?_
      refine sField (b := b10) (off := 0) 1 1 S (wG 4 false 7 rfl rfl rfl hc17) rfl rfl rfl rfl rfl (lb rfl) fun a S => ?_
      exact leafL ⟨rfl, S⟩
    · refine fI 9 (.slice ad7 p0.Right.length cp8) [(8, .pointer (some ⟨b10, 1, none⟩)), (7, .bool (!r15))] 6 [some 5, some 4] rfl rfl rfl rfl rfl rfl fun G a w S => ?_
      refine sLoad1 (p := b10) (off := 1) (T := 24) (vs := [.slice ad5 p0.Left.length cp6, .slice ad7 p0.Right.length cp8]) 0 (.slice ad7 p0.Right.length cp8) S (wG 4 false 7 rfl rfl rfl hc17) rfl rfl rfl rfl rfl rfl (lb rfl) fun a S => ?_
      exact leafL ⟨rfl, S⟩
    · refine fI 10 (.bool r18) [(9, .slice ad7 p0.Right.length cp8), (7, .bool (!r15))] 7 [some 6, some 4] rfl rfl rfl rfl rfl rfl fun G a w S => ?_
      have S1 := S.mem
      refine sCallQ (X := Unit) (f := 34) (vs := [.slice ad7 p0.Right.length cp8]) (val := fun _ => .bool r18) S (wG 4 false 7 rfl rfl rfl hc17) rfl callee34 rfl (S1.quiet [0] rfl) (fun E1 w1 S1 => c_raddleref37_side E1 w1 p0.Right (.slice ad7 p0.Right.length cp8) r18 hx19 S1) rfl (lb rfl) fun _ a w S => ?_
      exact leafL ⟨rfl, S⟩
    · refine fI 11 (.bool (!r18)) [(10, .bool r18), (7, .bool (!r15))] 8 [some 7, some 4] rfl rfl rfl rfl rfl rfl fun G a w S => ?_
      refine sNot (b := r18) S (wG 4 false 7 rfl rfl rfl hc17) rfl rfl rfl (lb rfl) fun a S => ?_
      exact leafL ⟨rfl, S⟩
    · refine fI 12 (.bool (!r18)) [(7, .bool (!r15)), (11, .bool (!r18))] 9 [some 4, some 8] rfl rfl rfl rfl rfl rfl fun G a w S => ?_
      refine sPickF (.bool (!r18)) S (wN rfl) rfl rfl hc17 rfl rfl (lb rfl) fun a S => ?_
      exact leafL ⟨rfl, S⟩
    · refine fI 13 (.bool (!r18)) [(12, .bool (!r18))] 10 [some 9] rfl rfl rfl rfl rfl rfl fun G a w S => ?_
      refine sMove (.bool (!r18)) S (wN rfl) (.inl rfl) rfl rfl (lb rfl) fun a S => ?_
      exact leafL ⟨rfl, S⟩
    · refine fI 14 undef [(1, .pointer (some ⟨b10, 0, none⟩)), (13, .bool (!r18))] 11 [none, some 10] rfl rfl rfl rfl rfl rfl fun G a w S => ?_
      refine sSkip 10 false 13 14 S rfl rfl rfl hc20 rfl (lb rfl) fun a S => ?_
      exact leafL ⟨rfl, S⟩
    · refine fI 15 undef [(14, undef), (13, .bool (!r18))] 12 [some 11, some 10] rfl rfl rfl rfl rfl rfl fun G a w S => ?_
      refine sSkip 10 false 13 15 S rfl rfl rfl hc20 rfl (lb rfl) fun a S => ?_
      exact leafL ⟨rfl, S⟩
    · refine fI 16 undef [(1, .pointer (some ⟨b10, 0, none⟩)), (13, .bool (!r18))] 13 [none, some 10] rfl rfl rfl rfl rfl rfl fun G a w S => ?_
      refine sSkip 10 false 13 16 S rfl rfl rfl hc20 rfl (lb rfl) fun a S => ?_
      exact leafL ⟨rfl, S⟩
    · refine fI 17 undef [(16, undef), (13, .bool (!r18))] 14 [some 13, some 10] rfl rfl rfl rfl rfl rfl fun G a w S => ?_
      refine sSkip 10 false 13 17 S rfl rfl rfl hc20 rfl (lb rfl) fun a S => ?_
      exact leafL ⟨rfl, S⟩
    · refine fI 18 undef [(17, undef), (13, .bool (!r18))] 15 [some 14, some 10] rfl rfl rfl rfl rfl rfl fun G a w S => ?_
      refine sSkip 10 false 13 18 S rfl rfl rfl hc20 rfl (lb rfl) fun a S => ?_
      exact leafL ⟨rfl, S⟩
    · refine fI 19 undef [(18, undef), (13, .bool (!r18))] 16 [some 15, some 10] rfl rfl rfl rfl rfl rfl fun G a w S => ?_
      refine sSkip 10 false 13 19 S rfl rfl rfl hc20 rfl (lb rfl) fun a S => ?_
      exact leafL ⟨rfl, S⟩
    · refine fI 20 undef [(15, undef), (19, undef), (13, .bool (!r18))] 17 [some 12, some 16, some 10] rfl rfl rfl rfl rfl rfl fun G a w S => ?_
      refine sSkip 10 false 13 20 S rfl rfl rfl hc20 rfl (lb rfl) fun a S => ?_
      exact leafL ⟨rfl, S⟩
    · refine fI 21 undef [(20, undef), (13, .bool (!r18))] 18 [some 17, some 10] rfl rfl rfl rfl rfl rfl fun G a w S => ?_
      refine sSkip 10 false 13 21 S rfl rfl rfl hc20 rfl (lb rfl) fun a S => ?_
      exact leafL ⟨rfl, S⟩
    · refine fI 22 undef [(21, undef), (13, .bool (!r18))] 19 [some 18, some 10] rfl rfl rfl rfl rfl rfl fun G a w S => ?_
      refine sSkip 10 false 13 22 S rfl rfl rfl hc20 rfl (lb rfl) fun a S => ?_
      exact leafL ⟨rfl, S⟩
    · refine fI 23 undef [(1, .pointer (some ⟨b10, 0, none⟩)), (13, .bool (!r18))] 20 [none, some 10] rfl rfl rfl rfl rfl rfl fun G a w S => ?_
      refine sSkip 10 false 13 23 S rfl rfl rfl hc20 rfl (lb rfl) fun a S => ?_
      exact leafL ⟨rfl, S⟩
    · refine fI 24 undef [(23, undef), (13, .bool (!r18))] 21 [some 20, some 10] rfl rfl rfl rfl rfl rfl fun G a w S => ?_
      refine sSkip 10 false 13 24 S rfl rfl rfl hc20 rfl (lb rfl) fun a S => ?_
      exact leafL ⟨rfl, S⟩
    · refine fI 25 undef [(1, .pointer (some ⟨b10, 0, none⟩)), (13, .bool (!r18))] 22 [none, some 10] rfl rfl rfl rfl rfl rfl fun G a w S => ?_
      refine sSkip 10 false 13 25 S rfl rfl rfl hc20 rfl (lb rfl) fun a S => ?_
      exact leafL ⟨rfl, S⟩
    · refine fI 26 undef [(25, undef), (13, .bool (!r18))] 23 [some 22, some 10] rfl rfl rfl rfl rfl rfl fun G a w S => ?_
      refine sSkip 10 false 13 26 S rfl rfl rfl hc20 rfl (lb rfl) fun a S => ?_
      exact leafL ⟨rfl, S⟩
    · refine fI 27 undef [(26, undef), (13, .bool (!r18))] 24 [some 23, some 10] rfl rfl rfl rfl rfl rfl fun G a w S => ?_
      refine sSkip 10 false 13 27 S rfl rfl rfl hc20 rfl (lb rfl) fun a S => ?_
      exact leafL ⟨rfl, S⟩
    · refine fI 28 undef [(27, undef), (13, .bool (!r18))] 25 [some 24, some 10] rfl rfl rfl rfl rfl rfl fun G a w S => ?_
      refine sSkip 10 false 13 28 S rfl rfl rfl hc20 rfl (lb rfl) fun a S => ?_
      exact leafL ⟨rfl, S⟩
    · refine fI 29 undef [(24, undef), (28, undef), (13, .bool (!r18))] 26 [some 21, some 25, some 10] rfl rfl rfl rfl rfl rfl fun G a w S => ?_
      refine sSkip 10 false 13 29 S rfl rfl rfl hc20 rfl (lb rfl) fun a S => ?_
      exact leafL ⟨rfl, S⟩
    · refine fI 30 undef [(29, undef), (13, .bool (!r18))] 27 [some 26, some 10] rfl rfl rfl rfl rfl rfl fun G a w S => ?_
      refine sSkip 10 false 13 30 S rfl rfl rfl hc20 rfl (lb rfl) fun a S => ?_
      exact leafL ⟨rfl, S⟩
    · refine fI 31 undef [(30, undef), (13, .bool (!r18))] 28 [some 27, some 10] rfl rfl rfl rfl rfl rfl fun G a w S => ?_
      refine sSkip 10 false 13 31 S rfl rfl rfl hc20 rfl (lb rfl) fun a S => ?_
      exact leafL ⟨rfl, S⟩
    · refine fI 32 undef [(22, undef), (31, undef), (13, .bool (!r18))] 29 [some 19, some 28, some 10] rfl rfl rfl rfl rfl rfl fun G a w S => ?_
      refine sSkip 10 false 13 32 S rfl rfl rfl hc20 rfl (lb rfl) fun a S => ?_
      exact leafL ⟨rfl, S⟩
    · refine fI 33 (.bool true) [(13, .bool (!r18)), (32, undef)] 30 [some 10, some 29] rfl rfl rfl rfl rfl rfl fun G a w S => ?_
      refine sPickT (.bool true) S (wN rfl) rfl rfl hc20 rfl rfl (lb rfl) fun a S => ?_
      exact leafL ⟨rfl, S⟩
    exact leafT (⟨true, Option.some.inj h, S.fix [] [] (by decide) rfl rfl rfl⟩)
  obtain ⟨x21, hx22, h⟩ := bindSome h
  obtain ⟨x28, hx29, h⟩ := bindSome h
  obtain ⟨q35, hq36, S⟩ := pIdx (P := Tryd.prog) (r := r_api_Point) (v := .slice ad5 p0.Left.length cp6) (xs := p0.Left) (j := w64 ((p0.Left.length : Int) - 1)) 22 35 1 S Tryd.underlying22 rfl rfl hx22
  obtain ⟨q37, hq38, S⟩ := pFld (P := Tryd.prog) (r := r_api_Point) (s2 := (rI .i64)) (g := (·.Y)) (q := q35) (z := x21) 35 1 0 1 S rfl rfl comp_api_Point_Y
  obtain ⟨u39, S⟩ := pLoad (r := (rI .i64)) (q := q37) (x := x21.Y) 0 S rfl
  obtain rfl : u39 = iv x21.Y := S.mem.know (i := 1) (e := fRep (rI .i64) (u39) x21.Y) rfl
  obtain ⟨q40, hq41, S⟩ := pIdx (P := Tryd.prog) (r := r_api_Point) (v := .slice ad7 p0.Right.length cp8) (xs := p0.Right) (j := w64 ((p0.Right.length : Int) - 1)) 22 35 4 S Tryd.underlying22 rfl rfl hx29
  obtain ⟨q42, hq43, S⟩ := pFld (P := Tryd.prog) (r := r_api_Point) (s2 := (rI .i64)) (g := (·.Y)) (q := q40) (z := x28) 35 1 0 1 S rfl rfl comp_api_Point_Y
  obtain ⟨u44, S⟩ := pLoad (r := (rI .i64)) (q := q42) (x := x28.Y) 0 S rfl
  obtain rfl : u44 = iv x28.Y := S.mem.know (i := 1) (e := fRep (rI .i64) (u44) x28.Y) rfl
  refine sDraw (nf := []) (W := [(0, 3, .pointer (some ⟨b10, 0, none⟩)), (1, 4, .slice ad5 p0.Left.length cp6), (2, 5, .bool r15), (3, 6, .bool (!r15)), (4, 7, .bool (!r15)), (5, 8, .pointer (some ⟨b10, 1, none⟩)), (6, 9, .slice ad7 p0.Right.length cp8), (7, 10, .bool r18), (8, 11, .bool (!r18)), (9, 12, .bool (!r18)), (10, 13, .bool (!r18)), (11, 14, .pointer (some ⟨b10, 0, none⟩)), (12, 15, .slice ad5 p0.Left.length cp6), (13, 16, .pointer (some ⟨b10, 0, none⟩)), (14, 17, .slice ad5 p0.Left.length cp6), (15, 18, iv (p0.Left.length : Int)), (16, 19, iv (w64 ((p0.Left.length : Int) - 1))), (17, 20, q35), (18, 21, q37), (19, 22, iv x21.Y), (20, 23, .pointer (some ⟨b10, 1, none⟩)), (21, 24, .slice ad7 p0.Right.length cp8), (22, 25, .pointer (some ⟨b10, 1, none⟩)), (23, 26, .slice ad7 p0.Right.length cp8), (24, 27, iv (p0.Right.length : Int)), (25, 28, iv (w64 ((p0.Right.length : Int) - 1))), (26, 29, q40), (27, 30, q42), (28, 31, iv x28.Y), (29, 32, .bool (x21.Y != x28.Y)), (30, 33, .bool (x21.Y != x28.Y))]) rfl S ?_
  refine node_by (A := anc_raddleref37_Shape_0) (nf := []) (Y := []) (W := [(0, 3, .pointer (some ⟨b10, 0, none⟩)), (1, 4, .slice ad5 p0.Left.length cp6), (2, 5, .bool r15), (3, 6, .bool (!r15)), (4, 7, .bool (!r15)), (5, 8, .pointer (some ⟨b10, 1, none⟩)), (6, 9, .slice ad7 p0.Right.length cp8), (7, 10, .bool r18), (8, 11, .bool (!r18)), (9, 12, .bool (!r18)), (10, 13, .bool (!r18)), (11, 14, .pointer (some ⟨b10, 0, none⟩)), (12, 15, .slice ad5 p0.Left.length cp6), (13, 16, .pointer (some ⟨b10, 0, none⟩)), (14, 17, .slice ad5 p0.Left.length cp6), (15, 18, iv (p0.Left.length : Int)), (16, 19, iv (w64 ((p0.Left.length : Int) - 1))), (17, 20, q35), (18, 21, q37), (19, 22, iv x21.Y), (20, 23, .pointer (some ⟨b10, 1, none⟩)), (21, 24, .slice ad7 p0.Right.length cp8), (22, 25, .pointer (some ⟨b10, 1, none⟩)), (23, 26, .slice ad7 p0.Right.length cp8), (24, 27, iv (p0.Right.length : Int)), (25, 28, iv (w64 ((p0.Right.length : Int) - 1))), (26, 29, q40), (27, 30, q42), (28, 31, iv x28.Y), (29, 32, .bool (x21.Y != x28.Y)), (30, 33, .bool (x21.Y != x28.Y))]) 31 (by kernel_rfl) (by kernel_rfl) (by kernel_rfl) (by kernel_rfl) (by kernel_rfl) [0, 1, 2, 3, 4, 5, 6, 7, 8, 9, 10, 11, 12, 13, 14, 15, 16, 17, 18, 19, 20, 21, 22, 23, 24, 25, 26, 27, 28, 29, 30] (by kernel_rfl) (by decide) (by decide) (aF 0 30 (by decide) ?_ (aF 1 29 (by decide) ?_ (aF 2 28 (by decide) ?_ (aF 3 27 (by decide) ?_ (aF 4 26 (by decide) ?_ (aF 5 25 (by decide) ?_ (aF 6 24 (by decide) ?_ (aF 7 23 (by decide) ?_ (aF 8 22 (by decide) ?_ (aF 9 21 (by decide) ?_ (aF 10 20 (by decide) ?_ (aF 11 19 (by decide) ?_ (aF 12 18 (by decide) ?_ (aF 13 17 (by decide) ?_ (aF 14 16 (by decide) ?_ (aF 15 15 (by decide) ?_ (aF 16 14 (by decide) ?_ (aF 17 13 (by decide) ?_ (aF 18 12 (by decide) ?_ (aF 19 11 (by decide) ?_ (aF 20 10 (by decide) ?_ (aF 21 9 (by decide) ?_ (aF 22 8 (by decide) ?_ (aF 23 7 (by decide) ?_ (aF 24 6 (by decide) ?_ (aF 25 5 (by decide) ?_ (aF 26 4 (by decide) ?_ (aF 27 3 (by decide) ?_ (aF 28 2 (by decide) ?_ (aF 29 1 (by decide) ?_ (aF 30 0 (by decide) ?_ (trivial)))))))))))))))))))))))))))))))) [(33, .bool (x21.Y != x28.Y))] (fin_of [some 30] rfl (by kernel_rfl) (by kernel_rfl)) (fun _ a w S => ?_)
  · refine fI 3 (.pointer (some ⟨b10, 0, none⟩)) [(1, .pointer (some ⟨b10, 0, none⟩))] 0 [none] rfl rfl rfl rfl rfl rfl fun G a w S => ?_
    refine sField (b := b10) (off := 0) 0 0 S (wN rfl) rfl rfl rfl rfl rfl (lb rfl) fun a S => ?_
    exact leafL ⟨rfl, S⟩
  · refine fI 4 (.slice ad5 p0.Left.length cp6) [(3, .pointer (some ⟨b10, 0, none⟩))] 1 [some 0] rfl rfl rfl rfl rfl rfl fun G a w S => ?_
    refine sLoad1 (p := b10) (off := 0) (T := 24) (vs := [.slice ad5 p0.Left.length cp6, .slice ad7 p0.Right.length cp8]) 0 (.slice ad5 p0.Left.length cp6) S (wN rfl) rfl rfl rfl rfl rfl rfl (lb rfl) fun a S => ?_
    exact leafL ⟨rfl, S⟩
  · refine fI 5 (.bool r15) [(4, .slice ad5 p0.Left.length cp6)] 2 [some 1] rfl rfl rfl rfl rfl rfl fun G a w S => ?_
    have S1 := S.mem
    refine sCallQ (X := Unit) (f := 34) (vs := [.slice ad5 p0.Left.length cp6]) (val := fun _ => .bool r15) S (wN rfl) rfl callee34 rfl (S1.quiet [9] rfl) (fun E1 w1 S1 => c_raddleref37_side E1 w1 p0.Left (.slice ad5 p0.Left.length cp6) r15 hx16 S1) rfl (lb rfl) fun _ a w S => ?_
    exact leafL ⟨rfl, S⟩
  · refine fI 6 (.bool (!r15)) [(5, .bool r15)] 3 [some 2] rfl rfl rfl rfl rfl rfl fun G a w S => ?_
    refine sNot (b := r15) S (wN rfl) rfl rfl rfl (lb rfl) fun a S => ?_
    exact leafL ⟨rfl, S⟩
  · refine fI 7 (.bool (!r15)) [(6, .bool (!r15))] 4 [some 3] rfl rfl rfl rfl rfl rfl fun G a w S => ?_
    refine sMove (.bool (!r15)) S (wN rfl) (.inl rfl) rfl rfl (lb rfl) fun a S => ?_
    exact leafL ⟨rfl, S⟩
  · refine fI 8 (.pointer (some ⟨b10, 1, none⟩)) [(1, .pointer (some ⟨b10, 0, none⟩)), (7, .bool (!r15))] 5 [none, some 4] rfl rfl rfl rfl rfl rfl fun G a w S => ?_
    refine sField (b := b10) (off := 0) 1 1 S (wG 4 false 7 rfl rfl rfl hc17) rfl rfl rfl rfl rfl (lb rfl) fun a S => ?_
    exact leafL ⟨rfl, S⟩
  · refine fI 9 (.slice ad7 p0.Right.length cp8) [(8, .pointer (some ⟨b10, 1, none⟩)), (7, .bool (!r15))] 6 [some 5, some 4] rfl rfl rfl rfl rfl rfl fun G a w S => ?_
    refine sLoad1 (p := b10) (off := 1) (T := 24) (vs := [.slice ad5 p0.Left.length cp6, .slice ad7 p0.Right.length cp8]) 0 (.slice ad7 p0.Right.length cp8) S (wG 4 false 7 rfl rfl rfl hc17) rfl rfl rfl rfl rfl rfl (lb rfl) fun a S => ?_
    exact leafL ⟨rfl, S⟩
  · refine fI 10 (.bool r18) [(9, .slice ad7 p0.Right.length cp8), (7, .bool (!r15))] 7 [some 6, some 4] rfl rfl rfl rfl rfl rfl fun G a w S => ?_
    have S1 := S.mem
    refine sCallQ (X := Unit) (f := 34) (vs := [.slice ad7 p0.Right.length cp8]) (val := fun _ => .bool r18) S (wG 4 false 7 rfl rfl rfl hc17) rfl callee34 rfl (S1.quiet [8] rfl) (fun E1 w1 S1 => c_raddleref37_side E1 w1 p0.Right (.slice ad7 p0.Right.length cp8) r18 hx19 S1) rfl (lb rfl) fun _ a w S => ?_
    exact leafL ⟨rfl, S⟩
  · refine fI 11 (.bool (!r18)) [(10, .bool r18), (7, .bool (!r15))] 8 [some 7, some 4] rfl rfl rfl rfl rfl rfl fun G a w S => ?_
    refine sNot (b := r18) S (wG 4 false 7 rfl rfl rfl hc17) rfl rfl rfl (lb rfl) fun a S => ?_
    exact leafL ⟨rfl, S⟩
  · refine fI 12 (.bool (!r18)) [(7, .bool (!r15)), (11, .bool (!r18))] 9 [some 4, some 8] rfl rfl rfl rfl rfl rfl fun G a w S => ?_
    refine sPickF (.bool (!r18)) S (wN rfl) rfl rfl hc17 rfl rfl (lb rfl) fun a S => ?_
    exact leafL ⟨rfl, S⟩
  · refine fI 13 (.bool (!r18)) [(12, .bool (!r18))] 10 [some 9] rfl rfl rfl rfl rfl rfl fun G a w S => ?_
    refine sMove (.bool (!r18)) S (wN rfl) (.inl rfl) rfl rfl (lb rfl) fun a S => ?_
    exact leafL ⟨rfl, S⟩
  · refine fI 14 (.pointer (some ⟨b10, 0, none⟩)) [(1, .pointer (some ⟨b10, 0, none⟩)), (13, .bool (!r18))] 11 [none, some 10] rfl rfl rfl rfl rfl rfl fun G a w S => ?_
    refine sField (b := b10) (off := 0) 0 0 S (wG 10 false 13 rfl rfl rfl hc20) rfl rfl rfl rfl rfl (lb rfl) fun a S => ?_
    exact leafL ⟨rfl, S⟩
  · refine fI 15 (.slice ad5 p0.Left.length cp6) [(14, .pointer (some ⟨b10, 0, none⟩)), (13, .bool (!r18))] 12 [some 11, some 10] rfl rfl rfl rfl rfl rfl fun G a w S => ?_
    refine sLoad1 (p := b10) (off := 0) (T := 24) (vs := [.slice ad5 p0.Left.length cp6, .slice ad7 p0.Right.length cp8]) 0 (.slice ad5 p0.Left.length cp6) S (wG 10 false 13 rfl rfl rfl hc20) rfl rfl rfl rfl rfl rfl (lb rfl) fun a S => ?_
    exact leafL ⟨rfl, S⟩
  · refine fI 16 (.pointer (some ⟨b10, 0, none⟩)) [(1, .pointer (some ⟨b10, 0, none⟩)), (13, .bool (!r18))] 13 [none, some 10] rfl rfl rfl rfl rfl rfl fun G a w S => ?_
    refine sField (b := b10) (off := 0) 0 0 S (wG 10 false 13 rfl rfl rfl hc20) rfl rfl rfl rfl rfl (lb rfl) fun a S => ?_
    exact leafL ⟨rfl, S⟩
  · refine fI 17 (.slice ad5 p0.Left.length cp6) [(16, .pointer (some ⟨b10, 0, none⟩)), (13, .bool (!r18))] 14 [some 13, some 10] rfl rfl rfl rfl rfl rfl fun G a w S => ?_
    refine sLoad1 (p := b10) (off := 0) (T := 24) (vs := [.slice ad5 p0.Left.length cp6, .slice ad7 p0.Right.length cp8]) 0 (.slice ad5 p0.Left.length cp6) S (wG 10 false 13 rfl rfl rfl hc20) rfl rfl rfl rfl rfl rfl (lb rfl) fun a S => ?_
    exact leafL ⟨rfl, S⟩
  · refine fI 18 (iv (p0.Left.length : Int)) [(17, .slice ad5 p0.Left.length cp6), (13, .bool (!r18))] 15 [some 14, some 10] rfl rfl rfl rfl rfl rfl fun G a w S => ?_
    refine sLen (ad := ad5) (m := p0.Left.length) (c := cp6) S (wG 10 false 13 rfl rfl rfl hc20) rfl Tryd.underlying22 rfl rfl (lb rfl) fun a S => ?_
    exact leafL ⟨rfl, S⟩
  · refine fI 19 (iv (w64 ((p0.Left.length : Int) - 1))) [(18, iv (p0.Left.length : Int)), (13, .bool (!r18))] 16 [some 15, some 10] rfl rfl rfl rfl rfl rfl fun G a w S => ?_
    refine sBin (iv (w64 ((p0.Left.length : Int) - 1))) S (wG 10 false 13 rfl rfl rfl hc20) rfl rfl rfl (bSub _ _ _ _ (p0.Left.length : Int) 1) rfl (lb rfl) fun a S => ?_
    exact leafL ⟨rfl, S⟩
  · refine fI 20 q35 [(15, .slice ad5 p0.Left.length cp6), (19, iv (w64 ((p0.Left.length : Int) - 1))), (13, .bool (!r18))] 17 [some 12, some 16, some 10] rfl rfl rfl rfl rfl rfl fun G a w S => ?_
    refine sIdxV (v := .slice ad5 p0.Left.length cp6) (k := .i64) (j := w64 ((p0.Left.length : Int) - 1)) S (wG 10 false 13 rfl rfl rfl hc20) rfl rfl rfl hq36 rfl (lb rfl) fun a S => ?_
    exact leafL ⟨rfl, S⟩
  · refine fI 21 q37 [(20, q35), (13, .bool (!r18))] 18 [some 17, some 10] rfl rfl rfl rfl rfl rfl fun G a w S => ?_
    refine sFldV (q := q35) S (wG 10 false 13 rfl rfl rfl hc20) rfl rfl hq38 rfl (lb rfl) fun a S => ?_
    exact leafL ⟨rfl, S⟩
  · refine fI 22 (iv x21.Y) [(21, q37), (13, .bool (!r18))] 19 [some 18, some 10] rfl rfl rfl rfl rfl rfl fun G a w S => ?_
    refine sLoadV1 (vq := q37) 4 (iv x21.Y) S (wG 10 false 13 rfl rfl rfl hc20) rfl rfl rfl rfl rfl (lb rfl) fun a S => ?_
    exact leafL ⟨rfl, S⟩
  · refine fI 23 (.pointer (some ⟨b10, 1, none⟩)) [(1, .pointer (some ⟨b10, 0, none⟩)), (13, .bool (!r18))] 20 [none, some 10] rfl rfl rfl rfl rfl rfl fun G a w S => ?_
    refine sField (b := b10) (off := 0) 1 1 S (wG 10 false 13 rfl rfl rfl hc20) rfl rfl rfl rfl rfl (lb rfl) fun a S => ?_
    exact leafL ⟨rfl, S⟩
  · refine fI 24 (.slice ad7 p0.Right.length cp8) [(23, .pointer (some ⟨b10, 1, none⟩)), (13, .bool (!r18))] 21 [some 20, some 10] rfl rfl rfl rfl rfl rfl fun G a w S => ?_
    refine sLoad1 (p := b10) (off := 1) (T := 24) (vs := [.slice ad5 p0.Left.length cp6, .slice ad7 p0.Right.length cp8]) 0 (.slice ad7 p0.Right.length cp8) S (wG 10 false 13 rfl rfl rfl hc20) rfl rfl rfl rfl rfl rfl (lb rfl) fun a S => ?_
    exact leafL ⟨rfl, S⟩
  · refine fI 25 (.pointer (some ⟨b10, 1, none⟩)) [(1, .pointer (some ⟨b10, 0, none⟩)), (13, .bool (!r18))] 22 [none, some 10] rfl rfl rfl rfl rfl rfl fun G a w S => ?_
    refine sField (b := b10) (off := 0) 1 1 S (wG 10 false 13 rfl rfl rfl hc20) rfl rfl rfl rfl rfl (lb rfl) fun a S => ?_
    exact leafL ⟨rfl, S⟩
  · refine fI 26 (.slice ad7 p0.Right.length cp8) [(25, .pointer (some ⟨b10, 1, none⟩)), (13, .bool (!r18))] 23 [some 22, some 10] rfl rfl rfl rfl rfl rfl fun G a w S => ?_
    refine sLoad1 (p := b10) (off := 1) (T := 24) (vs := [.slice ad5 p0.Left.length cp6, .slice ad7 p0.Right.length cp8]) 0 (.slice ad7 p0.Right.length cp8) S (wG 10 false 13 rfl rfl rfl hc20) rfl rfl rfl rfl rfl rfl (lb rfl) fun a S => ?_
    exact leafL ⟨rfl, S⟩
  · refine fI 27 (iv (p0.Right.length : Int)) [(26, .slice ad7 p0.Right.length cp8), (13, .bool (!r18))] 24 [some 23, some 10] rfl rfl rfl rfl rfl rfl fun G a w S => ?_
    refine sLen (ad := ad7) (m := p0.Right.length) (c := cp8) S (wG 10 false 13 rfl rfl rfl hc20) rfl Tryd.underlying22 rfl rfl (lb rfl) fun a S => ?_
    exact leafL ⟨rfl, S⟩
  · refine fI 28 (iv (w64 ((p0.Right.length : Int) - 1))) [(27, iv (p0.Right.length : Int)), (13, .bool (!r18))] 25 [some 24, some 10] rfl rfl rfl rfl rfl rfl fun G a w S => ?_
    refine sBin (iv (w64 ((p0.Right.length : Int) - 1))) S (wG 10 false 13 rfl rfl rfl hc20) rfl rfl rfl (bSub _ _ _ _ (p0.Right.length : Int) 1) rfl (lb rfl) fun a S => ?_
    exact leafL ⟨rfl, S⟩
  · refine fI 29 q40 [(24, .slice ad7 p0.Right.length cp8), (28, iv (w64 ((p0.Right.length : Int) - 1))), (13, .bool (!r18))] 26 [some 21, some 25, some 10] rfl rfl rfl rfl rfl rfl fun G a w S => ?_
    refine sIdxV (v := .slice ad7 p0.Right.length cp8) (k := .i64) (j := w64 ((p0.Right.length : Int) - 1)) S (wG 10 false 13 rfl rfl rfl hc20) rfl rfl rfl hq41 rfl (lb rfl) fun a S => ?_
    exact leafL ⟨rfl, S⟩
  · refine fI 30 q42 [(29, q40), (13, .bool (!r18))] 27 [some 26, some 10] rfl rfl rfl rfl rfl rfl fun G a w S => ?_
    refine sFldV (q := q40) S (wG 10 false 13 rfl rfl rfl hc20) rfl rfl hq43 rfl (lb rfl) fun a S => ?_
    exact leafL ⟨rfl, S⟩
  · refine fI 31 (iv x28.Y) [(30, q42), (13, .bool (!r18))] 28 [some 27, some 10] rfl rfl rfl rfl rfl rfl fun G a w S => ?_
    refine sLoadV1 (vq := q42) 0 (iv x28.Y) S (wG 10 false 13 rfl rfl rfl hc20) rfl rfl rfl rfl rfl (lb rfl) fun a S => ?_
    exact leafL ⟨rfl, S⟩
  · refine fI 32 (.bool (x21.Y != x28.Y)) [(22, iv x21.Y), (31, iv x28.Y), (13, .bool (!r18))] 29 [some 19, some 28, some 10] rfl rfl rfl rfl rfl rfl fun G a w S => ?_
    refine sBin (.bool (x21.Y != x28.Y)) S (wG 10 false 13 rfl rfl rfl hc20) rfl rfl rfl (bNe _ _ _ _ .i64 x21.Y x28.Y) rfl (lb rfl) fun a S => ?_
    exact leafL ⟨rfl, S⟩
  · refine fI 33 (.bool (x21.Y != x28.Y)) [(13, .bool (!r18)), (32, .bool (x21.Y != x28.Y))] 30 [some 10, some 29] rfl rfl rfl rfl rfl rfl fun G a w S => ?_
    refine sPickF (.bool (x21.Y != x28.Y)) S (wN rfl) rfl rfl hc20 rfl rfl (lb rfl) fun a S => ?_
    exact leafL ⟨rfl, S⟩
  exact leafT (⟨x21.Y != x28.Y, Option.some.inj h, S.fix [] [] (by decide) rfl rfl rfl⟩)

end Go.Proofs.YtmedbnjhgkcndaaDoor
namespace Go.Proofs.YtmedbnjhgkcndaaDoor
open Go.RowKit
set_option linter.unusedVariables false

def anc_raddlelaw37_near_0 : List (List Nat) := [[], [], [0, 1], [0, 1, 2], [0, 1, 2, 3], [], [5], [0, 1, 2, 3, 4, 5, 6], [0, 1, 2, 3, 4, 5, 6, 7], [0, 1, 2, 3, 4, 5, 6, 7, 8], [0, 1, 2, 3, 4, 5, 6, 7, 8], [0, 1, 2, 3, 4, 5, 6, 7, 8], [0, 1, 2, 3, 4, 5, 6, 7, 8, 10, 11], [0, 1, 2, 3, 4, 5, 6, 7, 8, 10, 11, 12], [0, 1, 2, 3, 4, 5, 6, 7, 8, 10, 11, 12, 13], [0, 1, 2, 3, 4, 5, 6, 7, 8, 9, 10, 11, 12, 13, 14], [0, 1, 2, 3, 4, 5, 6, 7, 8, 9, 10, 11, 12, 13, 14, 15], [0, 1, 2, 3, 4, 5, 6, 7, 8], [0, 1, 2, 3, 4, 5, 6, 7, 8], [0, 1, 2, 3, 4, 5, 6, 7, 8, 17, 18], [0, 1, 2, 3, 4, 5, 6, 7, 8, 17, 18, 19], [0, 1, 2, 3, 4, 5, 6, 7, 8, 17, 18, 19, 20], [0, 1, 2, 3, 4, 5, 6, 7, 8, 9, 10, 11, 12, 13, 14, 15, 16, 17, 18, 19, 20, 21], [0, 1, 2, 3, 4, 5, 6, 7, 8, 9, 10, 11, 12, 13, 14, 15, 16, 17, 18, 19, 20, 21, 22]]
def anc_raddlelaw37_near_1 : List (List Nat) := [[], [], [1], [0, 1, 2], [0, 1, 2, 3], [], [], [5, 6], [5, 6, 7], [], [], [0, 1, 2, 3, 4, 9, 10], [0, 1, 2, 3, 4, 5, 6, 7, 8, 9, 10, 11]]
def anc_raddlelaw37_near_2 : List (List Nat) := [[], [0], [], [2], [0, 1, 2, 3], [], [], [5, 6], [5, 6, 7], [], [9], [5, 6, 7, 8, 9, 10], [0, 1, 2, 3, 4, 5, 6, 7, 8, 9, 10, 11], [], [13], [], [15], [13, 14, 15, 16], [], [], [19], [18, 19, 20], [13, 14, 15, 16, 17, 18, 19, 20, 21], [0, 1, 2, 3, 4, 5, 6, 7, 8, 9, 10, 11, 12, 13, 14, 15, 16, 17, 18, 19, 20, 21, 22], [0, 1, 2, 3, 4, 5, 6, 7, 8, 9, 10, 11, 12, 13, 14, 15, 16, 17, 18, 19, 20, 21, 22, 23]]
noncomputable def raddlelaw37_near_l1 (o78 : Int) (p0 : (List Int)) (o76 : Int) (o75 : Int) (o77 : Int) : Int → Option (Int ⊕ (Bool ⊕ Unit)) := fun s0 => match s0 with
  | s104 =>
    if decide (s104 ≤ o78) then
      Option.bind (idxO p0 s104) fun x113 =>
      if decide ((w64 (o78 - o76)) < (w64 (2 * (if (w64 ((w64 ((w64 (o78 - o76)) * (w64 (x113 - o75)))) - (w64 ((w64 (o77 - o75)) * (w64 (s104 - o76)))))) < (w64 (0 - (w64 ((w64 ((w64 (o78 - o76)) * (w64 (x113 - o75)))) - (w64 ((w64 (o77 - o75)) * (w64 (s104 - o76)))))))) then w64 (0 - (w64 ((w64 ((w64 (o78 - o76)) * (w64 (x113 - o75)))) - (w64 ((w64 (o77 - o75)) * (w64 (s104 - o76))))))) else w64 ((w64 ((w64 (o78 - o76)) * (w64 (x113 - o75)))) - (w64 ((w64 (o77 - o75)) * (w64 (s104 - o76))))))))) then
        some (.inr (.inl false))
      else
        some (.inl (w64 (s104 + 1)))
    else
      some (.inr (.inr ()))
noncomputable def raddlelaw37_near_l2 (p1 : (List api_Point)) (p0 : (List Int)) : Int → Option (Int ⊕ (Bool ⊕ Unit)) := fun s0 => match s0 with
  | s9 =>
    if decide (s9 < (p1.length : Int)) then
      Option.bind (α := Unit ⊕ Bool) (
        Option.bind (α := Bool) (
          Option.bind (idxO p1 s9) fun x22 =>
          if decide ((p0.length : Int) ≤ x22.Y) then
            some true
          else
            Option.bind (idxO p0 x22.Y) fun x40 =>
            some (x40 != x22.X)) fun o19 =>
        if o19 then
          some (.inr false)
        else
          if s9 == 0 then
            some (.inl ())
          else
            Option.bind (α := (Int × Int × Int × Int)) (
              Option.bind (idxO p1 (w64 (s9 - 1))) fun x81 =>
              Option.bind (idxO p1 s9) fun x86 =>
              some (x81.X, x81.Y, x86.X, x86.Y)) fun (o75, o76, o77, o78) =>
            Option.bind (whileO (raddlelaw37_near_l1 o78 p0 o76 o75 o77) o76) fun z0 => match z0 with
              | .inl z =>
                some (.inr z)
              | .inr _ =>
                some (.inl ())) fun z0 => match z0 with
        | .inl _ =>
          some (.inl (w64 (s9 + 1)))
        | .inr z =>
          some (.inr (.inl z))
    else
      some (.inr (.inr ()))
noncomputable def F_raddlelaw37_near (p0 : (List Int)) (p1 : (List api_Point)) : Option Bool :=
  Option.bind (α := Unit ⊕ Bool) (
    Option.bind (whileO (raddlelaw37_near_l2 p1 p0) 0) fun z0 => match z0 with
      | .inl z =>
        some (.inr z)
      | .inr _ =>
        some (.inl ())) fun z0 => match z0 with
    | .inl _ =>
      some true
    | .inr z =>
      some z
set_option maxHeartbeats 4000000 in
set_option maxRecDepth 100000 in
theorem c_raddlelaw37_near (E : Nat → Prop) (w0 : World) (p0 : (List Int)) (v0 : Value) (p1 : (List api_Point)) (v1 : Value) (r : Bool) (h : F_raddlelaw37_near p0 p1 = some r) (S : St0 E [] w0 w0 [] [fRep (rL (rI .i64)) (v0) p0, fRep (rL r_api_Point) (v1) p1]) :
    Calls Tryd.prog 14 #[v0, v1] w0 (Ret (X := Unit) E [] w0 (fun _ => .bool r) (fun _ => []) (fun _ => [])) := by
  unfold F_raddlelaw37_near at h
  obtain ⟨ad1, cp2, _, rfl, _⟩ := S.know (i := 0) (e := fRep (rL (rI .i64)) (v0) p0) rfl
  obtain ⟨ad3, cp4, _, rfl, _⟩ := S.know (i := 1) (e := fRep (rL r_api_Point) (v1) p1) rfl
  refine sEnter (args := [.slice ad1 p0.length cp2, .slice ad3 p1.length cp4]) 94 Tryd.func14 rfl rfl (by simp) S (fun a S => ?_)
  refine sSeq (fun K5 hK5 => ?_)
  refine sRegion ?_
  refine sMove (.bool false) S (wN rfl) (.inr rfl) rfl rfl (lb rfl) fun a S => ?_
  refine leafL (leafT (hK5 _ _ ?_))
  obtain ⟨t6, h, g7⟩ := bindSome h
  refine sCut (fun a w => .inl () = t6 ∧ St [] E [] w0 94 a w [] [] []) ?_ (fun a w hI => ?_)
  rotate_left
  · obtain ⟨rfl, S⟩ := hI
    have h := g7
    clear g7
    try dsimp only at h
    refine sSeq (fun K124 hK124 => ?_)
    refine sRegion ?_
    refine sMove (.bool true) S (wN rfl) (.inr rfl) rfl rfl (lb rfl) fun a S => ?_
    refine leafL (leafT (hK124 _ _ ?_))
    obtain rfl := Option.some.inj h
    exact wp_ret (sRet (.bool true) S (rsl1 rfl (rvT (t := 4) (v := .bool true) S rfl)) ⟨(), rfl, S.mem.sel [] [] (by decide) rfl rfl⟩)
  refine sSeq (fun K8 hK8 => ?_)
  refine sRegion ?_
  refine sMove (iv 0) S (wN rfl) (.inr rfl) rfl rfl (lb rfl) fun a S => ?_
  refine leafL (leafT (hK8 _ _ ?_))
  refine wp_block ?_
  obtain ⟨t12, hl, g11⟩ := bindSome h
  refine sLoop hl (fun s0 a w => match s0 with | s9 => St [] E [] w0 94 a w [(0, .slice ad1 p0.length cp2), (1, .slice ad3 p1.length cp4), (5, iv s9)] [] [fRep (rL (rI .i64)) (.slice ad1 p0.length cp2) p0, fRep (rL r_api_Point) (.slice ad3 p1.length cp4) p1]) (S.fix [] [0, 1] (by decide) rfl rfl rfl) ?_
  clear hl h
  intro s9 a w c0 hI h hu10
  unfold raddlelaw37_near_l2 at h
  dsimp only at h hI
  have S := hI
  refine sSeq (fun K13 hK13 => ?_)
  refine sSeq (fun K14 hK14 => ?_)
  refine sRegion ?_
  refine sMove (iv s9) S (wN rfl) (.inl rfl) rfl rfl (lb rfl) fun a S => ?_
  refine sMove (.slice ad3 p1.length cp4) S (wN rfl) (.inl rfl) rfl rfl (lb rfl) fun a S => ?_
  refine sLen (ad := ad3) (m := p1.length) (c := cp4) S (wN rfl) rfl Tryd.underlying22 rfl rfl (lb rfl) fun a S => ?_
  refine sBin (.bool (decide (s9 < (p1.length : Int)))) S (wN rfl) rfl rfl rfl (bLt _ _ _ _ .i64 s9 (p1.length : Int)) rfl (lb rfl) fun a S => ?_
  refine leafL (leafT (hK14 _ _ ?_))
  rcases iteSome h with ⟨hc15, h⟩ | ⟨hc15, h⟩
  rotate_left
  · refine sCondF S rfl hc15 ?_
    obtain rfl := Option.some.inj h
    obtain rfl := hu10 _ rfl
    have h := g11
    clear g11
    try dsimp only at h
    exact wp_exit (xThen (xThen (xHit (leafT (⟨Option.some.inj h, S.fix [] [] (by decide) rfl rfl rfl⟩)))))
  refine sCondT S rfl hc15 ?_
  refine wp_skip (leafT (hK13 _ _ ?_))
  obtain ⟨t16, h, g17⟩ := bindSome h
  refine sCut (fun a w => .inl () = t16 ∧ St [] E [] w0 94 a w [(0, .slice ad1 p0.length cp2), (1, .slice ad3 p1.length cp4), (5, iv s9)] [] [fRep (rL (rI .i64)) (.slice ad1 p0.length cp2) p0, fRep (rL r_api_Point) (.slice ad3 p1.length cp4) p1]) ?_ (fun a w hI => ?_)
  rotate_left
  · obtain ⟨rfl, S⟩ := hI
    have h := g17
    clear g17
    try dsimp only at h
    refine sRegion ?_
    refine sMove (iv s9) S (wN rfl) (.inl rfl) rfl rfl (lb rfl) fun a S => ?_
    refine sBin (iv (w64 (s9 + 1))) S (wN rfl) rfl rfl rfl (bAdd _ _ _ _ s9 1) rfl (lb rfl) fun a S => ?_
    refine sMove (iv (w64 (s9 + 1))) S (wN rfl) (.inr rfl) rfl rfl (lb rfl) fun a S => ?_
    exact leafL (leafT (⟨w64 (s9 + 1), (Option.some.inj h).symm, (S.fix [] [0, 1] (by decide) rfl rfl rfl)⟩))
  refine wp_block ?_
  refine sSeq (fun K18 hK18 => ?_)
  obtain ⟨t20, h, g21⟩ := bindSome h
  refine sCut (fun a w => ∃ o19, o19 = t20 ∧ St [] E [] w0 94 a w [(0, .slice ad1 p0.length cp2), (1, .slice ad3 p1.length cp4), (5, iv s9), (39, .bool o19)] [] [fRep (rL (rI .i64)) (.slice ad1 p0.length cp2) p0, fRep (rL r_api_Point) (.slice ad3 p1.length cp4) p1]) ?_ (fun a w hI => ?_)
  · obtain ⟨x22, hx23, h⟩ := bindSome h
    rcases iteSome h with ⟨hc29, h⟩ | ⟨hc29, h⟩
    · obtain ⟨q30, hq31, S⟩ := pIdx (P := Tryd.prog) (r := r_api_Point) (v := .slice ad3 p1.length cp4) (xs := p1) (j := s9) 22 35 1 S Tryd.underlying22 rfl rfl hx23
      obtain ⟨q32, hq33, S⟩ := pFld (P := Tryd.prog) (r := r_api_Point) (s2 := (rI .i64)) (g := (·.Y)) (q := q30) (z := x22) 35 1 0 1 S rfl rfl comp_api_Point_Y
      obtain ⟨u34, S⟩ := pLoad (r := (rI .i64)) (q := q32) (x := x22.Y) 0 S rfl
      obtain rfl : u34 = iv x22.Y := S.mem.know (i := 1) (e := fRep (rI .i64) (u34) x22.Y) rfl
      refine sDraw (nf := []) (W := [(0, 16, .slice ad3 p1.length cp4), (1, 17, iv s9), (2, 18, q30), (3, 19, q32), (4, 20, iv x22.Y), (5, 21, .slice ad1 p0.length cp2), (6, 22, iv (p0.length : Int)), (7, 23, .bool (decide ((p0.length : Int) ≤ x22.Y))), (8, 24, .bool (decide ((p0.length : Int) ≤ x22.Y))), (9, 25, undef), (10, 26, undef), (11, 27, undef), (12, 28, undef), (13, 29, undef), (14, 30, undef), (15, 31, undef), (16, 32, undef), (17, 33, undef), (18, 34, undef), (19, 35, undef), (20, 36, undef), (21, 37, undef), (22, 38, undef), (23, 39, .bool true)]) rfl S ?_
      refine node_by (A := anc_raddlelaw37_near_0) (nf := []) (Y := []) (W := [(0, 16, .slice ad3 p1.length cp4), (1, 17, iv s9), (2, 18, q30), (3, 19, q32), (4, 20, iv x22.Y), (5, 21, .slice ad1 p0.length cp2), (6, 22, iv (p0.length : Int)), (7, 23, .bool (decide ((p0.length : Int) ≤ x22.Y))), (8, 24, .bool (decide ((p0.length : Int) ≤ x22.Y))), (9, 25, undef), (10, 26, undef), (11, 27, undef), (12, 28, undef), (13, 29, undef), (14, 30, undef), (15, 31, undef), (16, 32, undef), (17, 33, undef), (18, 34, undef), (19, 35, undef), (20, 36, undef), (21, 37, undef), (22, 38, undef), (23, 39, .bool true)]) 24 (by kernel_rfl) (by kernel_rfl) (by kernel_rfl) (by kernel_rfl) (by kernel_rfl) [0, 1, 2, 3, 4, 5, 6, 7, 8, 9, 10, 11, 12, 13, 14, 15, 16, 17, 18, 19, 20, 21, 22, 23] (by kernel_rfl) (by decide) (by decide) (aF 0 23 (by decide) ?_ (aF 1 22 (by decide) ?_ (aF 2 21 (by decide) ?_ (aF 3 20 (by decide) ?_ (aF 4 19 (by decide) ?_ (aF 5 18 (by decide) ?_ (aF 6 17 (by decide) ?_ (aF 7 16 (by decide) ?_ (aF 8 15 (by decide) ?_ (aF 9 14 (by decide) ?_ (aF 10 13 (by decide) ?_ (aF 11 12 (by decide) ?_ (aF 12 11 (by decide) ?_ (aF 13 10 (by decide) ?_ (aF 14 9 (by decide) ?_ (aF 15 8 (by decide) ?_ (aF 16 7 (by decide) ?_ (aF 17 6 (by decide) ?_ (aF 18 5 (by decide) ?_ (aF 19 4 (by decide) ?_ (aF 20 3 (by decide) ?_ (aF 21 2 (by decide) ?_ (aF 22 1 (by decide) ?_ (aF 23 0 (by decide) ?_ (trivial))))))))))))))))))))))))) [(0, .slice ad1 p0.length cp2), (1, .slice ad3 p1.length cp4), (5, iv s9), (25, undef), (26, undef), (27, undef), (28, undef), (29, undef), (30, undef), (31, undef), (32, undef), (33, undef), (34, undef), (35, undef), (36, undef), (37, undef), (38, undef), (39, .bool true)] (fin_of [none, none, none, some 9, some 10, some 11, some 12, some 13, some 14, some 15, some 16, some 17, some 18, some 19, some 20, some 21, some 22, some 23] rfl (by kernel_rfl) (by kernel_rfl)) (fun _ a w S => ?_)
      · refine fI 16 (.slice ad3 p1.length cp4) [(1, .slice ad3 p1.length cp4)] 0 [none] rfl rfl rfl rfl rfl rfl fun G a w S => ?_
        refine sMove (.slice ad3 p1.length cp4) S (wN rfl) (.inl rfl) rfl rfl (lb rfl) fun a S => ?_
        exact leafL ⟨rfl, S⟩
      · refine fI 17 (iv s9) [(5, iv s9)] 1 [none] rfl rfl rfl rfl rfl rfl fun G a w S => ?_
        refine sMove (iv s9) S (wN rfl) (.inl rfl) rfl rfl (lb rfl) fun a S => ?_
        exact leafL ⟨rfl, S⟩
      · refine fI 18 q30 [(16, .slice ad3 p1.length cp4), (17, iv s9)] 2 [some 0, some 1] rfl rfl rfl rfl rfl rfl fun G a w S => ?_
        refine sIdxV (v := .slice ad3 p1.length cp4) (k := .i64) (j := s9) S (wN rfl) rfl rfl rfl hq31 rfl (lb rfl) fun a S => ?_
        exact leafL ⟨rfl, S⟩
      · refine fI 19 q32 [(18, q30)] 3 [some 2] rfl rfl rfl rfl rfl rfl fun G a w S => ?_
        refine sFldV (q := q30) S (wN rfl) rfl rfl hq33 rfl (lb rfl) fun a S => ?_
        exact leafL ⟨rfl, S⟩
      · refine fI 20 (iv x22.Y) [(19, q32)] 4 [some 3] rfl rfl rfl rfl rfl rfl fun G a w S => ?_
        refine sLoadV1 (vq := q32) 0 (iv x22.Y) S (wN rfl) rfl rfl rfl rfl rfl (lb rfl) fun a S => ?_
        exact leafL ⟨rfl, S⟩
      · refine fI 21 (.slice ad1 p0.length cp2) [(0, .slice ad1 p0.length cp2)] 5 [none] rfl rfl rfl rfl rfl rfl fun G a w S => ?_
        refine sMove (.slice ad1 p0.length cp2) S (wN rfl) (.inl rfl) rfl rfl (lb rfl) fun a S => ?_
        exact leafL ⟨rfl, S⟩
      · refine fI 22 (iv (p0.length : Int)) [(21, .slice ad1 p0.length cp2)] 6 [some 5] rfl rfl rfl rfl rfl rfl fun G a w S => ?_
        refine sLen (ad := ad1) (m := p0.length) (c := cp2) S (wN rfl) rfl Tryd.underlying28 rfl rfl (lb rfl) fun a S => ?_
        exact leafL ⟨rfl, S⟩
      · refine fI 23 (.bool (decide ((p0.length : Int) ≤ x22.Y))) [(20, iv x22.Y), (22, iv (p0.length : Int))] 7 [some 4, some 6] rfl rfl rfl rfl rfl rfl fun G a w S => ?_
        refine sBin (.bool (decide ((p0.length : Int) ≤ x22.Y))) S (wN rfl) rfl rfl rfl (bGe _ _ _ _ .i64 x22.Y (p0.length : Int)) rfl (lb rfl) fun a S => ?_
        exact leafL ⟨rfl, S⟩
      · refine fI 24 (.bool (decide ((p0.length : Int) ≤ x22.Y))) [(23, .bool (decide ((p0.length : Int) ≤ x22.Y)))] 8 [some 7] rfl rfl rfl rfl rfl rfl fun G a w S => ?_
        refine sMove (.bool (decide ((p0.length : Int) ≤ x22.Y))) S (wN rfl) (.inl rfl) rfl rfl (lb rfl) fun a S => ?_
        exact leafL ⟨rfl, S⟩
      · refine fI 25 undef [(0, .slice ad1 p0.length cp2), (24, .bool (decide ((p0.length : Int) ≤ x22.Y)))] 9 [none, some 8] rfl rfl rfl rfl rfl rfl fun G a w S => ?_
        refine sSkip 8 false 24 25 S rfl rfl rfl hc29 rfl (lb rfl) fun a S => ?_
        exact leafL ⟨rfl, S⟩
      · refine fI 26 undef [(1, .slice ad3 p1.length cp4), (24, .bool (decide ((p0.length : Int) ≤ x22.Y)))] 10 [none, some 8] rfl rfl rfl rfl rfl rfl fun G a w S => ?_
        refine sSkip 8 false 24 26 S rfl rfl rfl hc29 rfl (lb rfl) fun a S => ?_
        exact leafL ⟨rfl, S⟩
      · refine fI 27 undef [(5, iv s9), (24, .bool (decide ((p0.length : Int) ≤ x22.Y)))] 11 [none, some 8] rfl rfl rfl rfl rfl rfl fun G a w S => ?_
        refine sSkip 8 false 24 27 S rfl rfl rfl hc29 rfl (lb rfl) fun a S => ?_
        exact leafL ⟨rfl, S⟩
      · refine fI 28 undef [(26, undef), (27, undef), (24, .bool (decide ((p0.length : Int) ≤ x22.Y)))] 12 [some 10, some 11, some 8] rfl rfl rfl rfl rfl rfl fun G a w S => ?_
        refine sSkip 8 false 24 28 S rfl rfl rfl hc29 rfl (lb rfl) fun a S => ?_
        exact leafL ⟨rfl, S⟩
      · refine fI 29 undef [(28, undef), (24, .bool (decide ((p0.length : Int) ≤ x22.Y)))] 13 [some 12, some 8] rfl rfl rfl rfl rfl rfl fun G a w S => ?_
        refine sSkip 8 false 24 29 S rfl rfl rfl hc29 rfl (lb rfl) fun a S => ?_
        exact leafL ⟨rfl, S⟩
      · refine fI 30 undef [(29, undef), (24, .bool (decide ((p0.length : Int) ≤ x22.Y)))] 14 [some 13, some 8] rfl rfl rfl rfl rfl rfl fun G a w S => ?_
        refine sSkip 8 false 24 30 S rfl rfl rfl hc29 rfl (lb rfl) fun a S => ?_
        exact leafL ⟨rfl, S⟩
      · refine fI 31 undef [(25, undef), (30, undef), (24, .bool (decide ((p0.length : Int) ≤ x22.Y)))] 15 [some 9, some 14, some 8] rfl rfl rfl rfl rfl rfl fun G a w S => ?_
        refine sSkip 8 false 24 31 S rfl rfl rfl hc29 rfl (lb rfl) fun a S => ?_
        exact leafL ⟨rfl, S⟩
      · refine fI 32 undef [(31, undef), (24, .bool (decide ((p0.length : Int) ≤ x22.Y)))] 16 [some 15, some 8] rfl rfl rfl rfl rfl rfl fun G a w S => ?_
        refine sSkip 8 false 24 32 S rfl rfl rfl hc29 rfl (lb rfl) fun a S => ?_
        exact leafL ⟨rfl, S⟩
      · refine fI 33 undef [(1, .slice ad3 p1.length cp4), (24, .bool (decide ((p0.length : Int) ≤ x22.Y)))] 17 [none, some 8] rfl rfl rfl rfl rfl rfl fun G a w S => ?_
        refine sSkip 8 false 24 33 S rfl rfl rfl hc29 rfl (lb rfl) fun a S => ?_
        exact leafL ⟨rfl, S⟩
      · refine fI 34 undef [(5, iv s9), (24, .bool (decide ((p0.length : Int) ≤ x22.Y)))] 18 [none, some 8] rfl rfl rfl rfl rfl rfl fun G a w S => ?_
        refine sSkip 8 false 24 34 S rfl rfl rfl hc29 rfl (lb rfl) fun a S => ?_
        exact leafL ⟨rfl, S⟩
      · refine fI 35 undef [(33, undef), (34, undef), (24, .bool (decide ((p0.length : Int) ≤ x22.Y)))] 19 [some 17, some 18, some 8] rfl rfl rfl rfl rfl rfl fun G a w S => ?_
        refine sSkip 8 false 24 35 S rfl rfl rfl hc29 rfl (lb rfl) fun a S => ?_
        exact leafL ⟨rfl, S⟩
      · refine fI 36 undef [(35, undef), (24, .bool (decide ((p0.length : Int) ≤ x22.Y)))] 20 [some 19, some 8] rfl rfl rfl rfl rfl rfl fun G a w S => ?_
        refine sSkip 8 false 24 36 S rfl rfl rfl hc29 rfl (lb rfl) fun a S => ?_
        exact leafL ⟨rfl, S⟩
      · refine fI 37 undef [(36, undef), (24, .bool (decide ((p0.length : Int) ≤ x22.Y)))] 21 [some 20, some 8] rfl rfl rfl rfl rfl rfl fun G a w S => ?_
        refine sSkip 8 false 24 37 S rfl rfl rfl hc29 rfl (lb rfl) fun a S => ?_
        exact leafL ⟨rfl, S⟩
      · refine fI 38 undef [(32, undef), (37, undef), (24, .bool (decide ((p0.length : Int) ≤ x22.Y)))] 22 [some 16, some 21, some 8] rfl rfl rfl rfl rfl rfl fun G a w S => ?_
        refine sSkip 8 false 24 38 S rfl rfl rfl hc29 rfl (lb rfl) fun a S => ?_
        exact leafL ⟨rfl, S⟩
      · refine fI 39 (.bool true) [(24, .bool (decide ((p0.length : Int) ≤ x22.Y))), (38, undef)] 23 [some 8, some 22] rfl rfl rfl rfl rfl rfl fun G a w S => ?_
        refine sPickT (.bool true) S (wN rfl) rfl rfl hc29 rfl rfl (lb rfl) fun a S => ?_
        exact leafL ⟨rfl, S⟩
      exact leafT (⟨true, Option.some.inj h, S.fix [] [4, 5] (by decide) rfl rfl rfl⟩)
    obtain ⟨x40, hx41, h⟩ := bindSome h
    obtain ⟨q50, hq51, S⟩ := pIdx (P := Tryd.prog) (r := r_api_Point) (v := .slice ad3 p1.length cp4) (xs := p1) (j := s9) 22 35 1 S Tryd.underlying22 rfl rfl hx23
    obtain ⟨q52, hq53, S⟩ := pFld (P := Tryd.prog) (r := r_api_Point) (s2 := (rI .i64)) (g := (·.Y)) (q := q50) (z := x22) 35 1 0 1 S rfl rfl comp_api_Point_Y
    obtain ⟨u54, S⟩ := pLoad (r := (rI .i64)) (q := q52) (x := x22.Y) 0 S rfl
    obtain rfl : u54 = iv x22.Y := S.mem.know (i := 1) (e := fRep (rI .i64) (u54) x22.Y) rfl
    obtain ⟨q55, hq56, S⟩ := pIdx (P := Tryd.prog) (r := r_api_Point) (v := .slice ad3 p1.length cp4) (xs := p1) (j := s9) 22 35 5 S Tryd.underlying22 rfl rfl hx23
    obtain ⟨q57, hq58, S⟩ := pFld (P := Tryd.prog) (r := r_api_Point) (s2 := (rI .i64)) (g := (·.Y)) (q := q55) (z := x22) 35 1 0 1 S rfl rfl comp_api_Point_Y
    obtain ⟨u59, S⟩ := pLoad (r := (rI .i64)) (q := q57) (x := x22.Y) 0 S rfl
    obtain rfl : u59 = iv x22.Y := S.mem.know (i := 1) (e := fRep (rI .i64) (u59) x22.Y) rfl
    obtain ⟨q60, hq61, S⟩ := pIdx (P := Tryd.prog) (r := (rI .i64)) (v := .slice ad1 p0.length cp2) (xs := p0) (j := x22.Y) 28 3 8 S Tryd.underlying28 rfl rfl hx41
    obtain ⟨u62, S⟩ := pLoad (r := (rI .i64)) (q := q60) (x := x40) 0 S rfl
    obtain rfl : u62 = iv x40 := S.mem.know (i := 1) (e := fRep (rI .i64) (u62) x40) rfl
    obtain ⟨q63, hq64, S⟩ := pIdx (P := Tryd.prog) (r := r_api_Point) (v := .slice ad3 p1.length cp4) (xs := p1) (j := s9) 22 35 12 S Tryd.underlying22 rfl rfl hx23
    obtain ⟨q65, hq66, S⟩ := pFld (P := Tryd.prog) (r := r_api_Point) (s2 := (rI .i64)) (g := (·.X)) (q := q63) (z := x22) 35 0 0 0 S rfl rfl comp_api_Point_X
    obtain ⟨u67, S⟩ := pLoad (r := (rI .i64)) (q := q65) (x := x22.X) 0 S rfl
    obtain rfl : u67 = iv x22.X := S.mem.know (i := 1) (e := fRep (rI .i64) (u67) x22.X) rfl
    refine sDraw (nf := []) (W := [(0, 16, .slice ad3 p1.length cp4), (1, 17, iv s9), (2, 18, q50), (3, 19, q52), (4, 20, iv x22.Y), (5, 21, .slice ad1 p0.length cp2), (6, 22, iv (p0.length : Int)), (7, 23, .bool (decide ((p0.length : Int) ≤ x22.Y))), (8, 24, .bool (decide ((p0.length : Int) ≤ x22.Y))), (9, 25, .slice ad1 p0.length cp2), (10, 26, .slice ad3 p1.length cp4), (11, 27, iv s9), (12, 28, q55), (13, 29, q57), (14, 30, iv x22.Y), (15, 31, q60), (16, 32, iv x40), (17, 33, .slice ad3 p1.length cp4), (18, 34, iv s9), (19, 35, q63), (20, 36, q65), (21, 37, iv x22.X), (22, 38, .bool (x40 != x22.X)), (23, 39, .bool (x40 != x22.X))]) rfl S ?_
    refine node_by (A := anc_raddlelaw37_near_0) (nf := []) (Y := []) (W := [(0, 16, .slice ad3 p1.length cp4), (1, 17, iv s9), (2, 18, q50), (3, 19, q52), (4, 20, iv x22.Y), (5, 21, .slice ad1 p0.length cp2), (6, 22, iv (p0.length : Int)), (7, 23, .bool (decide ((p0.length : Int) ≤ x22.Y))), (8, 24, .bool (decide ((p0.length : Int) ≤ x22.Y))), (9, 25, .slice ad1 p0.length cp2), (10, 26, .slice ad3 p1.length cp4), (11, 27, iv s9), (12, 28, q55), (13, 29, q57), (14, 30, iv x22.Y), (15, 31, q60), (16, 32, iv x40), (17, 33, .slice ad3 p1.length cp4), (18, 34, iv s9), (19, 35, q63), (20, 36, q65), (21, 37, iv x22.X), (22, 38, .bool (x40 != x22.X)), (23, 39, .bool (x40 != x22.X))]) 24 (by kernel_rfl) (by kernel_rfl) (by kernel_rfl) (by kernel_rfl) (by kernel_rfl) [0, 1, 2, 3, 4, 5, 6, 7, 8, 9, 10, 11, 12, 13, 14, 15, 16, 17, 18, 19, 20, 21, 22, 23] (by kernel_rfl) (by decide) (by decide) (aF 0 23 (by decide) ?_ (aF 1 22 (by decide) ?_ (aF 2 21 (by decide) ?_ (aF 3 20 (by decide) ?_ (aF 4 19 (by decide) ?_ (aF 5 18 (by decide) ?_ (aF 6 17 (by decide) ?_ (aF 7 16 (by decide) ?_ (aF 8 15 (by decide) ?_ (aF 9 14 (by decide) ?_ (aF 10 13 (by decide) ?_ (aF 11 12 (by decide) ?_ (aF 12 11 (by decide) ?_ (aF 13 10 (by decide) ?_ (aF 14 9 (by decide) ?_ (aF 15 8 (by decide) ?_ (aF 16 7 (by decide) ?_ (aF 17 6 (by decide) ?_ (aF 18 5 (by decide) ?_ (aF 19 4 (by decide) ?_ (aF 20 3 (by decide) ?_ (aF 21 2 (by decide) ?_ (aF 22 1 (by decide) ?_ (aF 23 0 (by decide) ?_ (trivial))))))))))))))))))))))))) [(0, .slice ad1 p0.length cp2), (1, .slice ad3 p1.length cp4), (5, iv s9), (25, .slice ad1 p0.length cp2), (26, .slice ad3 p1.length cp4), (27, iv s9), (28, q55), (29, q57), (30, iv x22.Y), (31, q60), (32, iv x40), (33, .slice ad3 p1.length cp4), (34, iv s9), (35, q63), (36, q65), (37, iv x22.X), (38, .bool (x40 != x22.X)), (39, .bool (x40 != x22.X))] (fin_of [none, none, none, some 9, some 10, some 11, some 12, some 13, some 14, some 15, some 16, some 17, some 18, some 19, some 20, some 21, some 22, some 23] rfl (by kernel_rfl) (by kernel_rfl)) (fun _ a w S => ?_)
    · refine fI 16 (.slice ad3 p1.length cp4) [(1, .slice ad3 p1.length cp4)] 0 [none] rfl rfl rfl rfl rfl rfl fun G a w S => ?_
      refine sMove (.slice ad3 p1.length cp4) S (wN rfl) (.inl rfl) rfl rfl (lb rfl) fun a S => ?_
      exact leafL ⟨rfl, S⟩
    · refine fI 17 (iv s9) [(5, iv s9)] 1 [none] rfl rfl rfl rfl rfl rfl fun G a w S => ?_
      refine sMove (iv s9) S (wN rfl) (.inl rfl) rfl rfl (lb rfl) fun a S => ?_
      exact leafL ⟨rfl, S⟩
    · refine fI 18 q50 [(16, .slice ad3 p1.length cp4), (17, iv s9)] 2 [some 0, some 1] rfl rfl rfl rfl rfl rfl fun G a w S => ?_
      refine sIdxV (v := .slice ad3 p1.length cp4) (k := .i64) (j := s9) S (wN rfl) rfl rfl rfl hq51 rfl (lb rfl) fun a S => ?_
      exact leafL ⟨rfl, S⟩
    · refine fI 19 q52 [(18, q50)] 3 [some 2] rfl rfl rfl rfl rfl rfl fun G a w S => ?_
      refine sFldV (q := q50) S (wN rfl) rfl rfl hq53 rfl (lb rfl) fun a S => ?_
      exact leafL ⟨rfl, S⟩
    · refine fI 20 (iv x22.Y) [(19, q52)] 4 [some 3] rfl rfl rfl rfl rfl rfl fun G a w S => ?_
      refine sLoadV1 (vq := q52) 11 (iv x22.Y) S (wN rfl) rfl rfl rfl rfl rfl (lb rfl) fun a S => ?_
      exact leafL ⟨rfl, S⟩
    · refine fI 21 (.slice ad1 p0.length cp2) [(0, .slice ad1 p0.length cp2)] 5 [none] rfl rfl rfl rfl rfl rfl fun G a w S => ?_
      refine sMove (.slice ad1 p0.length cp2) S (wN rfl) (.inl rfl) rfl rfl (lb rfl) fun a S => ?_
      exact leafL ⟨rfl, S⟩
    · refine fI 22 (iv (p0.length : Int)) [(21, .slice ad1 p0.length cp2)] 6 [some 5] rfl rfl rfl rfl rfl rfl fun G a w S => ?_
      refine sLen (ad := ad1) (m := p0.length) (c := cp2) S (wN rfl) rfl Tryd.underlying28 rfl rfl (lb rfl) fun a S => ?_
      exact leafL ⟨rfl, S⟩
    · refine fI 23 (.bool (decide ((p0.length : Int) ≤ x22.Y))) [(20, iv x22.Y), (22, iv (p0.length : Int))] 7 [some 4, some 6] rfl rfl rfl rfl rfl rfl fun G a w S => ?_
      refine sBin (.bool (decide ((p0.length : Int) ≤ x22.Y))) S (wN rfl) rfl rfl rfl (bGe _ _ _ _ .i64 x22.Y (p0.length : Int)) rfl (lb rfl) fun a S => ?_
      exact leafL ⟨rfl, S⟩
    · refine fI 24 (.bool (decide ((p0.length : Int) ≤ x22.Y))) [(23, .bool (decide ((p0.length : Int) ≤ x22.Y)))] 8 [some 7] rfl rfl rfl rfl rfl rfl fun G a w S => ?_
      refine sMove (.bool (decide ((p0.length : Int) ≤ x22.Y))) S (wN rfl) (.inl rfl) rfl rfl (lb rfl) fun a S => ?_
      exact leafL ⟨rfl, S⟩
    · refine fI 25 (.slice ad1 p0.length cp2) [(0, .slice ad1 p0.length cp2), (24, .bool (decide ((p0.length : Int) ≤ x22.Y)))] 9 [none, some 8] rfl rfl rfl rfl rfl rfl fun G a w S => ?_
      refine sMove (.slice ad1 p0.length cp2) S (wG 8 false 24 rfl rfl rfl hc29) (.inl rfl) rfl rfl (lb rfl) fun a S => ?_
      exact leafL ⟨rfl, S⟩
    · refine fI 26 (.slice ad3 p1.length cp4) [(1, .slice ad3 p1.length cp4), (24, .bool (decide ((p0.length : Int) ≤ x22.Y)))] 10 [none, some 8] rfl rfl rfl rfl rfl rfl fun G a w S => ?_
      refine sMove (.slice ad3 p1.length cp4) S (wG 8 false 24 rfl rfl rfl hc29) (.inl rfl) rfl rfl (lb rfl) fun a S => ?_
      exact leafL ⟨rfl, S⟩
    · refine fI 27 (iv s9) [(5, iv s9), (24, .bool (decide ((p0.length : Int) ≤ x22.Y)))] 11 [none, some 8] rfl rfl rfl rfl rfl rfl fun G a w S => ?_
      refine sMove (iv s9) S (wG 8 false 24 rfl rfl rfl hc29) (.inl rfl) rfl rfl (lb rfl) fun a S => ?_
      exact leafL ⟨rfl, S⟩
    · refine fI 28 q55 [(26, .slice ad3 p1.length cp4), (27, iv s9), (24, .bool (decide ((p0.length : Int) ≤ x22.Y)))] 12 [some 10, some 11, some 8] rfl rfl rfl rfl rfl rfl fun G a w S => ?_
      refine sIdxV (v := .slice ad3 p1.length cp4) (k := .i64) (j := s9) S (wG 8 false 24 rfl rfl rfl hc29) rfl rfl rfl hq56 rfl (lb rfl) fun a S => ?_
      exact leafL ⟨rfl, S⟩
    · refine fI 29 q57 [(28, q55), (24, .bool (decide ((p0.length : Int) ≤ x22.Y)))] 13 [some 12, some 8] rfl rfl rfl rfl rfl rfl fun G a w S => ?_
      refine sFldV (q := q55) S (wG 8 false 24 rfl rfl rfl hc29) rfl rfl hq58 rfl (lb rfl) fun a S => ?_
      exact leafL ⟨rfl, S⟩
    · refine fI 30 (iv x22.Y) [(29, q57), (24, .bool (decide ((p0.length : Int) ≤ x22.Y)))] 14 [some 13, some 8] rfl rfl rfl rfl rfl rfl fun G a w S => ?_
      refine sLoadV1 (vq := q57) 7 (iv x22.Y) S (wG 8 false 24 rfl rfl rfl hc29) rfl rfl rfl rfl rfl (lb rfl) fun a S => ?_
      exact leafL ⟨rfl, S⟩
    · refine fI 31 q60 [(25, .slice ad1 p0.length cp2), (30, iv x22.Y), (24, .bool (decide ((p0.length : Int) ≤ x22.Y)))] 15 [some 9, some 14, some 8] rfl rfl rfl rfl rfl rfl fun G a w S => ?_
      refine sIdxV (v := .slice ad1 p0.length cp2) (k := .i64) (j := x22.Y) S (wG 8 false 24 rfl rfl rfl hc29) rfl rfl rfl hq61 rfl (lb rfl) fun a S => ?_
      exact leafL ⟨rfl, S⟩
    · refine fI 32 (iv x40) [(31, q60), (24, .bool (decide ((p0.length : Int) ≤ x22.Y)))] 16 [some 15, some 8] rfl rfl rfl rfl rfl rfl fun G a w S => ?_
      refine sLoadV1 (vq := q60) 4 (iv x40) S (wG 8 false 24 rfl rfl rfl hc29) rfl rfl rfl rfl rfl (lb rfl) fun a S => ?_
      exact leafL ⟨rfl, S⟩
    · refine fI 33 (.slice ad3 p1.length cp4) [(1, .slice ad3 p1.length cp4), (24, .bool (decide ((p0.length : Int) ≤ x22.Y)))] 17 [none, some 8] rfl rfl rfl rfl rfl rfl fun G a w S => ?_
      refine sMove (.slice ad3 p1.length cp4) S (wG 8 false 24 rfl rfl rfl hc29) (.inl rfl) rfl rfl (lb rfl) fun a S => ?_
      exact leafL ⟨rfl, S⟩
    · refine fI 34 (iv s9) [(5, iv s9), (24, .bool (decide ((p0.length : Int) ≤ x22.Y)))] 18 [none, some 8] rfl rfl rfl rfl rfl rfl fun G a w S => ?_
      refine sMove (iv s9) S (wG 8 false 24 rfl rfl rfl hc29) (.inl rfl) rfl rfl (lb rfl) fun a S => ?_
      exact leafL ⟨rfl, S⟩
    · refine fI 35 q63 [(33, .slice ad3 p1.length cp4), (34, iv s9), (24, .bool (decide ((p0.length : Int) ≤ x22.Y)))] 19 [some 17, some 18, some 8] rfl rfl rfl rfl rfl rfl fun G a w S => ?_
      refine sIdxV (v := .slice ad3 p1.length cp4) (k := .i64) (j := s9) S (wG 8 false 24 rfl rfl rfl hc29) rfl rfl rfl hq64 rfl (lb rfl) fun a S => ?_
      exact leafL ⟨rfl, S⟩
    · refine fI 36 q65 [(35, q63), (24, .bool (decide ((p0.length : Int) ≤ x22.Y)))] 20 [some 19, some 8] rfl rfl rfl rfl rfl rfl fun G a w S => ?_
      refine sFldV (q := q63) S (wG 8 false 24 rfl rfl rfl hc29) rfl rfl hq66 rfl (lb rfl) fun a S => ?_
      exact leafL ⟨rfl, S⟩
    · refine fI 37 (iv x22.X) [(36, q65), (24, .bool (decide ((p0.length : Int) ≤ x22.Y)))] 21 [some 20, some 8] rfl rfl rfl rfl rfl rfl fun G a w S => ?_
      refine sLoadV1 (vq := q65) 0 (iv x22.X) S (wG 8 false 24 rfl rfl rfl hc29) rfl rfl rfl rfl rfl (lb rfl) fun a S => ?_
      exact leafL ⟨rfl, S⟩
    · refine fI 38 (.bool (x40 != x22.X)) [(32, iv x40), (37, iv x22.X), (24, .bool (decide ((p0.length : Int) ≤ x22.Y)))] 22 [some 16, some 21, some 8] rfl rfl rfl rfl rfl rfl fun G a w S => ?_
      refine sBin (.bool (x40 != x22.X)) S (wG 8 false 24 rfl rfl rfl hc29) rfl rfl rfl (bNe _ _ _ _ .i64 x40 x22.X) rfl (lb rfl) fun a S => ?_
      exact leafL ⟨rfl, S⟩
    · refine fI 39 (.bool (x40 != x22.X)) [(24, .bool (decide ((p0.length : Int) ≤ x22.Y))), (38, .bool (x40 != x22.X))] 23 [some 8, some 22] rfl rfl rfl rfl rfl rfl fun G a w S => ?_
      refine sPickF (.bool (x40 != x22.X)) S (wN rfl) rfl rfl hc29 rfl rfl (lb rfl) fun a S => ?_
      exact leafL ⟨rfl, S⟩
    exact leafT (⟨x40 != x22.X, Option.some.inj h, S.fix [] [15, 16] (by decide) rfl rfl rfl⟩)
  obtain ⟨o19, rfl, S⟩ := hI
  have h := g21
  clear g21
  try dsimp only at h
  rcases iteSome h with ⟨hc68, h⟩ | ⟨hc68, h⟩
  · refine sCondT S rfl hc68 ?_
    refine sSeq (fun K69 hK69 => ?_)
    refine sRegion ?_
    refine sMove (.bool false) S (wN rfl) (.inr rfl) rfl rfl (lb rfl) fun a S => ?_
    refine leafL (leafT (hK69 _ _ ?_))
    obtain rfl := Option.some.inj h
    have h := g17
    clear g17
    try dsimp only at h
    obtain rfl := Option.some.inj h
    obtain rfl := hu10 _ rfl
    have h := g11
    clear g11
    try dsimp only at h
    obtain rfl := Option.some.inj h
    have h := g7
    clear g7
    try dsimp only at h
    obtain rfl := Option.some.inj h
    exact wp_ret (rThen (rBlock (rThen (rThen (rBlock (rThen (sRet (.bool false) S (rsl1 rfl (rvT (t := 4) (v := .bool false) S rfl)) ⟨(), rfl, S.mem.sel [] [] (by decide) rfl rfl⟩)))))))
  refine sCondF S rfl hc68 ?_
  refine wp_skip (leafT (hK18 _ _ ?_))
  refine sSeq (fun K70 hK70 => ?_)
  refine sSeq (fun K71 hK71 => ?_)
  refine sRegion ?_
  refine sMove (iv s9) S (wN rfl) (.inl rfl) rfl rfl (lb rfl) fun a S => ?_
  refine sBin (.bool (s9 == 0)) S (wN rfl) rfl rfl rfl (bEq _ _ _ _ .i64 s9 0) rfl (lb rfl) fun a S => ?_
  refine leafL (leafT (hK71 _ _ ?_))
  rcases iteSome h with ⟨hc72, h⟩ | ⟨hc72, h⟩
  · refine sCondT S rfl hc72 ?_
    exact wp_exit (xThen (xHit (leafT (⟨Option.some.inj h, S.fix [] [0, 1] (by decide) rfl rfl rfl⟩))))
  refine sCondF S rfl hc72 ?_
  refine wp_skip (leafT (hK70 _ _ ?_))
  obtain ⟨t79, h, g80⟩ := bindSome h
  refine sCut (fun a w => ∃ o75, ∃ o76, ∃ o77, ∃ o78, (o75, o76, o77, o78) = t79 ∧ ∃ b73, ∃ b74, St [] E [] w0 94 a w [(0, .slice ad1 p0.length cp2), (1, .slice ad3 p1.length cp4), (5, iv s9), (6, .pointer (some ⟨b73, 0, none⟩)), (7, .pointer (some ⟨b74, 0, none⟩))] [eBox b73 35 [iv o75, iv o76], eBox b74 35 [iv o77, iv o78]] [fRep (rL (rI .i64)) (.slice ad1 p0.length cp2) p0, fRep (rL r_api_Point) (.slice ad3 p1.length cp4) p1]) ?_ (fun a w hI => ?_)
  rotate_left
  · obtain ⟨o75, o76, o77, o78, rfl, b73, b74, S⟩ := hI
    have h := g80
    clear g80
    try dsimp only at h
    refine sSeq (fun K103 hK103 => ?_)
    refine sRegion ?_
    refine sField (b := b73) (off := 0) 1 1 S (wN rfl) rfl rfl rfl rfl rfl (lb rfl) fun a S => ?_
    refine sLoad1 (p := b73) (off := 1) (T := 35) (vs := [iv o75, iv o76]) 0 (iv o76) S (wN rfl) rfl rfl rfl rfl rfl rfl (lb rfl) fun a S => ?_
    refine sMove (iv o76) S (wN rfl) (.inr rfl) rfl rfl (lb rfl) fun a S => ?_
    refine leafL (leafT (hK103 _ _ ?_))
    refine wp_block ?_
    obtain ⟨t107, hl, g106⟩ := bindSome h
    refine sLoop hl (fun s0 a w => match s0 with | s104 => St [] E [] w0 94 a w [(0, .slice ad1 p0.length cp2), (1, .slice ad3 p1.length cp4), (5, iv s9), (6, .pointer (some ⟨b73, 0, none⟩)), (7, .pointer (some ⟨b74, 0, none⟩)), (8, iv s104)] [eBox b73 35 [iv o75, iv o76], eBox b74 35 [iv o77, iv o78]] [fRep (rL (rI .i64)) (.slice ad1 p0.length cp2) p0, fRep (rL r_api_Point) (.slice ad3 p1.length cp4) p1]) (S.fix [0, 1] [0, 1] (by decide) rfl rfl rfl) ?_
    clear hl h
    intro s104 a w c0 hI h hu105
    unfold raddlelaw37_near_l1 at h
    dsimp only at h hI
    have S := hI
    refine sSeq (fun K108 hK108 => ?_)
    refine sSeq (fun K109 hK109 => ?_)
    refine sRegion ?_
    refine sMove (iv s104) S (wN rfl) (.inl rfl) rfl rfl (lb rfl) fun a S => ?_
    refine sField (b := b74) (off := 0) 1 1 S (wN rfl) rfl rfl rfl rfl rfl (lb rfl) fun a S => ?_
    refine sLoad1 (p := b74) (off := 1) (T := 35) (vs := [iv o77, iv o78]) 1 (iv o78) S (wN rfl) rfl rfl rfl rfl rfl rfl (lb rfl) fun a S => ?_
    refine sBin (.bool (decide (s104 ≤ o78))) S (wN rfl) rfl rfl rfl (bLe _ _ _ _ .i64 s104 o78) rfl (lb rfl) fun a S => ?_
    refine leafL (leafT (hK109 _ _ ?_))
    rcases iteSome h with ⟨hc110, h⟩ | ⟨hc110, h⟩
    rotate_left
    · refine sCondF S rfl hc110 ?_
      obtain rfl := Option.some.inj h
      obtain rfl := hu105 _ rfl
      have h := g106
      clear g106
      try dsimp only at h
      exact wp_exit (xThen (xThen (xHit (leafB (leafT (⟨Option.some.inj h, S.fix [] [0, 1] (by decide) rfl rfl rfl⟩))))))
    refine sCondT S rfl hc110 ?_
    refine wp_skip (leafT (hK108 _ _ ?_))
    refine sSeq (fun K111 hK111 => ?_)
    refine wp_block ?_
    refine sSeq (fun K112 hK112 => ?_)
    obtain ⟨x113, hx114, h⟩ := bindSome h
    obtain ⟨q118, hq119, S⟩ := pIdx (P := Tryd.prog) (r := (rI .i64)) (v := .slice ad1 p0.length cp2) (xs := p0) (j := s104) 28 3 0 S Tryd.underlying28 rfl rfl hx114
    obtain ⟨u120, S⟩ := pLoad (r := (rI .i64)) (q := q118) (x := x113) 0 S rfl
    obtain rfl : u120 = iv x113 := S.mem.know (i := 1) (e := fRep (rI .i64) (u120) x113) rfl
    refine sDraw (nf := []) (W := [(0, 59, .pointer (some ⟨b74, 1, none⟩)), (1, 60, iv o78), (2, 61, .pointer (some ⟨b73, 1, none⟩)), (3, 62, iv o76), (4, 63, iv (w64 (o78 - o76))), (5, 64, .slice ad1 p0.length cp2), (6, 65, iv s104), (7, 66, q118), (8, 67, iv x113), (9, 68, .pointer (some ⟨b73, 0, none⟩)), (10, 69, iv o75), (11, 70, iv (w64 (x113 - o75))), (12, 71, iv (w64 ((w64 (o78 - o76)) * (w64 (x113 - o75))))), (13, 72, .pointer (some ⟨b74, 0, none⟩)), (14, 73, iv o77), (15, 74, .pointer (some ⟨b73, 0, none⟩)), (16, 75, iv o75), (17, 76, iv (w64 (o77 - o75))), (18, 77, iv s104), (19, 78, .pointer (some ⟨b73, 1, none⟩)), (20, 79, iv o76), (21, 80, iv (w64 (s104 - o76))), (22, 81, iv (w64 ((w64 (o77 - o75)) * (w64 (s104 - o76))))), (23, 82, iv (w64 ((w64 ((w64 (o78 - o76)) * (w64 (x113 - o75)))) - (w64 ((w64 (o77 - o75)) * (w64 (s104 - o76))))))), (24, 9, iv (w64 ((w64 ((w64 (o78 - o76)) * (w64 (x113 - o75)))) - (w64 ((w64 (o77 - o75)) * (w64 (s104 - o76)))))))]) rfl S ?_
    refine node_by (A := anc_raddlelaw37_near_2) (nf := []) (Y := []) (W := [(0, 59, .pointer (some ⟨b74, 1, none⟩)), (1, 60, iv o78), (2, 61, .pointer (some ⟨b73, 1, none⟩)), (3, 62, iv o76), (4, 63, iv (w64 (o78 - o76))), (5, 64, .slice ad1 p0.length cp2), (6, 65, iv s104), (7, 66, q118), (8, 67, iv x113), (9, 68, .pointer (some ⟨b73, 0, none⟩)), (10, 69, iv o75), (11, 70, iv (w64 (x113 - o75))), (12, 71, iv (w64 ((w64 (o78 - o76)) * (w64 (x113 - o75))))), (13, 72, .pointer (some ⟨b74, 0, none⟩)), (14, 73, iv o77), (15, 74, .pointer (some ⟨b73, 0, none⟩)), (16, 75, iv o75), (17, 76, iv (w64 (o77 - o75))), (18, 77, iv s104), (19, 78, .pointer (some ⟨b73, 1, none⟩)), (20, 79, iv o76), (21, 80, iv (w64 (s104 - o76))), (22, 81, iv (w64 ((w64 (o77 - o75)) * (w64 (s104 - o76))))), (23, 82, iv (w64 ((w64 ((w64 (o78 - o76)) * (w64 (x113 - o75)))) - (w64 ((w64 (o77 - o75)) * (w64 (s104 - o76))))))), (24, 9, iv (w64 ((w64 ((w64 (o78 - o76)) * (w64 (x113 - o75)))) - (w64 ((w64 (o77 - o75)) * (w64 (s104 - o76)))))))]) 25 (by kernel_rfl) (by kernel_rfl) (by kernel_rfl) (by kernel_rfl) (by kernel_rfl) [0, 1, 2, 3, 4, 5, 6, 7, 8, 9, 10, 11, 12, 13, 14, 15, 16, 17, 18, 19, 20, 21, 22, 23, 24] (by kernel_rfl) (by decide) (by decide) (aF 0 24 (by decide) ?_ (aF 1 23 (by decide) ?_ (aF 2 22 (by decide) ?_ (aF 3 21 (by decide) ?_ (aF 4 20 (by decide) ?_ (aF 5 19 (by decide) ?_ (aF 6 18 (by decide) ?_ (aF 7 17 (by decide) ?_ (aF 8 16 (by decide) ?_ (aF 9 15 (by decide) ?_ (aF 10 14 (by decide) ?_ (aF 11 13 (by decide) ?_ (aF 12 12 (by decide) ?_ (aF 13 11 (by decide) ?_ (aF 14 10 (by decide) ?_ (aF 15 9 (by decide) ?_ (aF 16 8 (by decide) ?_ (aF 17 7 (by decide) ?_ (aF 18 6 (by decide) ?_ (aF 19 5 (by decide) ?_ (aF 20 4 (by decide) ?_ (aF 21 3 (by decide) ?_ (aF 22 2 (by decide) ?_ (aF 23 1 (by decide) ?_ (aF 24 0 (by decide) ?_ (trivial)))))))))))))))))))))))))) [(0, .slice ad1 p0.length cp2), (1, .slice ad3 p1.length cp4), (5, iv s9), (6, .pointer (some ⟨b73, 0, none⟩)), (7, .pointer (some ⟨b74, 0, none⟩)), (8, iv s104), (9, iv (w64 ((w64 ((w64 (o78 - o76)) * (w64 (x113 - o75)))) - (w64 ((w64 (o77 - o75)) * (w64 (s104 - o76)))))))] (fin_of [none, none, none, none, none, none, some 24] rfl (by kernel_rfl) (by kernel_rfl)) (fun _ a w S => ?_)
    · refine fI 59 (.pointer (some ⟨b74, 1, none⟩)) [(7, .pointer (some ⟨b74, 0, none⟩))] 0 [none] rfl rfl rfl rfl rfl rfl fun G a w S => ?_
      refine sField (b := b74) (off := 0) 1 1 S (wN rfl) rfl rfl rfl rfl rfl (lb rfl) fun a S => ?_
      exact leafL ⟨rfl, S⟩
    · refine fI 60 (iv o78) [(59, .pointer (some ⟨b74, 1, none⟩))] 1 [some 0] rfl rfl rfl rfl rfl rfl fun G a w S => ?_
      refine sLoad1 (p := b74) (off := 1) (T := 35) (vs := [iv o77, iv o78]) 1 (iv o78) S (wN rfl) rfl rfl rfl rfl rfl rfl (lb rfl) fun a S => ?_
      exact leafL ⟨rfl, S⟩
    · refine fI 61 (.pointer (some ⟨b73, 1, none⟩)) [(6, .pointer (some ⟨b73, 0, none⟩))] 2 [none] rfl rfl rfl rfl rfl rfl fun G a w S => ?_
      refine sField (b := b73) (off := 0) 1 1 S (wN rfl) rfl rfl rfl rfl rfl (lb rfl) fun a S => ?_
      exact leafL ⟨rfl, S⟩
    · refine fI 62 (iv o76) [(61, .pointer (some ⟨b73, 1, none⟩))] 3 [some 2] rfl rfl rfl rfl rfl rfl fun G a w S => ?_
      refine sLoad1 (p := b73) (off := 1) (T := 35) (vs := [iv o75, iv o76]) 0 (iv o76) S (wN rfl) rfl rfl rfl rfl rfl rfl (lb rfl) fun a S => ?_
      exact leafL ⟨rfl, S⟩
    · refine fI 63 (iv (w64 (o78 - o76))) [(60, iv o78), (62, iv o76)] 4 [some 1, some 3] rfl rfl rfl rfl rfl rfl fun G a w S => ?_
      refine sBin (iv (w64 (o78 - o76))) S (wN rfl) rfl rfl rfl (bSub _ _ _ _ o78 o76) rfl (lb rfl) fun a S => ?_
      exact leafL ⟨rfl, S⟩
    · refine fI 64 (.slice ad1 p0.length cp2) [(0, .slice ad1 p0.length cp2)] 5 [none] rfl rfl rfl rfl rfl rfl fun G a w S => ?_
      refine sMove (.slice ad1 p0.length cp2) S (wN rfl) (.inl rfl) rfl rfl (lb rfl) fun a S => ?_
      exact leafL ⟨rfl, S⟩
    · refine fI 65 (iv s104) [(8, iv s104)] 6 [none] rfl rfl rfl rfl rfl rfl fun G a w S => ?_
      refine sMove (iv s104) S (wN rfl) (.inl rfl) rfl rfl (lb rfl) fun a S => ?_
      exact leafL ⟨rfl, S⟩
    · refine fI 66 q118 [(64, .slice ad1 p0.length cp2), (65, iv s104)] 7 [some 5, some 6] rfl rfl rfl rfl rfl rfl fun G a w S => ?_
      refine sIdxV (v := .slice ad1 p0.length cp2) (k := .i64) (j := s104) S (wN rfl) rfl rfl rfl hq119 rfl (lb rfl) fun a S => ?_
      exact leafL ⟨rfl, S⟩
    · refine fI 67 (iv x113) [(66, q118)] 8 [some 7] rfl rfl rfl rfl rfl rfl fun G a w S => ?_
      refine sLoadV1 (vq := q118) 0 (iv x113) S (wN rfl) rfl rfl rfl rfl rfl (lb rfl) fun a S => ?_
      exact leafL ⟨rfl, S⟩
    · refine fI 68 (.pointer (some ⟨b73, 0, none⟩)) [(6, .pointer (some ⟨b73, 0, none⟩))] 9 [none] rfl rfl rfl rfl rfl rfl fun G a w S => ?_
      refine sField (b := b73) (off := 0) 0 0 S (wN rfl) rfl rfl rfl rfl rfl (lb rfl) fun a S => ?_
      exact leafL ⟨rfl, S⟩
    · refine fI 69 (iv o75) [(68, .pointer (some ⟨b73, 0, none⟩))] 10 [some 9] rfl rfl rfl rfl rfl rfl fun G a w S => ?_
      refine sLoad1 (p := b73) (off := 0) (T := 35) (vs := [iv o75, iv o76]) 0 (iv o75) S (wN rfl) rfl rfl rfl rfl rfl rfl (lb rfl) fun a S => ?_
      exact leafL ⟨rfl, S⟩
    · refine fI 70 (iv (w64 (x113 - o75))) [(67, iv x113), (69, iv o75)] 11 [some 8, some 10] rfl rfl rfl rfl rfl rfl fun G a w S => ?_
      refine sBin (iv (w64 (x113 - o75))) S (wN rfl) rfl rfl rfl (bSub _ _ _ _ x113 o75) rfl (lb rfl) fun a S => ?_
      exact leafL ⟨rfl, S⟩
    · refine fI 71 (iv (w64 ((w64 (o78 - o76)) * (w64 (x113 - o75))))) [(63, iv (w64 (o78 - o76))), (70, iv (w64 (x113 - o75)))] 12 [some 4, some 11] rfl rfl rfl rfl rfl rfl fun G a w S => ?_
      refine sBin (iv (w64 ((w64 (o78 - o76)) * (w64 (x113 - o75))))) S (wN rfl) rfl rfl rfl (bMul _ _ _ _ (w64 (o78 - o76)) (w64 (x113 - o75))) rfl (lb rfl) fun a S => ?_
      exact leafL ⟨rfl, S⟩
    · refine fI 72 (.pointer (some ⟨b74, 0, none⟩)) [(7, .pointer (some ⟨b74, 0, none⟩))] 13 [none] rfl rfl rfl rfl rfl rfl fun G a w S => ?_
      refine sField (b := b74) (off := 0) 0 0 S (wN rfl) rfl rfl rfl rfl rfl (lb rfl) fun a S => ?_
      exact leafL ⟨rfl, S⟩
    · refine fI 73 (iv o77) [(72, .pointer (some ⟨b74, 0, none⟩))] 14 [some 13] rfl rfl rfl rfl rfl rfl fun G a w S => ?_
      refine sLoad1 (p := b74) (off := 0) (T := 35) (vs := [iv o77, iv o78]) 1 (iv o77) S (wN rfl) rfl rfl rfl rfl rfl rfl (lb rfl) fun a S => ?_
      exact leafL ⟨rfl, S⟩
    · refine fI 74 (.pointer (some ⟨b73, 0, none⟩)) [(6, .pointer (some ⟨b73, 0, none⟩))] 15 [none] rfl rfl rfl rfl rfl rfl fun G a w S => ?_
      refine sField (b := b73) (off := 0) 0 0 S (wN rfl) rfl rfl rfl rfl rfl (lb rfl) fun a S => ?_
      exact leafL ⟨rfl, S⟩
    · refine fI 75 (iv o75) [(74, .pointer (some ⟨b73, 0, none⟩))] 16 [some 15] rfl rfl rfl rfl rfl rfl fun G a w S => ?_
      refine sLoad1 (p := b73) (off := 0) (T := 35) (vs := [iv o75, iv o76]) 0 (iv o75) S (wN rfl) rfl rfl rfl rfl rfl rfl (lb rfl) fun a S => ?_
      exact leafL ⟨rfl, S⟩
    · refine fI 76 (iv (w64 (o77 - o75))) [(73, iv o77), (75, iv o75)] 17 [some 14, some 16] rfl rfl rfl rfl rfl rfl fun G a w S => ?_
      refine sBin (iv (w64 (o77 - o75))) S (wN rfl) rfl rfl rfl (bSub _ _ _ _ o77 o75) rfl (lb rfl) fun a S => ?_
      exact leafL ⟨rfl, S⟩
    · refine fI 77 (iv s104) [(8, iv s104)] 18 [none] rfl rfl rfl rfl rfl rfl fun G a w S => ?_
      refine sMove (iv s104) S (wN rfl) (.inl rfl) rfl rfl (lb rfl) fun a S => ?_
      exact leafL ⟨rfl, S⟩
    · refine fI 78 (.pointer (some ⟨b73, 1, none⟩)) [(6, .pointer (some ⟨b73, 0, none⟩))] 19 [none] rfl rfl rfl rfl rfl rfl fun G a w S => ?_
      refine sField (b := b73) (off := 0) 1 1 S (wN rfl) rfl rfl rfl rfl rfl (lb rfl) fun a S => ?_
      exact leafL ⟨rfl, S⟩
    · refine fI 79 (iv o76) [(78, .pointer (some ⟨b73, 1, none⟩))] 20 [some 19] rfl rfl rfl rfl rfl rfl fun G a w S => ?_
      refine sLoad1 (p := b73) (off := 1) (T := 35) (vs := [iv o75, iv o76]) 0 (iv o76) S (wN rfl) rfl rfl rfl rfl rfl rfl (lb rfl) fun a S => ?_
      exact leafL ⟨rfl, S⟩
    · refine fI 80 (iv (w64 (s104 - o76))) [(77, iv s104), (79, iv o76)] 21 [some 18, some 20] rfl rfl rfl rfl rfl rfl fun G a w S => ?_
      refine sBin (iv (w64 (s104 - o76))) S (wN rfl) rfl rfl rfl (bSub _ _ _ _ s104 o76) rfl (lb rfl) fun a S => ?_
      exact leafL ⟨rfl, S⟩
    · refine fI 81 (iv (w64 ((w64 (o77 - o75)) * (w64 (s104 - o76))))) [(76, iv (w64 (o77 - o75))), (80, iv (w64 (s104 - o76)))] 22 [some 17, some 21] rfl rfl rfl rfl rfl rfl fun G a w S => ?_
      refine sBin (iv (w64 ((w64 (o77 - o75)) * (w64 (s104 - o76))))) S (wN rfl) rfl rfl rfl (bMul _ _ _ _ (w64 (o77 - o75)) (w64 (s104 - o76))) rfl (lb rfl) fun a S => ?_
      exact leafL ⟨rfl, S⟩
    · refine fI 82 (iv (w64 ((w64 ((w64 (o78 - o76)) * (w64 (x113 - o75)))) - (w64 ((w64 (o77 - o75)) * (w64 (s104 - o76))))))) [(71, iv (w64 ((w64 (o78 - o76)) * (w64 (x113 - o75))))), (81, iv (w64 ((w64 (o77 - o75)) * (w64 (s104 - o76)))))] 23 [some 12, some 22] rfl rfl rfl rfl rfl rfl fun G a w S => ?_
      refine sBin (iv (w64 ((w64 ((w64 (o78 - o76)) * (w64 (x113 - o75)))) - (w64 ((w64 (o77 - o75)) * (w64 (s104 - o76))))))) S (wN rfl) rfl rfl rfl (bSub _ _ _ _ (w64 ((w64 (o78 - o76)) * (w64 (x113 - o75)))) (w64 ((w64 (o77 - o75)) * (w64 (s104 - o76))))) rfl (lb rfl) fun a S => ?_
      exact leafL ⟨rfl, S⟩
    · refine fI 9 (iv (w64 ((w64 ((w64 (o78 - o76)) * (w64 (x113 - o75)))) - (w64 ((w64 (o77 - o75)) * (w64 (s104 - o76))))))) [(82, iv (w64 ((w64 ((w64 (o78 - o76)) * (w64 (x113 - o75)))) - (w64 ((w64 (o77 - o75)) * (w64 (s104 - o76)))))))] 24 [some 23] rfl rfl rfl rfl rfl rfl fun G a w S => ?_
      refine sMove (iv (w64 ((w64 ((w64 (o78 - o76)) * (w64 (x113 - o75)))) - (w64 ((w64 (o77 - o75)) * (w64 (s104 - o76))))))) S (wN rfl) (.inr rfl) rfl rfl (lb rfl) fun a S => ?_
      exact leafL ⟨rfl, S⟩
    refine leafT (hK112 _ _ ?_)
    refine sSeq (fun K121 hK121 => ?_)
    refine sRegion ?_
    refine sMove (iv (w64 ((w64 ((w64 (o78 - o76)) * (w64 (x113 - o75)))) - (w64 ((w64 (o77 - o75)) * (w64 (s104 - o76))))))) S (wN rfl) (.inl rfl) rfl rfl (lb rfl) fun a S => ?_
    refine sMove (iv (w64 ((w64 ((w64 (o78 - o76)) * (w64 (x113 - o75)))) - (w64 ((w64 (o77 - o75)) * (w64 (s104 - o76))))))) S (wN rfl) (.inl rfl) rfl rfl (lb rfl) fun a S => ?_
    refine sNeg (b := w64 ((w64 ((w64 (o78 - o76)) * (w64 (x113 - o75)))) - (w64 ((w64 (o77 - o75)) * (w64 (s104 - o76)))))) S (wN rfl) rfl rfl rfl (lb rfl) fun a S => ?_
    refine sMax2 (p := w64 ((w64 ((w64 (o78 - o76)) * (w64 (x113 - o75)))) - (w64 ((w64 (o77 - o75)) * (w64 (s104 - o76)))))) (q := w64 (0 - (w64 ((w64 ((w64 (o78 - o76)) * (w64 (x113 - o75)))) - (w64 ((w64 (o77 - o75)) * (w64 (s104 - o76)))))))) S (wN rfl) rfl rfl rfl rfl (lb rfl) fun a S => ?_
    refine sBin (iv (w64 (2 * (if (w64 ((w64 ((w64 (o78 - o76)) * (w64 (x113 - o75)))) - (w64 ((w64 (o77 - o75)) * (w64 (s104 - o76)))))) < (w64 (0 - (w64 ((w64 ((w64 (o78 - o76)) * (w64 (x113 - o75)))) - (w64 ((w64 (o77 - o75)) * (w64 (s104 - o76)))))))) then w64 (0 - (w64 ((w64 ((w64 (o78 - o76)) * (w64 (x113 - o75)))) - (w64 ((w64 (o77 - o75)) * (w64 (s104 - o76))))))) else w64 ((w64 ((w64 (o78 - o76)) * (w64 (x113 - o75)))) - (w64 ((w64 (o77 - o75)) * (w64 (s104 - o76))))))))) S (wN rfl) rfl rfl rfl (bMul _ _ _ _ 2 (if (w64 ((w64 ((w64 (o78 - o76)) * (w64 (x113 - o75)))) - (w64 ((w64 (o77 - o75)) * (w64 (s104 - o76)))))) < (w64 (0 - (w64 ((w64 ((w64 (o78 - o76)) * (w64 (x113 - o75)))) - (w64 ((w64 (o77 - o75)) * (w64 (s104 - o76)))))))) then w64 (0 - (w64 ((w64 ((w64 (o78 - o76)) * (w64 (x113 - o75)))) - (w64 ((w64 (o77 - o75)) * (w64 (s104 - o76))))))) else w64 ((w64 ((w64 (o78 - o76)) * (w64 (x113 - o75)))) - (w64 ((w64 (o77 - o75)) * (w64 (s104 - o76))))))) rfl (lb rfl) fun a S => ?_
    refine sField (b := b74) (off := 0) 1 1 S (wN rfl) rfl rfl rfl rfl rfl (lb rfl) fun a S => ?_
    refine sLoad1 (p := b74) (off := 1) (T := 35) (vs := [iv o77, iv o78]) 1 (iv o78) S (wN rfl) rfl rfl rfl rfl rfl rfl (lb rfl) fun a S => ?_
    refine sField (b := b73) (off := 0) 1 1 S (wN rfl) rfl rfl rfl rfl rfl (lb rfl) fun a S => ?_
    refine sLoad1 (p := b73) (off := 1) (T := 35) (vs := [iv o75, iv o76]) 0 (iv o76) S (wN rfl) rfl rfl rfl rfl rfl rfl (lb rfl) fun a S => ?_
    refine sBin (iv (w64 (o78 - o76))) S (wN rfl) rfl rfl rfl (bSub _ _ _ _ o78 o76) rfl (lb rfl) fun a S => ?_
    refine sBin (.bool (decide ((w64 (o78 - o76)) < (w64 (2 * (if (w64 ((w64 ((w64 (o78 - o76)) * (w64 (x113 - o75)))) - (w64 ((w64 (o77 - o75)) * (w64 (s104 - o76)))))) < (w64 (0 - (w64 ((w64 ((w64 (o78 - o76)) * (w64 (x113 - o75)))) - (w64 ((w64 (o77 - o75)) * (w64 (s104 - o76)))))))) then w64 (0 - (w64 ((w64 ((w64 (o78 - o76)) * (w64 (x113 - o75)))) - (w64 ((w64 (o77 - o75)) * (w64 (s104 - o76))))))) else w64 ((w64 ((w64 (o78 - o76)) * (w64 (x113 - o75)))) - (w64 ((w64 (o77 - o75)) * (w64 (s104 - o76))))))))))) S (wN rfl) rfl rfl rfl (bGt _ _ _ _ .i64 (w64 (2 * (if (w64 ((w64 ((w64 (o78 - o76)) * (w64 (x113 - o75)))) - (w64 ((w64 (o77 - o75)) * (w64 (s104 - o76)))))) < (w64 (0 - (w64 ((w64 ((w64 (o78 - o76)) * (w64 (x113 - o75)))) - (w64 ((w64 (o77 - o75)) * (w64 (s104 - o76)))))))) then w64 (0 - (w64 ((w64 ((w64 (o78 - o76)) * (w64 (x113 - o75)))) - (w64 ((w64 (o77 - o75)) * (w64 (s104 - o76))))))) else w64 ((w64 ((w64 (o78 - o76)) * (w64 (x113 - o75)))) - (w64 ((w64 (o77 - o75)) * (w64 (s104 - o76)))))))) (w64 (o78 - o76))) rfl (lb rfl) fun a S => ?_
    refine leafL (leafT (hK121 _ _ ?_))
    rcases iteSome h with ⟨hc122, h⟩ | ⟨hc122, h⟩
    rotate_left
    · refine sCondF S rfl hc122 ?_
      refine wp_skip (leafB (leafT (hK111 _ _ ?_)))
      refine sRegion ?_
      refine sMove (iv s104) S (wN rfl) (.inl rfl) rfl rfl (lb rfl) fun a S => ?_
      refine sBin (iv (w64 (s104 + 1))) S (wN rfl) rfl rfl rfl (bAdd _ _ _ _ s104 1) rfl (lb rfl) fun a S => ?_
      refine sMove (iv (w64 (s104 + 1))) S (wN rfl) (.inr rfl) rfl rfl (lb rfl) fun a S => ?_
      exact leafL (leafT (⟨w64 (s104 + 1), (Option.some.inj h).symm, (S.fix [0, 1] [3, 4] (by decide) rfl rfl rfl)⟩))
    refine sCondT S rfl hc122 ?_
    refine sSeq (fun K123 hK123 => ?_)
    refine sRegion ?_
    refine sMove (.bool false) S (wN rfl) (.inr rfl) rfl rfl (lb rfl) fun a S => ?_
    refine leafL (leafT (hK123 _ _ ?_))
    obtain rfl := Option.some.inj h
    obtain rfl := hu105 _ rfl
    have h := g106
    clear g106
    try dsimp only at h
    obtain rfl := Option.some.inj h
    have h := g17
    clear g17
    try dsimp only at h
    obtain rfl := Option.some.inj h
    obtain rfl := hu10 _ rfl
    have h := g11
    clear g11
    try dsimp only at h
    obtain rfl := Option.some.inj h
    have h := g7
    clear g7
    try dsimp only at h
    obtain rfl := Option.some.inj h
    exact wp_ret (rBlock (rThen (rThen (rBlock (rBlock (rThen (rThen (rBlock (rThen (sRet (.bool false) S (rsl1 rfl (rvT (t := 4) (v := .bool false) S rfl)) ⟨(), rfl, S.mem.sel [] [] (by decide) rfl rfl⟩))))))))))
  obtain ⟨x81, hx82, h⟩ := bindSome h
  obtain ⟨x86, hx87, h⟩ := bindSome h
  obtain ⟨q93, hq94, S⟩ := pIdx (P := Tryd.prog) (r := r_api_Point) (v := .slice ad3 p1.length cp4) (xs := p1) (j := w64 (s9 - 1)) 22 35 1 S Tryd.underlying22 rfl rfl hx82
  obtain ⟨u95, S⟩ := pLoad (r := r_api_Point) (q := q93) (x := x81) 0 S rfl
  obtain rfl : u95 = .agg #[iv x81.X, iv x81.Y] := S.mem.know (i := 1) (e := fRep r_api_Point (u95) x81) rfl
  obtain ⟨q96, hq97, S⟩ := pIdx (P := Tryd.prog) (r := r_api_Point) (v := .slice ad3 p1.length cp4) (xs := p1) (j := s9) 22 35 4 S Tryd.underlying22 rfl rfl hx87
  obtain ⟨u98, S⟩ := pLoad (r := r_api_Point) (q := q96) (x := x86) 0 S rfl
  obtain rfl : u98 = .agg #[iv x86.X, iv x86.Y] := S.mem.know (i := 1) (e := fRep r_api_Point (u98) x86) rfl
  refine sDraw (nf := [9, 10, 11, 12]) (W := [(0, 42, .slice ad3 p1.length cp4), (1, 43, iv s9), (2, 44, iv (w64 (s9 - 1))), (3, 45, q93), (4, 46, .agg #[iv x81.X, iv x81.Y]), (5, 47, .slice ad3 p1.length cp4), (6, 48, iv s9), (7, 49, q96), (8, 50, .agg #[iv x86.X, iv x86.Y])]) rfl S ?_
  refine node_by (A := anc_raddlelaw37_near_1) (nf := [9, 10, 11, 12]) (Y := []) (W := [(0, 42, .slice ad3 p1.length cp4), (1, 43, iv s9), (2, 44, iv (w64 (s9 - 1))), (3, 45, q93), (4, 46, .agg #[iv x81.X, iv x81.Y]), (5, 47, .slice ad3 p1.length cp4), (6, 48, iv s9), (7, 49, q96), (8, 50, .agg #[iv x86.X, iv x86.Y])]) 13 (by kernel_rfl) (by kernel_rfl) (by kernel_rfl) (by kernel_rfl) (by kernel_rfl) [0, 1, 2, 3, 4, 5, 6, 7, 8] (by kernel_rfl) (by decide) (by decide) (aF 0 12 (by decide) ?_ (aF 1 11 (by decide) ?_ (aF 2 10 (by decide) ?_ (aF 3 9 (by decide) ?_ (aF 4 8 (by decide) ?_ (aF 5 7 (by decide) ?_ (aF 6 6 (by decide) ?_ (aF 7 5 (by decide) ?_ (aF 8 4 (by decide) ?_ (aN 9 3 (by decide) ?_ (aN 10 2 (by decide) ?_ (aB 11 1 9 (by decide) (aB 12 0 9 (by decide) (trivial)))))))))))))) [] (fun q hq => by cases hq) (fun hY => absurd (hY 9 (by decide)) (by decide))
  · refine fI 42 (.slice ad3 p1.length cp4) [(1, .slice ad3 p1.length cp4)] 0 [none] rfl rfl rfl rfl rfl rfl fun G a w S => ?_
    refine sMove (.slice ad3 p1.length cp4) S (wN rfl) (.inl rfl) rfl rfl (lb rfl) fun a S => ?_
    exact leafL ⟨rfl, S⟩
  · refine fI 43 (iv s9) [(5, iv s9)] 1 [none] rfl rfl rfl rfl rfl rfl fun G a w S => ?_
    refine sMove (iv s9) S (wN rfl) (.inl rfl) rfl rfl (lb rfl) fun a S => ?_
    exact leafL ⟨rfl, S⟩
  · refine fI 44 (iv (w64 (s9 - 1))) [(43, iv s9)] 2 [some 1] rfl rfl rfl rfl rfl rfl fun G a w S => ?_
    refine sBin (iv (w64 (s9 - 1))) S (wN rfl) rfl rfl rfl (bSub _ _ _ _ s9 1) rfl (lb rfl) fun a S => ?_
    exact leafL ⟨rfl, S⟩
  · refine fI 45 q93 [(42, .slice ad3 p1.length cp4), (44, iv (w64 (s9 - 1)))] 3 [some 0, some 2] rfl rfl rfl rfl rfl rfl fun G a w S => ?_
    refine sIdxV (v := .slice ad3 p1.length cp4) (k := .i64) (j := w64 (s9 - 1)) S (wN rfl) rfl rfl rfl hq94 rfl (lb rfl) fun a S => ?_
    exact leafL ⟨rfl, S⟩
  · refine fI 46 (.agg #[iv x81.X, iv x81.Y]) [(45, q93)] 4 [some 3] rfl rfl rfl rfl rfl rfl fun G a w S => ?_
    refine sLoadVN (vq := q93) 3 [iv x81.X, iv x81.Y] S (wN rfl) rfl rfl rfl rfl rfl rfl (lb rfl) fun a S => ?_
    exact leafL ⟨rfl, S⟩
  · refine fI 47 (.slice ad3 p1.length cp4) [(1, .slice ad3 p1.length cp4)] 5 [none] rfl rfl rfl rfl rfl rfl fun G a w S => ?_
    refine sMove (.slice ad3 p1.length cp4) S (wN rfl) (.inl rfl) rfl rfl (lb rfl) fun a S => ?_
    exact leafL ⟨rfl, S⟩
  · refine fI 48 (iv s9) [(5, iv s9)] 6 [none] rfl rfl rfl rfl rfl rfl fun G a w S => ?_
    refine sMove (iv s9) S (wN rfl) (.inl rfl) rfl rfl (lb rfl) fun a S => ?_
    exact leafL ⟨rfl, S⟩
  · refine fI 49 q96 [(47, .slice ad3 p1.length cp4), (48, iv s9)] 7 [some 5, some 6] rfl rfl rfl rfl rfl rfl fun G a w S => ?_
    refine sIdxV (v := .slice ad3 p1.length cp4) (k := .i64) (j := s9) S (wN rfl) rfl rfl rfl hq97 rfl (lb rfl) fun a S => ?_
    exact leafL ⟨rfl, S⟩
  · refine fI 50 (.agg #[iv x86.X, iv x86.Y]) [(49, q96)] 8 [some 7] rfl rfl rfl rfl rfl rfl fun G a w S => ?_
    refine sLoadVN (vq := q96) 0 [iv x86.X, iv x86.Y] S (wN rfl) rfl rfl rfl rfl rfl rfl (lb rfl) fun a S => ?_
    exact leafL ⟨rfl, S⟩
  · refine ⟨_, [], rfl, (srcs_of [] rfl rfl rfl), fun G a w S => ?_⟩
    refine sAlloc (.agg #[iv 0, iv 0]) S (wN rfl) rfl rfl [iv 0, iv 0] rfl rfl (lb rfl) fun a b99 w S => ?_
    refine leafL ⟨rfl, _, _, .inl ⟨6, (.pointer (some ⟨b99, 0, none⟩)), [], rfl, S, hz_of rfl, ?_⟩⟩
    refine node_by (A := anc_raddlelaw37_near_1) (nf := [9, 10, 11, 12]) (Y := [9]) 13 (by kernel_rfl) (by kernel_rfl) (by kernel_rfl) (by kernel_rfl) (by kernel_rfl) [9, 0, 1, 2, 3, 4, 5, 6, 7, 8] (by kernel_rfl) (by decide) (by decide) (aF 0 12 (by decide) ?_ (aF 1 11 (by decide) ?_ (aF 2 10 (by decide) ?_ (aF 3 9 (by decide) ?_ (aF 4 8 (by decide) ?_ (aF 5 7 (by decide) ?_ (aF 6 6 (by decide) ?_ (aF 7 5 (by decide) ?_ (aF 8 4 (by decide) ?_ (aY 9 3 (by decide) (aN 10 2 (by decide) ?_ (aB 11 1 10 (by decide) (aB 12 0 10 (by decide) (trivial)))))))))))))) [] (fun q hq => by cases hq) (fun hY => absurd (hY 10 (by decide)) (by decide))
    · refine fI 42 (.slice ad3 p1.length cp4) [(1, .slice ad3 p1.length cp4)] 1 [none] rfl rfl rfl rfl rfl rfl fun G a w S => ?_
      refine sMove (.slice ad3 p1.length cp4) S (wN rfl) (.inl rfl) rfl rfl (lb rfl) fun a S => ?_
      exact leafL ⟨rfl, S⟩
    · refine fI 43 (iv s9) [(5, iv s9)] 2 [none] rfl rfl rfl rfl rfl rfl fun G a w S => ?_
      refine sMove (iv s9) S (wN rfl) (.inl rfl) rfl rfl (lb rfl) fun a S => ?_
      exact leafL ⟨rfl, S⟩
    · refine fI 44 (iv (w64 (s9 - 1))) [(43, iv s9)] 3 [some 2] rfl rfl rfl rfl rfl rfl fun G a w S => ?_
      refine sBin (iv (w64 (s9 - 1))) S (wN rfl) rfl rfl rfl (bSub _ _ _ _ s9 1) rfl (lb rfl) fun a S => ?_
      exact leafL ⟨rfl, S⟩
    · refine fI 45 q93 [(42, .slice ad3 p1.length cp4), (44, iv (w64 (s9 - 1)))] 4 [some 1, some 3] rfl rfl rfl rfl rfl rfl fun G a w S => ?_
      refine sIdxV (v := .slice ad3 p1.length cp4) (k := .i64) (j := w64 (s9 - 1)) S (wN rfl) rfl rfl rfl hq94 rfl (lb rfl) fun a S => ?_
      exact leafL ⟨rfl, S⟩
    · refine fI 46 (.agg #[iv x81.X, iv x81.Y]) [(45, q93)] 5 [some 4] rfl rfl rfl rfl rfl rfl fun G a w S => ?_
      refine sLoadVN (vq := q93) 3 [iv x81.X, iv x81.Y] S (wN rfl) rfl rfl rfl rfl rfl rfl (lb rfl) fun a S => ?_
      exact leafL ⟨rfl, S⟩
    · refine fI 47 (.slice ad3 p1.length cp4) [(1, .slice ad3 p1.length cp4)] 6 [none] rfl rfl rfl rfl rfl rfl fun G a w S => ?_
      refine sMove (.slice ad3 p1.length cp4) S (wN rfl) (.inl rfl) rfl rfl (lb rfl) fun a S => ?_
      exact leafL ⟨rfl, S⟩
    · refine fI 48 (iv s9) [(5, iv s9)] 7 [none] rfl rfl rfl rfl rfl rfl fun G a w S => ?_
      refine sMove (iv s9) S (wN rfl) (.inl rfl) rfl rfl (lb rfl) fun a S => ?_
      exact leafL ⟨rfl, S⟩
    · refine fI 49 q96 [(47, .slice ad3 p1.length cp4), (48, iv s9)] 8 [some 6, some 7] rfl rfl rfl rfl rfl rfl fun G a w S => ?_
      refine sIdxV (v := .slice ad3 p1.length cp4) (k := .i64) (j := s9) S (wN rfl) rfl rfl rfl hq97 rfl (lb rfl) fun a S => ?_
      exact leafL ⟨rfl, S⟩
    · refine fI 50 (.agg #[iv x86.X, iv x86.Y]) [(49, q96)] 9 [some 8] rfl rfl rfl rfl rfl rfl fun G a w S => ?_
      refine sLoadVN (vq := q96) 0 [iv x86.X, iv x86.Y] S (wN rfl) rfl rfl rfl rfl rfl rfl (lb rfl) fun a S => ?_
      exact leafL ⟨rfl, S⟩
    refine ⟨_, [], rfl, (srcs_of [] rfl rfl rfl), fun G a w S => ?_⟩
    refine sAlloc (.agg #[iv 0, iv 0]) S (wN rfl) rfl rfl [iv 0, iv 0] rfl rfl (lb rfl) fun a b100 w S => ?_
    refine leafL ⟨rfl, _, _, .inl ⟨7, (.pointer (some ⟨b100, 0, none⟩)), [], rfl, S, hz_of rfl, ?_⟩⟩
    refine node_by (A := anc_raddlelaw37_near_1) (nf := [9, 10, 11, 12]) (Y := [10, 9]) 13 (by kernel_rfl) (by kernel_rfl) (by kernel_rfl) (by kernel_rfl) (by kernel_rfl) [10, 9, 0, 1, 2, 3, 4, 5, 6, 7, 8] (by kernel_rfl) (by decide) (by decide) (aF 0 12 (by decide) ?_ (aF 1 11 (by decide) ?_ (aF 2 10 (by decide) ?_ (aF 3 9 (by decide) ?_ (aF 4 8 (by decide) ?_ (aF 5 7 (by decide) ?_ (aF 6 6 (by decide) ?_ (aF 7 5 (by decide) ?_ (aF 8 4 (by decide) ?_ (aY 9 3 (by decide) (aY 10 2 (by decide) (aN 11 1 (by decide) ?_ (aB 12 0 11 (by decide) (trivial)))))))))))))) [] (fun q hq => by cases hq) (fun hY => absurd (hY 11 (by decide)) (by decide))
    · refine fI 42 (.slice ad3 p1.length cp4) [(1, .slice ad3 p1.length cp4)] 2 [none] rfl rfl rfl rfl rfl rfl fun G a w S => ?_
      refine sMove (.slice ad3 p1.length cp4) S (wN rfl) (.inl rfl) rfl rfl (lb rfl) fun a S => ?_
      exact leafL ⟨rfl, S⟩
    · refine fI 43 (iv s9) [(5, iv s9)] 3 [none] rfl rfl rfl rfl rfl rfl fun G a w S => ?_
      refine sMove (iv s9) S (wN rfl) (.inl rfl) rfl rfl (lb rfl) fun a S => ?_
      exact leafL ⟨rfl, S⟩
    · refine fI 44 (iv (w64 (s9 - 1))) [(43, iv s9)] 4 [some 3] rfl rfl rfl rfl rfl rfl fun G a w S => ?_
      refine sBin (iv (w64 (s9 - 1))) S (wN rfl) rfl rfl rfl (bSub _ _ _ _ s9 1) rfl (lb rfl) fun a S => ?_
      exact leafL ⟨rfl, S⟩
    · refine fI 45 q93 [(42, .slice ad3 p1.length cp4), (44, iv (w64 (s9 - 1)))] 5 [some 2, some 4] rfl rfl rfl rfl rfl rfl fun G a w S => ?_
      refine sIdxV (v := .slice ad3 p1.length cp4) (k := .i64) (j := w64 (s9 - 1)) S (wN rfl) rfl rfl rfl hq94 rfl (lb rfl) fun a S => ?_
      exact leafL ⟨rfl, S⟩
    · refine fI 46 (.agg #[iv x81.X, iv x81.Y]) [(45, q93)] 6 [some 5] rfl rfl rfl rfl rfl rfl fun G a w S => ?_
      refine sLoadVN (vq := q93) 3 [iv x81.X, iv x81.Y] S (wN rfl) rfl rfl rfl rfl rfl rfl (lb rfl) fun a S => ?_
      exact leafL ⟨rfl, S⟩
    · refine fI 47 (.slice ad3 p1.length cp4) [(1, .slice ad3 p1.length cp4)] 7 [none] rfl rfl rfl rfl rfl rfl fun G a w S => ?_
      refine sMove (.slice ad3 p1.length cp4) S (wN rfl) (.inl rfl) rfl rfl (lb rfl) fun a S => ?_
      exact leafL ⟨rfl, S⟩
    · refine fI 48 (iv s9) [(5, iv s9)] 8 [none] rfl rfl rfl rfl rfl rfl fun G a w S => ?_
      refine sMove (iv s9) S (wN rfl) (.inl rfl) rfl rfl (lb rfl) fun a S => ?_
      exact leafL ⟨rfl, S⟩
    · refine fI 49 q96 [(47, .slice ad3 p1.length cp4), (48, iv s9)] 9 [some 7, some 8] rfl rfl rfl rfl rfl rfl fun G a w S => ?_
      refine sIdxV (v := .slice ad3 p1.length cp4) (k := .i64) (j := s9) S (wN rfl) rfl rfl rfl hq97 rfl (lb rfl) fun a S => ?_
      exact leafL ⟨rfl, S⟩
    · refine fI 50 (.agg #[iv x86.X, iv x86.Y]) [(49, q96)] 10 [some 9] rfl rfl rfl rfl rfl rfl fun G a w S => ?_
      refine sLoadVN (vq := q96) 0 [iv x86.X, iv x86.Y] S (wN rfl) rfl rfl rfl rfl rfl rfl (lb rfl) fun a S => ?_
      exact leafL ⟨rfl, S⟩
    refine ⟨_, [(6, .pointer (some ⟨b99, 0, none⟩)), (46, .agg #[iv x81.X, iv x81.Y])], rfl, (srcs_of [some 1, some 6] rfl rfl rfl), fun G a w S => ?_⟩
    refine sStore (p := b99) (off := 0) (T := 35) (vs := [iv 0, iv 0]) (v := .agg #[iv x81.X, iv x81.Y]) 1 [iv x81.X, iv x81.Y] S (wN rfl) rfl rfl rfl rfl rfl rfl rfl (by simp) rfl fun a w S => ?_
    refine leafL ⟨rfl, _, _, .inr ⟨[], rfl, S, hz_of rfl, ?_⟩⟩
    refine node_by (A := anc_raddlelaw37_near_1) (nf := [9, 10, 11, 12]) (Y := [11, 10, 9]) 13 (by kernel_rfl) (by kernel_rfl) (by kernel_rfl) (by kernel_rfl) (by kernel_rfl) [10, 9, 0, 1, 2, 3, 4, 5, 6, 7, 8] (by kernel_rfl) (by decide) (by decide) (aD 0 12 11 (by decide) (aD 1 11 11 (by decide) (aD 2 10 11 (by decide) (aD 3 9 11 (by decide) (aD 4 8 11 (by decide) (aF 5 7 (by decide) ?_ (aF 6 6 (by decide) ?_ (aF 7 5 (by decide) ?_ (aF 8 4 (by decide) ?_ (aY 9 3 (by decide) (aY 10 2 (by decide) (aY 11 1 (by decide) (aN 12 0 (by decide) ?_ (trivial)))))))))))))) [] (fun q hq => by cases hq) (fun hY => absurd (hY 12 (by decide)) (by decide))
    · refine fI 47 (.slice ad3 p1.length cp4) [(1, .slice ad3 p1.length cp4)] 7 [none] rfl rfl rfl rfl rfl rfl fun G a w S => ?_
      refine sMove (.slice ad3 p1.length cp4) S (wN rfl) (.inl rfl) rfl rfl (lb rfl) fun a S => ?_
      exact leafL ⟨rfl, S⟩
    · refine fI 48 (iv s9) [(5, iv s9)] 8 [none] rfl rfl rfl rfl rfl rfl fun G a w S => ?_
      refine sMove (iv s9) S (wN rfl) (.inl rfl) rfl rfl (lb rfl) fun a S => ?_
      exact leafL ⟨rfl, S⟩
    · refine fI 49 q96 [(47, .slice ad3 p1.length cp4), (48, iv s9)] 9 [some 7, some 8] rfl rfl rfl rfl rfl rfl fun G a w S => ?_
      refine sIdxV (v := .slice ad3 p1.length cp4) (k := .i64) (j := s9) S (wN rfl) rfl rfl rfl hq97 rfl (lb rfl) fun a S => ?_
      exact leafL ⟨rfl, S⟩
    · refine fI 50 (.agg #[iv x86.X, iv x86.Y]) [(49, q96)] 10 [some 9] rfl rfl rfl rfl rfl rfl fun G a w S => ?_
      refine sLoadVN (vq := q96) 0 [iv x86.X, iv x86.Y] S (wN rfl) rfl rfl rfl rfl rfl rfl (lb rfl) fun a S => ?_
      exact leafL ⟨rfl, S⟩
    refine ⟨_, [(7, .pointer (some ⟨b100, 0, none⟩)), (50, .agg #[iv x86.X, iv x86.Y])], rfl, (srcs_of [some 0, some 10] rfl rfl rfl), fun G a w S => ?_⟩
    refine sStore (p := b100) (off := 0) (T := 35) (vs := [iv 0, iv 0]) (v := .agg #[iv x86.X, iv x86.Y]) 1 [iv x86.X, iv x86.Y] S (wN rfl) rfl rfl rfl rfl rfl rfl rfl (by simp) rfl fun a w S => ?_
    refine leafL ⟨rfl, _, _, .inr ⟨[], rfl, S, hz_of rfl, ?_⟩⟩
    refine node_by (A := anc_raddlelaw37_near_1) (nf := [9, 10, 11, 12]) (Y := [12, 11, 10, 9]) 13 (by kernel_rfl) (by kernel_rfl) (by kernel_rfl) (by kernel_rfl) (by kernel_rfl) [10, 9, 0, 1, 2, 3, 4, 5, 6, 7, 8] (by kernel_rfl) (by decide) (by decide) (aD 0 12 12 (by decide) (aD 1 11 12 (by decide) (aD 2 10 12 (by decide) (aD 3 9 12 (by decide) (aD 4 8 12 (by decide) (aD 5 7 12 (by decide) (aD 6 6 12 (by decide) (aD 7 5 12 (by decide) (aD 8 4 12 (by decide) (aY 9 3 (by decide) (aY 10 2 (by decide) (aY 11 1 (by decide) (aY 12 0 (by decide) (trivial)))))))))))))) [(0, .slice ad1 p0.length cp2), (1, .slice ad3 p1.length cp4), (5, iv s9), (6, .pointer (some ⟨b99, 0, none⟩)), (7, .pointer (some ⟨b100, 0, none⟩))] (fin_of [none, none, none, some 1, some 0] rfl (by kernel_rfl) (by kernel_rfl)) (fun _ a w S => ?_)
    exact leafT (⟨x81.X, x81.Y, x86.X, x86.Y, Option.some.inj h, b99, b100, S.fix [1, 0] [6, 7] (by decide) rfl rfl rfl⟩)
  refine ⟨_, [], rfl, (srcs_of [] rfl rfl rfl), fun G a w S => ?_⟩
  refine sAlloc (.agg #[iv 0, iv 0]) S (wN rfl) rfl rfl [iv 0, iv 0] rfl rfl (lb rfl) fun a b101 w S => ?_
  refine leafL ⟨rfl, _, _, .inl ⟨7, (.pointer (some ⟨b101, 0, none⟩)), [], rfl, S, hz_of rfl, ?_⟩⟩
  refine node_by (A := anc_raddlelaw37_near_1) (nf := [9, 10, 11, 12]) (Y := [10]) 13 (by kernel_rfl) (by kernel_rfl) (by kernel_rfl) (by kernel_rfl) (by kernel_rfl) [10, 0, 1, 2, 3, 4, 5, 6, 7, 8] (by kernel_rfl) (by decide) (by decide) (aF 0 12 (by decide) ?_ (aF 1 11 (by decide) ?_ (aF 2 10 (by decide) ?_ (aF 3 9 (by decide) ?_ (aF 4 8 (by decide) ?_ (aF 5 7 (by decide) ?_ (aF 6 6 (by decide) ?_ (aF 7 5 (by decide) ?_ (aF 8 4 (by decide) ?_ (aN 9 3 (by decide) ?_ (aY 10 2 (by decide) (aB 11 1 9 (by decide) (aB 12 0 9 (by decide) (trivial)))))))))))))) [] (fun q hq => by cases hq) (fun hY => absurd (hY 9 (by decide)) (by decide))
  · refine fI 42 (.slice ad3 p1.length cp4) [(1, .slice ad3 p1.length cp4)] 1 [none] rfl rfl rfl rfl rfl rfl fun G a w S => ?_
    refine sMove (.slice ad3 p1.length cp4) S (wN rfl) (.inl rfl) rfl rfl (lb rfl) fun a S => ?_
    exact leafL ⟨rfl, S⟩
  · refine fI 43 (iv s9) [(5, iv s9)] 2 [none] rfl rfl rfl rfl rfl rfl fun G a w S => ?_
    refine sMove (iv s9) S (wN rfl) (.inl rfl) rfl rfl (lb rfl) fun a S => ?_
    exact leafL ⟨rfl, S⟩
  · refine fI 44 (iv (w64 (s9 - 1))) [(43, iv s9)] 3 [some 2] rfl rfl rfl rfl rfl rfl fun G a w S => ?_
    refine sBin (iv (w64 (s9 - 1))) S (wN rfl) rfl rfl rfl (bSub _ _ _ _ s9 1) rfl (lb rfl) fun a S => ?_
    exact leafL ⟨rfl, S⟩
  · refine fI 45 q93 [(42, .slice ad3 p1.length cp4), (44, iv (w64 (s9 - 1)))] 4 [some 1, some 3] rfl rfl rfl rfl rfl rfl fun G a w S => ?_
    refine sIdxV (v := .slice ad3 p1.length cp4) (k := .i64) (j := w64 (s9 - 1)) S (wN rfl) rfl rfl rfl hq94 rfl (lb rfl) fun a S => ?_
    exact leafL ⟨rfl, S⟩
  · refine fI 46 (.agg #[iv x81.X, iv x81.Y]) [(45, q93)] 5 [some 4] rfl rfl rfl rfl rfl rfl fun G a w S => ?_
    refine sLoadVN (vq := q93) 3 [iv x81.X, iv x81.Y] S (wN rfl) rfl rfl rfl rfl rfl rfl (lb rfl) fun a S => ?_
    exact leafL ⟨rfl, S⟩
  · refine fI 47 (.slice ad3 p1.length cp4) [(1, .slice ad3 p1.length cp4)] 6 [none] rfl rfl rfl rfl rfl rfl fun G a w S => ?_
    refine sMove (.slice ad3 p1.length cp4) S (wN rfl) (.inl rfl) rfl rfl (lb rfl) fun a S => ?_
    exact leafL ⟨rfl, S⟩
  · refine fI 48 (iv s9) [(5, iv s9)] 7 [none] rfl rfl rfl rfl rfl rfl fun G a w S => ?_
    refine sMove (iv s9) S (wN rfl) (.inl rfl) rfl rfl (lb rfl) fun a S => ?_
    exact leafL ⟨rfl, S⟩
  · refine fI 49 q96 [(47, .slice ad3 p1.length cp4), (48, iv s9)] 8 [some 6, some 7] rfl rfl rfl rfl rfl rfl fun G a w S => ?_
    refine sIdxV (v := .slice ad3 p1.length cp4) (k := .i64) (j := s9) S (wN rfl) rfl rfl rfl hq97 rfl (lb rfl) fun a S => ?_
    exact leafL ⟨rfl, S⟩
  · refine fI 50 (.agg #[iv x86.X, iv x86.Y]) [(49, q96)] 9 [some 8] rfl rfl rfl rfl rfl rfl fun G a w S => ?_
    refine sLoadVN (vq := q96) 0 [iv x86.X, iv x86.Y] S (wN rfl) rfl rfl rfl rfl rfl rfl (lb rfl) fun a S => ?_
    exact leafL ⟨rfl, S⟩
  refine ⟨_, [], rfl, (srcs_of [] rfl rfl rfl), fun G a w S => ?_⟩
  refine sAlloc (.agg #[iv 0, iv 0]) S (wN rfl) rfl rfl [iv 0, iv 0] rfl rfl (lb rfl) fun a b102 w S => ?_
  refine leafL ⟨rfl, _, _, .inl ⟨6, (.pointer (some ⟨b102, 0, none⟩)), [], rfl, S, hz_of rfl, ?_⟩⟩
  refine node_by (A := anc_raddlelaw37_near_1) (nf := [9, 10, 11, 12]) (Y := [9, 10]) 13 (by kernel_rfl) (by kernel_rfl) (by kernel_rfl) (by kernel_rfl) (by kernel_rfl) [9, 10, 0, 1, 2, 3, 4, 5, 6, 7, 8] (by kernel_rfl) (by decide) (by decide) (aF 0 12 (by decide) ?_ (aF 1 11 (by decide) ?_ (aF 2 10 (by decide) ?_ (aF 3 9 (by decide) ?_ (aF 4 8 (by decide) ?_ (aF 5 7 (by decide) ?_ (aF 6 6 (by decide) ?_ (aF 7 5 (by decide) ?_ (aF 8 4 (by decide) ?_ (aY 9 3 (by decide) (aY 10 2 (by decide) (aN 11 1 (by decide) ?_ (aB 12 0 11 (by decide) (trivial)))))))))))))) [] (fun q hq => by cases hq) (fun hY => absurd (hY 11 (by decide)) (by decide))
  · refine fI 42 (.slice ad3 p1.length cp4) [(1, .slice ad3 p1.length cp4)] 2 [none] rfl rfl rfl rfl rfl rfl fun G a w S => ?_
    refine sMove (.slice ad3 p1.length cp4) S (wN rfl) (.inl rfl) rfl rfl (lb rfl) fun a S => ?_
    exact leafL ⟨rfl, S⟩
  · refine fI 43 (iv s9) [(5, iv s9)] 3 [none] rfl rfl rfl rfl rfl rfl fun G a w S => ?_
    refine sMove (iv s9) S (wN rfl) (.inl rfl) rfl rfl (lb rfl) fun a S => ?_
    exact leafL ⟨rfl, S⟩
  · refine fI 44 (iv (w64 (s9 - 1))) [(43, iv s9)] 4 [some 3] rfl rfl rfl rfl rfl rfl fun G a w S => ?_
    refine sBin (iv (w64 (s9 - 1))) S (wN rfl) rfl rfl rfl (bSub _ _ _ _ s9 1) rfl (lb rfl) fun a S => ?_
    exact leafL ⟨rfl, S⟩
  · refine fI 45 q93 [(42, .slice ad3 p1.length cp4), (44, iv (w64 (s9 - 1)))] 5 [some 2, some 4] rfl rfl rfl rfl rfl rfl fun G a w S => ?_
    refine sIdxV (v := .slice ad3 p1.length cp4) (k := .i64) (j := w64 (s9 - 1)) S (wN rfl) rfl rfl rfl hq94 rfl (lb rfl) fun a S => ?_
    exact leafL ⟨rfl, S⟩
  · refine fI 46 (.agg #[iv x81.X, iv x81.Y]) [(45, q93)] 6 [some 5] rfl rfl rfl rfl rfl rfl fun G a w S => ?_
    refine sLoadVN (vq := q93) 3 [iv x81.X, iv x81.Y] S (wN rfl) rfl rfl rfl rfl rfl rfl (lb rfl) fun a S => ?_
    exact leafL ⟨rfl, S⟩
  · refine fI 47 (.slice ad3 p1.length cp4) [(1, .slice ad3 p1.length cp4)] 7 [none] rfl rfl rfl rfl rfl rfl fun G a w S => ?_
    refine sMove (.slice ad3 p1.length cp4) S (wN rfl) (.inl rfl) rfl rfl (lb rfl) fun a S => ?_
    exact leafL ⟨rfl, S⟩
  · refine fI 48 (iv s9) [(5, iv s9)] 8 [none] rfl rfl rfl rfl rfl rfl fun G a w S => ?_
    refine sMove (iv s9) S (wN rfl) (.inl rfl) rfl rfl (lb rfl) fun a S => ?_
    exact leafL ⟨rfl, S⟩
  · refine fI 49 q96 [(47, .slice ad3 p1.length cp4), (48, iv s9)] 9 [some 7, some 8] rfl rfl rfl rfl rfl rfl fun G a w S => ?_
    refine sIdxV (v := .slice ad3 p1.length cp4) (k := .i64) (j := s9) S (wN rfl) rfl rfl rfl hq97 rfl (lb rfl) fun a S => ?_
    exact leafL ⟨rfl, S⟩
  · refine fI 50 (.agg #[iv x86.X, iv x86.Y]) [(49, q96)] 10 [some 9] rfl rfl rfl rfl rfl rfl fun G a w S => ?_
    refine sLoadVN (vq := q96) 0 [iv x86.X, iv x86.Y] S (wN rfl) rfl rfl rfl rfl rfl rfl (lb rfl) fun a S => ?_
    exact leafL ⟨rfl, S⟩
  refine ⟨_, [(6, .pointer (some ⟨b102, 0, none⟩)), (46, .agg #[iv x81.X, iv x81.Y])], rfl, (srcs_of [some 0, some 6] rfl rfl rfl), fun G a w S => ?_⟩
  refine sStore (p := b102) (off := 0) (T := 35) (vs := [iv 0, iv 0]) (v := .agg #[iv x81.X, iv x81.Y]) 0 [iv x81.X, iv x81.Y] S (wN rfl) rfl rfl rfl rfl rfl rfl rfl (by simp) rfl fun a w S => ?_
  refine leafL ⟨rfl, _, _, .inr ⟨[], rfl, S, hz_of rfl, ?_⟩⟩
  refine node_by (A := anc_raddlelaw37_near_1) (nf := [9, 10, 11, 12]) (Y := [11, 9, 10]) 13 (by kernel_rfl) (by kernel_rfl) (by kernel_rfl) (by kernel_rfl) (by kernel_rfl) [9, 10, 0, 1, 2, 3, 4, 5, 6, 7, 8] (by kernel_rfl) (by decide) (by decide) (aD 0 12 11 (by decide) (aD 1 11 11 (by decide) (aD 2 10 11 (by decide) (aD 3 9 11 (by decide) (aD 4 8 11 (by decide) (aF 5 7 (by decide) ?_ (aF 6 6 (by decide) ?_ (aF 7 5 (by decide) ?_ (aF 8 4 (by decide) ?_ (aY 9 3 (by decide) (aY 10 2 (by decide) (aY 11 1 (by decide) (aN 12 0 (by decide) ?_ (trivial)))))))))))))) [] (fun q hq => by cases hq) (fun hY => absurd (hY 12 (by decide)) (by decide))
  · refine fI 47 (.slice ad3 p1.length cp4) [(1, .slice ad3 p1.length cp4)] 7 [none] rfl rfl rfl rfl rfl rfl fun G a w S => ?_
    refine sMove (.slice ad3 p1.length cp4) S (wN rfl) (.inl rfl) rfl rfl (lb rfl) fun a S => ?_
    exact leafL ⟨rfl, S⟩
  · refine fI 48 (iv s9) [(5, iv s9)] 8 [none] rfl rfl rfl rfl rfl rfl fun G a w S => ?_
    refine sMove (iv s9) S (wN rfl) (.inl rfl) rfl rfl (lb rfl) fun a S => ?_
    exact leafL ⟨rfl, S⟩
  · refine fI 49 q96 [(47, .slice ad3 p1.length cp4), (48, iv s9)] 9 [some 7, some 8] rfl rfl rfl rfl rfl rfl fun G a w S => ?_
    refine sIdxV (v := .slice ad3 p1.length cp4) (k := .i64) (j := s9) S (wN rfl) rfl rfl rfl hq97 rfl (lb rfl) fun a S => ?_
    exact leafL ⟨rfl, S⟩
  · refine fI 50 (.agg #[iv x86.X, iv x86.Y]) [(49, q96)] 10 [some 9] rfl rfl rfl rfl rfl rfl fun G a w S => ?_
    refine sLoadVN (vq := q96) 0 [iv x86.X, iv x86.Y] S (wN rfl) rfl rfl rfl rfl rfl rfl (lb rfl) fun a S => ?_
    exact leafL ⟨rfl, S⟩
  refine ⟨_, [(7, .pointer (some ⟨b101, 0, none⟩)), (50, .agg #[iv x86.X, iv x86.Y])], rfl, (srcs_of [some 1, some 10] rfl rfl rfl), fun G a w S => ?_⟩
  refine sStore (p := b101) (off := 0) (T := 35) (vs := [iv 0, iv 0]) (v := .agg #[iv x86.X, iv x86.Y]) 1 [iv x86.X, iv x86.Y] S (wN rfl) rfl rfl rfl rfl rfl rfl rfl (by simp) rfl fun a w S => ?_
  refine leafL ⟨rfl, _, _, .inr ⟨[], rfl, S, hz_of rfl, ?_⟩⟩
  refine node_by (A := anc_raddlelaw37_near_1) (nf := [9, 10, 11, 12]) (Y := [12, 11, 9, 10]) 13 (by kernel_rfl) (by kernel_rfl) (by kernel_rfl) (by kernel_rfl) (by kernel_rfl) [9, 10, 0, 1, 2, 3, 4, 5, 6, 7, 8] (by kernel_rfl) (by decide) (by decide) (aD 0 12 12 (by decide) (aD 1 11 12 (by decide) (aD 2 10 12 (by decide) (aD 3 9 12 (by decide) (aD 4 8 12 (by decide) (aD 5 7 12 (by decide) (aD 6 6 12 (by decide) (aD 7 5 12 (by decide) (aD 8 4 12 (by decide) (aY 9 3 (by decide) (aY 10 2 (by decide) (aY 11 1 (by decide) (aY 12 0 (by decide) (trivial)))))))))))))) [(0, .slice ad1 p0.length cp2), (1, .slice ad3 p1.length cp4), (5, iv s9), (6, .pointer (some ⟨b102, 0, none⟩)), (7, .pointer (some ⟨b101, 0, none⟩))] (fin_of [none, none, none, some 0, some 1] rfl (by kernel_rfl) (by kernel_rfl)) (fun _ a w S => ?_)
  exact leafT (⟨x81.X, x81.Y, x86.X, x86.Y, Option.some.inj h, b102, b101, S.fix [1, 0] [6, 7] (by decide) rfl rfl rfl⟩)

end Go.Proofs.YtmedbnjhgkcndaaDoor
