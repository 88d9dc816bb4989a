/- Several texts in one: G17 G34 G18 G20 G19 G10 PlP G53 G75 -/
import Derived.WalkKit
import Derived.Maps.AppendAt
import Derived.Deep.AppendLies
import Derived.KernelRfl
import Derived.Laws.OwnMore
import Derived.Great.BuildSlice
import Derived.Orders
import Derived.Laws.StructEq
import Derived.ChangeKeysEq
import Derived.Defers
import Derived.Laws.BytesString
import Derived.RangeFuncNested
import Derived.RangeFuncBound
import Derived.RangeFuncCalls
import Derived.RangeFuncLeaves
import Derived.OrdersIn
import Derived.LoopNIn
import Derived.Test.YtmedbnjhgkcndaaProg
import Derived.ProofKit
import Derived.OpenShut
import Derived.ChangeOld
import Derived.Deep.Slices
import Derived.Lib.SmallJoins
import Derived.JoinedOf
import Derived.JoinedAt
import Derived.Below
import Derived.Test.YtmedbnjhgkcndaaRows
import Derived.Test.YtmedbnjhgkcndaaMPieceCharts1
namespace Go.Proofs.Ytmedbnjhgkcndaa
open Go.RowKit
set_option linter.unusedVariables false

noncomputable def piece_Check_l1 (p0 : api_Piece) : Int → Option (Int ⊕ (Int ⊕ Unit)) := fun s0 => match s0 with
  | s22 =>
    if decide (s22 < (p0.Left.length : Int)) then
      Option.bind (idxO p0.Left s22) fun x31 =>
      Option.bind (idxO p0.Right s22) fun x37 =>
      Option.bind (α := Bool) (
        Option.bind (F_piece_column x31) fun r45 =>
        if !r45 then
          some true
        else
          Option.bind (F_piece_column x37) fun r48 =>
          if !r48 then
            some true
          else
            if decide (x37 ≤ x31) then
              some true
            else
              some (decide (200 < (w64 (x37 - x31))))) fun o42 =>
      if o42 then
        some (.inr (.inl 8))
      else
        some (.inl (w64 (s22 + 1)))
    else
      some (.inr (.inr ()))
noncomputable def F_piece_Check (p0 : api_Piece) : Option Int :=
  Option.bind (α := Bool) (
    if (p0.Left.length : Int) != (p0.Right.length : Int) then
      some true
    else
      if (p0.Left.length : Int) == 0 then
        some true
      else
        some (decide (100 < (p0.Left.length : Int)))) fun o12 =>
  if o12 then
    some 8
  else
    Option.bind (α := Unit ⊕ Int) (
      Option.bind (whileO (piece_Check_l1 p0) 0) fun z0 => match z0 with
        | .inl z =>
          some (.inr z)
        | .inr _ =>
          some (.inl ())) fun z0 => match z0 with
      | .inl _ =>
        some 0
      | .inr z =>
        some z
set_option maxHeartbeats 4000000 in
set_option maxRecDepth 100000 in
theorem c_piece_Check (E : Nat → Prop) (w0 : World) (p0 : api_Piece) (v0 : Value) (r : Int) (h : F_piece_Check p0 = some r) (S : St0 E [] w0 w0 [] [fRep r_api_Piece (v0) p0]) :
    Calls Try.prog 17 #[v0] w0 (Ret (X := Unit) E [] w0 (fun _ => .int .i64 r) (fun _ => []) (fun _ => [])) := by
  unfold F_piece_Check at h
  obtain ⟨u1, u2, rfl, hu3, hu4⟩ := S.know (i := 0) (e := fRep r_api_Piece (v0) p0) rfl
  have S := S.learn (fRep (rL (rI .i64)) u1 p0.Left) hu3
  obtain ⟨ad5, cp6, _, rfl, _⟩ := hu3
  have S := S.learn (fRep (rL (rI .i64)) u2 p0.Right) hu4
  obtain ⟨ad7, cp8, _, rfl, _⟩ := hu4
  refine sEnter (args := [.agg #[.slice ad5 p0.Left.length cp6, .slice ad7 p0.Right.length cp8]]) 58 Try.func17 rfl rfl (by simp) S (fun a S => ?_)
  refine sSeq (fun K9 hK9 => ?_)
  refine sRegion ?_
  refine sBox (v := .agg #[.slice ad5 p0.Left.length cp6, .slice ad7 p0.Right.length cp8]) S (wN rfl) rfl rfl [.slice ad5 p0.Left.length cp6, .slice ad7 p0.Right.length cp8] rfl rfl (lb rfl) fun a b10 w S => ?_
  refine sMove (iv 0) S (wN rfl) (.inr rfl) rfl rfl (lb rfl) fun a S => ?_
  refine leafL (leafT (hK9 _ _ ?_))
  refine sSeq (fun K11 hK11 => ?_)
  obtain ⟨t13, h, g14⟩ := bindSome h
  refine sCut (fun a w => ∃ o12, o12 = t13 ∧ St [] E [] w0 58 a w [(1, .pointer (some ⟨b10, 0, none⟩)), (24, .bool o12)] [eBox b10 36 [.slice ad5 p0.Left.length cp6, .slice ad7 p0.Right.length cp8]] [fRep (rL (rI .i64)) (.slice ad5 p0.Left.length cp6) p0.Left, fRep (rL (rI .i64)) (.slice ad7 p0.Right.length cp8) p0.Right]) ?_ (fun a w hI => ?_)
  · refine sRegion ?_
    refine sField (b := b10) (off := 0) 0 0 S (wN rfl) rfl rfl rfl rfl rfl (lb rfl) fun a S => ?_
    refine sLoad1 (p := b10) (off := 0) (T := 36) (vs := [.slice ad5 p0.Left.length cp6, .slice ad7 p0.Right.length cp8]) 0 (.slice ad5 p0.Left.length cp6) S (wN rfl) rfl rfl rfl rfl rfl rfl (lb rfl) fun a S => ?_
    refine sLen (ad := ad5) (m := p0.Left.length) (c := cp6) S (wN rfl) rfl Try.underlying34 rfl rfl (lb rfl) fun a S => ?_
    refine sField (b := b10) (off := 0) 1 1 S (wN rfl) rfl rfl rfl rfl rfl (lb rfl) fun a S => ?_
    refine sLoad1 (p := b10) (off := 1) (T := 36) (vs := [.slice ad5 p0.Left.length cp6, .slice ad7 p0.Right.length cp8]) 0 (.slice ad7 p0.Right.length cp8) S (wN rfl) rfl rfl rfl rfl rfl rfl (lb rfl) fun a S => ?_
    refine sLen (ad := ad7) (m := p0.Right.length) (c := cp8) S (wN rfl) rfl Try.underlying34 rfl rfl (lb rfl) fun a S => ?_
    refine sBin (.bool ((p0.Left.length : Int) != (p0.Right.length : Int))) S (wN rfl) rfl rfl rfl (bNe _ _ _ _ .i64 (p0.Left.length : Int) (p0.Right.length : Int)) rfl (lb rfl) fun a S => ?_
    refine sMove (.bool ((p0.Left.length : Int) != (p0.Right.length : Int))) S (wN rfl) (.inl rfl) rfl rfl (lb rfl) fun a S => ?_
    rcases iteSome h with ⟨hc15, h⟩ | ⟨hc15, h⟩
    · refine sSkip 7 false 13 14 S rfl rfl rfl hc15 rfl (lb rfl) fun a S => ?_
      refine sSkip 7 false 13 15 S rfl rfl rfl hc15 rfl (lb rfl) fun a S => ?_
      refine sSkip 7 false 13 16 S rfl rfl rfl hc15 rfl (lb rfl) fun a S => ?_
      refine sSkip 7 false 13 17 S rfl rfl rfl hc15 rfl (lb rfl) fun a S => ?_
      refine sPickT (.bool true) S (wN rfl) rfl rfl hc15 rfl rfl (lb rfl) fun a S => ?_
      refine sMove (.bool true) S (wN rfl) (.inl rfl) rfl rfl (lb rfl) fun a S => ?_
      refine sSkip 13 false 19 20 S rfl rfl rfl rfl rfl (lb rfl) fun a S => ?_
      refine sSkip 13 false 19 21 S rfl rfl rfl rfl rfl (lb rfl) fun a S => ?_
      refine sSkip 13 false 19 22 S rfl rfl rfl rfl rfl (lb rfl) fun a S => ?_
      refine sSkip 13 false 19 23 S rfl rfl rfl rfl rfl (lb rfl) fun a S => ?_
      refine sPickT (.bool true) S (wN rfl) rfl rfl rfl rfl rfl (lb rfl) fun a S => ?_
      exact leafL (leafT (⟨true, Option.some.inj h, S.fix [0] [1, 0] (by decide) rfl rfl rfl⟩))
    refine sField (b := b10) (off := 0) 0 0 S (wG 7 false 13 rfl rfl rfl hc15) rfl rfl rfl rfl rfl (lb rfl) fun a S => ?_
    refine sLoad1 (p := b10) (off := 0) (T := 36) (vs := [.slice ad5 p0.Left.length cp6, .slice ad7 p0.Right.length cp8]) 0 (.slice ad5 p0.Left.length cp6) S (wG 7 false 13 rfl rfl rfl hc15) rfl rfl rfl rfl rfl rfl (lb rfl) fun a S => ?_
    refine sLen (ad := ad5) (m := p0.Left.length) (c := cp6) S (wG 7 false 13 rfl rfl rfl hc15) rfl Try.underlying34 rfl rfl (lb rfl) fun a S => ?_
    refine sBin (.bool ((p0.Left.length : Int) == 0)) S (wG 7 false 13 rfl rfl rfl hc15) rfl rfl rfl (bEq _ _ _ _ .i64 (p0.Left.length : Int) 0) rfl (lb rfl) fun a S => ?_
    refine sPickF (.bool ((p0.Left.length : Int) == 0)) S (wN rfl) rfl rfl hc15 rfl rfl (lb rfl) fun a S => ?_
    refine sMove (.bool ((p0.Left.length : Int) == 0)) S (wN rfl) (.inl rfl) rfl rfl (lb rfl) fun a S => ?_
    rcases iteSome h with ⟨hc16, h⟩ | ⟨hc16, h⟩
    · refine sSkip 13 false 19 20 S rfl rfl rfl hc16 rfl (lb rfl) fun a S => ?_
      refine sSkip 13 false 19 21 S rfl rfl rfl hc16 rfl (lb rfl) fun a S => ?_
      refine sSkip 13 false 19 22 S rfl rfl rfl hc16 rfl (lb rfl) fun a S => ?_
      refine sSkip 13 false 19 23 S rfl rfl rfl hc16 rfl (lb rfl) fun a S => ?_
      refine sPickT (.bool true) S (wN rfl) rfl rfl hc16 rfl rfl (lb rfl) fun a S => ?_
      exact leafL (leafT (⟨true, Option.some.inj h, S.fix [0] [1, 0] (by decide) rfl rfl rfl⟩))
    refine sField (b := b10) (off := 0) 0 0 S (wG 13 false 19 rfl rfl rfl hc16) rfl rfl rfl rfl rfl (lb rfl) fun a S => ?_
    refine sLoad1 (p := b10) (off := 0) (T := 36) (vs := [.slice ad5 p0.Left.length cp6, .slice ad7 p0.Right.length cp8]) 0 (.slice ad5 p0.Left.length cp6) S (wG 13 false 19 rfl rfl rfl hc16) rfl rfl rfl rfl rfl rfl (lb rfl) fun a S => ?_
    refine sLen (ad := ad5) (m := p0.Left.length) (c := cp6) S (wG 13 false 19 rfl rfl rfl hc16) rfl Try.underlying34 rfl rfl (lb rfl) fun a S => ?_
    refine sBin (.bool (decide (100 < (p0.Left.length : Int)))) S (wG 13 false 19 rfl rfl rfl hc16) rfl rfl rfl (bGt _ _ _ _ .i64 (p0.Left.length : Int) 100) rfl (lb rfl) fun a S => ?_
    refine sPickF (.bool (decide (100 < (p0.Left.length : Int)))) S (wN rfl) rfl rfl hc16 rfl rfl (lb rfl) fun a S => ?_
    exact leafL (leafT (⟨decide (100 < (p0.Left.length : Int)), Option.some.inj h, S.fix [0] [1, 0] (by decide) rfl rfl rfl⟩))
  obtain ⟨o12, rfl, S⟩ := hI
  have h := g14
  clear g14
  try dsimp only at h
  rcases iteSome h with ⟨hc17, h⟩ | ⟨hc17, h⟩
  · refine sCondT S rfl hc17 ?_
    refine sSeq (fun K18 hK18 => ?_)
    refine sRegion ?_
    refine sMove (iv 8) S (wN rfl) (.inr rfl) rfl rfl (lb rfl) fun a S => ?_
    refine leafL (leafT (hK18 _ _ ?_))
    obtain rfl := Option.some.inj h
    exact wp_ret (rThen (sRet (iv 8) S (rsl1 rfl (rvT (t := 2) (v := iv 8) S rfl)) ⟨(), rfl, S.mem.sel [] [] (by decide) rfl rfl⟩))
  refine sCondF S rfl hc17 ?_
  refine wp_skip (leafT (hK11 _ _ ?_))
  obtain ⟨t19, h, g20⟩ := bindSome h
  refine sCut (fun a w => .inl () = t19 ∧ St [] E [] w0 58 a w [] [] []) ?_ (fun a w hI => ?_)
  rotate_left
  · obtain ⟨rfl, S⟩ := hI
    have h := g20
    clear g20
    try dsimp only at h
    refine sSeq (fun K54 hK54 => ?_)
    refine sRegion ?_
    refine sMove (iv 0) S (wN rfl) (.inr rfl) rfl rfl (lb rfl) fun a S => ?_
    refine leafL (leafT (hK54 _ _ ?_))
    obtain rfl := Option.some.inj h
    exact wp_ret (sRet (iv 0) S (rsl1 rfl (rvT (t := 2) (v := iv 0) S rfl)) ⟨(), rfl, S.mem.sel [] [] (by decide) rfl rfl⟩)
  refine sSeq (fun K21 hK21 => ?_)
  refine sRegion ?_
  refine sField (b := b10) (off := 0) 0 0 S (wN rfl) rfl rfl rfl rfl rfl (lb rfl) fun a S => ?_
  refine sLoad1 (p := b10) (off := 0) (T := 36) (vs := [.slice ad5 p0.Left.length cp6, .slice ad7 p0.Right.length cp8]) 0 (.slice ad5 p0.Left.length cp6) S (wN rfl) rfl rfl rfl rfl rfl rfl (lb rfl) fun a S => ?_
  refine sLen (ad := ad5) (m := p0.Left.length) (c := cp6) S (wN rfl) rfl Try.underlying34 rfl rfl (lb rfl) fun a S => ?_
  refine sMove (iv 0) S (wN rfl) (.inl rfl) rfl rfl (lb rfl) fun a S => ?_
  refine leafL (leafT (hK21 _ _ ?_))
  refine wp_block ?_
  obtain ⟨t25, hl, g24⟩ := bindSome h
  refine sLoop hl (fun s0 a w => match s0 with | s22 => St [] E [] w0 58 a w [(1, .pointer (some ⟨b10, 0, none⟩)), (26, .slice ad5 p0.Left.length cp6), (27, iv (p0.Left.length : Int)), (28, iv s22)] [eBox b10 36 [.slice ad5 p0.Left.length cp6, .slice ad7 p0.Right.length cp8]] [fRep (rL (rI .i64)) (.slice ad5 p0.Left.length cp6) p0.Left, fRep (rL (rI .i64)) (.slice ad7 p0.Right.length cp8) p0.Right]) (S.fix [0] [0, 1] (by decide) rfl rfl rfl) ?_
  clear hl h
  intro s22 a w c0 hI h hu23
  unfold piece_Check_l1 at h
  dsimp only at h hI
  have S := hI
  refine sSeq (fun K26 hK26 => ?_)
  refine sRegion ?_
  refine sBin (.bool (decide (s22 < (p0.Left.length : Int)))) S (wN rfl) rfl rfl rfl (bLt _ _ _ _ .i64 s22 (p0.Left.length : Int)) rfl (lb rfl) fun a S => ?_
  refine leafL (leafT (hK26 _ _ ?_))
  refine sSeq (fun K27 hK27 => ?_)
  rcases iteSome h with ⟨hc28, h⟩ | ⟨hc28, h⟩
  rotate_left
  · refine sCondF S rfl hc28 ?_
    obtain rfl := Option.some.inj h
    obtain rfl := hu23 _ rfl
    have h := g24
    clear g24
    try dsimp only at h
    exact wp_exit (xThen (xThen (xHit (leafT (⟨Option.some.inj h, S.fix [] [] (by decide) rfl rfl rfl⟩)))))
  refine sCondT S rfl hc28 ?_
  refine wp_skip (leafT (hK27 _ _ ?_))
  refine sSeq (fun K29 hK29 => ?_)
  refine wp_block ?_
  refine sSeq (fun K30 hK30 => ?_)
  refine sRegion ?_
  refine sMove (iv s22) S (wN rfl) (.inl rfl) rfl rfl (lb rfl) fun a S => ?_
  obtain ⟨x31, hx32, h⟩ := bindSome h
  obtain ⟨q33, hq34, S⟩ := pIdx (P := Try.prog) (r := (rI .i64)) (v := .slice ad5 p0.Left.length cp6) (xs := p0.Left) (j := s22) 34 3 0 S Try.underlying34 rfl rfl hx32
  refine sIdxV (v := .slice ad5 p0.Left.length cp6) (k := .i64) (j := s22) S (wN rfl) rfl rfl rfl hq34 rfl (lb rfl) fun a S => ?_
  obtain ⟨u35, S⟩ := pLoad (r := (rI .i64)) (q := q33) (x := x31) 0 S rfl
  obtain rfl : u35 = iv x31 := S.mem.know (i := 1) (e := fRep (rI .i64) (u35) x31) rfl
  refine sLoadV1 (vq := q33) 0 (iv x31) S (wN rfl) rfl rfl rfl rfl rfl (lb rfl) fun a S => ?_
  refine sMove (iv s22) S (wN rfl) (.inr rfl) rfl rfl (lb rfl) fun a S => ?_
  refine sMove (iv x31) S (wN rfl) (.inr rfl) rfl rfl (lb rfl) fun a S => ?_
  refine leafL (leafT (hK30 _ _ ?_))
  refine sSeq (fun K36 hK36 => ?_)
  refine sRegion ?_
  refine sField (b := b10) (off := 0) 1 1 S (wN rfl) rfl rfl rfl rfl rfl (lb rfl) fun a S => ?_
  refine sLoad1 (p := b10) (off := 1) (T := 36) (vs := [.slice ad5 p0.Left.length cp6, .slice ad7 p0.Right.length cp8]) 0 (.slice ad7 p0.Right.length cp8) S (wN rfl) rfl rfl rfl rfl rfl rfl (lb rfl) fun a S => ?_
  refine sMove (iv s22) S (wN rfl) (.inl rfl) rfl rfl (lb rfl) fun a S => ?_
  obtain ⟨x37, hx38, h⟩ := bindSome h
  obtain ⟨q39, hq40, S⟩ := pIdx (P := Try.prog) (r := (rI .i64)) (v := .slice ad7 p0.Right.length cp8) (xs := p0.Right) (j := s22) 34 3 4 S Try.underlying34 rfl rfl hx38
  refine sIdxV (v := .slice ad7 p0.Right.length cp8) (k := .i64) (j := s22) S (wN rfl) rfl rfl rfl hq40 rfl (lb rfl) fun a S => ?_
  obtain ⟨u41, S⟩ := pLoad (r := (rI .i64)) (q := q39) (x := x37) 0 S rfl
  obtain rfl : u41 = iv x37 := S.mem.know (i := 1) (e := fRep (rI .i64) (u41) x37) rfl
  refine sLoadV1 (vq := q39) 0 (iv x37) S (wN rfl) rfl rfl rfl rfl rfl (lb rfl) fun a S => ?_
  refine sMove (iv x37) S (wN rfl) (.inr rfl) rfl rfl (lb rfl) fun a S => ?_
  refine leafL (leafT (hK36 _ _ ?_))
  obtain ⟨t43, h, g44⟩ := bindSome h
  refine sCut (fun a w => ∃ o42, o42 = t43 ∧ St [] E [] w0 58 a w [(1, .pointer (some ⟨b10, 0, none⟩)), (26, .slice ad5 p0.Left.length cp6), (27, iv (p0.Left.length : Int)), (28, iv s22), (56, .bool o42)] [eBox b10 36 [.slice ad5 p0.Left.length cp6, .slice ad7 p0.Right.length cp8]] [fRep (rL (rI .i64)) (.slice ad5 p0.Left.length cp6) p0.Left, fRep (rL (rI .i64)) (.slice ad7 p0.Right.length cp8) p0.Right]) ?_ (fun a w hI => ?_)
  rotate_left
  · obtain ⟨o42, rfl, S⟩ := hI
    have h := g44
    clear g44
    try dsimp only at h
    rcases iteSome h with ⟨hc52, h⟩ | ⟨hc52, h⟩
    rotate_left
    · refine sCondF S rfl hc52 ?_
      refine wp_skip (leafB (leafT (hK29 _ _ ?_)))
      refine sRegion ?_
      refine sBin (iv (w64 (s22 + 1))) S (wN rfl) rfl rfl rfl (bAdd _ _ _ _ s22 1) rfl (lb rfl) fun a S => ?_
      refine sMove (iv (w64 (s22 + 1))) S (wN rfl) (.inl rfl) rfl rfl (lb rfl) fun a S => ?_
      exact leafL (leafT (⟨w64 (s22 + 1), (Option.some.inj h).symm, (S.fix [0] [0, 1] (by decide) rfl rfl rfl)⟩))
    refine sCondT S rfl hc52 ?_
    refine sSeq (fun K53 hK53 => ?_)
    refine sRegion ?_
    refine sMove (iv 8) S (wN rfl) (.inr rfl) rfl rfl (lb rfl) fun a S => ?_
    refine leafL (leafT (hK53 _ _ ?_))
    obtain rfl := Option.some.inj h
    obtain rfl := hu23 _ rfl
    have h := g24
    clear g24
    try dsimp only at h
    obtain rfl := Option.some.inj h
    have h := g20
    clear g20
    try dsimp only at h
    obtain rfl := Option.some.inj h
    exact wp_ret (rBlock (rThen (rThen (rBlock (rThen (sRet (iv 8) S (rsl1 rfl (rvT (t := 2) (v := iv 8) S rfl)) ⟨(), rfl, S.mem.sel [] [] (by decide) rfl rfl⟩))))))
  refine sRegion ?_
  refine sMove (iv x31) S (wN rfl) (.inl rfl) rfl rfl (lb rfl) fun a S => ?_
  obtain ⟨r45, hx46, h⟩ := bindSome h
  have S1 := S.mem
  refine sCallQ (X := Unit) (f := 33) (vs := [iv x31]) (val := fun _ => .bool r45) S (wN rfl) rfl callee33 rfl (S1.quiet [] rfl) (fun E1 w1 S1 => c_piece_column E1 w1 x31 r45 hx46 S1) rfl (lb rfl) fun _ a w S => ?_
  refine sNot (b := r45) S (wN rfl) rfl rfl rfl (lb rfl) fun a S => ?_
  refine sMove (.bool (!r45)) S (wN rfl) (.inl rfl) rfl rfl (lb rfl) fun a S => ?_
  rcases iteSome h with ⟨hc47, h⟩ | ⟨hc47, h⟩
  · refine sSkip 3 false 41 42 S rfl rfl rfl hc47 rfl (lb rfl) fun a S => ?_
    refine sSkip 3 false 41 43 S rfl rfl rfl hc47 rfl (lb rfl) fun a S => ?_
    refine sSkip 3 false 41 44 S rfl rfl rfl hc47 rfl (lb rfl) fun a S => ?_
    refine sPickT (.bool true) S (wN rfl) rfl rfl hc47 rfl rfl (lb rfl) fun a S => ?_
    refine sMove (.bool true) S (wN rfl) (.inl rfl) rfl rfl (lb rfl) fun a S => ?_
    refine sSkip 8 false 46 47 S rfl rfl rfl rfl rfl (lb rfl) fun a S => ?_
    refine sSkip 8 false 46 48 S rfl rfl rfl rfl rfl (lb rfl) fun a S => ?_
    refine sSkip 8 false 46 49 S rfl rfl rfl rfl rfl (lb rfl) fun a S => ?_
    refine sPickT (.bool true) S (wN rfl) rfl rfl rfl rfl rfl (lb rfl) fun a S => ?_
    refine sMove (.bool true) S (wN rfl) (.inl rfl) rfl rfl (lb rfl) fun a S => ?_
    refine sSkip 13 false 51 52 S rfl rfl rfl rfl rfl (lb rfl) fun a S => ?_
    refine sSkip 13 false 51 53 S rfl rfl rfl rfl rfl (lb rfl) fun a S => ?_
    refine sSkip 13 false 51 54 S rfl rfl rfl rfl rfl (lb rfl) fun a S => ?_
    refine sSkip 13 false 51 55 S rfl rfl rfl rfl rfl (lb rfl) fun a S => ?_
    refine sPickT (.bool true) S (wN rfl) rfl rfl rfl rfl rfl (lb rfl) fun a S => ?_
    exact leafL (leafT (⟨true, Option.some.inj h, S.fix [0] [6, 7] (by decide) rfl rfl rfl⟩))
  refine sMove (iv x37) S (wG 3 false 41 rfl rfl rfl hc47) (.inl rfl) rfl rfl (lb rfl) fun a S => ?_
  obtain ⟨r48, hx49, h⟩ := bindSome h
  have S1 := S.mem
  refine sCallQ (X := Unit) (f := 33) (vs := [iv x37]) (val := fun _ => .bool r48) S (wG 3 false 41 rfl rfl rfl hc47) rfl callee33 rfl (S1.quiet [] rfl) (fun E1 w1 S1 => c_piece_column E1 w1 x37 r48 hx49 S1) rfl (lb rfl) fun _ a w S => ?_
  refine sNot (b := r48) S (wG 3 false 41 rfl rfl rfl hc47) rfl rfl rfl (lb rfl) fun a S => ?_
  refine sPickF (.bool (!r48)) S (wN rfl) rfl rfl hc47 rfl rfl (lb rfl) fun a S => ?_
  refine sMove (.bool (!r48)) S (wN rfl) (.inl rfl) rfl rfl (lb rfl) fun a S => ?_
  rcases iteSome h with ⟨hc50, h⟩ | ⟨hc50, h⟩
  · refine sSkip 8 false 46 47 S rfl rfl rfl hc50 rfl (lb rfl) fun a S => ?_
    refine sSkip 8 false 46 48 S rfl rfl rfl hc50 rfl (lb rfl) fun a S => ?_
    refine sSkip 8 false 46 49 S rfl rfl rfl hc50 rfl (lb rfl) fun a S => ?_
    refine sPickT (.bool true) S (wN rfl) rfl rfl hc50 rfl rfl (lb rfl) fun a S => ?_
    refine sMove (.bool true) S (wN rfl) (.inl rfl) rfl rfl (lb rfl) fun a S => ?_
    refine sSkip 13 false 51 52 S rfl rfl rfl rfl rfl (lb rfl) fun a S => ?_
    refine sSkip 13 false 51 53 S rfl rfl rfl rfl rfl (lb rfl) fun a S => ?_
    refine sSkip 13 false 51 54 S rfl rfl rfl rfl rfl (lb rfl) fun a S => ?_
    refine sSkip 13 false 51 55 S rfl rfl rfl rfl rfl (lb rfl) fun a S => ?_
    refine sPickT (.bool true) S (wN rfl) rfl rfl rfl rfl rfl (lb rfl) fun a S => ?_
    exact leafL (leafT (⟨true, Option.some.inj h, S.fix [0] [6, 7] (by decide) rfl rfl rfl⟩))
  refine sMove (iv x31) S (wG 8 false 46 rfl rfl rfl hc50) (.inl rfl) rfl rfl (lb rfl) fun a S => ?_
  refine sMove (iv x37) S (wG 8 false 46 rfl rfl rfl hc50) (.inl rfl) rfl rfl (lb rfl) fun a S => ?_
  refine sBin (.bool (decide (x37 ≤ x31))) S (wG 8 false 46 rfl rfl rfl hc50) rfl rfl rfl (bGe _ _ _ _ .i64 x31 x37) rfl (lb rfl) fun a S => ?_
  refine sPickF (.bool (decide (x37 ≤ x31))) S (wN rfl) rfl rfl hc50 rfl rfl (lb rfl) fun a S => ?_
  refine sMove (.bool (decide (x37 ≤ x31))) S (wN rfl) (.inl rfl) rfl rfl (lb rfl) fun a S => ?_
  rcases iteSome h with ⟨hc51, h⟩ | ⟨hc51, h⟩
  · refine sSkip 13 false 51 52 S rfl rfl rfl hc51 rfl (lb rfl) fun a S => ?_
    refine sSkip 13 false 51 53 S rfl rfl rfl hc51 rfl (lb rfl) fun a S => ?_
    refine sSkip 13 false 51 54 S rfl rfl rfl hc51 rfl (lb rfl) fun a S => ?_
    refine sSkip 13 false 51 55 S rfl rfl rfl hc51 rfl (lb rfl) fun a S => ?_
    refine sPickT (.bool true) S (wN rfl) rfl rfl hc51 rfl rfl (lb rfl) fun a S => ?_
    exact leafL (leafT (⟨true, Option.some.inj h, S.fix [0] [6, 7] (by decide) rfl rfl rfl⟩))
  refine sMove (iv x37) S (wG 13 false 51 rfl rfl rfl hc51) (.inl rfl) rfl rfl (lb rfl) fun a S => ?_
  refine sMove (iv x31) S (wG 13 false 51 rfl rfl rfl hc51) (.inl rfl) rfl rfl (lb rfl) fun a S => ?_
  refine sBin (iv (w64 (x37 - x31))) S (wG 13 false 51 rfl rfl rfl hc51) rfl rfl rfl (bSub _ _ _ _ x37 x31) rfl (lb rfl) fun a S => ?_
  refine sBin (.bool (decide (200 < (w64 (x37 - x31))))) S (wG 13 false 51 rfl rfl rfl hc51) rfl rfl rfl (bGt _ _ _ _ .i64 (w64 (x37 - x31)) 200) rfl (lb rfl) fun a S => ?_
  refine sPickF (.bool (decide (200 < (w64 (x37 - x31))))) S (wN rfl) rfl rfl hc51 rfl rfl (lb rfl) fun a S => ?_
  exact leafL (leafT (⟨decide (200 < (w64 (x37 - x31))), Option.some.inj h, S.fix [0] [6, 7] (by decide) rfl rfl rfl⟩))

end Go.Proofs.Ytmedbnjhgkcndaa
namespace Go.Proofs.Ytmedbnjhgkcndaa
open Go.RowKit
set_option linter.unusedVariables false

noncomputable def F_raddleref37_in (p0 : Int) : Option Bool :=
  Option.bind (α := Bool) (
    if decide ((-500) ≤ p0) then
      some (decide (p0 ≤ 500))
    else
      some false) fun o2 =>
  some o2
set_option maxHeartbeats 4000000 in
set_option maxRecDepth 100000 in
theorem c_raddleref37_in (E : Nat → Prop) (w0 : World) (p0 : Int) (r : Bool) (h : F_raddleref37_in p0 = some r) (S : St0 E [] w0 w0 [] []) :
    Calls Try.prog 34 #[iv p0] w0 (Ret (X := Unit) E [] w0 (fun _ => .bool r) (fun _ => []) (fun _ => [])) := by
  unfold F_raddleref37_in at h
  refine sEnter (args := [iv p0]) 9 Try.func34 rfl rfl (by simp) S (fun a S => ?_)
  refine sSeq (fun K1 hK1 => ?_)
  refine sRegion ?_
  refine sMove (.bool false) S (wN rfl) (.inr rfl) rfl rfl (lb rfl) fun a S => ?_
  refine leafL (leafT (hK1 _ _ ?_))
  obtain ⟨t3, h, g4⟩ := bindSome h
  refine sCut (fun a w => ∃ o2, o2 = t3 ∧ St [] E [] w0 9 a w [(2, .bool o2)] [] []) ?_ (fun a w hI => ?_)
  rotate_left
  · obtain ⟨o2, rfl, S⟩ := hI
    have h := g4
    clear g4
    try dsimp only at h
    obtain rfl := Option.some.inj h
    exact wp_ret (sRet (.bool o2) S (rsl1 rfl (rvT (t := 2) (v := .bool o2) S rfl)) ⟨(), rfl, S.mem.sel [] [] (by decide) rfl rfl⟩)
  refine sRegion ?_
  refine sMove (iv p0) S (wN rfl) (.inl rfl) rfl rfl (lb rfl) fun a S => ?_
  refine sBin (.bool (decide ((-500) ≤ p0))) S (wN rfl) rfl rfl rfl (bGe _ _ _ _ .i64 p0 (-500)) rfl (lb rfl) fun a S => ?_
  refine sMove (.bool (decide ((-500) ≤ p0))) S (wN rfl) (.inl rfl) rfl rfl (lb rfl) fun a S => ?_
  rcases iteSome h with ⟨hc5, h⟩ | ⟨hc5, h⟩
  rotate_left
  · refine sSkip 2 true 5 6 S rfl rfl rfl hc5 rfl (lb rfl) fun a S => ?_
    refine sSkip 2 true 5 7 S rfl rfl rfl hc5 rfl (lb rfl) fun a S => ?_
    refine sPickF (.bool false) S (wN rfl) rfl rfl hc5 rfl rfl (lb rfl) fun a S => ?_
    refine sMove (.bool false) S (wN rfl) (.inr rfl) rfl rfl (lb rfl) fun a S => ?_
    exact leafL (leafT (⟨false, Option.some.inj h, S.fix [] [] (by decide) rfl rfl rfl⟩))
  refine sMove (iv p0) S (wG 2 true 5 rfl rfl rfl hc5) (.inl rfl) rfl rfl (lb rfl) fun a S => ?_
  refine sBin (.bool (decide (p0 ≤ 500))) S (wG 2 true 5 rfl rfl rfl hc5) rfl rfl rfl (bLe _ _ _ _ .i64 p0 500) rfl (lb rfl) fun a S => ?_
  refine sPickT (.bool (decide (p0 ≤ 500))) S (wN rfl) rfl rfl hc5 rfl rfl (lb rfl) fun a S => ?_
  refine sMove (.bool (decide (p0 ≤ 500))) S (wN rfl) (.inr rfl) rfl rfl (lb rfl) fun a S => ?_
  exact leafL (leafT (⟨decide (p0 ≤ 500), Option.some.inj h, S.fix [] [] (by decide) rfl rfl rfl⟩))

end Go.Proofs.Ytmedbnjhgkcndaa
namespace Go.Proofs.Ytmedbnjhgkcndaa
open Go.RowKit
set_option linter.unusedVariables false

def anc_raddleref37_Check_0 : List (List Nat) := [[], [0], [], [0, 1, 2], [0, 1, 2, 3], [0, 1, 2, 3, 4], [0, 1, 2, 3, 4, 5], [0, 1, 2, 3, 4, 5, 6], [0, 1, 2, 3, 4, 5, 6, 7], [0, 1, 2, 3, 4, 5, 6, 7, 8], [0, 1, 2, 3, 4, 5, 6, 7], [0, 1, 2, 3, 4, 5, 6, 7, 8, 9, 10], [0, 1, 2, 3, 4, 5, 6, 7, 8, 9, 10, 11], [0, 1, 2, 3, 4, 5, 6, 7, 8, 9, 10, 11, 12], [0, 1, 2, 3, 4, 5, 6, 7, 8, 9, 10, 11, 12, 13], [0, 1, 2, 3, 4, 5, 6, 7, 8, 9, 10, 11, 12, 13, 14], [0, 1, 2, 3, 4, 5, 6, 7, 8, 9, 10, 11, 12, 13, 14, 15], [0, 1, 2, 3, 4, 5, 6, 7, 8, 9, 10, 11, 12, 13, 14, 15, 16], [0, 1, 2, 3, 4, 5, 6, 7, 8, 9, 10, 11, 12, 13, 14, 15, 16, 17], [0, 1, 2, 3, 4, 5, 6, 7, 8, 9, 10, 11, 12, 13, 14, 15, 16], [0, 1, 2, 3, 4, 5, 6, 7, 8, 9, 10, 11, 12, 13, 14, 15, 16, 17, 18, 19], [0, 1, 2, 3, 4, 5, 6, 7, 8, 9, 10, 11, 12, 13, 14, 15, 16, 17, 18, 19, 20], [0, 1, 2, 3, 4, 5, 6, 7, 8, 9, 10, 11, 12, 13, 14, 15, 16], [0, 1, 2, 3, 4, 5, 6, 7, 8, 9, 10, 11, 12, 13, 14, 15, 16, 22], [0, 1, 2, 3, 4, 5, 6, 7, 8, 9, 10, 11, 12, 13, 14, 15, 16], [0, 1, 2, 3, 4, 5, 6, 7, 8, 9, 10, 11, 12, 13, 14, 15, 16, 22, 23, 24], [0, 1, 2, 3, 4, 5, 6, 7, 8, 9, 10, 11, 12, 13, 14, 15, 16, 22, 23, 24, 25], [0, 1, 2, 3, 4, 5, 6, 7, 8, 9, 10, 11, 12, 13, 14, 15, 16, 17, 18, 19, 20, 21, 22, 23, 24, 25, 26], [0, 1, 2, 3, 4, 5, 6, 7, 8, 9, 10, 11, 12, 13, 14, 15, 16, 17, 18, 19, 20, 21, 22, 23, 24, 25, 26, 27], [0, 1, 2, 3, 4, 5, 6, 7, 8, 9, 10, 11, 12, 13, 14, 15, 16, 17, 18, 19, 20, 21, 22, 23, 24, 25, 26, 27, 28], [0, 1, 2, 3, 4, 5, 6, 7, 8, 9, 10, 11, 12, 13, 14, 15, 16, 17, 18, 19, 20, 21, 22, 23, 24, 25, 26, 27, 28, 29], [0, 1, 2, 3, 4, 5, 6, 7, 8, 9, 10, 11, 12, 13, 14, 15, 16, 17, 18, 19, 20, 21, 22, 23, 24, 25, 26, 27, 28, 29, 30], [0, 1, 2, 3, 4, 5, 6, 7, 8, 9, 10, 11, 12, 13, 14, 15, 16, 17, 18, 19, 20, 21, 22, 23, 24, 25, 26, 27, 28, 29], [0, 1, 2, 3, 4, 5, 6, 7, 8, 9, 10, 11, 12, 13, 14, 15, 16, 17, 18, 19, 20, 21, 22, 23, 24, 25, 26, 27, 28, 29, 30, 31, 32], [0, 1, 2, 3, 4, 5, 6, 7, 8, 9, 10, 11, 12, 13, 14, 15, 16, 17, 18, 19, 20, 21, 22, 23, 24, 25, 26, 27, 28, 29, 30, 31, 32, 33], [0, 1, 2, 3, 4, 5, 6, 7, 8, 9, 10, 11, 12, 13, 14, 15, 16, 17, 18, 19, 20, 21, 22, 23, 24, 25, 26, 27, 28, 29], [0, 1, 2, 3, 4, 5, 6, 7, 8, 9, 10, 11, 12, 13, 14, 15, 16, 17, 18, 19, 20, 21, 22, 23, 24, 25, 26, 27, 28, 29, 35], [0, 1, 2, 3, 4, 5, 6, 7, 8, 9, 10, 11, 12, 13, 14, 15, 16, 17, 18, 19, 20, 21, 22, 23, 24, 25, 26, 27, 28, 29], [0, 1, 2, 3, 4, 5, 6, 7, 8, 9, 10, 11, 12, 13, 14, 15, 16, 17, 18, 19, 20, 21, 22, 23, 24, 25, 26, 27, 28, 29, 35, 36, 37], [0, 1, 2, 3, 4, 5, 6, 7, 8, 9, 10, 11, 12, 13, 14, 15, 16, 17, 18, 19, 20, 21, 22, 23, 24, 25, 26, 27, 28, 29, 35, 36, 37, 38], [0, 1, 2, 3, 4, 5, 6, 7, 8, 9, 10, 11, 12, 13, 14, 15, 16, 17, 18, 19, 20, 21, 22, 23, 24, 25, 26, 27, 28, 29, 30, 31, 32, 33, 34, 35, 36, 37, 38, 39], [0, 1, 2, 3, 4, 5, 6, 7, 8, 9, 10, 11, 12, 13, 14, 15, 16, 17, 18, 19, 20, 21, 22, 23, 24, 25, 26, 27, 28, 29, 30, 31, 32, 33, 34, 35, 36, 37, 38, 39, 40], [0, 1, 2, 3, 4, 5, 6, 7, 8, 9, 10, 11, 12, 13, 14, 15, 16, 17, 18, 19, 20, 21, 22, 23, 24, 25, 26, 27, 28, 29, 30, 31, 32, 33, 34, 35, 36, 37, 38, 39, 40, 41]]
noncomputable def raddleref37_Check_l1 (p0 : api_Piece) : Int → Option (Int ⊕ (Int ⊕ Unit)) := fun s0 => match s0 with
  | s22 =>
    if decide (s22 < (p0.Left.length : Int)) then
      Option.bind (α := Bool) (
        Option.bind (idxO p0.Left s22) fun x33 =>
        Option.bind (F_raddleref37_in x33) fun r38 =>
        if !r38 then
          some true
        else
          Option.bind (idxO p0.Right s22) fun x44 =>
          Option.bind (F_raddleref37_in x44) fun r49 =>
          if !r49 then
            some true
          else
            if decide (x44 ≤ x33) then
              some true
            else
              some (decide (200 < (w64 (x44 - x33))))) fun o30 =>
      if o30 then
        some (.inr (.inl 8))
      else
        some (.inl (w64 (s22 + 1)))
    else
      some (.inr (.inr ()))
noncomputable def F_raddleref37_Check (p0 : api_Piece) : Option Int :=
  Option.bind (α := Bool) (
    if (p0.Left.length : Int) != (p0.Right.length : Int) then
      some true
    else
      if decide ((p0.Left.length : Int) < 1) then
        some true
      else
        some (decide (100 < (p0.Left.length : Int)))) fun o12 =>
  if o12 then
    some 8
  else
    Option.bind (α := Unit ⊕ Int) (
      Option.bind (whileO (raddleref37_Check_l1 p0) 0) fun z0 => match z0 with
        | .inl z =>
          some (.inr z)
        | .inr _ =>
          some (.inl ())) fun z0 => match z0 with
      | .inl _ =>
        some 0
      | .inr z =>
        some z
set_option maxHeartbeats 4000000 in
set_option maxRecDepth 100000 in
theorem c_raddleref37_Check (E : Nat → Prop) (w0 : World) (p0 : api_Piece) (v0 : Value) (r : Int) (h : F_raddleref37_Check p0 = some r) (S : St0 E [] w0 w0 [] [fRep r_api_Piece (v0) p0]) :
    Calls Try.prog 18 #[v0] w0 (Ret (X := Unit) E [] w0 (fun _ => .int .i64 r) (fun _ => []) (fun _ => [])) := by
  unfold F_raddleref37_Check at h
  obtain ⟨u1, u2, rfl, hu3, hu4⟩ := S.know (i := 0) (e := fRep r_api_Piece (v0) p0) rfl
  have S := S.learn (fRep (rL (rI .i64)) u1 p0.Left) hu3
  obtain ⟨ad5, cp6, _, rfl, _⟩ := hu3
  have S := S.learn (fRep (rL (rI .i64)) u2 p0.Right) hu4
  obtain ⟨ad7, cp8, _, rfl, _⟩ := hu4
  refine sEnter (args := [.agg #[.slice ad5 p0.Left.length cp6, .slice ad7 p0.Right.length cp8]]) 73 Try.func18 rfl rfl (by simp) S (fun a S => ?_)
  refine sSeq (fun K9 hK9 => ?_)
  refine sRegion ?_
  refine sBox (v := .agg #[.slice ad5 p0.Left.length cp6, .slice ad7 p0.Right.length cp8]) S (wN rfl) rfl rfl [.slice ad5 p0.Left.length cp6, .slice ad7 p0.Right.length cp8] rfl rfl (lb rfl) fun a b10 w S => ?_
  refine sMove (iv 0) S (wN rfl) (.inr rfl) rfl rfl (lb rfl) fun a S => ?_
  refine leafL (leafT (hK9 _ _ ?_))
  refine sSeq (fun K11 hK11 => ?_)
  obtain ⟨t13, h, g14⟩ := bindSome h
  refine sCut (fun a w => ∃ o12, o12 = t13 ∧ St [] E [] w0 73 a w [(1, .pointer (some ⟨b10, 0, none⟩)), (22, .bool o12)] [eBox b10 36 [.slice ad5 p0.Left.length cp6, .slice ad7 p0.Right.length cp8]] [fRep (rL (rI .i64)) (.slice ad5 p0.Left.length cp6) p0.Left, fRep (rL (rI .i64)) (.slice ad7 p0.Right.length cp8) p0.Right]) ?_ (fun a w hI => ?_)
  · refine sRegion ?_
    refine sField (b := b10) (off := 0) 0 0 S (wN rfl) rfl rfl rfl rfl rfl (lb rfl) fun a S => ?_
    refine sLoad1 (p := b10) (off := 0) (T := 36) (vs := [.slice ad5 p0.Left.length cp6, .slice ad7 p0.Right.length cp8]) 0 (.slice ad5 p0.Left.length cp6) S (wN rfl) rfl rfl rfl rfl rfl rfl (lb rfl) fun a S => ?_
    refine sLen (ad := ad5) (m := p0.Left.length) (c := cp6) S (wN rfl) rfl Try.underlying34 rfl rfl (lb rfl) fun a S => ?_
    refine sField (b := b10) (off := 0) 1 1 S (wN rfl) rfl rfl rfl rfl rfl (lb rfl) fun a S => ?_
    refine sLoad1 (p := b10) (off := 1) (T := 36) (vs := [.slice ad5 p0.Left.length cp6, .slice ad7 p0.Right.length cp8]) 0 (.slice ad7 p0.Right.length cp8) S (wN rfl) rfl rfl rfl rfl rfl rfl (lb rfl) fun a S => ?_
    refine sLen (ad := ad7) (m := p0.Right.length) (c := cp8) S (wN rfl) rfl Try.underlying34 rfl rfl (lb rfl) fun a S => ?_
    refine sBin (.bool ((p0.Left.length : Int) != (p0.Right.length : Int))) S (wN rfl) rfl rfl rfl (bNe _ _ _ _ .i64 (p0.Left.length : Int) (p0.Right.length : Int)) rfl (lb rfl) fun a S => ?_
    refine sMove (.bool ((p0.Left.length : Int) != (p0.Right.length : Int))) S (wN rfl) (.inl rfl) rfl rfl (lb rfl) fun a S => ?_
    rcases iteSome h with ⟨hc15, h⟩ | ⟨hc15, h⟩
    · refine sSkip 7 false 11 12 S rfl rfl rfl hc15 rfl (lb rfl) fun a S => ?_
      refine sSkip 7 false 11 13 S rfl rfl rfl hc15 rfl (lb rfl) fun a S => ?_
      refine sSkip 7 false 11 14 S rfl rfl rfl hc15 rfl (lb rfl) fun a S => ?_
      refine sSkip 7 false 11 15 S rfl rfl rfl hc15 rfl (lb rfl) fun a S => ?_
      refine sPickT (.bool true) S (wN rfl) rfl rfl hc15 rfl rfl (lb rfl) fun a S => ?_
      refine sMove (.bool true) S (wN rfl) (.inl rfl) rfl rfl (lb rfl) fun a S => ?_
      refine sSkip 13 false 17 18 S rfl rfl rfl rfl rfl (lb rfl) fun a S => ?_
      refine sSkip 13 false 17 19 S rfl rfl rfl rfl rfl (lb rfl) fun a S => ?_
      refine sSkip 13 false 17 20 S rfl rfl rfl rfl rfl (lb rfl) fun a S => ?_
      refine sSkip 13 false 17 21 S rfl rfl rfl rfl rfl (lb rfl) fun a S => ?_
      refine sPickT (.bool true) S (wN rfl) rfl rfl rfl rfl rfl (lb rfl) fun a S => ?_
      exact leafL (leafT (⟨true, Option.some.inj h, S.fix [0] [1, 0] (by decide) rfl rfl rfl⟩))
    refine sField (b := b10) (off := 0) 0 0 S (wG 7 false 11 rfl rfl rfl hc15) rfl rfl rfl rfl rfl (lb rfl) fun a S => ?_
    refine sLoad1 (p := b10) (off := 0) (T := 36) (vs := [.slice ad5 p0.Left.length cp6, .slice ad7 p0.Right.length cp8]) 0 (.slice ad5 p0.Left.length cp6) S (wG 7 false 11 rfl rfl rfl hc15) rfl rfl rfl rfl rfl rfl (lb rfl) fun a S => ?_
    refine sLen (ad := ad5) (m := p0.Left.length) (c := cp6) S (wG 7 false 11 rfl rfl rfl hc15) rfl Try.underlying34 rfl rfl (lb rfl) fun a S => ?_
    refine sBin (.bool (decide ((p0.Left.length : Int) < 1))) S (wG 7 false 11 rfl rfl rfl hc15) rfl rfl rfl (bLt _ _ _ _ .i64 (p0.Left.length : Int) 1) rfl (lb rfl) fun a S => ?_
    refine sPickF (.bool (decide ((p0.Left.length : Int) < 1))) S (wN rfl) rfl rfl hc15 rfl rfl (lb rfl) fun a S => ?_
    refine sMove (.bool (decide ((p0.Left.length : Int) < 1))) S (wN rfl) (.inl rfl) rfl rfl (lb rfl) fun a S => ?_
    rcases iteSome h with ⟨hc16, h⟩ | ⟨hc16, h⟩
    · refine sSkip 13 false 17 18 S rfl rfl rfl hc16 rfl (lb rfl) fun a S => ?_
      refine sSkip 13 false 17 19 S rfl rfl rfl hc16 rfl (lb rfl) fun a S => ?_
      refine sSkip 13 false 17 20 S rfl rfl rfl hc16 rfl (lb rfl) fun a S => ?_
      refine sSkip 13 false 17 21 S rfl rfl rfl hc16 rfl (lb rfl) fun a S => ?_
      refine sPickT (.bool true) S (wN rfl) rfl rfl hc16 rfl rfl (lb rfl) fun a S => ?_
      exact leafL (leafT (⟨true, Option.some.inj h, S.fix [0] [1, 0] (by decide) rfl rfl rfl⟩))
    refine sField (b := b10) (off := 0) 0 0 S (wG 13 false 17 rfl rfl rfl hc16) rfl rfl rfl rfl rfl (lb rfl) fun a S => ?_
    refine sLoad1 (p := b10) (off := 0) (T := 36) (vs := [.slice ad5 p0.Left.length cp6, .slice ad7 p0.Right.length cp8]) 0 (.slice ad5 p0.Left.length cp6) S (wG 13 false 17 rfl rfl rfl hc16) rfl rfl rfl rfl rfl rfl (lb rfl) fun a S => ?_
    refine sLen (ad := ad5) (m := p0.Left.length) (c := cp6) S (wG 13 false 17 rfl rfl rfl hc16) rfl Try.underlying34 rfl rfl (lb rfl) fun a S => ?_
    refine sBin (.bool (decide (100 < (p0.Left.length : Int)))) S (wG 13 false 17 rfl rfl rfl hc16) rfl rfl rfl (bGt _ _ _ _ .i64 (p0.Left.length : Int) 100) rfl (lb rfl) fun a S => ?_
    refine sPickF (.bool (decide (100 < (p0.Left.length : Int)))) S (wN rfl) rfl rfl hc16 rfl rfl (lb rfl) fun a S => ?_
    exact leafL (leafT (⟨decide (100 < (p0.Left.length : Int)), Option.some.inj h, S.fix [0] [1, 0] (by decide) rfl rfl rfl⟩))
  obtain ⟨o12, rfl, S⟩ := hI
  have h := g14
  clear g14
  try dsimp only at h
  rcases iteSome h with ⟨hc17, h⟩ | ⟨hc17, h⟩
  · refine sCondT S rfl hc17 ?_
    refine sSeq (fun K18 hK18 => ?_)
    refine sRegion ?_
    refine sMove (iv 8) S (wN rfl) (.inr rfl) rfl rfl (lb rfl) fun a S => ?_
    refine leafL (leafT (hK18 _ _ ?_))
    obtain rfl := Option.some.inj h
    exact wp_ret (rThen (sRet (iv 8) S (rsl1 rfl (rvT (t := 2) (v := iv 8) S rfl)) ⟨(), rfl, S.mem.sel [] [] (by decide) rfl rfl⟩))
  refine sCondF S rfl hc17 ?_
  refine wp_skip (leafT (hK11 _ _ ?_))
  obtain ⟨t19, h, g20⟩ := bindSome h
  refine sCut (fun a w => .inl () = t19 ∧ St [] E [] w0 73 a w [] [] []) ?_ (fun a w hI => ?_)
  rotate_left
  · obtain ⟨rfl, S⟩ := hI
    have h := g20
    clear g20
    try dsimp only at h
    refine sSeq (fun K103 hK103 => ?_)
    refine sRegion ?_
    refine sMove (iv 0) S (wN rfl) (.inr rfl) rfl rfl (lb rfl) fun a S => ?_
    refine leafL (leafT (hK103 _ _ ?_))
    obtain rfl := Option.some.inj h
    exact wp_ret (sRet (iv 0) S (rsl1 rfl (rvT (t := 2) (v := iv 0) S rfl)) ⟨(), rfl, S.mem.sel [] [] (by decide) rfl rfl⟩)
  refine sSeq (fun K21 hK21 => ?_)
  refine sRegion ?_
  refine sMove (iv 0) S (wN rfl) (.inr rfl) rfl rfl (lb rfl) fun a S => ?_
  refine leafL (leafT (hK21 _ _ ?_))
  refine wp_block ?_
  obtain ⟨t25, hl, g24⟩ := bindSome h
  refine sLoop hl (fun s0 a w => match s0 with | s22 => St [] E [] w0 73 a w [(1, .pointer (some ⟨b10, 0, none⟩)), (3, iv s22)] [eBox b10 36 [.slice ad5 p0.Left.length cp6, .slice ad7 p0.Right.length cp8]] [fRep (rL (rI .i64)) (.slice ad5 p0.Left.length cp6) p0.Left, fRep (rL (rI .i64)) (.slice ad7 p0.Right.length cp8) p0.Right]) (S.fix [0] [0, 1] (by decide) rfl rfl rfl) ?_
  clear hl h
  intro s22 a w c0 hI h hu23
  unfold raddleref37_Check_l1 at h
  dsimp only at h hI
  have S := hI
  refine sSeq (fun K26 hK26 => ?_)
  refine sSeq (fun K27 hK27 => ?_)
  refine sRegion ?_
  refine sMove (iv s22) S (wN rfl) (.inl rfl) rfl rfl (lb rfl) fun a S => ?_
  refine sField (b := b10) (off := 0) 0 0 S (wN rfl) rfl rfl rfl rfl rfl (lb rfl) fun a S => ?_
  refine sLoad1 (p := b10) (off := 0) (T := 36) (vs := [.slice ad5 p0.Left.length cp6, .slice ad7 p0.Right.length cp8]) 0 (.slice ad5 p0.Left.length cp6) S (wN rfl) rfl rfl rfl rfl rfl rfl (lb rfl) fun a S => ?_
  refine sLen (ad := ad5) (m := p0.Left.length) (c := cp6) S (wN rfl) rfl Try.underlying34 rfl rfl (lb rfl) fun a S => ?_
  refine sBin (.bool (decide (s22 < (p0.Left.length : Int)))) S (wN rfl) rfl rfl rfl (bLt _ _ _ _ .i64 s22 (p0.Left.length : Int)) rfl (lb rfl) fun a S => ?_
  refine leafL (leafT (hK27 _ _ ?_))
  rcases iteSome h with ⟨hc28, h⟩ | ⟨hc28, h⟩
  rotate_left
  · refine sCondF S rfl hc28 ?_
    obtain rfl := Option.some.inj h
    obtain rfl := hu23 _ rfl
    have h := g24
    clear g24
    try dsimp only at h
    exact wp_exit (xThen (xThen (xHit (leafT (⟨Option.some.inj h, S.fix [] [] (by decide) rfl rfl rfl⟩)))))
  refine sCondT S rfl hc28 ?_
  refine wp_skip (leafT (hK26 _ _ ?_))
  refine sSeq (fun K29 hK29 => ?_)
  refine wp_block ?_
  obtain ⟨t31, h, g32⟩ := bindSome h
  refine sCut (fun a w => ∃ o30, o30 = t31 ∧ St [] E [] w0 73 a w [(1, .pointer (some ⟨b10, 0, none⟩)), (3, iv s22), (72, .bool o30)] [eBox b10 36 [.slice ad5 p0.Left.length cp6, .slice ad7 p0.Right.length cp8]] [fRep (rL (rI .i64)) (.slice ad5 p0.Left.length cp6) p0.Left, fRep (rL (rI .i64)) (.slice ad7 p0.Right.length cp8) p0.Right]) ?_ (fun a w hI => ?_)
  rotate_left
  · obtain ⟨o30, rfl, S⟩ := hI
    have h := g32
    clear g32
    try dsimp only at h
    rcases iteSome h with ⟨hc101, h⟩ | ⟨hc101, h⟩
    rotate_left
    · refine sCondF S rfl hc101 ?_
      refine wp_skip (leafB (leafT (hK29 _ _ ?_)))
      refine sRegion ?_
      refine sMove (iv s22) S (wN rfl) (.inl rfl) rfl rfl (lb rfl) fun a S => ?_
      refine sBin (iv (w64 (s22 + 1))) S (wN rfl) rfl rfl rfl (bAdd _ _ _ _ s22 1) rfl (lb rfl) fun a S => ?_
      refine sMove (iv (w64 (s22 + 1))) S (wN rfl) (.inr rfl) rfl rfl (lb rfl) fun a S => ?_
      exact leafL (leafT (⟨w64 (s22 + 1), (Option.some.inj h).symm, (S.fix [0] [0, 1] (by decide) rfl rfl rfl)⟩))
    refine sCondT S rfl hc101 ?_
    refine sSeq (fun K102 hK102 => ?_)
    refine sRegion ?_
    refine sMove (iv 8) S (wN rfl) (.inr rfl) rfl rfl (lb rfl) fun a S => ?_
    refine leafL (leafT (hK102 _ _ ?_))
    obtain rfl := Option.some.inj h
    obtain rfl := hu23 _ rfl
    have h := g24
    clear g24
    try dsimp only at h
    obtain rfl := Option.some.inj h
    have h := g20
    clear g20
    try dsimp only at h
    obtain rfl := Option.some.inj h
    exact wp_ret (rBlock (rThen (rThen (rBlock (rThen (sRet (iv 8) S (rsl1 rfl (rvT (t := 2) (v := iv 8) S rfl)) ⟨(), rfl, S.mem.sel [] [] (by decide) rfl rfl⟩))))))
  obtain ⟨x33, hx34, h⟩ := bindSome h
  obtain ⟨r38, hx39, h⟩ := bindSome h
  rcases iteSome h with ⟨hc40, h⟩ | ⟨hc40, h⟩
  · obtain ⟨q41, hq42, S⟩ := pIdx (P := Try.prog) (r := (rI .i64)) (v := .slice ad5 p0.Left.length cp6) (xs := p0.Left) (j := s22) 34 3 0 S Try.underlying34 rfl rfl hx34
    obtain ⟨u43, S⟩ := pLoad (r := (rI .i64)) (q := q41) (x := x33) 0 S rfl
    obtain rfl : u43 = iv x33 := S.mem.know (i := 1) (e := fRep (rI .i64) (u43) x33) rfl
    refine sDraw (nf := []) (W := [(0, 30, .pointer (some ⟨b10, 0, none⟩)), (1, 31, .slice ad5 p0.Left.length cp6), (2, 32, iv s22), (3, 33, q41), (4, 34, iv x33), (5, 35, .bool r38), (6, 36, .bool (!r38)), (7, 37, .bool (!r38)), (8, 38, undef), (9, 39, undef), (10, 40, undef), (11, 41, undef), (12, 42, undef), (13, 43, undef), (14, 44, undef), (15, 45, .bool true), (16, 46, .bool true), (17, 47, undef), (18, 48, undef), (19, 49, undef), (20, 50, undef), (21, 51, undef), (22, 52, undef), (23, 53, undef), (24, 54, undef), (25, 55, undef), (26, 56, undef), (27, 57, undef), (28, 58, .bool true), (29, 59, .bool true), (30, 60, undef), (31, 61, undef), (32, 62, undef), (33, 63, undef), (34, 64, undef), (35, 65, undef), (36, 66, undef), (37, 67, undef), (38, 68, undef), (39, 69, undef), (40, 70, undef), (41, 71, undef), (42, 72, .bool true)]) rfl S ?_
    refine node_by (A := anc_raddleref37_Check_0) (nf := []) (Y := []) (W := [(0, 30, .pointer (some ⟨b10, 0, none⟩)), (1, 31, .slice ad5 p0.Left.length cp6), (2, 32, iv s22), (3, 33, q41), (4, 34, iv x33), (5, 35, .bool r38), (6, 36, .bool (!r38)), (7, 37, .bool (!r38)), (8, 38, undef), (9, 39, undef), (10, 40, undef), (11, 41, undef), (12, 42, undef), (13, 43, undef), (14, 44, undef), (15, 45, .bool true), (16, 46, .bool true), (17, 47, undef), (18, 48, undef), (19, 49, undef), (20, 50, undef), (21, 51, undef), (22, 52, undef), (23, 53, undef), (24, 54, undef), (25, 55, undef), (26, 56, undef), (27, 57, undef), (28, 58, .bool true), (29, 59, .bool true), (30, 60, undef), (31, 61, undef), (32, 62, undef), (33, 63, undef), (34, 64, undef), (35, 65, undef), (36, 66, undef), (37, 67, undef), (38, 68, undef), (39, 69, undef), (40, 70, undef), (41, 71, undef), (42, 72, .bool true)]) 43 (by kernel_rfl) (by kernel_rfl) (by kernel_rfl) (by kernel_rfl) (by kernel_rfl) [0, 1, 2, 3, 4, 5, 6, 7, 8, 9, 10, 11, 12, 13, 14, 15, 16, 17, 18, 19, 20, 21, 22, 23, 24, 25, 26, 27, 28, 29, 30, 31, 32, 33, 34, 35, 36, 37, 38, 39, 40, 41, 42] (by kernel_rfl) (by decide) (by decide) (aF 0 42 (by decide) ?_ (aF 1 41 (by decide) ?_ (aF 2 40 (by decide) ?_ (aF 3 39 (by decide) ?_ (aF 4 38 (by decide) ?_ (aF 5 37 (by decide) ?_ (aF 6 36 (by decide) ?_ (aF 7 35 (by decide) ?_ (aF 8 34 (by decide) ?_ (aF 9 33 (by decide) ?_ (aF 10 32 (by decide) ?_ (aF 11 31 (by decide) ?_ (aF 12 30 (by decide) ?_ (aF 13 29 (by decide) ?_ (aF 14 28 (by decide) ?_ (aF 15 27 (by decide) ?_ (aF 16 26 (by decide) ?_ (aF 17 25 (by decide) ?_ (aF 18 24 (by decide) ?_ (aF 19 23 (by decide) ?_ (aF 20 22 (by decide) ?_ (aF 21 21 (by decide) ?_ (aF 22 20 (by decide) ?_ (aF 23 19 (by decide) ?_ (aF 24 18 (by decide) ?_ (aF 25 17 (by decide) ?_ (aF 26 16 (by decide) ?_ (aF 27 15 (by decide) ?_ (aF 28 14 (by decide) ?_ (aF 29 13 (by decide) ?_ (aF 30 12 (by decide) ?_ (aF 31 11 (by decide) ?_ (aF 32 10 (by decide) ?_ (aF 33 9 (by decide) ?_ (aF 34 8 (by decide) ?_ (aF 35 7 (by decide) ?_ (aF 36 6 (by decide) ?_ (aF 37 5 (by decide) ?_ (aF 38 4 (by decide) ?_ (aF 39 3 (by decide) ?_ (aF 40 2 (by decide) ?_ (aF 41 1 (by decide) ?_ (aF 42 0 (by decide) ?_ (trivial)))))))))))))))))))))))))))))))))))))))))))) [(1, .pointer (some ⟨b10, 0, none⟩)), (3, iv s22), (38, undef), (39, undef), (40, undef), (41, undef), (42, undef), (43, undef), (44, undef), (47, undef), (48, undef), (49, undef), (50, undef), (51, undef), (52, undef), (53, undef), (54, undef), (55, undef), (56, undef), (57, undef), (60, undef), (61, undef), (62, undef), (63, undef), (64, undef), (65, undef), (66, undef), (67, undef), (68, undef), (69, undef), (70, undef), (71, undef), (72, .bool true)] (fin_of [none, none, some 8, some 9, some 10, some 11, some 12, some 13, some 14, some 17, some 18, some 19, some 20, some 21, some 22, some 23, some 24, some 25, some 26, some 27, some 30, some 31, some 32, some 33, some 34, some 35, some 36, some 37, some 38, some 39, some 40, some 41, some 42] rfl (by kernel_rfl) (by kernel_rfl)) (fun _ a w S => ?_)
    · refine fI 30 (.pointer (some ⟨b10, 0, none⟩)) [(1, .pointer (some ⟨b10, 0, none⟩))] 0 [none] rfl rfl rfl rfl rfl rfl fun G a w S => ?_
      refine sField (b := b10) (off := 0) 0 0 S (wN rfl) rfl rfl rfl rfl rfl (lb rfl) fun a S => ?_
      exact leafL ⟨rfl, S⟩
    · refine fI 31 (.slice ad5 p0.Left.length cp6) [(30, .pointer (some ⟨b10, 0, none⟩))] 1 [some 0] rfl rfl rfl rfl rfl rfl fun G a w S => ?_
      refine sLoad1 (p := b10) (off := 0) (T := 36) (vs := [.slice ad5 p0.Left.length cp6, .slice ad7 p0.Right.length cp8]) 0 (.slice ad5 p0.Left.length cp6) S (wN rfl) rfl rfl rfl rfl rfl rfl (lb rfl) fun a S => ?_
      exact leafL ⟨rfl, S⟩
    · refine fI 32 (iv s22) [(3, iv s22)] 2 [none] rfl rfl rfl rfl rfl rfl fun G a w S => ?_
      refine sMove (iv s22) S (wN rfl) (.inl rfl) rfl rfl (lb rfl) fun a S => ?_
      exact leafL ⟨rfl, S⟩
    · refine fI 33 q41 [(31, .slice ad5 p0.Left.length cp6), (32, iv s22)] 3 [some 1, some 2] rfl rfl rfl rfl rfl rfl fun G a w S => ?_
      refine sIdxV (v := .slice ad5 p0.Left.length cp6) (k := .i64) (j := s22) S (wN rfl) rfl rfl rfl hq42 rfl (lb rfl) fun a S => ?_
      exact leafL ⟨rfl, S⟩
    · refine fI 34 (iv x33) [(33, q41)] 4 [some 3] rfl rfl rfl rfl rfl rfl fun G a w S => ?_
      refine sLoadV1 (vq := q41) 0 (iv x33) S (wN rfl) rfl rfl rfl rfl rfl (lb rfl) fun a S => ?_
      exact leafL ⟨rfl, S⟩
    · refine fI 35 (.bool r38) [(34, iv x33)] 5 [some 4] rfl rfl rfl rfl rfl rfl fun G a w S => ?_
      have S1 := S.mem
      refine sCallQ (X := Unit) (f := 34) (vs := [iv x33]) (val := fun _ => .bool r38) S (wN rfl) rfl callee34 rfl (S1.quiet [] rfl) (fun E1 w1 S1 => c_raddleref37_in E1 w1 x33 r38 hx39 S1) rfl (lb rfl) fun _ a w S => ?_
      exact leafL ⟨rfl, S⟩
    · refine fI 36 (.bool (!r38)) [(35, .bool r38)] 6 [some 5] rfl rfl rfl rfl rfl rfl fun G a w S => ?_
      refine sNot (b := r38) S (wN rfl) rfl rfl rfl (lb rfl) fun a S => ?_
      exact leafL ⟨rfl, S⟩
    · refine fI 37 (.bool (!r38)) [(36, .bool (!r38))] 7 [some 6] rfl rfl rfl rfl rfl rfl fun G a w S => ?_
      refine sMove (.bool (!r38)) S (wN rfl) (.inl rfl) rfl rfl (lb rfl) fun a S => ?_
      exact leafL ⟨rfl, S⟩
    · refine fI 38 undef [(1, .pointer (some ⟨b10, 0, none⟩)), (37, .bool (!r38))] 8 [none, some 7] rfl rfl rfl rfl rfl rfl fun G a w S => ?_
      refine sSkip 7 false 37 38 S rfl rfl rfl hc40 rfl (lb rfl) fun a S => ?_
      exact leafL ⟨rfl, S⟩
    · refine fI 39 undef [(38, undef), (37, .bool (!r38))] 9 [some 8, some 7] rfl rfl rfl rfl rfl rfl fun G a w S => ?_
      refine sSkip 7 false 37 39 S rfl rfl rfl hc40 rfl (lb rfl) fun a S => ?_
      exact leafL ⟨rfl, S⟩
    · refine fI 40 undef [(3, iv s22), (37, .bool (!r38))] 10 [none, some 7] rfl rfl rfl rfl rfl rfl fun G a w S => ?_
      refine sSkip 7 false 37 40 S rfl rfl rfl hc40 rfl (lb rfl) fun a S => ?_
      exact leafL ⟨rfl, S⟩
    · refine fI 41 undef [(39, undef), (40, undef), (37, .bool (!r38))] 11 [some 9, some 10, some 7] rfl rfl rfl rfl rfl rfl fun G a w S => ?_
      refine sSkip 7 false 37 41 S rfl rfl rfl hc40 rfl (lb rfl) fun a S => ?_
      exact leafL ⟨rfl, S⟩
    · refine fI 42 undef [(41, undef), (37, .bool (!r38))] 12 [some 11, some 7] rfl rfl rfl rfl rfl rfl fun G a w S => ?_
      refine sSkip 7 false 37 42 S rfl rfl rfl hc40 rfl (lb rfl) fun a S => ?_
      exact leafL ⟨rfl, S⟩
    · refine fI 43 undef [(42, undef), (37, .bool (!r38))] 13 [some 12, some 7] rfl rfl rfl rfl rfl rfl fun G a w S => ?_
      refine sSkip 7 false 37 43 S rfl rfl rfl hc40 rfl (lb rfl) fun a S => ?_
      exact leafL ⟨rfl, S⟩
    · refine fI 44 undef [(43, undef), (37, .bool (!r38))] 14 [some 13, some 7] rfl rfl rfl rfl rfl rfl fun G a w S => ?_
      refine sSkip 7 false 37 44 S rfl rfl rfl hc40 rfl (lb rfl) fun a S => ?_
      exact leafL ⟨rfl, S⟩
    · refine fI 45 (.bool true) [(37, .bool (!r38)), (44, undef)] 15 [some 7, some 14] rfl rfl rfl rfl rfl rfl fun G a w S => ?_
      refine sPickT (.bool true) S (wN rfl) rfl rfl hc40 rfl rfl (lb rfl) fun a S => ?_
      exact leafL ⟨rfl, S⟩
    · refine fI 46 (.bool true) [(45, .bool true)] 16 [some 15] rfl rfl rfl rfl rfl rfl fun G a w S => ?_
      refine sMove (.bool true) S (wN rfl) (.inl rfl) rfl rfl (lb rfl) fun a S => ?_
      exact leafL ⟨rfl, S⟩
    · refine fI 47 undef [(1, .pointer (some ⟨b10, 0, none⟩)), (46, .bool true)] 17 [none, some 16] rfl rfl rfl rfl rfl rfl fun G a w S => ?_
      refine sSkip 16 false 46 47 S rfl rfl rfl rfl rfl (lb rfl) fun a S => ?_
      exact leafL ⟨rfl, S⟩
    · refine fI 48 undef [(47, undef), (46, .bool true)] 18 [some 17, some 16] rfl rfl rfl rfl rfl rfl fun G a w S => ?_
      refine sSkip 16 false 46 48 S rfl rfl rfl rfl rfl (lb rfl) fun a S => ?_
      exact leafL ⟨rfl, S⟩
    · refine fI 49 undef [(3, iv s22), (46, .bool true)] 19 [none, some 16] rfl rfl rfl rfl rfl rfl fun G a w S => ?_
      refine sSkip 16 false 46 49 S rfl rfl rfl rfl rfl (lb rfl) fun a S => ?_
      exact leafL ⟨rfl, S⟩
    · refine fI 50 undef [(48, undef), (49, undef), (46, .bool true)] 20 [some 18, some 19, some 16] rfl rfl rfl rfl rfl rfl fun G a w S => ?_
      refine sSkip 16 false 46 50 S rfl rfl rfl rfl rfl (lb rfl) fun a S => ?_
      exact leafL ⟨rfl, S⟩
    · refine fI 51 undef [(50, undef), (46, .bool true)] 21 [some 20, some 16] rfl rfl rfl rfl rfl rfl fun G a w S => ?_
      refine sSkip 16 false 46 51 S rfl rfl rfl rfl rfl (lb rfl) fun a S => ?_
      exact leafL ⟨rfl, S⟩
    · refine fI 52 undef [(1, .pointer (some ⟨b10, 0, none⟩)), (46, .bool true)] 22 [none, some 16] rfl rfl rfl rfl rfl rfl fun G a w S => ?_
      refine sSkip 16 false 46 52 S rfl rfl rfl rfl rfl (lb rfl) fun a S => ?_
      exact leafL ⟨rfl, S⟩
    · refine fI 53 undef [(52, undef), (46, .bool true)] 23 [some 22, some 16] rfl rfl rfl rfl rfl rfl fun G a w S => ?_
      refine sSkip 16 false 46 53 S rfl rfl rfl rfl rfl (lb rfl) fun a S => ?_
      exact leafL ⟨rfl, S⟩
    · refine fI 54 undef [(3, iv s22), (46, .bool true)] 24 [none, some 16] rfl rfl rfl rfl rfl rfl fun G a w S => ?_
      refine sSkip 16 false 46 54 S rfl rfl rfl rfl rfl (lb rfl) fun a S => ?_
      exact leafL ⟨rfl, S⟩
    · refine fI 55 undef [(53, undef), (54, undef), (46, .bool true)] 25 [some 23, some 24, some 16] rfl rfl rfl rfl rfl rfl fun G a w S => ?_
      refine sSkip 16 false 46 55 S rfl rfl rfl rfl rfl (lb rfl) fun a S => ?_
      exact leafL ⟨rfl, S⟩
    · refine fI 56 undef [(55, undef), (46, .bool true)] 26 [some 25, some 16] rfl rfl rfl rfl rfl rfl fun G a w S => ?_
      refine sSkip 16 false 46 56 S rfl rfl rfl rfl rfl (lb rfl) fun a S => ?_
      exact leafL ⟨rfl, S⟩
    · refine fI 57 undef [(51, undef), (56, undef), (46, .bool true)] 27 [some 21, some 26, some 16] rfl rfl rfl rfl rfl rfl fun G a w S => ?_
      refine sSkip 16 false 46 57 S rfl rfl rfl rfl rfl (lb rfl) fun a S => ?_
      exact leafL ⟨rfl, S⟩
    · refine fI 58 (.bool true) [(46, .bool true), (57, undef)] 28 [some 16, some 27] rfl rfl rfl rfl rfl rfl fun G a w S => ?_
      refine sPickT (.bool true) S (wN rfl) rfl rfl rfl rfl rfl (lb rfl) fun a S => ?_
      exact leafL ⟨rfl, S⟩
    · refine fI 59 (.bool true) [(58, .bool true)] 29 [some 28] rfl rfl rfl rfl rfl rfl fun G a w S => ?_
      refine sMove (.bool true) S (wN rfl) (.inl rfl) rfl rfl (lb rfl) fun a S => ?_
      exact leafL ⟨rfl, S⟩
    · refine fI 60 undef [(1, .pointer (some ⟨b10, 0, none⟩)), (59, .bool true)] 30 [none, some 29] rfl rfl rfl rfl rfl rfl fun G a w S => ?_
      refine sSkip 29 false 59 60 S rfl rfl rfl rfl rfl (lb rfl) fun a S => ?_
      exact leafL ⟨rfl, S⟩
    · refine fI 61 undef [(60, undef), (59, .bool true)] 31 [some 30, some 29] rfl rfl rfl rfl rfl rfl fun G a w S => ?_
      refine sSkip 29 false 59 61 S rfl rfl rfl rfl rfl (lb rfl) fun a S => ?_
      exact leafL ⟨rfl, S⟩
    · refine fI 62 undef [(3, iv s22), (59, .bool true)] 32 [none, some 29] rfl rfl rfl rfl rfl rfl fun G a w S => ?_
      refine sSkip 29 false 59 62 S rfl rfl rfl rfl rfl (lb rfl) fun a S => ?_
      exact leafL ⟨rfl, S⟩
    · refine fI 63 undef [(61, undef), (62, undef), (59, .bool true)] 33 [some 31, some 32, some 29] rfl rfl rfl rfl rfl rfl fun G a w S => ?_
      refine sSkip 29 false 59 63 S rfl rfl rfl rfl rfl (lb rfl) fun a S => ?_
      exact leafL ⟨rfl, S⟩
    · refine fI 64 undef [(63, undef), (59, .bool true)] 34 [some 33, some 29] rfl rfl rfl rfl rfl rfl fun G a w S => ?_
      refine sSkip 29 false 59 64 S rfl rfl rfl rfl rfl (lb rfl) fun a S => ?_
      exact leafL ⟨rfl, S⟩
    · refine fI 65 undef [(1, .pointer (some ⟨b10, 0, none⟩)), (59, .bool true)] 35 [none, some 29] rfl rfl rfl rfl rfl rfl fun G a w S => ?_
      refine sSkip 29 false 59 65 S rfl rfl rfl rfl rfl (lb rfl) fun a S => ?_
      exact leafL ⟨rfl, S⟩
    · refine fI 66 undef [(65, undef), (59, .bool true)] 36 [some 35, some 29] rfl rfl rfl rfl rfl rfl fun G a w S => ?_
      refine sSkip 29 false 59 66 S rfl rfl rfl rfl rfl (lb rfl) fun a S => ?_
      exact leafL ⟨rfl, S⟩
    · refine fI 67 undef [(3, iv s22), (59, .bool true)] 37 [none, some 29] rfl rfl rfl rfl rfl rfl fun G a w S => ?_
      refine sSkip 29 false 59 67 S rfl rfl rfl rfl rfl (lb rfl) fun a S => ?_
      exact leafL ⟨rfl, S⟩
    · refine fI 68 undef [(66, undef), (67, undef), (59, .bool true)] 38 [some 36, some 37, some 29] rfl rfl rfl rfl rfl rfl fun G a w S => ?_
      refine sSkip 29 false 59 68 S rfl rfl rfl rfl rfl (lb rfl) fun a S => ?_
      exact leafL ⟨rfl, S⟩
    · refine fI 69 undef [(68, undef), (59, .bool true)] 39 [some 38, some 29] rfl rfl rfl rfl rfl rfl fun G a w S => ?_
      refine sSkip 29 false 59 69 S rfl rfl rfl rfl rfl (lb rfl) fun a S => ?_
      exact leafL ⟨rfl, S⟩
    · refine fI 70 undef [(64, undef), (69, undef), (59, .bool true)] 40 [some 34, some 39, some 29] rfl rfl rfl rfl rfl rfl fun G a w S => ?_
      refine sSkip 29 false 59 70 S rfl rfl rfl rfl rfl (lb rfl) fun a S => ?_
      exact leafL ⟨rfl, S⟩
    · refine fI 71 undef [(70, undef), (59, .bool true)] 41 [some 40, some 29] rfl rfl rfl rfl rfl rfl fun G a w S => ?_
      refine sSkip 29 false 59 71 S rfl rfl rfl rfl rfl (lb rfl) fun a S => ?_
      exact leafL ⟨rfl, S⟩
    · refine fI 72 (.bool true) [(59, .bool true), (71, undef)] 42 [some 29, some 41] rfl rfl rfl rfl rfl rfl fun G a w S => ?_
      refine sPickT (.bool true) S (wN rfl) rfl rfl rfl rfl rfl (lb rfl) fun a S => ?_
      exact leafL ⟨rfl, S⟩
    exact leafT (⟨true, Option.some.inj h, S.fix [0] [3, 4] (by decide) rfl rfl rfl⟩)
  obtain ⟨x44, hx45, h⟩ := bindSome h
  obtain ⟨r49, hx50, h⟩ := bindSome h
  rcases iteSome h with ⟨hc51, h⟩ | ⟨hc51, h⟩
  · obtain ⟨q52, hq53, S⟩ := pIdx (P := Try.prog) (r := (rI .i64)) (v := .slice ad5 p0.Left.length cp6) (xs := p0.Left) (j := s22) 34 3 0 S Try.underlying34 rfl rfl hx34
    obtain ⟨u54, S⟩ := pLoad (r := (rI .i64)) (q := q52) (x := x33) 0 S rfl
    obtain rfl : u54 = iv x33 := S.mem.know (i := 1) (e := fRep (rI .i64) (u54) x33) rfl
    obtain ⟨q55, hq56, S⟩ := pIdx (P := Try.prog) (r := (rI .i64)) (v := .slice ad7 p0.Right.length cp8) (xs := p0.Right) (j := s22) 34 3 4 S Try.underlying34 rfl rfl hx45
    obtain ⟨u57, S⟩ := pLoad (r := (rI .i64)) (q := q55) (x := x44) 0 S rfl
    obtain rfl : u57 = iv x44 := S.mem.know (i := 1) (e := fRep (rI .i64) (u57) x44) rfl
    refine sDraw (nf := []) (W := [(0, 30, .pointer (some ⟨b10, 0, none⟩)), (1, 31, .slice ad5 p0.Left.length cp6), (2, 32, iv s22), (3, 33, q52), (4, 34, iv x33), (5, 35, .bool r38), (6, 36, .bool (!r38)), (7, 37, .bool (!r38)), (8, 38, .pointer (some ⟨b10, 1, none⟩)), (9, 39, .slice ad7 p0.Right.length cp8), (10, 40, iv s22), (11, 41, q55), (12, 42, iv x44), (13, 43, .bool r49), (14, 44, .bool (!r49)), (15, 45, .bool (!r49)), (16, 46, .bool (!r49)), (17, 47, undef), (18, 48, undef), (19, 49, undef), (20, 50, undef), (21, 51, undef), (22, 52, undef), (23, 53, undef), (24, 54, undef), (25, 55, undef), (26, 56, undef), (27, 57, undef), (28, 58, .bool true), (29, 59, .bool true), (30, 60, undef), (31, 61, undef), (32, 62, undef), (33, 63, undef), (34, 64, undef), (35, 65, undef), (36, 66, undef), (37, 67, undef), (38, 68, undef), (39, 69, undef), (40, 70, undef), (41, 71, undef), (42, 72, .bool true)]) rfl S ?_
    refine node_by (A := anc_raddleref37_Check_0) (nf := []) (Y := []) (W := [(0, 30, .pointer (some ⟨b10, 0, none⟩)), (1, 31, .slice ad5 p0.Left.length cp6), (2, 32, iv s22), (3, 33, q52), (4, 34, iv x33), (5, 35, .bool r38), (6, 36, .bool (!r38)), (7, 37, .bool (!r38)), (8, 38, .pointer (some ⟨b10, 1, none⟩)), (9, 39, .slice ad7 p0.Right.length cp8), (10, 40, iv s22), (11, 41, q55), (12, 42, iv x44), (13, 43, .bool r49), (14, 44, .bool (!r49)), (15, 45, .bool (!r49)), (16, 46, .bool (!r49)), (17, 47, undef), (18, 48, undef), (19, 49, undef), (20, 50, undef), (21, 51, undef), (22, 52, undef), (23, 53, undef), (24, 54, undef), (25, 55, undef), (26, 56, undef), (27, 57, undef), (28, 58, .bool true), (29, 59, .bool true), (30, 60, undef), (31, 61, undef), (32, 62, undef), (33, 63, undef), (34, 64, undef), (35, 65, undef), (36, 66, undef), (37, 67, undef), (38, 68, undef), (39, 69, undef), (40, 70, undef), (41, 71, undef), (42, 72, .bool true)]) 43 (by kernel_rfl) (by kernel_rfl) (by kernel_rfl) (by kernel_rfl) (by kernel_rfl) [0, 1, 2, 3, 4, 5, 6, 7, 8, 9, 10, 11, 12, 13, 14, 15, 16, 17, 18, 19, 20, 21, 22, 23, 24, 25, 26, 27, 28, 29, 30, 31, 32, 33, 34, 35, 36, 37, 38, 39, 40, 41, 42] (by kernel_rfl) (by decide) (by decide) (aF 0 42 (by decide) ?_ (aF 1 41 (by decide) ?_ (aF 2 40 (by decide) ?_ (aF 3 39 (by decide) ?_ (aF 4 38 (by decide) ?_ (aF 5 37 (by decide) ?_ (aF 6 36 (by decide) ?_ (aF 7 35 (by decide) ?_ (aF 8 34 (by decide) ?_ (aF 9 33 (by decide) ?_ (aF 10 32 (by decide) ?_ (aF 11 31 (by decide) ?_ (aF 12 30 (by decide) ?_ (aF 13 29 (by decide) ?_ (aF 14 28 (by decide) ?_ (aF 15 27 (by decide) ?_ (aF 16 26 (by decide) ?_ (aF 17 25 (by decide) ?_ (aF 18 24 (by decide) ?_ (aF 19 23 (by decide) ?_ (aF 20 22 (by decide) ?_ (aF 21 21 (by decide) ?_ (aF 22 20 (by decide) ?_ (aF 23 19 (by decide) ?_ (aF 24 18 (by decide) ?_ (aF 25 17 (by decide) ?_ (aF 26 16 (by decide) ?_ (aF 27 15 (by decide) ?_ (aF 28 14 (by decide) ?_ (aF 29 13 (by decide) ?_ (aF 30 12 (by decide) ?_ (aF 31 11 (by decide) ?_ (aF 32 10 (by decide) ?_ (aF 33 9 (by decide) ?_ (aF 34 8 (by decide) ?_ (aF 35 7 (by decide) ?_ (aF 36 6 (by decide) ?_ (aF 37 5 (by decide) ?_ (aF 38 4 (by decide) ?_ (aF 39 3 (by decide) ?_ (aF 40 2 (by decide) ?_ (aF 41 1 (by decide) ?_ (aF 42 0 (by decide) ?_ (trivial)))))))))))))))))))))))))))))))))))))))))))) [(1, .pointer (some ⟨b10, 0, none⟩)), (3, iv s22), (38, .pointer (some ⟨b10, 1, none⟩)), (39, .slice ad7 p0.Right.length cp8), (40, iv s22), (41, q55), (42, iv x44), (43, .bool r49), (44, .bool (!r49)), (47, undef), (48, undef), (49, undef), (50, undef), (51, undef), (52, undef), (53, undef), (54, undef), (55, undef), (56, undef), (57, undef), (60, undef), (61, undef), (62, undef), (63, undef), (64, undef), (65, undef), (66, undef), (67, undef), (68, undef), (69, undef), (70, undef), (71, undef), (72, .bool true)] (fin_of [none, none, some 8, some 9, some 10, some 11, some 12, some 13, some 14, some 17, some 18, some 19, some 20, some 21, some 22, some 23, some 24, some 25, some 26, some 27, some 30, some 31, some 32, some 33, some 34, some 35, some 36, some 37, some 38, some 39, some 40, some 41, some 42] rfl (by kernel_rfl) (by kernel_rfl)) (fun _ a w S => ?_)
    · refine fI 30 (.pointer (some ⟨b10, 0, none⟩)) [(1, .pointer (some ⟨b10, 0, none⟩))] 0 [none] rfl rfl rfl rfl rfl rfl fun G a w S => ?_
      refine sField (b := b10) (off := 0) 0 0 S (wN rfl) rfl rfl rfl rfl rfl (lb rfl) fun a S => ?_
      exact leafL ⟨rfl, S⟩
    · refine fI 31 (.slice ad5 p0.Left.length cp6) [(30, .pointer (some ⟨b10, 0, none⟩))] 1 [some 0] rfl rfl rfl rfl rfl rfl fun G a w S => ?_
      refine sLoad1 (p := b10) (off := 0) (T := 36) (vs := [.slice ad5 p0.Left.length cp6, .slice ad7 p0.Right.length cp8]) 0 (.slice ad5 p0.Left.length cp6) S (wN rfl) rfl rfl rfl rfl rfl rfl (lb rfl) fun a S => ?_
      exact leafL ⟨rfl, S⟩
    · refine fI 32 (iv s22) [(3, iv s22)] 2 [none] rfl rfl rfl rfl rfl rfl fun G a w S => ?_
      refine sMove (iv s22) S (wN rfl) (.inl rfl) rfl rfl (lb rfl) fun a S => ?_
      exact leafL ⟨rfl, S⟩
    · refine fI 33 q52 [(31, .slice ad5 p0.Left.length cp6), (32, iv s22)] 3 [some 1, some 2] rfl rfl rfl rfl rfl rfl fun G a w S => ?_
      refine sIdxV (v := .slice ad5 p0.Left.length cp6) (k := .i64) (j := s22) S (wN rfl) rfl rfl rfl hq53 rfl (lb rfl) fun a S => ?_
      exact leafL ⟨rfl, S⟩
    · refine fI 34 (iv x33) [(33, q52)] 4 [some 3] rfl rfl rfl rfl rfl rfl fun G a w S => ?_
      refine sLoadV1 (vq := q52) 3 (iv x33) S (wN rfl) rfl rfl rfl rfl rfl (lb rfl) fun a S => ?_
      exact leafL ⟨rfl, S⟩
    · refine fI 35 (.bool r38) [(34, iv x33)] 5 [some 4] rfl rfl rfl rfl rfl rfl fun G a w S => ?_
      have S1 := S.mem
      refine sCallQ (X := Unit) (f := 34) (vs := [iv x33]) (val := fun _ => .bool r38) S (wN rfl) rfl callee34 rfl (S1.quiet [] rfl) (fun E1 w1 S1 => c_raddleref37_in E1 w1 x33 r38 hx39 S1) rfl (lb rfl) fun _ a w S => ?_
      exact leafL ⟨rfl, S⟩
    · refine fI 36 (.bool (!r38)) [(35, .bool r38)] 6 [some 5] rfl rfl rfl rfl rfl rfl fun G a w S => ?_
      refine sNot (b := r38) S (wN rfl) rfl rfl rfl (lb rfl) fun a S => ?_
      exact leafL ⟨rfl, S⟩
    · refine fI 37 (.bool (!r38)) [(36, .bool (!r38))] 7 [some 6] rfl rfl rfl rfl rfl rfl fun G a w S => ?_
      refine sMove (.bool (!r38)) S (wN rfl) (.inl rfl) rfl rfl (lb rfl) fun a S => ?_
      exact leafL ⟨rfl, S⟩
    · refine fI 38 (.pointer (some ⟨b10, 1, none⟩)) [(1, .pointer (some ⟨b10, 0, none⟩)), (37, .bool (!r38))] 8 [none, some 7] rfl rfl rfl rfl rfl rfl fun G a w S => ?_
      refine sField (b := b10) (off := 0) 1 1 S (wG 7 false 37 rfl rfl rfl hc40) rfl rfl rfl rfl rfl (lb rfl) fun a S => ?_
      exact leafL ⟨rfl, S⟩
    · refine fI 39 (.slice ad7 p0.Right.length cp8) [(38, .pointer (some ⟨b10, 1, none⟩)), (37, .bool (!r38))] 9 [some 8, some 7] rfl rfl rfl rfl rfl rfl fun G a w S => ?_
      refine sLoad1 (p := b10) (off := 1) (T := 36) (vs := [.slice ad5 p0.Left.length cp6, .slice ad7 p0.Right.length cp8]) 0 (.slice ad7 p0.Right.length cp8) S (wG 7 false 37 rfl rfl rfl hc40) rfl rfl rfl rfl rfl rfl (lb rfl) fun a S => ?_
      exact leafL ⟨rfl, S⟩
    · refine fI 40 (iv s22) [(3, iv s22), (37, .bool (!r38))] 10 [none, some 7] rfl rfl rfl rfl rfl rfl fun G a w S => ?_
      refine sMove (iv s22) S (wG 7 false 37 rfl rfl rfl hc40) (.inl rfl) rfl rfl (lb rfl) fun a S => ?_
      exact leafL ⟨rfl, S⟩
    · refine fI 41 q55 [(39, .slice ad7 p0.Right.length cp8), (40, iv s22), (37, .bool (!r38))] 11 [some 9, some 10, some 7] rfl rfl rfl rfl rfl rfl fun G a w S => ?_
      refine sIdxV (v := .slice ad7 p0.Right.length cp8) (k := .i64) (j := s22) S (wG 7 false 37 rfl rfl rfl hc40) rfl rfl rfl hq56 rfl (lb rfl) fun a S => ?_
      exact leafL ⟨rfl, S⟩
    · refine fI 42 (iv x44) [(41, q55), (37, .bool (!r38))] 12 [some 11, some 7] rfl rfl rfl rfl rfl rfl fun G a w S => ?_
      refine sLoadV1 (vq := q55) 0 (iv x44) S (wG 7 false 37 rfl rfl rfl hc40) rfl rfl rfl rfl rfl (lb rfl) fun a S => ?_
      exact leafL ⟨rfl, S⟩
    · refine fI 43 (.bool r49) [(42, iv x44), (37, .bool (!r38))] 13 [some 12, some 7] rfl rfl rfl rfl rfl rfl fun G a w S => ?_
      have S1 := S.mem
      refine sCallQ (X := Unit) (f := 34) (vs := [iv x44]) (val := fun _ => .bool r49) S (wG 7 false 37 rfl rfl rfl hc40) rfl callee34 rfl (S1.quiet [] rfl) (fun E1 w1 S1 => c_raddleref37_in E1 w1 x44 r49 hx50 S1) rfl (lb rfl) fun _ a w S => ?_
      exact leafL ⟨rfl, S⟩
    · refine fI 44 (.bool (!r49)) [(43, .bool r49), (37, .bool (!r38))] 14 [some 13, some 7] rfl rfl rfl rfl rfl rfl fun G a w S => ?_
      refine sNot (b := r49) S (wG 7 false 37 rfl rfl rfl hc40) rfl rfl rfl (lb rfl) fun a S => ?_
      exact leafL ⟨rfl, S⟩
    · refine fI 45 (.bool (!r49)) [(37, .bool (!r38)), (44, .bool (!r49))] 15 [some 7, some 14] rfl rfl rfl rfl rfl rfl fun G a w S => ?_
      refine sPickF (.bool (!r49)) S (wN rfl) rfl rfl hc40 rfl rfl (lb rfl) fun a S => ?_
      exact leafL ⟨rfl, S⟩
    · refine fI 46 (.bool (!r49)) [(45, .bool (!r49))] 16 [some 15] rfl rfl rfl rfl rfl rfl fun G a w S => ?_
      refine sMove (.bool (!r49)) S (wN rfl) (.inl rfl) rfl rfl (lb rfl) fun a S => ?_
      exact leafL ⟨rfl, S⟩
    · refine fI 47 undef [(1, .pointer (some ⟨b10, 0, none⟩)), (46, .bool (!r49))] 17 [none, some 16] rfl rfl rfl rfl rfl rfl fun G a w S => ?_
      refine sSkip 16 false 46 47 S rfl rfl rfl hc51 rfl (lb rfl) fun a S => ?_
      exact leafL ⟨rfl, S⟩
    · refine fI 48 undef [(47, undef), (46, .bool (!r49))] 18 [some 17, some 16] rfl rfl rfl rfl rfl rfl fun G a w S => ?_
      refine sSkip 16 false 46 48 S rfl rfl rfl hc51 rfl (lb rfl) fun a S => ?_
      exact leafL ⟨rfl, S⟩
    · refine fI 49 undef [(3, iv s22), (46, .bool (!r49))] 19 [none, some 16] rfl rfl rfl rfl rfl rfl fun G a w S => ?_
      refine sSkip 16 false 46 49 S rfl rfl rfl hc51 rfl (lb rfl) fun a S => ?_
      exact leafL ⟨rfl, S⟩
    · refine fI 50 undef [(48, undef), (49, undef), (46, .bool (!r49))] 20 [some 18, some 19, some 16] rfl rfl rfl rfl rfl rfl fun G a w S => ?_
      refine sSkip 16 false 46 50 S rfl rfl rfl hc51 rfl (lb rfl) fun a S => ?_
      exact leafL ⟨rfl, S⟩
    · refine fI 51 undef [(50, undef), (46, .bool (!r49))] 21 [some 20, some 16] rfl rfl rfl rfl rfl rfl fun G a w S => ?_
      refine sSkip 16 false 46 51 S rfl rfl rfl hc51 rfl (lb rfl) fun a S => ?_
      exact leafL ⟨rfl, S⟩
    · refine fI 52 undef [(1, .pointer (some ⟨b10, 0, none⟩)), (46, .bool (!r49))] 22 [none, some 16] rfl rfl rfl rfl rfl rfl fun G a w S => ?_
      refine sSkip 16 false 46 52 S rfl rfl rfl hc51 rfl (lb rfl) fun a S => ?_
      exact leafL ⟨rfl, S⟩
    · refine fI 53 undef [(52, undef), (46, .bool (!r49))] 23 [some 22, some 16] rfl rfl rfl rfl rfl rfl fun G a w S => ?_
      refine sSkip 16 false 46 53 S rfl rfl rfl hc51 rfl (lb rfl) fun a S => ?_
      exact leafL ⟨rfl, S⟩
    · refine fI 54 undef [(3, iv s22), (46, .bool (!r49))] 24 [none, some 16] rfl rfl rfl rfl rfl rfl fun G a w S => ?_
      refine sSkip 16 false 46 54 S rfl rfl rfl hc51 rfl (lb rfl) fun a S => ?_
      exact leafL ⟨rfl, S⟩
    · refine fI 55 undef [(53, undef), (54, undef), (46, .bool (!r49))] 25 [some 23, some 24, some 16] rfl rfl rfl rfl rfl rfl fun G a w S => ?_
      refine sSkip 16 false 46 55 S rfl rfl rfl hc51 rfl (lb rfl) fun a S => ?_
      exact leafL ⟨rfl, S⟩
    · refine fI 56 undef [(55, undef), (46, .bool (!r49))] 26 [some 25, some 16] rfl rfl rfl rfl rfl rfl fun G a w S => ?_
      refine sSkip 16 false 46 56 S rfl rfl rfl hc51 rfl (lb rfl) fun a S => ?_
      exact leafL ⟨rfl, S⟩
    · refine fI 57 undef [(51, undef), (56, undef), (46, .bool (!r49))] 27 [some 21, some 26, some 16] rfl rfl rfl rfl rfl rfl fun G a w S => ?_
      refine sSkip 16 false 46 57 S rfl rfl rfl hc51 rfl (lb rfl) fun a S => ?_
      exact leafL ⟨rfl, S⟩
    · refine fI 58 (.bool true) [(46, .bool (!r49)), (57, undef)] 28 [some 16, some 27] rfl rfl rfl rfl rfl rfl fun G a w S => ?_
      refine sPickT (.bool true) S (wN rfl) rfl rfl hc51 rfl rfl (lb rfl) fun a S => ?_
      exact leafL ⟨rfl, S⟩
    · refine fI 59 (.bool true) [(58, .bool true)] 29 [some 28] rfl rfl rfl rfl rfl rfl fun G a w S => ?_
      refine sMove (.bool true) S (wN rfl) (.inl rfl) rfl rfl (lb rfl) fun a S => ?_
      exact leafL ⟨rfl, S⟩
    · refine fI 60 undef [(1, .pointer (some ⟨b10, 0, none⟩)), (59, .bool true)] 30 [none, some 29] rfl rfl rfl rfl rfl rfl fun G a w S => ?_
      refine sSkip 29 false 59 60 S rfl rfl rfl rfl rfl (lb rfl) fun a S => ?_
      exact leafL ⟨rfl, S⟩
    · refine fI 61 undef [(60, undef), (59, .bool true)] 31 [some 30, some 29] rfl rfl rfl rfl rfl rfl fun G a w S => ?_
      refine sSkip 29 false 59 61 S rfl rfl rfl rfl rfl (lb rfl) fun a S => ?_
      exact leafL ⟨rfl, S⟩
    · refine fI 62 undef [(3, iv s22), (59, .bool true)] 32 [none, some 29] rfl rfl rfl rfl rfl rfl fun G a w S => ?_
      refine sSkip 29 false 59 62 S rfl rfl rfl rfl rfl (lb rfl) fun a S => ?_
      exact leafL ⟨rfl, S⟩
    · refine fI 63 undef [(61, undef), (62, undef), (59, .bool true)] 33 [some 31, some 32, some 29] rfl rfl rfl rfl rfl rfl fun G a w S => ?_
      refine sSkip 29 false 59 63 S rfl rfl rfl rfl rfl (lb rfl) fun a S => ?_
      exact leafL ⟨rfl, S⟩
    · refine fI 64 undef [(63, undef), (59, .bool true)] 34 [some 33, some 29] rfl rfl rfl rfl rfl rfl fun G a w S => ?_
      refine sSkip 29 false 59 64 S rfl rfl rfl rfl rfl (lb rfl) fun a S => ?_
      exact leafL ⟨rfl, S⟩
    · refine fI 65 undef [(1, .pointer (some ⟨b10, 0, none⟩)), (59, .bool true)] 35 [none, some 29] rfl rfl rfl rfl rfl rfl fun G a w S => ?_
      refine sSkip 29 false 59 65 S rfl rfl rfl rfl rfl (lb rfl) fun a S => ?_
      exact leafL ⟨rfl, S⟩
    · refine fI 66 undef [(65, undef), (59, .bool true)] 36 [some 35, some 29] rfl rfl rfl rfl rfl rfl fun G a w S => ?_
      refine sSkip 29 false 59 66 S rfl rfl rfl rfl rfl (lb rfl) fun a S => ?_
      exact leafL ⟨rfl, S⟩
    · refine fI 67 undef [(3, iv s22), (59, .bool true)] 37 [none, some 29] rfl rfl rfl rfl rfl rfl fun G a w S => ?_
      refine sSkip 29 false 59 67 S rfl rfl rfl rfl rfl (lb rfl) fun a S => ?_
      exact leafL ⟨rfl, S⟩
    · refine fI 68 undef [(66, undef), (67, undef), (59, .bool true)] 38 [some 36, some 37, some 29] rfl rfl rfl rfl rfl rfl fun G a w S => ?_
      refine sSkip 29 false 59 68 S rfl rfl rfl rfl rfl (lb rfl) fun a S => ?_
      exact leafL ⟨rfl, S⟩
    · refine fI 69 undef [(68, undef), (59, .bool true)] 39 [some 38, some 29] rfl rfl rfl rfl rfl rfl fun G a w S => ?_
      refine sSkip 29 false 59 69 S rfl rfl rfl rfl rfl (lb rfl) fun a S => ?_
      exact leafL ⟨rfl, S⟩
    · refine fI 70 undef [(64, undef), (69, undef), (59, .bool true)] 40 [some 34, some 39, some 29] rfl rfl rfl rfl rfl rfl fun G a w S => ?_
      refine sSkip 29 false 59 70 S rfl rfl rfl rfl rfl (lb rfl) fun a S => ?_
      exact leafL ⟨rfl, S⟩
    · refine fI 71 undef [(70, undef), (59, .bool true)] 41 [some 40, some 29] rfl rfl rfl rfl rfl rfl fun G a w S => ?_
      refine sSkip 29 false 59 71 S rfl rfl rfl rfl rfl (lb rfl) fun a S => ?_
      exact leafL ⟨rfl, S⟩
    · refine fI 72 (.bool true) [(59, .bool true), (71, undef)] 42 [some 29, some 41] rfl rfl rfl rfl rfl rfl fun G a w S => ?_
      refine sPickT (.bool true) S (wN rfl) rfl rfl rfl rfl rfl (lb rfl) fun a S => ?_
      exact leafL ⟨rfl, S⟩
    exact leafT (⟨true, Option.some.inj h, S.fix [0] [6, 7] (by decide) rfl rfl rfl⟩)
  rcases iteSome h with ⟨hc64, h⟩ | ⟨hc64, h⟩
  · obtain ⟨q65, hq66, S⟩ := pIdx (P := Try.prog) (r := (rI .i64)) (v := .slice ad5 p0.Left.length cp6) (xs := p0.Left) (j := s22) 34 3 0 S Try.underlying34 rfl rfl hx34
    obtain ⟨u67, S⟩ := pLoad (r := (rI .i64)) (q := q65) (x := x33) 0 S rfl
    obtain rfl : u67 = iv x33 := S.mem.know (i := 1) (e := fRep (rI .i64) (u67) x33) rfl
    obtain ⟨q68, hq69, S⟩ := pIdx (P := Try.prog) (r := (rI .i64)) (v := .slice ad7 p0.Right.length cp8) (xs := p0.Right) (j := s22) 34 3 4 S Try.underlying34 rfl rfl hx45
    obtain ⟨u70, S⟩ := pLoad (r := (rI .i64)) (q := q68) (x := x44) 0 S rfl
    obtain rfl : u70 = iv x44 := S.mem.know (i := 1) (e := fRep (rI .i64) (u70) x44) rfl
    obtain ⟨q71, hq72, S⟩ := pIdx (P := Try.prog) (r := (rI .i64)) (v := .slice ad5 p0.Left.length cp6) (xs := p0.Left) (j := s22) 34 3 6 S Try.underlying34 rfl rfl hx34
    obtain ⟨u73, S⟩ := pLoad (r := (rI .i64)) (q := q71) (x := x33) 0 S rfl
    obtain rfl : u73 = iv x33 := S.mem.know (i := 1) (e := fRep (rI .i64) (u73) x33) rfl
    obtain ⟨q74, hq75, S⟩ := pIdx (P := Try.prog) (r := (rI .i64)) (v := .slice ad7 p0.Right.length cp8) (xs := p0.Right) (j := s22) 34 3 10 S Try.underlying34 rfl rfl hx45
    obtain ⟨u76, S⟩ := pLoad (r := (rI .i64)) (q := q74) (x := x44) 0 S rfl
    obtain rfl : u76 = iv x44 := S.mem.know (i := 1) (e := fRep (rI .i64) (u76) x44) rfl
    refine sDraw (nf := []) (W := [(0, 30, .pointer (some ⟨b10, 0, none⟩)), (1, 31, .slice ad5 p0.Left.length cp6), (2, 32, iv s22), (3, 33, q65), (4, 34, iv x33), (5, 35, .bool r38), (6, 36, .bool (!r38)), (7, 37, .bool (!r38)), (8, 38, .pointer (some ⟨b10, 1, none⟩)), (9, 39, .slice ad7 p0.Right.length cp8), (10, 40, iv s22), (11, 41, q68), (12, 42, iv x44), (13, 43, .bool r49), (14, 44, .bool (!r49)), (15, 45, .bool (!r49)), (16, 46, .bool (!r49)), (17, 47, .pointer (some ⟨b10, 0, none⟩)), (18, 48, .slice ad5 p0.Left.length cp6), (19, 49, iv s22), (20, 50, q71), (21, 51, iv x33), (22, 52, .pointer (some ⟨b10, 1, none⟩)), (23, 53, .slice ad7 p0.Right.length cp8), (24, 54, iv s22), (25, 55, q74), (26, 56, iv x44), (27, 57, .bool (decide (x44 ≤ x33))), (28, 58, .bool (decide (x44 ≤ x33))), (29, 59, .bool (decide (x44 ≤ x33))), (30, 60, undef), (31, 61, undef), (32, 62, undef), (33, 63, undef), (34, 64, undef), (35, 65, undef), (36, 66, undef), (37, 67, undef), (38, 68, undef), (39, 69, undef), (40, 70, undef), (41, 71, undef), (42, 72, .bool true)]) rfl S ?_
    refine node_by (A := anc_raddleref37_Check_0) (nf := []) (Y := []) (W := [(0, 30, .pointer (some ⟨b10, 0, none⟩)), (1, 31, .slice ad5 p0.Left.length cp6), (2, 32, iv s22), (3, 33, q65), (4, 34, iv x33), (5, 35, .bool r38), (6, 36, .bool (!r38)), (7, 37, .bool (!r38)), (8, 38, .pointer (some ⟨b10, 1, none⟩)), (9, 39, .slice ad7 p0.Right.length cp8), (10, 40, iv s22), (11, 41, q68), (12, 42, iv x44), (13, 43, .bool r49), (14, 44, .bool (!r49)), (15, 45, .bool (!r49)), (16, 46, .bool (!r49)), (17, 47, .pointer (some ⟨b10, 0, none⟩)), (18, 48, .slice ad5 p0.Left.length cp6), (19, 49, iv s22), (20, 50, q71), (21, 51, iv x33), (22, 52, .pointer (some ⟨b10, 1, none⟩)), (23, 53, .slice ad7 p0.Right.length cp8), (24, 54, iv s22), (25, 55, q74), (26, 56, iv x44), (27, 57, .bool (decide (x44 ≤ x33))), (28, 58, .bool (decide (x44 ≤ x33))), (29, 59, .bool (decide (x44 ≤ x33))), (30, 60, undef), (31, 61, undef), (32, 62, undef), (33, 63, undef), (34, 64, undef), (35, 65, undef), (36, 66, undef), (37, 67, undef), (38, 68, undef), (39, 69, undef), (40, 70, undef), (41, 71, undef), (42, 72, .bool true)]) 43 (by kernel_rfl) (by kernel_rfl) (by kernel_rfl) (by kernel_rfl) (by kernel_rfl) [0, 1, 2, 3, 4, 5, 6, 7, 8, 9, 10, 11, 12, 13, 14, 15, 16, 17, 18, 19, 20, 21, 22, 23, 24, 25, 26, 27, 28, 29, 30, 31, 32, 33, 34, 35, 36, 37, 38, 39, 40, 41, 42] (by kernel_rfl) (by decide) (by decide) (aF 0 42 (by decide) ?_ (aF 1 41 (by decide) ?_ (aF 2 40 (by decide) ?_ (aF 3 39 (by decide) ?_ (aF 4 38 (by decide) ?_ (aF 5 37 (by decide) ?_ (aF 6 36 (by decide) ?_ (aF 7 35 (by decide) ?_ (aF 8 34 (by decide) ?_ (aF 9 33 (by decide) ?_ (aF 10 32 (by decide) ?_ (aF 11 31 (by decide) ?_ (aF 12 30 (by decide) ?_ (aF 13 29 (by decide) ?_ (aF 14 28 (by decide) ?_ (aF 15 27 (by decide) ?_ (aF 16 26 (by decide) ?_ (aF 17 25 (by decide) ?_ (aF 18 24 (by decide) ?_ (aF 19 23 (by decide) ?_ (aF 20 22 (by decide) ?_ (aF 21 21 (by decide) ?_ (aF 22 20 (by decide) ?_ (aF 23 19 (by decide) ?_ (aF 24 18 (by decide) ?_ (aF 25 17 (by decide) ?_ (aF 26 16 (by decide) ?_ (aF 27 15 (by decide) ?_ (aF 28 14 (by decide) ?_ (aF 29 13 (by decide) ?_ (aF 30 12 (by decide) ?_ (aF 31 11 (by decide) ?_ (aF 32 10 (by decide) ?_ (aF 33 9 (by decide) ?_ (aF 34 8 (by decide) ?_ (aF 35 7 (by decide) ?_ (aF 36 6 (by decide) ?_ (aF 37 5 (by decide) ?_ (aF 38 4 (by decide) ?_ (aF 39 3 (by decide) ?_ (aF 40 2 (by decide) ?_ (aF 41 1 (by decide) ?_ (aF 42 0 (by decide) ?_ (trivial)))))))))))))))))))))))))))))))))))))))))))) [(1, .pointer (some ⟨b10, 0, none⟩)), (3, iv s22), (38, .pointer (some ⟨b10, 1, none⟩)), (39, .slice ad7 p0.Right.length cp8), (40, iv s22), (41, q68), (42, iv x44), (43, .bool r49), (44, .bool (!r49)), (47, .pointer (some ⟨b10, 0, none⟩)), (48, .slice ad5 p0.Left.length cp6), (49, iv s22), (50, q71), (51, iv x33), (52, .pointer (some ⟨b10, 1, none⟩)), (53, .slice ad7 p0.Right.length cp8), (54, iv s22), (55, q74), (56, iv x44), (57, .bool (decide (x44 ≤ x33))), (60, undef), (61, undef), (62, undef), (63, undef), (64, undef), (65, undef), (66, undef), (67, undef), (68, undef), (69, undef), (70, undef), (71, undef), (72, .bool true)] (fin_of [none, none, some 8, some 9, some 10, some 11, some 12, some 13, some 14, some 17, some 18, some 19, some 20, some 21, some 22, some 23, some 24, some 25, some 26, some 27, some 30, some 31, some 32, some 33, some 34, some 35, some 36, some 37, some 38, some 39, some 40, some 41, some 42] rfl (by kernel_rfl) (by kernel_rfl)) (fun _ a w S => ?_)
    · refine fI 30 (.pointer (some ⟨b10, 0, none⟩)) [(1, .pointer (some ⟨b10, 0, none⟩))] 0 [none] rfl rfl rfl rfl rfl rfl fun G a w S => ?_
      refine sField (b := b10) (off := 0) 0 0 S (wN rfl) rfl rfl rfl rfl rfl (lb rfl) fun a S => ?_
      exact leafL ⟨rfl, S⟩
    · refine fI 31 (.slice ad5 p0.Left.length cp6) [(30, .pointer (some ⟨b10, 0, none⟩))] 1 [some 0] rfl rfl rfl rfl rfl rfl fun G a w S => ?_
      refine sLoad1 (p := b10) (off := 0) (T := 36) (vs := [.slice ad5 p0.Left.length cp6, .slice ad7 p0.Right.length cp8]) 0 (.slice ad5 p0.Left.length cp6) S (wN rfl) rfl rfl rfl rfl rfl rfl (lb rfl) fun a S => ?_
      exact leafL ⟨rfl, S⟩
    · refine fI 32 (iv s22) [(3, iv s22)] 2 [none] rfl rfl rfl rfl rfl rfl fun G a w S => ?_
      refine sMove (iv s22) S (wN rfl) (.inl rfl) rfl rfl (lb rfl) fun a S => ?_
      exact leafL ⟨rfl, S⟩
    · refine fI 33 q65 [(31, .slice ad5 p0.Left.length cp6), (32, iv s22)] 3 [some 1, some 2] rfl rfl rfl rfl rfl rfl fun G a w S => ?_
      refine sIdxV (v := .slice ad5 p0.Left.length cp6) (k := .i64) (j := s22) S (wN rfl) rfl rfl rfl hq66 rfl (lb rfl) fun a S => ?_
      exact leafL ⟨rfl, S⟩
    · refine fI 34 (iv x33) [(33, q65)] 4 [some 3] rfl rfl rfl rfl rfl rfl fun G a w S => ?_
      refine sLoadV1 (vq := q65) 9 (iv x33) S (wN rfl) rfl rfl rfl rfl rfl (lb rfl) fun a S => ?_
      exact leafL ⟨rfl, S⟩
    · refine fI 35 (.bool r38) [(34, iv x33)] 5 [some 4] rfl rfl rfl rfl rfl rfl fun G a w S => ?_
      have S1 := S.mem
      refine sCallQ (X := Unit) (f := 34) (vs := [iv x33]) (val := fun _ => .bool r38) S (wN rfl) rfl callee34 rfl (S1.quiet [] rfl) (fun E1 w1 S1 => c_raddleref37_in E1 w1 x33 r38 hx39 S1) rfl (lb rfl) fun _ a w S => ?_
      exact leafL ⟨rfl, S⟩
    · refine fI 36 (.bool (!r38)) [(35, .bool r38)] 6 [some 5] rfl rfl rfl rfl rfl rfl fun G a w S => ?_
      refine sNot (b := r38) S (wN rfl) rfl rfl rfl (lb rfl) fun a S => ?_
      exact leafL ⟨rfl, S⟩
    · refine fI 37 (.bool (!r38)) [(36, .bool (!r38))] 7 [some 6] rfl rfl rfl rfl rfl rfl fun G a w S => ?_
      refine sMove (.bool (!r38)) S (wN rfl) (.inl rfl) rfl rfl (lb rfl) fun a S => ?_
      exact leafL ⟨rfl, S⟩
    · refine fI 38 (.pointer (some ⟨b10, 1, none⟩)) [(1, .pointer (some ⟨b10, 0, none⟩)), (37, .bool (!r38))] 8 [none, some 7] rfl rfl rfl rfl rfl rfl fun G a w S => ?_
      refine sField (b := b10) (off := 0) 1 1 S (wG 7 false 37 rfl rfl rfl hc40) rfl rfl rfl rfl rfl (lb rfl) fun a S => ?_
      exact leafL ⟨rfl, S⟩
    · refine fI 39 (.slice ad7 p0.Right.length cp8) [(38, .pointer (some ⟨b10, 1, none⟩)), (37, .bool (!r38))] 9 [some 8, some 7] rfl rfl rfl rfl rfl rfl fun G a w S => ?_
      refine sLoad1 (p := b10) (off := 1) (T := 36) (vs := [.slice ad5 p0.Left.length cp6, .slice ad7 p0.Right.length cp8]) 0 (.slice ad7 p0.Right.length cp8) S (wG 7 false 37 rfl rfl rfl hc40) rfl rfl rfl rfl rfl rfl (lb rfl) fun a S => ?_
      exact leafL ⟨rfl, S⟩
    · refine fI 40 (iv s22) [(3, iv s22), (37, .bool (!r38))] 10 [none, some 7] rfl rfl rfl rfl rfl rfl fun G a w S => ?_
      refine sMove (iv s22) S (wG 7 false 37 rfl rfl rfl hc40) (.inl rfl) rfl rfl (lb rfl) fun a S => ?_
      exact leafL ⟨rfl, S⟩
    · refine fI 41 q68 [(39, .slice ad7 p0.Right.length cp8), (40, iv s22), (37, .bool (!r38))] 11 [some 9, some 10, some 7] rfl rfl rfl rfl rfl rfl fun G a w S => ?_
      refine sIdxV (v := .slice ad7 p0.Right.length cp8) (k := .i64) (j := s22) S (wG 7 false 37 rfl rfl rfl hc40) rfl rfl rfl hq69 rfl (lb rfl) fun a S => ?_
      exact leafL ⟨rfl, S⟩
    · refine fI 42 (iv x44) [(41, q68), (37, .bool (!r38))] 12 [some 11, some 7] rfl rfl rfl rfl rfl rfl fun G a w S => ?_
      refine sLoadV1 (vq := q68) 6 (iv x44) S (wG 7 false 37 rfl rfl rfl hc40) rfl rfl rfl rfl rfl (lb rfl) fun a S => ?_
      exact leafL ⟨rfl, S⟩
    · refine fI 43 (.bool r49) [(42, iv x44), (37, .bool (!r38))] 13 [some 12, some 7] rfl rfl rfl rfl rfl rfl fun G a w S => ?_
      have S1 := S.mem
      refine sCallQ (X := Unit) (f := 34) (vs := [iv x44]) (val := fun _ => .bool r49) S (wG 7 false 37 rfl rfl rfl hc40) rfl callee34 rfl (S1.quiet [] rfl) (fun E1 w1 S1 => c_raddleref37_in E1 w1 x44 r49 hx50 S1) rfl (lb rfl) fun _ a w S => ?_
      exact leafL ⟨rfl, S⟩
    · refine fI 44 (.bool (!r49)) [(43, .bool r49), (37, .bool (!r38))] 14 [some 13, some 7] rfl rfl rfl rfl rfl rfl fun G a w S => ?_
      refine sNot (b := r49) S (wG 7 false 37 rfl rfl rfl hc40) rfl rfl rfl (lb rfl) fun a S => ?_
      exact leafL ⟨rfl, S⟩
    · refine fI 45 (.bool (!r49)) [(37, .bool (!r38)), (44, .bool (!r49))] 15 [some 7, some 14] rfl rfl rfl rfl rfl rfl fun G a w S => ?_
      refine sPickF (.bool (!r49)) S (wN rfl) rfl rfl hc40 rfl rfl (lb rfl) fun a S => ?_
      exact leafL ⟨rfl, S⟩
    · refine fI 46 (.bool (!r49)) [(45, .bool (!r49))] 16 [some 15] rfl rfl rfl rfl rfl rfl fun G a w S => ?_
      refine sMove (.bool (!r49)) S (wN rfl) (.inl rfl) rfl rfl (lb rfl) fun a S => ?_
      exact leafL ⟨rfl, S⟩
    · refine fI 47 (.pointer (some ⟨b10, 0, none⟩)) [(1, .pointer (some ⟨b10, 0, none⟩)), (46, .bool (!r49))] 17 [none, some 16] rfl rfl rfl rfl rfl rfl fun G a w S => ?_
      refine sField (b := b10) (off := 0) 0 0 S (wG 16 false 46 rfl rfl rfl hc51) rfl rfl rfl rfl rfl (lb rfl) fun a S => ?_
      exact leafL ⟨rfl, S⟩
    · refine fI 48 (.slice ad5 p0.Left.length cp6) [(47, .pointer (some ⟨b10, 0, none⟩)), (46, .bool (!r49))] 18 [some 17, some 16] rfl rfl rfl rfl rfl rfl fun G a w S => ?_
      refine sLoad1 (p := b10) (off := 0) (T := 36) (vs := [.slice ad5 p0.Left.length cp6, .slice ad7 p0.Right.length cp8]) 0 (.slice ad5 p0.Left.length cp6) S (wG 16 false 46 rfl rfl rfl hc51) rfl rfl rfl rfl rfl rfl (lb rfl) fun a S => ?_
      exact leafL ⟨rfl, S⟩
    · refine fI 49 (iv s22) [(3, iv s22), (46, .bool (!r49))] 19 [none, some 16] rfl rfl rfl rfl rfl rfl fun G a w S => ?_
      refine sMove (iv s22) S (wG 16 false 46 rfl rfl rfl hc51) (.inl rfl) rfl rfl (lb rfl) fun a S => ?_
      exact leafL ⟨rfl, S⟩
    · refine fI 50 q71 [(48, .slice ad5 p0.Left.length cp6), (49, iv s22), (46, .bool (!r49))] 20 [some 18, some 19, some 16] rfl rfl rfl rfl rfl rfl fun G a w S => ?_
      refine sIdxV (v := .slice ad5 p0.Left.length cp6) (k := .i64) (j := s22) S (wG 16 false 46 rfl rfl rfl hc51) rfl rfl rfl hq72 rfl (lb rfl) fun a S => ?_
      exact leafL ⟨rfl, S⟩
    · refine fI 51 (iv x33) [(50, q71), (46, .bool (!r49))] 21 [some 20, some 16] rfl rfl rfl rfl rfl rfl fun G a w S => ?_
      refine sLoadV1 (vq := q71) 3 (iv x33) S (wG 16 false 46 rfl rfl rfl hc51) rfl rfl rfl rfl rfl (lb rfl) fun a S => ?_
      exact leafL ⟨rfl, S⟩
    · refine fI 52 (.pointer (some ⟨b10, 1, none⟩)) [(1, .pointer (some ⟨b10, 0, none⟩)), (46, .bool (!r49))] 22 [none, some 16] rfl rfl rfl rfl rfl rfl fun G a w S => ?_
      refine sField (b := b10) (off := 0) 1 1 S (wG 16 false 46 rfl rfl rfl hc51) rfl rfl rfl rfl rfl (lb rfl) fun a S => ?_
      exact leafL ⟨rfl, S⟩
    · refine fI 53 (.slice ad7 p0.Right.length cp8) [(52, .pointer (some ⟨b10, 1, none⟩)), (46, .bool (!r49))] 23 [some 22, some 16] rfl rfl rfl rfl rfl rfl fun G a w S => ?_
      refine sLoad1 (p := b10) (off := 1) (T := 36) (vs := [.slice ad5 p0.Left.length cp6, .slice ad7 p0.Right.length cp8]) 0 (.slice ad7 p0.Right.length cp8) S (wG 16 false 46 rfl rfl rfl hc51) rfl rfl rfl rfl rfl rfl (lb rfl) fun a S => ?_
      exact leafL ⟨rfl, S⟩
    · refine fI 54 (iv s22) [(3, iv s22), (46, .bool (!r49))] 24 [none, some 16] rfl rfl rfl rfl rfl rfl fun G a w S => ?_
      refine sMove (iv s22) S (wG 16 false 46 rfl rfl rfl hc51) (.inl rfl) rfl rfl (lb rfl) fun a S => ?_
      exact leafL ⟨rfl, S⟩
    · refine fI 55 q74 [(53, .slice ad7 p0.Right.length cp8), (54, iv s22), (46, .bool (!r49))] 25 [some 23, some 24, some 16] rfl rfl rfl rfl rfl rfl fun G a w S => ?_
      refine sIdxV (v := .slice ad7 p0.Right.length cp8) (k := .i64) (j := s22) S (wG 16 false 46 rfl rfl rfl hc51) rfl rfl rfl hq75 rfl (lb rfl) fun a S => ?_
      exact leafL ⟨rfl, S⟩
    · refine fI 56 (iv x44) [(55, q74), (46, .bool (!r49))] 26 [some 25, some 16] rfl rfl rfl rfl rfl rfl fun G a w S => ?_
      refine sLoadV1 (vq := q74) 0 (iv x44) S (wG 16 false 46 rfl rfl rfl hc51) rfl rfl rfl rfl rfl (lb rfl) fun a S => ?_
      exact leafL ⟨rfl, S⟩
    · refine fI 57 (.bool (decide (x44 ≤ x33))) [(51, iv x33), (56, iv x44), (46, .bool (!r49))] 27 [some 21, some 26, some 16] rfl rfl rfl rfl rfl rfl fun G a w S => ?_
      refine sBin (.bool (decide (x44 ≤ x33))) S (wG 16 false 46 rfl rfl rfl hc51) rfl rfl rfl (bGe _ _ _ _ .i64 x33 x44) rfl (lb rfl) fun a S => ?_
      exact leafL ⟨rfl, S⟩
    · refine fI 58 (.bool (decide (x44 ≤ x33))) [(46, .bool (!r49)), (57, .bool (decide (x44 ≤ x33)))] 28 [some 16, some 27] rfl rfl rfl rfl rfl rfl fun G a w S => ?_
      refine sPickF (.bool (decide (x44 ≤ x33))) S (wN rfl) rfl rfl hc51 rfl rfl (lb rfl) fun a S => ?_
      exact leafL ⟨rfl, S⟩
    · refine fI 59 (.bool (decide (x44 ≤ x33))) [(58, .bool (decide (x44 ≤ x33)))] 29 [some 28] rfl rfl rfl rfl rfl rfl fun G a w S => ?_
      refine sMove (.bool (decide (x44 ≤ x33))) S (wN rfl) (.inl rfl) rfl rfl (lb rfl) fun a S => ?_
      exact leafL ⟨rfl, S⟩
    · refine fI 60 undef [(1, .pointer (some ⟨b10, 0, none⟩)), (59, .bool (decide (x44 ≤ x33)))] 30 [none, some 29] rfl rfl rfl rfl rfl rfl fun G a w S => ?_
      refine sSkip 29 false 59 60 S rfl rfl rfl hc64 rfl (lb rfl) fun a S => ?_
      exact leafL ⟨rfl, S⟩
    · refine fI 61 undef [(60, undef), (59, .bool (decide (x44 ≤ x33)))] 31 [some 30, some 29] rfl rfl rfl rfl rfl rfl fun G a w S => ?_
      refine sSkip 29 false 59 61 S rfl rfl rfl hc64 rfl (lb rfl) fun a S => ?_
      exact leafL ⟨rfl, S⟩
    · refine fI 62 undef [(3, iv s22), (59, .bool (decide (x44 ≤ x33)))] 32 [none, some 29] rfl rfl rfl rfl rfl rfl fun G a w S => ?_
      refine sSkip 29 false 59 62 S rfl rfl rfl hc64 rfl (lb rfl) fun a S => ?_
      exact leafL ⟨rfl, S⟩
    · refine fI 63 undef [(61, undef), (62, undef), (59, .bool (decide (x44 ≤ x33)))] 33 [some 31, some 32, some 29] rfl rfl rfl rfl rfl rfl fun G a w S => ?_
      refine sSkip 29 false 59 63 S rfl rfl rfl hc64 rfl (lb rfl) fun a S => ?_
      exact leafL ⟨rfl, S⟩
    · refine fI 64 undef [(63, undef), (59, .bool (decide (x44 ≤ x33)))] 34 [some 33, some 29] rfl rfl rfl rfl rfl rfl fun G a w S => ?_
      refine sSkip 29 false 59 64 S rfl rfl rfl hc64 rfl (lb rfl) fun a S => ?_
      exact leafL ⟨rfl, S⟩
    · refine fI 65 undef [(1, .pointer (some ⟨b10, 0, none⟩)), (59, .bool (decide (x44 ≤ x33)))] 35 [none, some 29] rfl rfl rfl rfl rfl rfl fun G a w S => ?_
      refine sSkip 29 false 59 65 S rfl rfl rfl hc64 rfl (lb rfl) fun a S => ?_
      exact leafL ⟨rfl, S⟩
    · refine fI 66 undef [(65, undef), (59, .bool (decide (x44 ≤ x33)))] 36 [some 35, some 29] rfl rfl rfl rfl rfl rfl fun G a w S => ?_
      refine sSkip 29 false 59 66 S rfl rfl rfl hc64 rfl (lb rfl) fun a S => ?_
      exact leafL ⟨rfl, S⟩
    · refine fI 67 undef [(3, iv s22), (59, .bool (decide (x44 ≤ x33)))] 37 [none, some 29] rfl rfl rfl rfl rfl rfl fun G a w S => ?_
      refine sSkip 29 false 59 67 S rfl rfl rfl hc64 rfl (lb rfl) fun a S => ?_
      exact leafL ⟨rfl, S⟩
    · refine fI 68 undef [(66, undef), (67, undef), (59, .bool (decide (x44 ≤ x33)))] 38 [some 36, some 37, some 29] rfl rfl rfl rfl rfl rfl fun G a w S => ?_
      refine sSkip 29 false 59 68 S rfl rfl rfl hc64 rfl (lb rfl) fun a S => ?_
      exact leafL ⟨rfl, S⟩
    · refine fI 69 undef [(68, undef), (59, .bool (decide (x44 ≤ x33)))] 39 [some 38, some 29] rfl rfl rfl rfl rfl rfl fun G a w S => ?_
      refine sSkip 29 false 59 69 S rfl rfl rfl hc64 rfl (lb rfl) fun a S => ?_
      exact leafL ⟨rfl, S⟩
    · refine fI 70 undef [(64, undef), (69, undef), (59, .bool (decide (x44 ≤ x33)))] 40 [some 34, some 39, some 29] rfl rfl rfl rfl rfl rfl fun G a w S => ?_
      refine sSkip 29 false 59 70 S rfl rfl rfl hc64 rfl (lb rfl) fun a S => ?_
      exact leafL ⟨rfl, S⟩
    · refine fI 71 undef [(70, undef), (59, .bool (decide (x44 ≤ x33)))] 41 [some 40, some 29] rfl rfl rfl rfl rfl rfl fun G a w S => ?_
      refine sSkip 29 false 59 71 S rfl rfl rfl hc64 rfl (lb rfl) fun a S => ?_
      exact leafL ⟨rfl, S⟩
    · refine fI 72 (.bool true) [(59, .bool (decide (x44 ≤ x33))), (71, undef)] 42 [some 29, some 41] rfl rfl rfl rfl rfl rfl fun G a w S => ?_
      refine sPickT (.bool true) S (wN rfl) rfl rfl hc64 rfl rfl (lb rfl) fun a S => ?_
      exact leafL ⟨rfl, S⟩
    exact leafT (⟨true, Option.some.inj h, S.fix [0] [12, 13] (by decide) rfl rfl rfl⟩)
  obtain ⟨q83, hq84, S⟩ := pIdx (P := Try.prog) (r := (rI .i64)) (v := .slice ad5 p0.Left.length cp6) (xs := p0.Left) (j := s22) 34 3 0 S Try.underlying34 rfl rfl hx34
  obtain ⟨u85, S⟩ := pLoad (r := (rI .i64)) (q := q83) (x := x33) 0 S rfl
  obtain rfl : u85 = iv x33 := S.mem.know (i := 1) (e := fRep (rI .i64) (u85) x33) rfl
  obtain ⟨q86, hq87, S⟩ := pIdx (P := Try.prog) (r := (rI .i64)) (v := .slice ad7 p0.Right.length cp8) (xs := p0.Right) (j := s22) 34 3 4 S Try.underlying34 rfl rfl hx45
  obtain ⟨u88, S⟩ := pLoad (r := (rI .i64)) (q := q86) (x := x44) 0 S rfl
  obtain rfl : u88 = iv x44 := S.mem.know (i := 1) (e := fRep (rI .i64) (u88) x44) rfl
  obtain ⟨q89, hq90, S⟩ := pIdx (P := Try.prog) (r := (rI .i64)) (v := .slice ad5 p0.Left.length cp6) (xs := p0.Left) (j := s22) 34 3 6 S Try.underlying34 rfl rfl hx34
  obtain ⟨u91, S⟩ := pLoad (r := (rI .i64)) (q := q89) (x := x33) 0 S rfl
  obtain rfl : u91 = iv x33 := S.mem.know (i := 1) (e := fRep (rI .i64) (u91) x33) rfl
  obtain ⟨q92, hq93, S⟩ := pIdx (P := Try.prog) (r := (rI .i64)) (v := .slice ad7 p0.Right.length cp8) (xs := p0.Right) (j := s22) 34 3 10 S Try.underlying34 rfl rfl hx45
  obtain ⟨u94, S⟩ := pLoad (r := (rI .i64)) (q := q92) (x := x44) 0 S rfl
  obtain rfl : u94 = iv x44 := S.mem.know (i := 1) (e := fRep (rI .i64) (u94) x44) rfl
  obtain ⟨q95, hq96, S⟩ := pIdx (P := Try.prog) (r := (rI .i64)) (v := .slice ad7 p0.Right.length cp8) (xs := p0.Right) (j := s22) 34 3 13 S Try.underlying34 rfl rfl hx45
  obtain ⟨u97, S⟩ := pLoad (r := (rI .i64)) (q := q95) (x := x44) 0 S rfl
  obtain rfl : u97 = iv x44 := S.mem.know (i := 1) (e := fRep (rI .i64) (u97) x44) rfl
  obtain ⟨q98, hq99, S⟩ := pIdx (P := Try.prog) (r := (rI .i64)) (v := .slice ad5 p0.Left.length cp6) (xs := p0.Left) (j := s22) 34 3 15 S Try.underlying34 rfl rfl hx34
  obtain ⟨u100, S⟩ := pLoad (r := (rI .i64)) (q := q98) (x := x33) 0 S rfl
  obtain rfl : u100 = iv x33 := S.mem.know (i := 1) (e := fRep (rI .i64) (u100) x33) rfl
  refine sDraw (nf := []) (W := [(0, 30, .pointer (some ⟨b10, 0, none⟩)), (1, 31, .slice ad5 p0.Left.length cp6), (2, 32, iv s22), (3, 33, q83), (4, 34, iv x33), (5, 35, .bool r38), (6, 36, .bool (!r38)), (7, 37, .bool (!r38)), (8, 38, .pointer (some ⟨b10, 1, none⟩)), (9, 39, .slice ad7 p0.Right.length cp8), (10, 40, iv s22), (11, 41, q86), (12, 42, iv x44), (13, 43, .bool r49), (14, 44, .bool (!r49)), (15, 45, .bool (!r49)), (16, 46, .bool (!r49)), (17, 47, .pointer (some ⟨b10, 0, none⟩)), (18, 48, .slice ad5 p0.Left.length cp6), (19, 49, iv s22), (20, 50, q89), (21, 51, iv x33), (22, 52, .pointer (some ⟨b10, 1, none⟩)), (23, 53, .slice ad7 p0.Right.length cp8), (24, 54, iv s22), (25, 55, q92), (26, 56, iv x44), (27, 57, .bool (decide (x44 ≤ x33))), (28, 58, .bool (decide (x44 ≤ x33))), (29, 59, .bool (decide (x44 ≤ x33))), (30, 60, .pointer (some ⟨b10, 1, none⟩)), (31, 61, .slice ad7 p0.Right.length cp8), (32, 62, iv s22), (33, 63, q95), (34, 64, iv x44), (35, 65, .pointer (some ⟨b10, 0, none⟩)), (36, 66, .slice ad5 p0.Left.length cp6), (37, 67, iv s22), (38, 68, q98), (39, 69, iv x33), (40, 70, iv (w64 (x44 - x33))), (41, 71, .bool (decide (200 < (w64 (x44 - x33))))), (42, 72, .bool (decide (200 < (w64 (x44 - x33)))))]) rfl S ?_
  refine node_by (A := anc_raddleref37_Check_0) (nf := []) (Y := []) (W := [(0, 30, .pointer (some ⟨b10, 0, none⟩)), (1, 31, .slice ad5 p0.Left.length cp6), (2, 32, iv s22), (3, 33, q83), (4, 34, iv x33), (5, 35, .bool r38), (6, 36, .bool (!r38)), (7, 37, .bool (!r38)), (8, 38, .pointer (some ⟨b10, 1, none⟩)), (9, 39, .slice ad7 p0.Right.length cp8), (10, 40, iv s22), (11, 41, q86), (12, 42, iv x44), (13, 43, .bool r49), (14, 44, .bool (!r49)), (15, 45, .bool (!r49)), (16, 46, .bool (!r49)), (17, 47, .pointer (some ⟨b10, 0, none⟩)), (18, 48, .slice ad5 p0.Left.length cp6), (19, 49, iv s22), (20, 50, q89), (21, 51, iv x33), (22, 52, .pointer (some ⟨b10, 1, none⟩)), (23, 53, .slice ad7 p0.Right.length cp8), (24, 54, iv s22), (25, 55, q92), (26, 56, iv x44), (27, 57, .bool (decide (x44 ≤ x33))), (28, 58, .bool (decide (x44 ≤ x33))), (29, 59, .bool (decide (x44 ≤ x33))), (30, 60, .pointer (some ⟨b10, 1, none⟩)), (31, 61, .slice ad7 p0.Right.length cp8), (32, 62, iv s22), (33, 63, q95), (34, 64, iv x44), (35, 65, .pointer (some ⟨b10, 0, none⟩)), (36, 66, .slice ad5 p0.Left.length cp6), (37, 67, iv s22), (38, 68, q98), (39, 69, iv x33), (40, 70, iv (w64 (x44 - x33))), (41, 71, .bool (decide (200 < (w64 (x44 - x33))))), (42, 72, .bool (decide (200 < (w64 (x44 - x33)))))]) 43 (by kernel_rfl) (by kernel_rfl) (by kernel_rfl) (by kernel_rfl) (by kernel_rfl) [0, 1, 2, 3, 4, 5, 6, 7, 8, 9, 10, 11, 12, 13, 14, 15, 16, 17, 18, 19, 20, 21, 22, 23, 24, 25, 26, 27, 28, 29, 30, 31, 32, 33, 34, 35, 36, 37, 38, 39, 40, 41, 42] (by kernel_rfl) (by decide) (by decide) (aF 0 42 (by decide) ?_ (aF 1 41 (by decide) ?_ (aF 2 40 (by decide) ?_ (aF 3 39 (by decide) ?_ (aF 4 38 (by decide) ?_ (aF 5 37 (by decide) ?_ (aF 6 36 (by decide) ?_ (aF 7 35 (by decide) ?_ (aF 8 34 (by decide) ?_ (aF 9 33 (by decide) ?_ (aF 10 32 (by decide) ?_ (aF 11 31 (by decide) ?_ (aF 12 30 (by decide) ?_ (aF 13 29 (by decide) ?_ (aF 14 28 (by decide) ?_ (aF 15 27 (by decide) ?_ (aF 16 26 (by decide) ?_ (aF 17 25 (by decide) ?_ (aF 18 24 (by decide) ?_ (aF 19 23 (by decide) ?_ (aF 20 22 (by decide) ?_ (aF 21 21 (by decide) ?_ (aF 22 20 (by decide) ?_ (aF 23 19 (by decide) ?_ (aF 24 18 (by decide) ?_ (aF 25 17 (by decide) ?_ (aF 26 16 (by decide) ?_ (aF 27 15 (by decide) ?_ (aF 28 14 (by decide) ?_ (aF 29 13 (by decide) ?_ (aF 30 12 (by decide) ?_ (aF 31 11 (by decide) ?_ (aF 32 10 (by decide) ?_ (aF 33 9 (by decide) ?_ (aF 34 8 (by decide) ?_ (aF 35 7 (by decide) ?_ (aF 36 6 (by decide) ?_ (aF 37 5 (by decide) ?_ (aF 38 4 (by decide) ?_ (aF 39 3 (by decide) ?_ (aF 40 2 (by decide) ?_ (aF 41 1 (by decide) ?_ (aF 42 0 (by decide) ?_ (trivial)))))))))))))))))))))))))))))))))))))))))))) [(1, .pointer (some ⟨b10, 0, none⟩)), (3, iv s22), (38, .pointer (some ⟨b10, 1, none⟩)), (39, .slice ad7 p0.Right.length cp8), (40, iv s22), (41, q86), (42, iv x44), (43, .bool r49), (44, .bool (!r49)), (47, .pointer (some ⟨b10, 0, none⟩)), (48, .slice ad5 p0.Left.length cp6), (49, iv s22), (50, q89), (51, iv x33), (52, .pointer (some ⟨b10, 1, none⟩)), (53, .slice ad7 p0.Right.length cp8), (54, iv s22), (55, q92), (56, iv x44), (57, .bool (decide (x44 ≤ x33))), (60, .pointer (some ⟨b10, 1, none⟩)), (61, .slice ad7 p0.Right.length cp8), (62, iv s22), (63, q95), (64, iv x44), (65, .pointer (some ⟨b10, 0, none⟩)), (66, .slice ad5 p0.Left.length cp6), (67, iv s22), (68, q98), (69, iv x33), (70, iv (w64 (x44 - x33))), (71, .bool (decide (200 < (w64 (x44 - x33))))), (72, .bool (decide (200 < (w64 (x44 - x33)))))] (fin_of [none, none, some 8, some 9, some 10, some 11, some 12, some 13, some 14, some 17, some 18, some 19, some 20, some 21, some 22, some 23, some 24, some 25, some 26, some 27, some 30, some 31, some 32, some 33, some 34, some 35, some 36, some 37, some 38, some 39, some 40, some 41, some 42] rfl (by kernel_rfl) (by kernel_rfl)) (fun _ a w S => ?_)
  · refine fI 30 (.pointer (some ⟨b10, 0, none⟩)) [(1, .pointer (some ⟨b10, 0, none⟩))] 0 [none] rfl rfl rfl rfl rfl rfl fun G a w S => ?_
    refine sField (b := b10) (off := 0) 0 0 S (wN rfl) rfl rfl rfl rfl rfl (lb rfl) fun a S => ?_
    exact leafL ⟨rfl, S⟩
  · refine fI 31 (.slice ad5 p0.Left.length cp6) [(30, .pointer (some ⟨b10, 0, none⟩))] 1 [some 0] rfl rfl rfl rfl rfl rfl fun G a w S => ?_
    refine sLoad1 (p := b10) (off := 0) (T := 36) (vs := [.slice ad5 p0.Left.length cp6, .slice ad7 p0.Right.length cp8]) 0 (.slice ad5 p0.Left.length cp6) S (wN rfl) rfl rfl rfl rfl rfl rfl (lb rfl) fun a S => ?_
    exact leafL ⟨rfl, S⟩
  · refine fI 32 (iv s22) [(3, iv s22)] 2 [none] rfl rfl rfl rfl rfl rfl fun G a w S => ?_
    refine sMove (iv s22) S (wN rfl) (.inl rfl) rfl rfl (lb rfl) fun a S => ?_
    exact leafL ⟨rfl, S⟩
  · refine fI 33 q83 [(31, .slice ad5 p0.Left.length cp6), (32, iv s22)] 3 [some 1, some 2] rfl rfl rfl rfl rfl rfl fun G a w S => ?_
    refine sIdxV (v := .slice ad5 p0.Left.length cp6) (k := .i64) (j := s22) S (wN rfl) rfl rfl rfl hq84 rfl (lb rfl) fun a S => ?_
    exact leafL ⟨rfl, S⟩
  · refine fI 34 (iv x33) [(33, q83)] 4 [some 3] rfl rfl rfl rfl rfl rfl fun G a w S => ?_
    refine sLoadV1 (vq := q83) 15 (iv x33) S (wN rfl) rfl rfl rfl rfl rfl (lb rfl) fun a S => ?_
    exact leafL ⟨rfl, S⟩
  · refine fI 35 (.bool r38) [(34, iv x33)] 5 [some 4] rfl rfl rfl rfl rfl rfl fun G a w S => ?_
    have S1 := S.mem
    refine sCallQ (X := Unit) (f := 34) (vs := [iv x33]) (val := fun _ => .bool r38) S (wN rfl) rfl callee34 rfl (S1.quiet [] rfl) (fun E1 w1 S1 => c_raddleref37_in E1 w1 x33 r38 hx39 S1) rfl (lb rfl) fun _ a w S => ?_
    exact leafL ⟨rfl, S⟩
  · refine fI 36 (.bool (!r38)) [(35, .bool r38)] 6 [some 5] rfl rfl rfl rfl rfl rfl fun G a w S => ?_
    refine sNot (b := r38) S (wN rfl) rfl rfl rfl (lb rfl) fun a S => ?_
    exact leafL ⟨rfl, S⟩
  · refine fI 37 (.bool (!r38)) [(36, .bool (!r38))] 7 [some 6] rfl rfl rfl rfl rfl rfl fun G a w S => ?_
    refine sMove (.bool (!r38)) S (wN rfl) (.inl rfl) rfl rfl (lb rfl) fun a S => ?_
    exact leafL ⟨rfl, S⟩
  · refine fI 38 (.pointer (some ⟨b10, 1, none⟩)) [(1, .pointer (some ⟨b10, 0, none⟩)), (37, .bool (!r38))] 8 [none, some 7] rfl rfl rfl rfl rfl rfl fun G a w S => ?_
    refine sField (b := b10) (off := 0) 1 1 S (wG 7 false 37 rfl rfl rfl hc40) rfl rfl rfl rfl rfl (lb rfl) fun a S => ?_
    exact leafL ⟨rfl, S⟩
  · refine fI 39 (.slice ad7 p0.Right.length cp8) [(38, .pointer (some ⟨b10, 1, none⟩)), (37, .bool (!r38))] 9 [some 8, some 7] rfl rfl rfl rfl rfl rfl fun G a w S => ?_
    refine sLoad1 (p := b10) (off := 1) (T := 36) (vs := [.slice ad5 p0.Left.length cp6, .slice ad7 p0.Right.length cp8]) 0 (.slice ad7 p0.Right.length cp8) S (wG 7 false 37 rfl rfl rfl hc40) rfl rfl rfl rfl rfl rfl (lb rfl) fun a S => ?_
    exact leafL ⟨rfl, S⟩
  · refine fI 40 (iv s22) [(3, iv s22), (37, .bool (!r38))] 10 [none, some 7] rfl rfl rfl rfl rfl rfl fun G a w S => ?_
    refine sMove (iv s22) S (wG 7 false 37 rfl rfl rfl hc40) (.inl rfl) rfl rfl (lb rfl) fun a S => ?_
    exact leafL ⟨rfl, S⟩
  · refine fI 41 q86 [(39, .slice ad7 p0.Right.length cp8), (40, iv s22), (37, .bool (!r38))] 11 [some 9, some 10, some 7] rfl rfl rfl rfl rfl rfl fun G a w S => ?_
    refine sIdxV (v := .slice ad7 p0.Right.length cp8) (k := .i64) (j := s22) S (wG 7 false 37 rfl rfl rfl hc40) rfl rfl rfl hq87 rfl (lb rfl) fun a S => ?_
    exact leafL ⟨rfl, S⟩
  · refine fI 42 (iv x44) [(41, q86), (37, .bool (!r38))] 12 [some 11, some 7] rfl rfl rfl rfl rfl rfl fun G a w S => ?_
    refine sLoadV1 (vq := q86) 12 (iv x44) S (wG 7 false 37 rfl rfl rfl hc40) rfl rfl rfl rfl rfl (lb rfl) fun a S => ?_
    exact leafL ⟨rfl, S⟩
  · refine fI 43 (.bool r49) [(42, iv x44), (37, .bool (!r38))] 13 [some 12, some 7] rfl rfl rfl rfl rfl rfl fun G a w S => ?_
    have S1 := S.mem
    refine sCallQ (X := Unit) (f := 34) (vs := [iv x44]) (val := fun _ => .bool r49) S (wG 7 false 37 rfl rfl rfl hc40) rfl callee34 rfl (S1.quiet [] rfl) (fun E1 w1 S1 => c_raddleref37_in E1 w1 x44 r49 hx50 S1) rfl (lb rfl) fun _ a w S => ?_
    exact leafL ⟨rfl, S⟩
  · refine fI 44 (.bool (!r49)) [(43, .bool r49), (37, .bool (!r38))] 14 [some 13, some 7] rfl rfl rfl rfl rfl rfl fun G a w S => ?_
    refine sNot (b := r49) S (wG 7 false 37 rfl rfl rfl hc40) rfl rfl rfl (lb rfl) fun a S => ?_
    exact leafL ⟨rfl, S⟩
  · refine fI 45 (.bool (!r49)) [(37, .bool (!r38)), (44, .bool (!r49))] 15 [some 7, some 14] rfl rfl rfl rfl rfl rfl fun G a w S => ?_
    refine sPickF (.bool (!r49)) S (wN rfl) rfl rfl hc40 rfl rfl (lb rfl) fun a S => ?_
    exact leafL ⟨rfl, S⟩
  · refine fI 46 (.bool (!r49)) [(45, .bool (!r49))] 16 [some 15] rfl rfl rfl rfl rfl rfl fun G a w S => ?_
    refine sMove (.bool (!r49)) S (wN rfl) (.inl rfl) rfl rfl (lb rfl) fun a S => ?_
    exact leafL ⟨rfl, S⟩
  · refine fI 47 (.pointer (some ⟨b10, 0, none⟩)) [(1, .pointer (some ⟨b10, 0, none⟩)), (46, .bool (!r49))] 17 [none, some 16] rfl rfl rfl rfl rfl rfl fun G a w S => ?_
    refine sField (b := b10) (off := 0) 0 0 S (wG 16 false 46 rfl rfl rfl hc51) rfl rfl rfl rfl rfl (lb rfl) fun a S => ?_
    exact leafL ⟨rfl, S⟩
  · refine fI 48 (.slice ad5 p0.Left.length cp6) [(47, .pointer (some ⟨b10, 0, none⟩)), (46, .bool (!r49))] 18 [some 17, some 16] rfl rfl rfl rfl rfl rfl fun G a w S => ?_
    refine sLoad1 (p := b10) (off := 0) (T := 36) (vs := [.slice ad5 p0.Left.length cp6, .slice ad7 p0.Right.length cp8]) 0 (.slice ad5 p0.Left.length cp6) S (wG 16 false 46 rfl rfl rfl hc51) rfl rfl rfl rfl rfl rfl (lb rfl) fun a S => ?_
    exact leafL ⟨rfl, S⟩
  · refine fI 49 (iv s22) [(3, iv s22), (46, .bool (!r49))] 19 [none, some 16] rfl rfl rfl rfl rfl rfl fun G a w S => ?_
    refine sMove (iv s22) S (wG 16 false 46 rfl rfl rfl hc51) (.inl rfl) rfl rfl (lb rfl) fun a S => ?_
    exact leafL ⟨rfl, S⟩
  · refine fI 50 q89 [(48, .slice ad5 p0.Left.length cp6), (49, iv s22), (46, .bool (!r49))] 20 [some 18, some 19, some 16] rfl rfl rfl rfl rfl rfl fun G a w S => ?_
    refine sIdxV (v := .slice ad5 p0.Left.length cp6) (k := .i64) (j := s22) S (wG 16 false 46 rfl rfl rfl hc51) rfl rfl rfl hq90 rfl (lb rfl) fun a S => ?_
    exact leafL ⟨rfl, S⟩
  · refine fI 51 (iv x33) [(50, q89), (46, .bool (!r49))] 21 [some 20, some 16] rfl rfl rfl rfl rfl rfl fun G a w S => ?_
    refine sLoadV1 (vq := q89) 9 (iv x33) S (wG 16 false 46 rfl rfl rfl hc51) rfl rfl rfl rfl rfl (lb rfl) fun a S => ?_
    exact leafL ⟨rfl, S⟩
  · refine fI 52 (.pointer (some ⟨b10, 1, none⟩)) [(1, .pointer (some ⟨b10, 0, none⟩)), (46, .bool (!r49))] 22 [none, some 16] rfl rfl rfl rfl rfl rfl fun G a w S => ?_
    refine sField (b := b10) (off := 0) 1 1 S (wG 16 false 46 rfl rfl rfl hc51) rfl rfl rfl rfl rfl (lb rfl) fun a S => ?_
    exact leafL ⟨rfl, S⟩
  · refine fI 53 (.slice ad7 p0.Right.length cp8) [(52, .pointer (some ⟨b10, 1, none⟩)), (46, .bool (!r49))] 23 [some 22, some 16] rfl rfl rfl rfl rfl rfl fun G a w S => ?_
    refine sLoad1 (p := b10) (off := 1) (T := 36) (vs := [.slice ad5 p0.Left.length cp6, .slice ad7 p0.Right.length cp8]) 0 (.slice ad7 p0.Right.length cp8) S (wG 16 false 46 rfl rfl rfl hc51) rfl rfl rfl rfl rfl rfl (lb rfl) fun a S => ?_
    exact leafL ⟨rfl, S⟩
  · refine fI 54 (iv s22) [(3, iv s22), (46, .bool (!r49))] 24 [none, some 16] rfl rfl rfl rfl rfl rfl fun G a w S => ?_
    refine sMove (iv s22) S (wG 16 false 46 rfl rfl rfl hc51) (.inl rfl) rfl rfl (lb rfl) fun a S => ?_
    exact leafL ⟨rfl, S⟩
  · refine fI 55 q92 [(53, .slice ad7 p0.Right.length cp8), (54, iv s22), (46, .bool (!r49))] 25 [some 23, some 24, some 16] rfl rfl rfl rfl rfl rfl fun G a w S => ?_
    refine sIdxV (v := .slice ad7 p0.Right.length cp8) (k := .i64) (j := s22) S (wG 16 false 46 rfl rfl rfl hc51) rfl rfl rfl hq93 rfl (lb rfl) fun a S => ?_
    exact leafL ⟨rfl, S⟩
  · refine fI 56 (iv x44) [(55, q92), (46, .bool (!r49))] 26 [some 25, some 16] rfl rfl rfl rfl rfl rfl fun G a w S => ?_
    refine sLoadV1 (vq := q92) 6 (iv x44) S (wG 16 false 46 rfl rfl rfl hc51) rfl rfl rfl rfl rfl (lb rfl) fun a S => ?_
    exact leafL ⟨rfl, S⟩
  · refine fI 57 (.bool (decide (x44 ≤ x33))) [(51, iv x33), (56, iv x44), (46, .bool (!r49))] 27 [some 21, some 26, some 16] rfl rfl rfl rfl rfl rfl fun G a w S => ?_
    refine sBin (.bool (decide (x44 ≤ x33))) S (wG 16 false 46 rfl rfl rfl hc51) rfl rfl rfl (bGe _ _ _ _ .i64 x33 x44) rfl (lb rfl) fun a S => ?_
    exact leafL ⟨rfl, S⟩
  · refine fI 58 (.bool (decide (x44 ≤ x33))) [(46, .bool (!r49)), (57, .bool (decide (x44 ≤ x33)))] 28 [some 16, some 27] rfl rfl rfl rfl rfl rfl fun G a w S => ?_
    refine sPickF (.bool (decide (x44 ≤ x33))) S (wN rfl) rfl rfl hc51 rfl rfl (lb rfl) fun a S => ?_
    exact leafL ⟨rfl, S⟩
  · refine fI 59 (.bool (decide (x44 ≤ x33))) [(58, .bool (decide (x44 ≤ x33)))] 29 [some 28] rfl rfl rfl rfl rfl rfl fun G a w S => ?_
    refine sMove (.bool (decide (x44 ≤ x33))) S (wN rfl) (.inl rfl) rfl rfl (lb rfl) fun a S => ?_
    exact leafL ⟨rfl, S⟩
  · refine fI 60 (.pointer (some ⟨b10, 1, none⟩)) [(1, .pointer (some ⟨b10, 0, none⟩)), (59, .bool (decide (x44 ≤ x33)))] 30 [none, some 29] rfl rfl rfl rfl rfl rfl fun G a w S => ?_
    refine sField (b := b10) (off := 0) 1 1 S (wG 29 false 59 rfl rfl rfl hc64) rfl rfl rfl rfl rfl (lb rfl) fun a S => ?_
    exact leafL ⟨rfl, S⟩
  · refine fI 61 (.slice ad7 p0.Right.length cp8) [(60, .pointer (some ⟨b10, 1, none⟩)), (59, .bool (decide (x44 ≤ x33)))] 31 [some 30, some 29] rfl rfl rfl rfl rfl rfl fun G a w S => ?_
    refine sLoad1 (p := b10) (off := 1) (T := 36) (vs := [.slice ad5 p0.Left.length cp6, .slice ad7 p0.Right.length cp8]) 0 (.slice ad7 p0.Right.length cp8) S (wG 29 false 59 rfl rfl rfl hc64) rfl rfl rfl rfl rfl rfl (lb rfl) fun a S => ?_
    exact leafL ⟨rfl, S⟩
  · refine fI 62 (iv s22) [(3, iv s22), (59, .bool (decide (x44 ≤ x33)))] 32 [none, some 29] rfl rfl rfl rfl rfl rfl fun G a w S => ?_
    refine sMove (iv s22) S (wG 29 false 59 rfl rfl rfl hc64) (.inl rfl) rfl rfl (lb rfl) fun a S => ?_
    exact leafL ⟨rfl, S⟩
  · refine fI 63 q95 [(61, .slice ad7 p0.Right.length cp8), (62, iv s22), (59, .bool (decide (x44 ≤ x33)))] 33 [some 31, some 32, some 29] rfl rfl rfl rfl rfl rfl fun G a w S => ?_
    refine sIdxV (v := .slice ad7 p0.Right.length cp8) (k := .i64) (j := s22) S (wG 29 false 59 rfl rfl rfl hc64) rfl rfl rfl hq96 rfl (lb rfl) fun a S => ?_
    exact leafL ⟨rfl, S⟩
  · refine fI 64 (iv x44) [(63, q95), (59, .bool (decide (x44 ≤ x33)))] 34 [some 33, some 29] rfl rfl rfl rfl rfl rfl fun G a w S => ?_
    refine sLoadV1 (vq := q95) 3 (iv x44) S (wG 29 false 59 rfl rfl rfl hc64) rfl rfl rfl rfl rfl (lb rfl) fun a S => ?_
    exact leafL ⟨rfl, S⟩
  · refine fI 65 (.pointer (some ⟨b10, 0, none⟩)) [(1, .pointer (some ⟨b10, 0, none⟩)), (59, .bool (decide (x44 ≤ x33)))] 35 [none, some 29] rfl rfl rfl rfl rfl rfl fun G a w S => ?_
    refine sField (b := b10) (off := 0) 0 0 S (wG 29 false 59 rfl rfl rfl hc64) rfl rfl rfl rfl rfl (lb rfl) fun a S => ?_
    exact leafL ⟨rfl, S⟩
  · refine fI 66 (.slice ad5 p0.Left.length cp6) [(65, .pointer (some ⟨b10, 0, none⟩)), (59, .bool (decide (x44 ≤ x33)))] 36 [some 35, some 29] rfl rfl rfl rfl rfl rfl fun G a w S => ?_
    refine sLoad1 (p := b10) (off := 0) (T := 36) (vs := [.slice ad5 p0.Left.length cp6, .slice ad7 p0.Right.length cp8]) 0 (.slice ad5 p0.Left.length cp6) S (wG 29 false 59 rfl rfl rfl hc64) rfl rfl rfl rfl rfl rfl (lb rfl) fun a S => ?_
    exact leafL ⟨rfl, S⟩
  · refine fI 67 (iv s22) [(3, iv s22), (59, .bool (decide (x44 ≤ x33)))] 37 [none, some 29] rfl rfl rfl rfl rfl rfl fun G a w S => ?_
    refine sMove (iv s22) S (wG 29 false 59 rfl rfl rfl hc64) (.inl rfl) rfl rfl (lb rfl) fun a S => ?_
    exact leafL ⟨rfl, S⟩
  · refine fI 68 q98 [(66, .slice ad5 p0.Left.length cp6), (67, iv s22), (59, .bool (decide (x44 ≤ x33)))] 38 [some 36, some 37, some 29] rfl rfl rfl rfl rfl rfl fun G a w S => ?_
    refine sIdxV (v := .slice ad5 p0.Left.length cp6) (k := .i64) (j := s22) S (wG 29 false 59 rfl rfl rfl hc64) rfl rfl rfl hq99 rfl (lb rfl) fun a S => ?_
    exact leafL ⟨rfl, S⟩
  · refine fI 69 (iv x33) [(68, q98), (59, .bool (decide (x44 ≤ x33)))] 39 [some 38, some 29] rfl rfl rfl rfl rfl rfl fun G a w S => ?_
    refine sLoadV1 (vq := q98) 0 (iv x33) S (wG 29 false 59 rfl rfl rfl hc64) rfl rfl rfl rfl rfl (lb rfl) fun a S => ?_
    exact leafL ⟨rfl, S⟩
  · refine fI 70 (iv (w64 (x44 - x33))) [(64, iv x44), (69, iv x33), (59, .bool (decide (x44 ≤ x33)))] 40 [some 34, some 39, some 29] rfl rfl rfl rfl rfl rfl fun G a w S => ?_
    refine sBin (iv (w64 (x44 - x33))) S (wG 29 false 59 rfl rfl rfl hc64) rfl rfl rfl (bSub _ _ _ _ x44 x33) rfl (lb rfl) fun a S => ?_
    exact leafL ⟨rfl, S⟩
  · refine fI 71 (.bool (decide (200 < (w64 (x44 - x33))))) [(70, iv (w64 (x44 - x33))), (59, .bool (decide (x44 ≤ x33)))] 41 [some 40, some 29] rfl rfl rfl rfl rfl rfl fun G a w S => ?_
    refine sBin (.bool (decide (200 < (w64 (x44 - x33))))) S (wG 29 false 59 rfl rfl rfl hc64) rfl rfl rfl (bGt _ _ _ _ .i64 (w64 (x44 - x33)) 200) rfl (lb rfl) fun a S => ?_
    exact leafL ⟨rfl, S⟩
  · refine fI 72 (.bool (decide (200 < (w64 (x44 - x33))))) [(59, .bool (decide (x44 ≤ x33))), (71, .bool (decide (200 < (w64 (x44 - x33)))))] 42 [some 29, some 41] rfl rfl rfl rfl rfl rfl fun G a w S => ?_
    refine sPickF (.bool (decide (200 < (w64 (x44 - x33))))) S (wN rfl) rfl rfl hc64 rfl rfl (lb rfl) fun a S => ?_
    exact leafL ⟨rfl, S⟩
  exact leafT (⟨decide (200 < (w64 (x44 - x33))), Option.some.inj h, S.fix [0] [18, 19] (by decide) rfl rfl rfl⟩)

end Go.Proofs.Ytmedbnjhgkcndaa
namespace Go.Proofs.Ytmedbnjhgkcndaa
open Go.RowKit
set_option linter.unusedVariables false

def anc_raddleref36_Same_0 : List (List Nat) := [[], [], [0, 1], [0, 1, 2], [], [], [4, 5], [4, 5, 6], [0, 1, 2, 3, 4, 5, 6, 7]]
noncomputable def raddleref36_Same_l1 (p0 : (List Int)) (p1 : (List Int)) : Int → Option (Int ⊕ (Bool ⊕ Unit)) := fun s0 => match s0 with
  | s13 =>
    if decide (s13 < (p0.length : Int)) then
      Option.bind (idxO p0 s13) fun x22 =>
      Option.bind (idxO p1 s13) fun x27 =>
      if x22 != x27 then
        some (.inr (.inl false))
      else
        some (.inl (w64 (s13 + 1)))
    else
      some (.inr (.inr ()))
noncomputable def F_raddleref36_Same (p0 : (List Int)) (p1 : (List Int)) : Option Bool :=
  if (p0.length : Int) != (p1.length : Int) then
    some false
  else
    Option.bind (α := Unit ⊕ Bool) (
      Option.bind (whileO (raddleref36_Same_l1 p0 p1) 0) fun z0 => match z0 with
        | .inl z =>
          some (.inr z)
        | .inr _ =>
          some (.inl ())) fun z0 => match z0 with
      | .inl _ =>
        some true
      | .inr z =>
        some z
set_option maxHeartbeats 4000000 in
set_option maxRecDepth 100000 in
theorem c_raddleref36_Same (E : Nat → Prop) (w0 : World) (p0 : (List Int)) (v0 : Value) (p1 : (List Int)) (v1 : Value) (r : Bool) (h : F_raddleref36_Same p0 p1 = some r) (S : St0 E [] w0 w0 [] [fRep (rL (rI .i64)) (v0) p0, fRep (rL (rI .i64)) (v1) p1]) :
    Calls Try.prog 20 #[v0, v1] w0 (Ret (X := Unit) E [] w0 (fun _ => .bool r) (fun _ => []) (fun _ => [])) := by
  unfold F_raddleref36_Same at h
  obtain ⟨ad1, cp2, _, rfl, _⟩ := S.know (i := 0) (e := fRep (rL (rI .i64)) (v0) p0) rfl
  obtain ⟨ad3, cp4, _, rfl, _⟩ := S.know (i := 1) (e := fRep (rL (rI .i64)) (v1) p1) rfl
  refine sEnter (args := [.slice ad1 p0.length cp2, .slice ad3 p1.length cp4]) 26 Try.func20 rfl rfl (by simp) S (fun a S => ?_)
  refine sSeq (fun K5 hK5 => ?_)
  refine sRegion ?_
  refine sMove (.bool false) S (wN rfl) (.inr rfl) rfl rfl (lb rfl) fun a S => ?_
  refine leafL (leafT (hK5 _ _ ?_))
  refine sSeq (fun K6 hK6 => ?_)
  refine sSeq (fun K7 hK7 => ?_)
  refine sRegion ?_
  refine sMove (.slice ad1 p0.length cp2) S (wN rfl) (.inl rfl) rfl rfl (lb rfl) fun a S => ?_
  refine sLen (ad := ad1) (m := p0.length) (c := cp2) S (wN rfl) rfl Try.underlying34 rfl rfl (lb rfl) fun a S => ?_
  refine sMove (.slice ad3 p1.length cp4) S (wN rfl) (.inl rfl) rfl rfl (lb rfl) fun a S => ?_
  refine sLen (ad := ad3) (m := p1.length) (c := cp4) S (wN rfl) rfl Try.underlying34 rfl rfl (lb rfl) fun a S => ?_
  refine sBin (.bool ((p0.length : Int) != (p1.length : Int))) S (wN rfl) rfl rfl rfl (bNe _ _ _ _ .i64 (p0.length : Int) (p1.length : Int)) rfl (lb rfl) fun a S => ?_
  refine leafL (leafT (hK7 _ _ ?_))
  rcases iteSome h with ⟨hc8, h⟩ | ⟨hc8, h⟩
  · refine sCondT S rfl hc8 ?_
    refine sSeq (fun K9 hK9 => ?_)
    refine sRegion ?_
    refine sMove (.bool false) S (wN rfl) (.inr rfl) rfl rfl (lb rfl) fun a S => ?_
    refine leafL (leafT (hK9 _ _ ?_))
    obtain rfl := Option.some.inj h
    exact wp_ret (rThen (sRet (.bool false) S (rsl1 rfl (rvT (t := 4) (v := .bool false) S rfl)) ⟨(), rfl, S.mem.sel [] [] (by decide) rfl rfl⟩))
  refine sCondF S rfl hc8 ?_
  refine wp_skip (leafT (hK6 _ _ ?_))
  obtain ⟨t10, h, g11⟩ := bindSome h
  refine sCut (fun a w => .inl () = t10 ∧ St [] E [] w0 26 a w [] [] []) ?_ (fun a w hI => ?_)
  rotate_left
  · obtain ⟨rfl, S⟩ := hI
    have h := g11
    clear g11
    try dsimp only at h
    refine sSeq (fun K40 hK40 => ?_)
    refine sRegion ?_
    refine sMove (.bool true) S (wN rfl) (.inr rfl) rfl rfl (lb rfl) fun a S => ?_
    refine leafL (leafT (hK40 _ _ ?_))
    obtain rfl := Option.some.inj h
    exact wp_ret (sRet (.bool true) S (rsl1 rfl (rvT (t := 4) (v := .bool true) S rfl)) ⟨(), rfl, S.mem.sel [] [] (by decide) rfl rfl⟩)
  refine sSeq (fun K12 hK12 => ?_)
  refine sRegion ?_
  refine sMove (iv 0) S (wN rfl) (.inr rfl) rfl rfl (lb rfl) fun a S => ?_
  refine leafL (leafT (hK12 _ _ ?_))
  refine wp_block ?_
  obtain ⟨t16, hl, g15⟩ := bindSome h
  refine sLoop hl (fun s0 a w => match s0 with | s13 => St [] E [] w0 26 a w [(0, .slice ad1 p0.length cp2), (1, .slice ad3 p1.length cp4), (5, iv s13)] [] [fRep (rL (rI .i64)) (.slice ad1 p0.length cp2) p0, fRep (rL (rI .i64)) (.slice ad3 p1.length cp4) p1]) (S.fix [] [0, 1] (by decide) rfl rfl rfl) ?_
  clear hl h
  intro s13 a w c0 hI h hu14
  unfold raddleref36_Same_l1 at h
  dsimp only at h hI
  have S := hI
  refine sSeq (fun K17 hK17 => ?_)
  refine sSeq (fun K18 hK18 => ?_)
  refine sRegion ?_
  refine sMove (iv s13) S (wN rfl) (.inl rfl) rfl rfl (lb rfl) fun a S => ?_
  refine sMove (.slice ad1 p0.length cp2) S (wN rfl) (.inl rfl) rfl rfl (lb rfl) fun a S => ?_
  refine sLen (ad := ad1) (m := p0.length) (c := cp2) S (wN rfl) rfl Try.underlying34 rfl rfl (lb rfl) fun a S => ?_
  refine sBin (.bool (decide (s13 < (p0.length : Int)))) S (wN rfl) rfl rfl rfl (bLt _ _ _ _ .i64 s13 (p0.length : Int)) rfl (lb rfl) fun a S => ?_
  refine leafL (leafT (hK18 _ _ ?_))
  rcases iteSome h with ⟨hc19, h⟩ | ⟨hc19, h⟩
  rotate_left
  · refine sCondF S rfl hc19 ?_
    obtain rfl := Option.some.inj h
    obtain rfl := hu14 _ rfl
    have h := g15
    clear g15
    try dsimp only at h
    exact wp_exit (xThen (xThen (xHit (leafT (⟨Option.some.inj h, S.fix [] [] (by decide) rfl rfl rfl⟩)))))
  refine sCondT S rfl hc19 ?_
  refine wp_skip (leafT (hK17 _ _ ?_))
  refine sSeq (fun K20 hK20 => ?_)
  refine wp_block ?_
  refine sSeq (fun K21 hK21 => ?_)
  obtain ⟨x22, hx23, h⟩ := bindSome h
  obtain ⟨x27, hx28, h⟩ := bindSome h
  obtain ⟨q32, hq33, S⟩ := pIdx (P := Try.prog) (r := (rI .i64)) (v := .slice ad1 p0.length cp2) (xs := p0) (j := s13) 34 3 0 S Try.underlying34 rfl rfl hx23
  obtain ⟨u34, S⟩ := pLoad (r := (rI .i64)) (q := q32) (x := x22) 0 S rfl
  obtain rfl : u34 = iv x22 := S.mem.know (i := 1) (e := fRep (rI .i64) (u34) x22) rfl
  obtain ⟨q35, hq36, S⟩ := pIdx (P := Try.prog) (r := (rI .i64)) (v := .slice ad3 p1.length cp4) (xs := p1) (j := s13) 34 3 4 S Try.underlying34 rfl rfl hx28
  obtain ⟨u37, S⟩ := pLoad (r := (rI .i64)) (q := q35) (x := x27) 0 S rfl
  obtain rfl : u37 = iv x27 := S.mem.know (i := 1) (e := fRep (rI .i64) (u37) x27) rfl
  refine sDraw (nf := []) (W := [(0, 17, .slice ad1 p0.length cp2), (1, 18, iv s13), (2, 19, q32), (3, 20, iv x22), (4, 21, .slice ad3 p1.length cp4), (5, 22, iv s13), (6, 23, q35), (7, 24, iv x27), (8, 25, .bool (x22 != x27))]) rfl S ?_
  refine node_by (A := anc_raddleref36_Same_0) (nf := []) (Y := []) (W := [(0, 17, .slice ad1 p0.length cp2), (1, 18, iv s13), (2, 19, q32), (3, 20, iv x22), (4, 21, .slice ad3 p1.length cp4), (5, 22, iv s13), (6, 23, q35), (7, 24, iv x27), (8, 25, .bool (x22 != x27))]) 9 (by kernel_rfl) (by kernel_rfl) (by kernel_rfl) (by kernel_rfl) (by kernel_rfl) [0, 1, 2, 3, 4, 5, 6, 7, 8] (by kernel_rfl) (by decide) (by decide) (aF 0 8 (by decide) ?_ (aF 1 7 (by decide) ?_ (aF 2 6 (by decide) ?_ (aF 3 5 (by decide) ?_ (aF 4 4 (by decide) ?_ (aF 5 3 (by decide) ?_ (aF 6 2 (by decide) ?_ (aF 7 1 (by decide) ?_ (aF 8 0 (by decide) ?_ (trivial)))))))))) [(0, .slice ad1 p0.length cp2), (1, .slice ad3 p1.length cp4), (5, iv s13), (25, .bool (x22 != x27))] (fin_of [none, none, none, some 8] rfl (by kernel_rfl) (by kernel_rfl)) (fun _ a w S => ?_)
  · refine fI 17 (.slice ad1 p0.length cp2) [(0, .slice ad1 p0.length cp2)] 0 [none] rfl rfl rfl rfl rfl rfl fun G a w S => ?_
    refine sMove (.slice ad1 p0.length cp2) S (wN rfl) (.inl rfl) rfl rfl (lb rfl) fun a S => ?_
    exact leafL ⟨rfl, S⟩
  · refine fI 18 (iv s13) [(5, iv s13)] 1 [none] rfl rfl rfl rfl rfl rfl fun G a w S => ?_
    refine sMove (iv s13) S (wN rfl) (.inl rfl) rfl rfl (lb rfl) fun a S => ?_
    exact leafL ⟨rfl, S⟩
  · refine fI 19 q32 [(17, .slice ad1 p0.length cp2), (18, iv s13)] 2 [some 0, some 1] rfl rfl rfl rfl rfl rfl fun G a w S => ?_
    refine sIdxV (v := .slice ad1 p0.length cp2) (k := .i64) (j := s13) S (wN rfl) rfl rfl rfl hq33 rfl (lb rfl) fun a S => ?_
    exact leafL ⟨rfl, S⟩
  · refine fI 20 (iv x22) [(19, q32)] 3 [some 2] rfl rfl rfl rfl rfl rfl fun G a w S => ?_
    refine sLoadV1 (vq := q32) 3 (iv x22) S (wN rfl) rfl rfl rfl rfl rfl (lb rfl) fun a S => ?_
    exact leafL ⟨rfl, S⟩
  · refine fI 21 (.slice ad3 p1.length cp4) [(1, .slice ad3 p1.length cp4)] 4 [none] rfl rfl rfl rfl rfl rfl fun G a w S => ?_
    refine sMove (.slice ad3 p1.length cp4) S (wN rfl) (.inl rfl) rfl rfl (lb rfl) fun a S => ?_
    exact leafL ⟨rfl, S⟩
  · refine fI 22 (iv s13) [(5, iv s13)] 5 [none] rfl rfl rfl rfl rfl rfl fun G a w S => ?_
    refine sMove (iv s13) S (wN rfl) (.inl rfl) rfl rfl (lb rfl) fun a S => ?_
    exact leafL ⟨rfl, S⟩
  · refine fI 23 q35 [(21, .slice ad3 p1.length cp4), (22, iv s13)] 6 [some 4, some 5] rfl rfl rfl rfl rfl rfl fun G a w S => ?_
    refine sIdxV (v := .slice ad3 p1.length cp4) (k := .i64) (j := s13) S (wN rfl) rfl rfl rfl hq36 rfl (lb rfl) fun a S => ?_
    exact leafL ⟨rfl, S⟩
  · refine fI 24 (iv x27) [(23, q35)] 7 [some 6] rfl rfl rfl rfl rfl rfl fun G a w S => ?_
    refine sLoadV1 (vq := q35) 0 (iv x27) S (wN rfl) rfl rfl rfl rfl rfl (lb rfl) fun a S => ?_
    exact leafL ⟨rfl, S⟩
  · refine fI 25 (.bool (x22 != x27)) [(20, iv x22), (24, iv x27)] 8 [some 3, some 7] rfl rfl rfl rfl rfl rfl fun G a w S => ?_
    refine sBin (.bool (x22 != x27)) S (wN rfl) rfl rfl rfl (bNe _ _ _ _ .i64 x22 x27) rfl (lb rfl) fun a S => ?_
    exact leafL ⟨rfl, S⟩
  refine leafT (hK21 _ _ ?_)
  rcases iteSome h with ⟨hc38, h⟩ | ⟨hc38, h⟩
  rotate_left
  · refine sCondF S rfl hc38 ?_
    refine wp_skip (leafB (leafT (hK20 _ _ ?_)))
    refine sRegion ?_
    refine sMove (iv s13) S (wN rfl) (.inl rfl) rfl rfl (lb rfl) fun a S => ?_
    refine sBin (iv (w64 (s13 + 1))) S (wN rfl) rfl rfl rfl (bAdd _ _ _ _ s13 1) rfl (lb rfl) fun a S => ?_
    refine sMove (iv (w64 (s13 + 1))) S (wN rfl) (.inr rfl) rfl rfl (lb rfl) fun a S => ?_
    exact leafL (leafT (⟨w64 (s13 + 1), (Option.some.inj h).symm, (S.fix [] [6, 7] (by decide) rfl rfl rfl)⟩))
  refine sCondT S rfl hc38 ?_
  refine sSeq (fun K39 hK39 => ?_)
  refine sRegion ?_
  refine sMove (.bool false) S (wN rfl) (.inr rfl) rfl rfl (lb rfl) fun a S => ?_
  refine leafL (leafT (hK39 _ _ ?_))
  obtain rfl := Option.some.inj h
  obtain rfl := hu14 _ rfl
  have h := g15
  clear g15
  try dsimp only at h
  obtain rfl := Option.some.inj h
  have h := g11
  clear g11
  try dsimp only at h
  obtain rfl := Option.some.inj h
  exact wp_ret (rBlock (rThen (rThen (rBlock (rThen (sRet (.bool false) S (rsl1 rfl (rvT (t := 4) (v := .bool false) S rfl)) ⟨(), rfl, S.mem.sel [] [] (by decide) rfl rfl⟩))))))

end Go.Proofs.Ytmedbnjhgkcndaa
namespace Go.Proofs.Ytmedbnjhgkcndaa
open Go.RowKit
set_option linter.unusedVariables false

noncomputable def F_raddleref37_Same (p0 : api_Piece) (p1 : api_Piece) : Option Bool :=
  Option.bind (α := Bool) (
    Option.bind (F_raddleref36_Same p0.Left p1.Left) fun r23 =>
    if r23 then
      Option.bind (F_raddleref36_Same p0.Right p1.Right) fun r26 =>
      some r26
    else
      some false) fun o20 =>
  some o20
set_option maxHeartbeats 4000000 in
set_option maxRecDepth 100000 in
theorem c_raddleref37_Same (E : Nat → Prop) (w0 : World) (p0 : api_Piece) (v0 : Value) (p1 : api_Piece) (v1 : Value) (r : Bool) (h : F_raddleref37_Same p0 p1 = some r) (S : St0 E [] w0 w0 [] [fRep r_api_Piece (v0) p0, fRep r_api_Piece (v1) p1]) :
    Calls Try.prog 19 #[v0, v1] w0 (Ret (X := Unit) E [] w0 (fun _ => .bool r) (fun _ => []) (fun _ => [])) := by
  unfold F_raddleref37_Same at h
  obtain ⟨u1, u2, rfl, hu3, hu4⟩ := S.know (i := 0) (e := fRep r_api_Piece (v0) p0) rfl
  have S := S.learn (fRep (rL (rI .i64)) u1 p0.Left) hu3
  obtain ⟨ad5, cp6, _, rfl, _⟩ := hu3
  have S := S.learn (fRep (rL (rI .i64)) u2 p0.Right) hu4
  obtain ⟨ad7, cp8, _, rfl, _⟩ := hu4
  obtain ⟨u9, u10, rfl, hu11, hu12⟩ := S.know (i := 3) (e := fRep r_api_Piece (v1) p1) rfl
  have S := S.learn (fRep (rL (rI .i64)) u9 p1.Left) hu11
  obtain ⟨ad13, cp14, _, rfl, _⟩ := hu11
  have S := S.learn (fRep (rL (rI .i64)) u10 p1.Right) hu12
  obtain ⟨ad15, cp16, _, rfl, _⟩ := hu12
  refine sEnter (args := [.agg #[.slice ad5 p0.Left.length cp6, .slice ad7 p0.Right.length cp8], .agg #[.slice ad13 p1.Left.length cp14, .slice ad15 p1.Right.length cp16]]) 17 Try.func19 rfl rfl (by simp) S (fun a S => ?_)
  refine sSeq (fun K17 hK17 => ?_)
  refine sRegion ?_
  refine sBox (v := .agg #[.slice ad5 p0.Left.length cp6, .slice ad7 p0.Right.length cp8]) S (wN rfl) rfl rfl [.slice ad5 p0.Left.length cp6, .slice ad7 p0.Right.length cp8] rfl rfl (lb rfl) fun a b18 w S => ?_
  refine sBox (v := .agg #[.slice ad13 p1.Left.length cp14, .slice ad15 p1.Right.length cp16]) S (wN rfl) rfl rfl [.slice ad13 p1.Left.length cp14, .slice ad15 p1.Right.length cp16] rfl rfl (lb rfl) fun a b19 w S => ?_
  refine sMove (.bool false) S (wN rfl) (.inr rfl) rfl rfl (lb rfl) fun a S => ?_
  refine leafL (leafT (hK17 _ _ ?_))
  obtain ⟨t21, h, g22⟩ := bindSome h
  refine sCut (fun a w => ∃ o20, o20 = t21 ∧ St [] E [] w0 17 a w [(4, .bool o20)] [] []) ?_ (fun a w hI => ?_)
  rotate_left
  · obtain ⟨o20, rfl, S⟩ := hI
    have h := g22
    clear g22
    try dsimp only at h
    obtain rfl := Option.some.inj h
    exact wp_ret (sRet (.bool o20) S (rsl1 rfl (rvT (t := 4) (v := .bool o20) S rfl)) ⟨(), rfl, S.mem.sel [] [] (by decide) rfl rfl⟩)
  refine sRegion ?_
  refine sField (b := b18) (off := 0) 0 0 S (wN rfl) rfl rfl rfl rfl rfl (lb rfl) fun a S => ?_
  refine sLoad1 (p := b18) (off := 0) (T := 36) (vs := [.slice ad5 p0.Left.length cp6, .slice ad7 p0.Right.length cp8]) 1 (.slice ad5 p0.Left.length cp6) S (wN rfl) rfl rfl rfl rfl rfl rfl (lb rfl) fun a S => ?_
  refine sField (b := b19) (off := 0) 0 0 S (wN rfl) rfl rfl rfl rfl rfl (lb rfl) fun a S => ?_
  refine sLoad1 (p := b19) (off := 0) (T := 36) (vs := [.slice ad13 p1.Left.length cp14, .slice ad15 p1.Right.length cp16]) 0 (.slice ad13 p1.Left.length cp14) S (wN rfl) rfl rfl rfl rfl rfl rfl (lb rfl) fun a S => ?_
  obtain ⟨r23, hx24, h⟩ := bindSome h
  have S1 := S.mem
  refine sCallQ (X := Unit) (f := 20) (vs := [.slice ad5 p0.Left.length cp6, .slice ad13 p1.Left.length cp14]) (val := fun _ => .bool r23) S (wN rfl) rfl callee20 rfl (S1.quiet [3, 1] rfl) (fun E1 w1 S1 => c_raddleref36_Same E1 w1 p0.Left (.slice ad5 p0.Left.length cp6) p1.Left (.slice ad13 p1.Left.length cp14) r23 hx24 S1) rfl (lb rfl) fun _ a w S => ?_
  refine sMove (.bool r23) S (wN rfl) (.inl rfl) rfl rfl (lb rfl) fun a S => ?_
  rcases iteSome h with ⟨hc25, h⟩ | ⟨hc25, h⟩
  rotate_left
  · refine sSkip 5 true 10 11 S rfl rfl rfl hc25 rfl (lb rfl) fun a S => ?_
    refine sSkip 5 true 10 12 S rfl rfl rfl hc25 rfl (lb rfl) fun a S => ?_
    refine sSkip 5 true 10 13 S rfl rfl rfl hc25 rfl (lb rfl) fun a S => ?_
    refine sSkip 5 true 10 14 S rfl rfl rfl hc25 rfl (lb rfl) fun a S => ?_
    refine sSkip 5 true 10 15 S rfl rfl rfl hc25 rfl (lb rfl) fun a S => ?_
    refine sPickF (.bool false) S (wN rfl) rfl rfl hc25 rfl rfl (lb rfl) fun a S => ?_
    refine sMove (.bool false) S (wN rfl) (.inr rfl) rfl rfl (lb rfl) fun a S => ?_
    exact leafL (leafT (⟨false, Option.some.inj h, S.fix [] [] (by decide) rfl rfl rfl⟩))
  refine sField (b := b18) (off := 0) 1 1 S (wG 5 true 10 rfl rfl rfl hc25) rfl rfl rfl rfl rfl (lb rfl) fun a S => ?_
  refine sLoad1 (p := b18) (off := 1) (T := 36) (vs := [.slice ad5 p0.Left.length cp6, .slice ad7 p0.Right.length cp8]) 1 (.slice ad7 p0.Right.length cp8) S (wG 5 true 10 rfl rfl rfl hc25) rfl rfl rfl rfl rfl rfl (lb rfl) fun a S => ?_
  refine sField (b := b19) (off := 0) 1 1 S (wG 5 true 10 rfl rfl rfl hc25) rfl rfl rfl rfl rfl (lb rfl) fun a S => ?_
  refine sLoad1 (p := b19) (off := 1) (T := 36) (vs := [.slice ad13 p1.Left.length cp14, .slice ad15 p1.Right.length cp16]) 0 (.slice ad15 p1.Right.length cp16) S (wG 5 true 10 rfl rfl rfl hc25) rfl rfl rfl rfl rfl rfl (lb rfl) fun a S => ?_
  obtain ⟨r26, hx27, h⟩ := bindSome h
  have S1 := S.mem
  refine sCallQ (X := Unit) (f := 20) (vs := [.slice ad7 p0.Right.length cp8, .slice ad15 p1.Right.length cp16]) (val := fun _ => .bool r26) S (wG 5 true 10 rfl rfl rfl hc25) rfl callee20 rfl (S1.quiet [2, 0] rfl) (fun E1 w1 S1 => c_raddleref36_Same E1 w1 p0.Right (.slice ad7 p0.Right.length cp8) p1.Right (.slice ad15 p1.Right.length cp16) r26 hx27 S1) rfl (lb rfl) fun _ a w S => ?_
  refine sPickT (.bool r26) S (wN rfl) rfl rfl hc25 rfl rfl (lb rfl) fun a S => ?_
  refine sMove (.bool r26) S (wN rfl) (.inr rfl) rfl rfl (lb rfl) fun a S => ?_
  exact leafL (leafT (⟨r26, Option.some.inj h, S.fix [] [] (by decide) rfl rfl rfl⟩))

end Go.Proofs.Ytmedbnjhgkcndaa
namespace Go.Proofs.Ytmedbnjhgkcndaa
open Go.RowKit
set_option linter.unusedVariables false

def anc_raddleref37_Great_0 : List (List Nat) := [[], [0], [], [0, 1, 2], [0, 1, 2, 3], [], [5], [], [5, 6, 7], [5, 6, 7, 8], [0, 1, 2, 3, 4, 5, 6, 7, 8, 9], [0, 1, 2, 3, 4, 5, 6, 7, 8, 9, 10], [0, 1, 2, 3, 4, 5, 6, 7, 8, 9, 10, 11], [0, 1, 2, 3, 4, 5, 6, 7, 8, 9, 10, 11, 12], [0, 1, 2, 3, 4, 5, 6, 7, 8, 9, 10, 11, 12, 13], [0, 1, 2, 3, 4, 5, 6, 7, 8, 9, 10, 11, 12], [0, 1, 2, 3, 4, 5, 6, 7, 8, 9, 10, 11, 12, 13, 14, 15], [0, 1, 2, 3, 4, 5, 6, 7, 8, 9, 10, 11, 12, 13, 14, 15, 16], [0, 1, 2, 3, 4, 5, 6, 7, 8, 9, 10, 11, 12], [0, 1, 2, 3, 4, 5, 6, 7, 8, 9, 10, 11, 12, 18], [0, 1, 2, 3, 4, 5, 6, 7, 8, 9, 10, 11, 12], [0, 1, 2, 3, 4, 5, 6, 7, 8, 9, 10, 11, 12, 18, 19, 20], [0, 1, 2, 3, 4, 5, 6, 7, 8, 9, 10, 11, 12, 18, 19, 20, 21], [0, 1, 2, 3, 4, 5, 6, 7, 8, 9, 10, 11, 12, 13, 14, 15, 16, 17, 18, 19, 20, 21, 22], [0, 1, 2, 3, 4, 5, 6, 7, 8, 9, 10, 11, 12, 13, 14, 15, 16, 17, 18, 19, 20, 21, 22, 23], [0, 1, 2, 3, 4, 5, 6, 7, 8, 9, 10, 11, 12, 13, 14, 15, 16, 17, 18, 19, 20, 21, 22, 23, 24]]
noncomputable def raddleref37_Great_l1 (p0 : api_Piece) : Int → Option (Int ⊕ (Bool ⊕ Unit)) := fun s0 => match s0 with
  | s14 =>
    Option.bind (α := Bool) (
      if decide (s14 < (p0.Left.length : Int)) then
        some (decide (s14 < (p0.Right.length : Int)))
      else
        some false) fun o19 =>
    if o19 then
      Option.bind (α := Bool) (
        Option.bind (idxO p0.Right s14) fun x28 =>
        Option.bind (idxO p0.Left s14) fun x33 =>
        if decide (40 < (w64 (x28 - x33))) then
          some (decide ((w64 (x28 - x33)) ≤ 200))
        else
          some false) fun o25 =>
      if o25 then
        some (.inr (.inl true))
      else
        some (.inl (w64 (s14 + 1)))
    else
      some (.inr (.inr ()))
noncomputable def F_raddleref37_Great (p0 : api_Piece) : Option Bool :=
  Option.bind (α := Unit ⊕ Bool) (
    Option.bind (whileO (raddleref37_Great_l1 p0) 0) fun z0 => match z0 with
      | .inl z =>
        some (.inr z)
      | .inr _ =>
        some (.inl ())) fun z0 => match z0 with
    | .inl _ =>
      Option.bind (α := Bool) (
        if decide (20 < (p0.Left.length : Int)) then
          if decide ((p0.Left.length : Int) ≤ 100) then
            some true
          else
            if decide (110 < (p0.Left.length : Int)) then
              some true
            else
              some (decide (110 < (p0.Right.length : Int)))
        else
          if decide (110 < (p0.Left.length : Int)) then
            some true
          else
            some (decide (110 < (p0.Right.length : Int)))) fun o65 =>
      some o65
    | .inr z =>
      some z
set_option maxHeartbeats 4000000 in
set_option maxRecDepth 100000 in
theorem c_raddleref37_Great (E : Nat → Prop) (w0 : World) (p0 : api_Piece) (v0 : Value) (r : Bool) (h : F_raddleref37_Great p0 = some r) (S : St0 E [] w0 w0 [] [fRep r_api_Piece (v0) p0]) :
    Calls Try.prog 10 #[v0] w0 (Ret (X := Unit) E [] w0 (fun _ => .bool r) (fun _ => []) (fun _ => [])) := by
  unfold F_raddleref37_Great at h
  obtain ⟨u1, u2, rfl, hu3, hu4⟩ := S.know (i := 0) (e := fRep r_api_Piece (v0) p0) rfl
  have S := S.learn (fRep (rL (rI .i64)) u1 p0.Left) hu3
  obtain ⟨ad5, cp6, _, rfl, _⟩ := hu3
  have S := S.learn (fRep (rL (rI .i64)) u2 p0.Right) hu4
  obtain ⟨ad7, cp8, _, rfl, _⟩ := hu4
  refine sEnter (args := [.agg #[.slice ad5 p0.Left.length cp6, .slice ad7 p0.Right.length cp8]]) 66 Try.func10 rfl rfl (by simp) S (fun a S => ?_)
  refine sSeq (fun K9 hK9 => ?_)
  refine sRegion ?_
  refine sBox (v := .agg #[.slice ad5 p0.Left.length cp6, .slice ad7 p0.Right.length cp8]) S (wN rfl) rfl rfl [.slice ad5 p0.Left.length cp6, .slice ad7 p0.Right.length cp8] rfl rfl (lb rfl) fun a b10 w S => ?_
  refine sMove (.bool false) S (wN rfl) (.inr rfl) rfl rfl (lb rfl) fun a S => ?_
  refine leafL (leafT (hK9 _ _ ?_))
  obtain ⟨t11, h, g12⟩ := bindSome h
  refine sCut (fun a w => .inl () = t11 ∧ St [] E [] w0 66 a w [(1, .pointer (some ⟨b10, 0, none⟩))] [eBox b10 36 [.slice ad5 p0.Left.length cp6, .slice ad7 p0.Right.length cp8]] [fRep (rL (rI .i64)) (.slice ad5 p0.Left.length cp6) p0.Left, fRep (rL (rI .i64)) (.slice ad7 p0.Right.length cp8) p0.Right]) ?_ (fun a w hI => ?_)
  rotate_left
  · obtain ⟨rfl, S⟩ := hI
    have h := g12
    clear g12
    try dsimp only at h
    obtain ⟨t66, h, g67⟩ := bindSome h
    refine sCut (fun a w => ∃ o65, o65 = t66 ∧ St [] E [] w0 66 a w [(2, .bool o65)] [] []) ?_ (fun a w hI => ?_)
    rotate_left
    · obtain ⟨o65, rfl, S⟩ := hI
      have h := g67
      clear g67
      try dsimp only at h
      obtain rfl := Option.some.inj h
      exact wp_ret (sRet (.bool o65) S (rsl1 rfl (rvT (t := 2) (v := .bool o65) S rfl)) ⟨(), rfl, S.mem.sel [] [] (by decide) rfl rfl⟩)
    refine sRegion ?_
    refine sField (b := b10) (off := 0) 0 0 S (wN rfl) rfl rfl rfl rfl rfl (lb rfl) fun a S => ?_
    refine sLoad1 (p := b10) (off := 0) (T := 36) (vs := [.slice ad5 p0.Left.length cp6, .slice ad7 p0.Right.length cp8]) 0 (.slice ad5 p0.Left.length cp6) S (wN rfl) rfl rfl rfl rfl rfl rfl (lb rfl) fun a S => ?_
    refine sLen (ad := ad5) (m := p0.Left.length) (c := cp6) S (wN rfl) rfl Try.underlying34 rfl rfl (lb rfl) fun a S => ?_
    refine sBin (.bool (decide (20 < (p0.Left.length : Int)))) S (wN rfl) rfl rfl rfl (bGt _ _ _ _ .i64 (p0.Left.length : Int) 20) rfl (lb rfl) fun a S => ?_
    refine sMove (.bool (decide (20 < (p0.Left.length : Int)))) S (wN rfl) (.inl rfl) rfl rfl (lb rfl) fun a S => ?_
    rcases iteSome h with ⟨hc68, h⟩ | ⟨hc68, h⟩
    rotate_left
    · refine sSkip 4 true 48 49 S rfl rfl rfl hc68 rfl (lb rfl) fun a S => ?_
      refine sSkip 4 true 48 50 S rfl rfl rfl hc68 rfl (lb rfl) fun a S => ?_
      refine sSkip 4 true 48 51 S rfl rfl rfl hc68 rfl (lb rfl) fun a S => ?_
      refine sSkip 4 true 48 52 S rfl rfl rfl hc68 rfl (lb rfl) fun a S => ?_
      refine sPickF (.bool false) S (wN rfl) rfl rfl hc68 rfl rfl (lb rfl) fun a S => ?_
      refine sMove (.bool false) S (wN rfl) (.inl rfl) rfl rfl (lb rfl) fun a S => ?_
      refine sField (b := b10) (off := 0) 0 0 S (wG 10 false 54 rfl rfl rfl rfl) rfl rfl rfl rfl rfl (lb rfl) fun a S => ?_
      refine sLoad1 (p := b10) (off := 0) (T := 36) (vs := [.slice ad5 p0.Left.length cp6, .slice ad7 p0.Right.length cp8]) 0 (.slice ad5 p0.Left.length cp6) S (wG 10 false 54 rfl rfl rfl rfl) rfl rfl rfl rfl rfl rfl (lb rfl) fun a S => ?_
      refine sLen (ad := ad5) (m := p0.Left.length) (c := cp6) S (wG 10 false 54 rfl rfl rfl rfl) rfl Try.underlying34 rfl rfl (lb rfl) fun a S => ?_
      refine sBin (.bool (decide (110 < (p0.Left.length : Int)))) S (wG 10 false 54 rfl rfl rfl rfl) rfl rfl rfl (bGt _ _ _ _ .i64 (p0.Left.length : Int) 110) rfl (lb rfl) fun a S => ?_
      refine sPickF (.bool (decide (110 < (p0.Left.length : Int)))) S (wN rfl) rfl rfl rfl rfl rfl (lb rfl) fun a S => ?_
      refine sMove (.bool (decide (110 < (p0.Left.length : Int)))) S (wN rfl) (.inl rfl) rfl rfl (lb rfl) fun a S => ?_
      rcases iteSome h with ⟨hc71, h⟩ | ⟨hc71, h⟩
      · refine sSkip 16 false 60 61 S rfl rfl rfl hc71 rfl (lb rfl) fun a S => ?_
        refine sSkip 16 false 60 62 S rfl rfl rfl hc71 rfl (lb rfl) fun a S => ?_
        refine sSkip 16 false 60 63 S rfl rfl rfl hc71 rfl (lb rfl) fun a S => ?_
        refine sSkip 16 false 60 64 S rfl rfl rfl hc71 rfl (lb rfl) fun a S => ?_
        refine sPickT (.bool true) S (wN rfl) rfl rfl hc71 rfl rfl (lb rfl) fun a S => ?_
        refine sMove (.bool true) S (wN rfl) (.inr rfl) rfl rfl (lb rfl) fun a S => ?_
        exact leafL (leafT (⟨true, Option.some.inj h, S.fix [] [] (by decide) rfl rfl rfl⟩))
      refine sField (b := b10) (off := 0) 1 1 S (wG 16 false 60 rfl rfl rfl hc71) rfl rfl rfl rfl rfl (lb rfl) fun a S => ?_
      refine sLoad1 (p := b10) (off := 1) (T := 36) (vs := [.slice ad5 p0.Left.length cp6, .slice ad7 p0.Right.length cp8]) 0 (.slice ad7 p0.Right.length cp8) S (wG 16 false 60 rfl rfl rfl hc71) rfl rfl rfl rfl rfl rfl (lb rfl) fun a S => ?_
      refine sLen (ad := ad7) (m := p0.Right.length) (c := cp8) S (wG 16 false 60 rfl rfl rfl hc71) rfl Try.underlying34 rfl rfl (lb rfl) fun a S => ?_
      refine sBin (.bool (decide (110 < (p0.Right.length : Int)))) S (wG 16 false 60 rfl rfl rfl hc71) rfl rfl rfl (bGt _ _ _ _ .i64 (p0.Right.length : Int) 110) rfl (lb rfl) fun a S => ?_
      refine sPickF (.bool (decide (110 < (p0.Right.length : Int)))) S (wN rfl) rfl rfl hc71 rfl rfl (lb rfl) fun a S => ?_
      refine sMove (.bool (decide (110 < (p0.Right.length : Int)))) S (wN rfl) (.inr rfl) rfl rfl (lb rfl) fun a S => ?_
      exact leafL (leafT (⟨decide (110 < (p0.Right.length : Int)), Option.some.inj h, S.fix [] [] (by decide) rfl rfl rfl⟩))
    refine sField (b := b10) (off := 0) 0 0 S (wG 4 true 48 rfl rfl rfl hc68) rfl rfl rfl rfl rfl (lb rfl) fun a S => ?_
    refine sLoad1 (p := b10) (off := 0) (T := 36) (vs := [.slice ad5 p0.Left.length cp6, .slice ad7 p0.Right.length cp8]) 0 (.slice ad5 p0.Left.length cp6) S (wG 4 true 48 rfl rfl rfl hc68) rfl rfl rfl rfl rfl rfl (lb rfl) fun a S => ?_
    refine sLen (ad := ad5) (m := p0.Left.length) (c := cp6) S (wG 4 true 48 rfl rfl rfl hc68) rfl Try.underlying34 rfl rfl (lb rfl) fun a S => ?_
    refine sBin (.bool (decide ((p0.Left.length : Int) ≤ 100))) S (wG 4 true 48 rfl rfl rfl hc68) rfl rfl rfl (bLe _ _ _ _ .i64 (p0.Left.length : Int) 100) rfl (lb rfl) fun a S => ?_
    refine sPickT (.bool (decide ((p0.Left.length : Int) ≤ 100))) S (wN rfl) rfl rfl hc68 rfl rfl (lb rfl) fun a S => ?_
    refine sMove (.bool (decide ((p0.Left.length : Int) ≤ 100))) S (wN rfl) (.inl rfl) rfl rfl (lb rfl) fun a S => ?_
    rcases iteSome h with ⟨hc69, h⟩ | ⟨hc69, h⟩
    · refine sSkip 10 false 54 55 S rfl rfl rfl hc69 rfl (lb rfl) fun a S => ?_
      refine sSkip 10 false 54 56 S rfl rfl rfl hc69 rfl (lb rfl) fun a S => ?_
      refine sSkip 10 false 54 57 S rfl rfl rfl hc69 rfl (lb rfl) fun a S => ?_
      refine sSkip 10 false 54 58 S rfl rfl rfl hc69 rfl (lb rfl) fun a S => ?_
      refine sPickT (.bool true) S (wN rfl) rfl rfl hc69 rfl rfl (lb rfl) fun a S => ?_
      refine sMove (.bool true) S (wN rfl) (.inl rfl) rfl rfl (lb rfl) fun a S => ?_
      refine sSkip 16 false 60 61 S rfl rfl rfl rfl rfl (lb rfl) fun a S => ?_
      refine sSkip 16 false 60 62 S rfl rfl rfl rfl rfl (lb rfl) fun a S => ?_
      refine sSkip 16 false 60 63 S rfl rfl rfl rfl rfl (lb rfl) fun a S => ?_
      refine sSkip 16 false 60 64 S rfl rfl rfl rfl rfl (lb rfl) fun a S => ?_
      refine sPickT (.bool true) S (wN rfl) rfl rfl rfl rfl rfl (lb rfl) fun a S => ?_
      refine sMove (.bool true) S (wN rfl) (.inr rfl) rfl rfl (lb rfl) fun a S => ?_
      exact leafL (leafT (⟨true, Option.some.inj h, S.fix [] [] (by decide) rfl rfl rfl⟩))
    refine sField (b := b10) (off := 0) 0 0 S (wG 10 false 54 rfl rfl rfl hc69) rfl rfl rfl rfl rfl (lb rfl) fun a S => ?_
    refine sLoad1 (p := b10) (off := 0) (T := 36) (vs := [.slice ad5 p0.Left.length cp6, .slice ad7 p0.Right.length cp8]) 0 (.slice ad5 p0.Left.length cp6) S (wG 10 false 54 rfl rfl rfl hc69) rfl rfl rfl rfl rfl rfl (lb rfl) fun a S => ?_
    refine sLen (ad := ad5) (m := p0.Left.length) (c := cp6) S (wG 10 false 54 rfl rfl rfl hc69) rfl Try.underlying34 rfl rfl (lb rfl) fun a S => ?_
    refine sBin (.bool (decide (110 < (p0.Left.length : Int)))) S (wG 10 false 54 rfl rfl rfl hc69) rfl rfl rfl (bGt _ _ _ _ .i64 (p0.Left.length : Int) 110) rfl (lb rfl) fun a S => ?_
    refine sPickF (.bool (decide (110 < (p0.Left.length : Int)))) S (wN rfl) rfl rfl hc69 rfl rfl (lb rfl) fun a S => ?_
    refine sMove (.bool (decide (110 < (p0.Left.length : Int)))) S (wN rfl) (.inl rfl) rfl rfl (lb rfl) fun a S => ?_
    rcases iteSome h with ⟨hc70, h⟩ | ⟨hc70, h⟩
    · refine sSkip 16 false 60 61 S rfl rfl rfl hc70 rfl (lb rfl) fun a S => ?_
      refine sSkip 16 false 60 62 S rfl rfl rfl hc70 rfl (lb rfl) fun a S => ?_
      refine sSkip 16 false 60 63 S rfl rfl rfl hc70 rfl (lb rfl) fun a S => ?_
      refine sSkip 16 false 60 64 S rfl rfl rfl hc70 rfl (lb rfl) fun a S => ?_
      refine sPickT (.bool true) S (wN rfl) rfl rfl hc70 rfl rfl (lb rfl) fun a S => ?_
      refine sMove (.bool true) S (wN rfl) (.inr rfl) rfl rfl (lb rfl) fun a S => ?_
      exact leafL (leafT (⟨true, Option.some.inj h, S.fix [] [] (by decide) rfl rfl rfl⟩))
    refine sField (b := b10) (off := 0) 1 1 S (wG 16 false 60 rfl rfl rfl hc70) rfl rfl rfl rfl rfl (lb rfl) fun a S => ?_
    refine sLoad1 (p := b10) (off := 1) (T := 36) (vs := [.slice ad5 p0.Left.length cp6, .slice ad7 p0.Right.length cp8]) 0 (.slice ad7 p0.Right.length cp8) S (wG 16 false 60 rfl rfl rfl hc70) rfl rfl rfl rfl rfl rfl (lb rfl) fun a S => ?_
    refine sLen (ad := ad7) (m := p0.Right.length) (c := cp8) S (wG 16 false 60 rfl rfl rfl hc70) rfl Try.underlying34 rfl rfl (lb rfl) fun a S => ?_
    refine sBin (.bool (decide (110 < (p0.Right.length : Int)))) S (wG 16 false 60 rfl rfl rfl hc70) rfl rfl rfl (bGt _ _ _ _ .i64 (p0.Right.length : Int) 110) rfl (lb rfl) fun a S => ?_
    refine sPickF (.bool (decide (110 < (p0.Right.length : Int)))) S (wN rfl) rfl rfl hc70 rfl rfl (lb rfl) fun a S => ?_
    refine sMove (.bool (decide (110 < (p0.Right.length : Int)))) S (wN rfl) (.inr rfl) rfl rfl (lb rfl) fun a S => ?_
    exact leafL (leafT (⟨decide (110 < (p0.Right.length : Int)), Option.some.inj h, S.fix [] [] (by decide) rfl rfl rfl⟩))
  refine sSeq (fun K13 hK13 => ?_)
  refine sRegion ?_
  refine sMove (iv 0) S (wN rfl) (.inr rfl) rfl rfl (lb rfl) fun a S => ?_
  refine leafL (leafT (hK13 _ _ ?_))
  refine wp_block ?_
  obtain ⟨t17, hl, g16⟩ := bindSome h
  refine sLoop hl (fun s0 a w => match s0 with | s14 => St [] E [] w0 66 a w [(1, .pointer (some ⟨b10, 0, none⟩)), (3, iv s14)] [eBox b10 36 [.slice ad5 p0.Left.length cp6, .slice ad7 p0.Right.length cp8]] [fRep (rL (rI .i64)) (.slice ad5 p0.Left.length cp6) p0.Left, fRep (rL (rI .i64)) (.slice ad7 p0.Right.length cp8) p0.Right]) (S.fix [0] [1, 0] (by decide) rfl rfl rfl) ?_
  clear hl h
  intro s14 a w c0 hI h hu15
  unfold raddleref37_Great_l1 at h
  dsimp only at h hI
  have S := hI
  refine sSeq (fun K18 hK18 => ?_)
  obtain ⟨t20, h, g21⟩ := bindSome h
  refine sCut (fun a w => ∃ o19, o19 = t20 ∧ St [] E [] w0 66 a w [(1, .pointer (some ⟨b10, 0, none⟩)), (3, iv s14), (15, .bool o19)] [eBox b10 36 [.slice ad5 p0.Left.length cp6, .slice ad7 p0.Right.length cp8]] [fRep (rL (rI .i64)) (.slice ad5 p0.Left.length cp6) p0.Left, fRep (rL (rI .i64)) (.slice ad7 p0.Right.length cp8) p0.Right]) ?_ (fun a w hI => ?_)
  · refine sRegion ?_
    refine sMove (iv s14) S (wN rfl) (.inl rfl) rfl rfl (lb rfl) fun a S => ?_
    refine sField (b := b10) (off := 0) 0 0 S (wN rfl) rfl rfl rfl rfl rfl (lb rfl) fun a S => ?_
    refine sLoad1 (p := b10) (off := 0) (T := 36) (vs := [.slice ad5 p0.Left.length cp6, .slice ad7 p0.Right.length cp8]) 0 (.slice ad5 p0.Left.length cp6) S (wN rfl) rfl rfl rfl rfl rfl rfl (lb rfl) fun a S => ?_
    refine sLen (ad := ad5) (m := p0.Left.length) (c := cp6) S (wN rfl) rfl Try.underlying34 rfl rfl (lb rfl) fun a S => ?_
    refine sBin (.bool (decide (s14 < (p0.Left.length : Int)))) S (wN rfl) rfl rfl rfl (bLt _ _ _ _ .i64 s14 (p0.Left.length : Int)) rfl (lb rfl) fun a S => ?_
    refine sMove (.bool (decide (s14 < (p0.Left.length : Int)))) S (wN rfl) (.inl rfl) rfl rfl (lb rfl) fun a S => ?_
    rcases iteSome h with ⟨hc22, h⟩ | ⟨hc22, h⟩
    rotate_left
    · refine sSkip 5 true 9 10 S rfl rfl rfl hc22 rfl (lb rfl) fun a S => ?_
      refine sSkip 5 true 9 11 S rfl rfl rfl hc22 rfl (lb rfl) fun a S => ?_
      refine sSkip 5 true 9 12 S rfl rfl rfl hc22 rfl (lb rfl) fun a S => ?_
      refine sSkip 5 true 9 13 S rfl rfl rfl hc22 rfl (lb rfl) fun a S => ?_
      refine sSkip 5 true 9 14 S rfl rfl rfl hc22 rfl (lb rfl) fun a S => ?_
      refine sPickF (.bool false) S (wN rfl) rfl rfl hc22 rfl rfl (lb rfl) fun a S => ?_
      exact leafL (leafT (⟨false, Option.some.inj h, S.fix [0] [0, 1] (by decide) rfl rfl rfl⟩))
    refine sMove (iv s14) S (wG 5 true 9 rfl rfl rfl hc22) (.inl rfl) rfl rfl (lb rfl) fun a S => ?_
    refine sField (b := b10) (off := 0) 1 1 S (wG 5 true 9 rfl rfl rfl hc22) rfl rfl rfl rfl rfl (lb rfl) fun a S => ?_
    refine sLoad1 (p := b10) (off := 1) (T := 36) (vs := [.slice ad5 p0.Left.length cp6, .slice ad7 p0.Right.length cp8]) 0 (.slice ad7 p0.Right.length cp8) S (wG 5 true 9 rfl rfl rfl hc22) rfl rfl rfl rfl rfl rfl (lb rfl) fun a S => ?_
    refine sLen (ad := ad7) (m := p0.Right.length) (c := cp8) S (wG 5 true 9 rfl rfl rfl hc22) rfl Try.underlying34 rfl rfl (lb rfl) fun a S => ?_
    refine sBin (.bool (decide (s14 < (p0.Right.length : Int)))) S (wG 5 true 9 rfl rfl rfl hc22) rfl rfl rfl (bLt _ _ _ _ .i64 s14 (p0.Right.length : Int)) rfl (lb rfl) fun a S => ?_
    refine sPickT (.bool (decide (s14 < (p0.Right.length : Int)))) S (wN rfl) rfl rfl hc22 rfl rfl (lb rfl) fun a S => ?_
    exact leafL (leafT (⟨decide (s14 < (p0.Right.length : Int)), Option.some.inj h, S.fix [0] [0, 1] (by decide) rfl rfl rfl⟩))
  obtain ⟨o19, rfl, S⟩ := hI
  have h := g21
  clear g21
  try dsimp only at h
  rcases iteSome h with ⟨hc23, h⟩ | ⟨hc23, h⟩
  rotate_left
  · refine sCondF S rfl hc23 ?_
    obtain rfl := Option.some.inj h
    obtain rfl := hu15 _ rfl
    have h := g16
    clear g16
    try dsimp only at h
    exact wp_exit (xThen (xThen (xHit (leafT (⟨Option.some.inj h, S.fix [0] [0, 1] (by decide) rfl rfl rfl⟩)))))
  refine sCondT S rfl hc23 ?_
  refine wp_skip (leafT (hK18 _ _ ?_))
  refine sSeq (fun K24 hK24 => ?_)
  refine wp_block ?_
  obtain ⟨t26, h, g27⟩ := bindSome h
  refine sCut (fun a w => ∃ o25, o25 = t26 ∧ St [] E [] w0 66 a w [(1, .pointer (some ⟨b10, 0, none⟩)), (3, iv s14), (43, .bool o25)] [eBox b10 36 [.slice ad5 p0.Left.length cp6, .slice ad7 p0.Right.length cp8]] [fRep (rL (rI .i64)) (.slice ad5 p0.Left.length cp6) p0.Left, fRep (rL (rI .i64)) (.slice ad7 p0.Right.length cp8) p0.Right]) ?_ (fun a w hI => ?_)
  rotate_left
  · obtain ⟨o25, rfl, S⟩ := hI
    have h := g27
    clear g27
    try dsimp only at h
    rcases iteSome h with ⟨hc63, h⟩ | ⟨hc63, h⟩
    rotate_left
    · refine sCondF S rfl hc63 ?_
      refine wp_skip (leafB (leafT (hK24 _ _ ?_)))
      refine sRegion ?_
      refine sMove (iv s14) S (wN rfl) (.inl rfl) rfl rfl (lb rfl) fun a S => ?_
      refine sBin (iv (w64 (s14 + 1))) S (wN rfl) rfl rfl rfl (bAdd _ _ _ _ s14 1) rfl (lb rfl) fun a S => ?_
      refine sMove (iv (w64 (s14 + 1))) S (wN rfl) (.inr rfl) rfl rfl (lb rfl) fun a S => ?_
      exact leafL (leafT (⟨w64 (s14 + 1), (Option.some.inj h).symm, (S.fix [0] [0, 1] (by decide) rfl rfl rfl)⟩))
    refine sCondT S rfl hc63 ?_
    refine sSeq (fun K64 hK64 => ?_)
    refine sRegion ?_
    refine sMove (.bool true) S (wN rfl) (.inr rfl) rfl rfl (lb rfl) fun a S => ?_
    refine leafL (leafT (hK64 _ _ ?_))
    obtain rfl := Option.some.inj h
    obtain rfl := hu15 _ rfl
    have h := g16
    clear g16
    try dsimp only at h
    obtain rfl := Option.some.inj h
    have h := g12
    clear g12
    try dsimp only at h
    obtain rfl := Option.some.inj h
    exact wp_ret (rBlock (rThen (rThen (rBlock (rThen (sRet (.bool true) S (rsl1 rfl (rvT (t := 2) (v := .bool true) S rfl)) ⟨(), rfl, S.mem.sel [] [] (by decide) rfl rfl⟩))))))
  obtain ⟨x28, hx29, h⟩ := bindSome h
  obtain ⟨x33, hx34, h⟩ := bindSome h
  rcases iteSome h with ⟨hc38, h⟩ | ⟨hc38, h⟩
  rotate_left
  · obtain ⟨q57, hq58, S⟩ := pIdx (P := Try.prog) (r := (rI .i64)) (v := .slice ad7 p0.Right.length cp8) (xs := p0.Right) (j := s14) 34 3 1 S Try.underlying34 rfl rfl hx29
    obtain ⟨u59, S⟩ := pLoad (r := (rI .i64)) (q := q57) (x := x28) 0 S rfl
    obtain rfl : u59 = iv x28 := S.mem.know (i := 1) (e := fRep (rI .i64) (u59) x28) rfl
    obtain ⟨q60, hq61, S⟩ := pIdx (P := Try.prog) (r := (rI .i64)) (v := .slice ad5 p0.Left.length cp6) (xs := p0.Left) (j := s14) 34 3 3 S Try.underlying34 rfl rfl hx34
    obtain ⟨u62, S⟩ := pLoad (r := (rI .i64)) (q := q60) (x := x33) 0 S rfl
    obtain rfl : u62 = iv x33 := S.mem.know (i := 1) (e := fRep (rI .i64) (u62) x33) rfl
    refine sDraw (nf := []) (W := [(0, 18, .pointer (some ⟨b10, 1, none⟩)), (1, 19, .slice ad7 p0.Right.length cp8), (2, 20, iv s14), (3, 21, q57), (4, 22, iv x28), (5, 23, .pointer (some ⟨b10, 0, none⟩)), (6, 24, .slice ad5 p0.Left.length cp6), (7, 25, iv s14), (8, 26, q60), (9, 27, iv x33), (10, 28, iv (w64 (x28 - x33))), (11, 29, .bool (decide (40 < (w64 (x28 - x33))))), (12, 30, .bool (decide (40 < (w64 (x28 - x33))))), (13, 31, undef), (14, 32, undef), (15, 33, undef), (16, 34, undef), (17, 35, undef), (18, 36, undef), (19, 37, undef), (20, 38, undef), (21, 39, undef), (22, 40, undef), (23, 41, undef), (24, 42, undef), (25, 43, .bool false)]) rfl S ?_
    refine node_by (A := anc_raddleref37_Great_0) (nf := []) (Y := []) (W := [(0, 18, .pointer (some ⟨b10, 1, none⟩)), (1, 19, .slice ad7 p0.Right.length cp8), (2, 20, iv s14), (3, 21, q57), (4, 22, iv x28), (5, 23, .pointer (some ⟨b10, 0, none⟩)), (6, 24, .slice ad5 p0.Left.length cp6), (7, 25, iv s14), (8, 26, q60), (9, 27, iv x33), (10, 28, iv (w64 (x28 - x33))), (11, 29, .bool (decide (40 < (w64 (x28 - x33))))), (12, 30, .bool (decide (40 < (w64 (x28 - x33))))), (13, 31, undef), (14, 32, undef), (15, 33, undef), (16, 34, undef), (17, 35, undef), (18, 36, undef), (19, 37, undef), (20, 38, undef), (21, 39, undef), (22, 40, undef), (23, 41, undef), (24, 42, undef), (25, 43, .bool false)]) 26 (by kernel_rfl) (by kernel_rfl) (by kernel_rfl) (by kernel_rfl) (by kernel_rfl) [0, 1, 2, 3, 4, 5, 6, 7, 8, 9, 10, 11, 12, 13, 14, 15, 16, 17, 18, 19, 20, 21, 22, 23, 24, 25] (by kernel_rfl) (by decide) (by decide) (aF 0 25 (by decide) ?_ (aF 1 24 (by decide) ?_ (aF 2 23 (by decide) ?_ (aF 3 22 (by decide) ?_ (aF 4 21 (by decide) ?_ (aF 5 20 (by decide) ?_ (aF 6 19 (by decide) ?_ (aF 7 18 (by decide) ?_ (aF 8 17 (by decide) ?_ (aF 9 16 (by decide) ?_ (aF 10 15 (by decide) ?_ (aF 11 14 (by decide) ?_ (aF 12 13 (by decide) ?_ (aF 13 12 (by decide) ?_ (aF 14 11 (by decide) ?_ (aF 15 10 (by decide) ?_ (aF 16 9 (by decide) ?_ (aF 17 8 (by decide) ?_ (aF 18 7 (by decide) ?_ (aF 19 6 (by decide) ?_ (aF 20 5 (by decide) ?_ (aF 21 4 (by decide) ?_ (aF 22 3 (by decide) ?_ (aF 23 2 (by decide) ?_ (aF 24 1 (by decide) ?_ (aF 25 0 (by decide) ?_ (trivial))))))))))))))))))))))))))) [(1, .pointer (some ⟨b10, 0, none⟩)), (3, iv s14), (31, undef), (32, undef), (33, undef), (34, undef), (35, undef), (36, undef), (37, undef), (38, undef), (39, undef), (40, undef), (41, undef), (42, undef), (43, .bool false)] (fin_of [none, none, some 13, some 14, some 15, some 16, some 17, some 18, some 19, some 20, some 21, some 22, some 23, some 24, some 25] rfl (by kernel_rfl) (by kernel_rfl)) (fun _ a w S => ?_)
    · refine fI 18 (.pointer (some ⟨b10, 1, none⟩)) [(1, .pointer (some ⟨b10, 0, none⟩))] 0 [none] rfl rfl rfl rfl rfl rfl fun G a w S => ?_
      refine sField (b := b10) (off := 0) 1 1 S (wN rfl) rfl rfl rfl rfl rfl (lb rfl) fun a S => ?_
      exact leafL ⟨rfl, S⟩
    · refine fI 19 (.slice ad7 p0.Right.length cp8) [(18, .pointer (some ⟨b10, 1, none⟩))] 1 [some 0] rfl rfl rfl rfl rfl rfl fun G a w S => ?_
      refine sLoad1 (p := b10) (off := 1) (T := 36) (vs := [.slice ad5 p0.Left.length cp6, .slice ad7 p0.Right.length cp8]) 0 (.slice ad7 p0.Right.length cp8) S (wN rfl) rfl rfl rfl rfl rfl rfl (lb rfl) fun a S => ?_
      exact leafL ⟨rfl, S⟩
    · refine fI 20 (iv s14) [(3, iv s14)] 2 [none] rfl rfl rfl rfl rfl rfl fun G a w S => ?_
      refine sMove (iv s14) S (wN rfl) (.inl rfl) rfl rfl (lb rfl) fun a S => ?_
      exact leafL ⟨rfl, S⟩
    · refine fI 21 q57 [(19, .slice ad7 p0.Right.length cp8), (20, iv s14)] 3 [some 1, some 2] rfl rfl rfl rfl rfl rfl fun G a w S => ?_
      refine sIdxV (v := .slice ad7 p0.Right.length cp8) (k := .i64) (j := s14) S (wN rfl) rfl rfl rfl hq58 rfl (lb rfl) fun a S => ?_
      exact leafL ⟨rfl, S⟩
    · refine fI 22 (iv x28) [(21, q57)] 4 [some 3] rfl rfl rfl rfl rfl rfl fun G a w S => ?_
      refine sLoadV1 (vq := q57) 3 (iv x28) S (wN rfl) rfl rfl rfl rfl rfl (lb rfl) fun a S => ?_
      exact leafL ⟨rfl, S⟩
    · refine fI 23 (.pointer (some ⟨b10, 0, none⟩)) [(1, .pointer (some ⟨b10, 0, none⟩))] 5 [none] rfl rfl rfl rfl rfl rfl fun G a w S => ?_
      refine sField (b := b10) (off := 0) 0 0 S (wN rfl) rfl rfl rfl rfl rfl (lb rfl) fun a S => ?_
      exact leafL ⟨rfl, S⟩
    · refine fI 24 (.slice ad5 p0.Left.length cp6) [(23, .pointer (some ⟨b10, 0, none⟩))] 6 [some 5] rfl rfl rfl rfl rfl rfl fun G a w S => ?_
      refine sLoad1 (p := b10) (off := 0) (T := 36) (vs := [.slice ad5 p0.Left.length cp6, .slice ad7 p0.Right.length cp8]) 0 (.slice ad5 p0.Left.length cp6) S (wN rfl) rfl rfl rfl rfl rfl rfl (lb rfl) fun a S => ?_
      exact leafL ⟨rfl, S⟩
    · refine fI 25 (iv s14) [(3, iv s14)] 7 [none] rfl rfl rfl rfl rfl rfl fun G a w S => ?_
      refine sMove (iv s14) S (wN rfl) (.inl rfl) rfl rfl (lb rfl) fun a S => ?_
      exact leafL ⟨rfl, S⟩
    · refine fI 26 q60 [(24, .slice ad5 p0.Left.length cp6), (25, iv s14)] 8 [some 6, some 7] rfl rfl rfl rfl rfl rfl fun G a w S => ?_
      refine sIdxV (v := .slice ad5 p0.Left.length cp6) (k := .i64) (j := s14) S (wN rfl) rfl rfl rfl hq61 rfl (lb rfl) fun a S => ?_
      exact leafL ⟨rfl, S⟩
    · refine fI 27 (iv x33) [(26, q60)] 9 [some 8] rfl rfl rfl rfl rfl rfl fun G a w S => ?_
      refine sLoadV1 (vq := q60) 0 (iv x33) S (wN rfl) rfl rfl rfl rfl rfl (lb rfl) fun a S => ?_
      exact leafL ⟨rfl, S⟩
    · refine fI 28 (iv (w64 (x28 - x33))) [(22, iv x28), (27, iv x33)] 10 [some 4, some 9] rfl rfl rfl rfl rfl rfl fun G a w S => ?_
      refine sBin (iv (w64 (x28 - x33))) S (wN rfl) rfl rfl rfl (bSub _ _ _ _ x28 x33) rfl (lb rfl) fun a S => ?_
      exact leafL ⟨rfl, S⟩
    · refine fI 29 (.bool (decide (40 < (w64 (x28 - x33))))) [(28, iv (w64 (x28 - x33)))] 11 [some 10] rfl rfl rfl rfl rfl rfl fun G a w S => ?_
      refine sBin (.bool (decide (40 < (w64 (x28 - x33))))) S (wN rfl) rfl rfl rfl (bGt _ _ _ _ .i64 (w64 (x28 - x33)) 40) rfl (lb rfl) fun a S => ?_
      exact leafL ⟨rfl, S⟩
    · refine fI 30 (.bool (decide (40 < (w64 (x28 - x33))))) [(29, .bool (decide (40 < (w64 (x28 - x33)))))] 12 [some 11] rfl rfl rfl rfl rfl rfl fun G a w S => ?_
      refine sMove (.bool (decide (40 < (w64 (x28 - x33))))) S (wN rfl) (.inl rfl) rfl rfl (lb rfl) fun a S => ?_
      exact leafL ⟨rfl, S⟩
    · refine fI 31 undef [(1, .pointer (some ⟨b10, 0, none⟩)), (30, .bool (decide (40 < (w64 (x28 - x33)))))] 13 [none, some 12] rfl rfl rfl rfl rfl rfl fun G a w S => ?_
      refine sSkip 12 true 30 31 S rfl rfl rfl hc38 rfl (lb rfl) fun a S => ?_
      exact leafL ⟨rfl, S⟩
    · refine fI 32 undef [(31, undef), (30, .bool (decide (40 < (w64 (x28 - x33)))))] 14 [some 13, some 12] rfl rfl rfl rfl rfl rfl fun G a w S => ?_
      refine sSkip 12 true 30 32 S rfl rfl rfl hc38 rfl (lb rfl) fun a S => ?_
      exact leafL ⟨rfl, S⟩
    · refine fI 33 undef [(3, iv s14), (30, .bool (decide (40 < (w64 (x28 - x33)))))] 15 [none, some 12] rfl rfl rfl rfl rfl rfl fun G a w S => ?_
      refine sSkip 12 true 30 33 S rfl rfl rfl hc38 rfl (lb rfl) fun a S => ?_
      exact leafL ⟨rfl, S⟩
    · refine fI 34 undef [(32, undef), (33, undef), (30, .bool (decide (40 < (w64 (x28 - x33)))))] 16 [some 14, some 15, some 12] rfl rfl rfl rfl rfl rfl fun G a w S => ?_
      refine sSkip 12 true 30 34 S rfl rfl rfl hc38 rfl (lb rfl) fun a S => ?_
      exact leafL ⟨rfl, S⟩
    · refine fI 35 undef [(34, undef), (30, .bool (decide (40 < (w64 (x28 - x33)))))] 17 [some 16, some 12] rfl rfl rfl rfl rfl rfl fun G a w S => ?_
      refine sSkip 12 true 30 35 S rfl rfl rfl hc38 rfl (lb rfl) fun a S => ?_
      exact leafL ⟨rfl, S⟩
    · refine fI 36 undef [(1, .pointer (some ⟨b10, 0, none⟩)), (30, .bool (decide (40 < (w64 (x28 - x33)))))] 18 [none, some 12] rfl rfl rfl rfl rfl rfl fun G a w S => ?_
      refine sSkip 12 true 30 36 S rfl rfl rfl hc38 rfl (lb rfl) fun a S => ?_
      exact leafL ⟨rfl, S⟩
    · refine fI 37 undef [(36, undef), (30, .bool (decide (40 < (w64 (x28 - x33)))))] 19 [some 18, some 12] rfl rfl rfl rfl rfl rfl fun G a w S => ?_
      refine sSkip 12 true 30 37 S rfl rfl rfl hc38 rfl (lb rfl) fun a S => ?_
      exact leafL ⟨rfl, S⟩
    · refine fI 38 undef [(3, iv s14), (30, .bool (decide (40 < (w64 (x28 - x33)))))] 20 [none, some 12] rfl rfl rfl rfl rfl rfl fun G a w S => ?_
      refine sSkip 12 true 30 38 S rfl rfl rfl hc38 rfl (lb rfl) fun a S => ?_
      exact leafL ⟨rfl, S⟩
    · refine fI 39 undef [(37, undef), (38, undef), (30, .bool (decide (40 < (w64 (x28 - x33)))))] 21 [some 19, some 20, some 12] rfl rfl rfl rfl rfl rfl fun G a w S => ?_
      refine sSkip 12 true 30 39 S rfl rfl rfl hc38 rfl (lb rfl) fun a S => ?_
      exact leafL ⟨rfl, S⟩
    · refine fI 40 undef [(39, undef), (30, .bool (decide (40 < (w64 (x28 - x33)))))] 22 [some 21, some 12] rfl rfl rfl rfl rfl rfl fun G a w S => ?_
      refine sSkip 12 true 30 40 S rfl rfl rfl hc38 rfl (lb rfl) fun a S => ?_
      exact leafL ⟨rfl, S⟩
    · refine fI 41 undef [(35, undef), (40, undef), (30, .bool (decide (40 < (w64 (x28 - x33)))))] 23 [some 17, some 22, some 12] rfl rfl rfl rfl rfl rfl fun G a w S => ?_
      refine sSkip 12 true 30 41 S rfl rfl rfl hc38 rfl (lb rfl) fun a S => ?_
      exact leafL ⟨rfl, S⟩
    · refine fI 42 undef [(41, undef), (30, .bool (decide (40 < (w64 (x28 - x33)))))] 24 [some 23, some 12] rfl rfl rfl rfl rfl rfl fun G a w S => ?_
      refine sSkip 12 true 30 42 S rfl rfl rfl hc38 rfl (lb rfl) fun a S => ?_
      exact leafL ⟨rfl, S⟩
    · refine fI 43 (.bool false) [(30, .bool (decide (40 < (w64 (x28 - x33))))), (42, undef)] 25 [some 12, some 24] rfl rfl rfl rfl rfl rfl fun G a w S => ?_
      refine sPickF (.bool false) S (wN rfl) rfl rfl hc38 rfl rfl (lb rfl) fun a S => ?_
      exact leafL ⟨rfl, S⟩
    exact leafT (⟨false, Option.some.inj h, S.fix [0] [6, 7] (by decide) rfl rfl rfl⟩)
  obtain ⟨q45, hq46, S⟩ := pIdx (P := Try.prog) (r := (rI .i64)) (v := .slice ad7 p0.Right.length cp8) (xs := p0.Right) (j := s14) 34 3 1 S Try.underlying34 rfl rfl hx29
  obtain ⟨u47, S⟩ := pLoad (r := (rI .i64)) (q := q45) (x := x28) 0 S rfl
  obtain rfl : u47 = iv x28 := S.mem.know (i := 1) (e := fRep (rI .i64) (u47) x28) rfl
  obtain ⟨q48, hq49, S⟩ := pIdx (P := Try.prog) (r := (rI .i64)) (v := .slice ad5 p0.Left.length cp6) (xs := p0.Left) (j := s14) 34 3 3 S Try.underlying34 rfl rfl hx34
  obtain ⟨u50, S⟩ := pLoad (r := (rI .i64)) (q := q48) (x := x33) 0 S rfl
  obtain rfl : u50 = iv x33 := S.mem.know (i := 1) (e := fRep (rI .i64) (u50) x33) rfl
  obtain ⟨q51, hq52, S⟩ := pIdx (P := Try.prog) (r := (rI .i64)) (v := .slice ad7 p0.Right.length cp8) (xs := p0.Right) (j := s14) 34 3 7 S Try.underlying34 rfl rfl hx29
  obtain ⟨u53, S⟩ := pLoad (r := (rI .i64)) (q := q51) (x := x28) 0 S rfl
  obtain rfl : u53 = iv x28 := S.mem.know (i := 1) (e := fRep (rI .i64) (u53) x28) rfl
  obtain ⟨q54, hq55, S⟩ := pIdx (P := Try.prog) (r := (rI .i64)) (v := .slice ad5 p0.Left.length cp6) (xs := p0.Left) (j := s14) 34 3 9 S Try.underlying34 rfl rfl hx34
  obtain ⟨u56, S⟩ := pLoad (r := (rI .i64)) (q := q54) (x := x33) 0 S rfl
  obtain rfl : u56 = iv x33 := S.mem.know (i := 1) (e := fRep (rI .i64) (u56) x33) rfl
  refine sDraw (nf := []) (W := [(0, 18, .pointer (some ⟨b10, 1, none⟩)), (1, 19, .slice ad7 p0.Right.length cp8), (2, 20, iv s14), (3, 21, q45), (4, 22, iv x28), (5, 23, .pointer (some ⟨b10, 0, none⟩)), (6, 24, .slice ad5 p0.Left.length cp6), (7, 25, iv s14), (8, 26, q48), (9, 27, iv x33), (10, 28, iv (w64 (x28 - x33))), (11, 29, .bool (decide (40 < (w64 (x28 - x33))))), (12, 30, .bool (decide (40 < (w64 (x28 - x33))))), (13, 31, .pointer (some ⟨b10, 1, none⟩)), (14, 32, .slice ad7 p0.Right.length cp8), (15, 33, iv s14), (16, 34, q51), (17, 35, iv x28), (18, 36, .pointer (some ⟨b10, 0, none⟩)), (19, 37, .slice ad5 p0.Left.length cp6), (20, 38, iv s14), (21, 39, q54), (22, 40, iv x33), (23, 41, iv (w64 (x28 - x33))), (24, 42, .bool (decide ((w64 (x28 - x33)) ≤ 200))), (25, 43, .bool (decide ((w64 (x28 - x33)) ≤ 200)))]) rfl S ?_
  refine node_by (A := anc_raddleref37_Great_0) (nf := []) (Y := []) (W := [(0, 18, .pointer (some ⟨b10, 1, none⟩)), (1, 19, .slice ad7 p0.Right.length cp8), (2, 20, iv s14), (3, 21, q45), (4, 22, iv x28), (5, 23, .pointer (some ⟨b10, 0, none⟩)), (6, 24, .slice ad5 p0.Left.length cp6), (7, 25, iv s14), (8, 26, q48), (9, 27, iv x33), (10, 28, iv (w64 (x28 - x33))), (11, 29, .bool (decide (40 < (w64 (x28 - x33))))), (12, 30, .bool (decide (40 < (w64 (x28 - x33))))), (13, 31, .pointer (some ⟨b10, 1, none⟩)), (14, 32, .slice ad7 p0.Right.length cp8), (15, 33, iv s14), (16, 34, q51), (17, 35, iv x28), (18, 36, .pointer (some ⟨b10, 0, none⟩)), (19, 37, .slice ad5 p0.Left.length cp6), (20, 38, iv s14), (21, 39, q54), (22, 40, iv x33), (23, 41, iv (w64 (x28 - x33))), (24, 42, .bool (decide ((w64 (x28 - x33)) ≤ 200))), (25, 43, .bool (decide ((w64 (x28 - x33)) ≤ 200)))]) 26 (by kernel_rfl) (by kernel_rfl) (by kernel_rfl) (by kernel_rfl) (by kernel_rfl) [0, 1, 2, 3, 4, 5, 6, 7, 8, 9, 10, 11, 12, 13, 14, 15, 16, 17, 18, 19, 20, 21, 22, 23, 24, 25] (by kernel_rfl) (by decide) (by decide) (aF 0 25 (by decide) ?_ (aF 1 24 (by decide) ?_ (aF 2 23 (by decide) ?_ (aF 3 22 (by decide) ?_ (aF 4 21 (by decide) ?_ (aF 5 20 (by decide) ?_ (aF 6 19 (by decide) ?_ (aF 7 18 (by decide) ?_ (aF 8 17 (by decide) ?_ (aF 9 16 (by decide) ?_ (aF 10 15 (by decide) ?_ (aF 11 14 (by decide) ?_ (aF 12 13 (by decide) ?_ (aF 13 12 (by decide) ?_ (aF 14 11 (by decide) ?_ (aF 15 10 (by decide) ?_ (aF 16 9 (by decide) ?_ (aF 17 8 (by decide) ?_ (aF 18 7 (by decide) ?_ (aF 19 6 (by decide) ?_ (aF 20 5 (by decide) ?_ (aF 21 4 (by decide) ?_ (aF 22 3 (by decide) ?_ (aF 23 2 (by decide) ?_ (aF 24 1 (by decide) ?_ (aF 25 0 (by decide) ?_ (trivial))))))))))))))))))))))))))) [(1, .pointer (some ⟨b10, 0, none⟩)), (3, iv s14), (31, .pointer (some ⟨b10, 1, none⟩)), (32, .slice ad7 p0.Right.length cp8), (33, iv s14), (34, q51), (35, iv x28), (36, .pointer (some ⟨b10, 0, none⟩)), (37, .slice ad5 p0.Left.length cp6), (38, iv s14), (39, q54), (40, iv x33), (41, iv (w64 (x28 - x33))), (42, .bool (decide ((w64 (x28 - x33)) ≤ 200))), (43, .bool (decide ((w64 (x28 - x33)) ≤ 200)))] (fin_of [none, none, some 13, some 14, some 15, some 16, some 17, some 18, some 19, some 20, some 21, some 22, some 23, some 24, some 25] rfl (by kernel_rfl) (by kernel_rfl)) (fun _ a w S => ?_)
  · refine fI 18 (.pointer (some ⟨b10, 1, none⟩)) [(1, .pointer (some ⟨b10, 0, none⟩))] 0 [none] rfl rfl rfl rfl rfl rfl fun G a w S => ?_
    refine sField (b := b10) (off := 0) 1 1 S (wN rfl) rfl rfl rfl rfl rfl (lb rfl) fun a S => ?_
    exact leafL ⟨rfl, S⟩
  · refine fI 19 (.slice ad7 p0.Right.length cp8) [(18, .pointer (some ⟨b10, 1, none⟩))] 1 [some 0] rfl rfl rfl rfl rfl rfl fun G a w S => ?_
    refine sLoad1 (p := b10) (off := 1) (T := 36) (vs := [.slice ad5 p0.Left.length cp6, .slice ad7 p0.Right.length cp8]) 0 (.slice ad7 p0.Right.length cp8) S (wN rfl) rfl rfl rfl rfl rfl rfl (lb rfl) fun a S => ?_
    exact leafL ⟨rfl, S⟩
  · refine fI 20 (iv s14) [(3, iv s14)] 2 [none] rfl rfl rfl rfl rfl rfl fun G a w S => ?_
    refine sMove (iv s14) S (wN rfl) (.inl rfl) rfl rfl (lb rfl) fun a S => ?_
    exact leafL ⟨rfl, S⟩
  · refine fI 21 q45 [(19, .slice ad7 p0.Right.length cp8), (20, iv s14)] 3 [some 1, some 2] rfl rfl rfl rfl rfl rfl fun G a w S => ?_
    refine sIdxV (v := .slice ad7 p0.Right.length cp8) (k := .i64) (j := s14) S (wN rfl) rfl rfl rfl hq46 rfl (lb rfl) fun a S => ?_
    exact leafL ⟨rfl, S⟩
  · refine fI 22 (iv x28) [(21, q45)] 4 [some 3] rfl rfl rfl rfl rfl rfl fun G a w S => ?_
    refine sLoadV1 (vq := q45) 9 (iv x28) S (wN rfl) rfl rfl rfl rfl rfl (lb rfl) fun a S => ?_
    exact leafL ⟨rfl, S⟩
  · refine fI 23 (.pointer (some ⟨b10, 0, none⟩)) [(1, .pointer (some ⟨b10, 0, none⟩))] 5 [none] rfl rfl rfl rfl rfl rfl fun G a w S => ?_
    refine sField (b := b10) (off := 0) 0 0 S (wN rfl) rfl rfl rfl rfl rfl (lb rfl) fun a S => ?_
    exact leafL ⟨rfl, S⟩
  · refine fI 24 (.slice ad5 p0.Left.length cp6) [(23, .pointer (some ⟨b10, 0, none⟩))] 6 [some 5] rfl rfl rfl rfl rfl rfl fun G a w S => ?_
    refine sLoad1 (p := b10) (off := 0) (T := 36) (vs := [.slice ad5 p0.Left.length cp6, .slice ad7 p0.Right.length cp8]) 0 (.slice ad5 p0.Left.length cp6) S (wN rfl) rfl rfl rfl rfl rfl rfl (lb rfl) fun a S => ?_
    exact leafL ⟨rfl, S⟩
  · refine fI 25 (iv s14) [(3, iv s14)] 7 [none] rfl rfl rfl rfl rfl rfl fun G a w S => ?_
    refine sMove (iv s14) S (wN rfl) (.inl rfl) rfl rfl (lb rfl) fun a S => ?_
    exact leafL ⟨rfl, S⟩
  · refine fI 26 q48 [(24, .slice ad5 p0.Left.length cp6), (25, iv s14)] 8 [some 6, some 7] rfl rfl rfl rfl rfl rfl fun G a w S => ?_
    refine sIdxV (v := .slice ad5 p0.Left.length cp6) (k := .i64) (j := s14) S (wN rfl) rfl rfl rfl hq49 rfl (lb rfl) fun a S => ?_
    exact leafL ⟨rfl, S⟩
  · refine fI 27 (iv x33) [(26, q48)] 9 [some 8] rfl rfl rfl rfl rfl rfl fun G a w S => ?_
    refine sLoadV1 (vq := q48) 6 (iv x33) S (wN rfl) rfl rfl rfl rfl rfl (lb rfl) fun a S => ?_
    exact leafL ⟨rfl, S⟩
  · refine fI 28 (iv (w64 (x28 - x33))) [(22, iv x28), (27, iv x33)] 10 [some 4, some 9] rfl rfl rfl rfl rfl rfl fun G a w S => ?_
    refine sBin (iv (w64 (x28 - x33))) S (wN rfl) rfl rfl rfl (bSub _ _ _ _ x28 x33) rfl (lb rfl) fun a S => ?_
    exact leafL ⟨rfl, S⟩
  · refine fI 29 (.bool (decide (40 < (w64 (x28 - x33))))) [(28, iv (w64 (x28 - x33)))] 11 [some 10] rfl rfl rfl rfl rfl rfl fun G a w S => ?_
    refine sBin (.bool (decide (40 < (w64 (x28 - x33))))) S (wN rfl) rfl rfl rfl (bGt _ _ _ _ .i64 (w64 (x28 - x33)) 40) rfl (lb rfl) fun a S => ?_
    exact leafL ⟨rfl, S⟩
  · refine fI 30 (.bool (decide (40 < (w64 (x28 - x33))))) [(29, .bool (decide (40 < (w64 (x28 - x33)))))] 12 [some 11] rfl rfl rfl rfl rfl rfl fun G a w S => ?_
    refine sMove (.bool (decide (40 < (w64 (x28 - x33))))) S (wN rfl) (.inl rfl) rfl rfl (lb rfl) fun a S => ?_
    exact leafL ⟨rfl, S⟩
  · refine fI 31 (.pointer (some ⟨b10, 1, none⟩)) [(1, .pointer (some ⟨b10, 0, none⟩)), (30, .bool (decide (40 < (w64 (x28 - x33)))))] 13 [none, some 12] rfl rfl rfl rfl rfl rfl fun G a w S => ?_
    refine sField (b := b10) (off := 0) 1 1 S (wG 12 true 30 rfl rfl rfl hc38) rfl rfl rfl rfl rfl (lb rfl) fun a S => ?_
    exact leafL ⟨rfl, S⟩
  · refine fI 32 (.slice ad7 p0.Right.length cp8) [(31, .pointer (some ⟨b10, 1, none⟩)), (30, .bool (decide (40 < (w64 (x28 - x33)))))] 14 [some 13, some 12] rfl rfl rfl rfl rfl rfl fun G a w S => ?_
    refine sLoad1 (p := b10) (off := 1) (T := 36) (vs := [.slice ad5 p0.Left.length cp6, .slice ad7 p0.Right.length cp8]) 0 (.slice ad7 p0.Right.length cp8) S (wG 12 true 30 rfl rfl rfl hc38) rfl rfl rfl rfl rfl rfl (lb rfl) fun a S => ?_
    exact leafL ⟨rfl, S⟩
  · refine fI 33 (iv s14) [(3, iv s14), (30, .bool (decide (40 < (w64 (x28 - x33)))))] 15 [none, some 12] rfl rfl rfl rfl rfl rfl fun G a w S => ?_
    refine sMove (iv s14) S (wG 12 true 30 rfl rfl rfl hc38) (.inl rfl) rfl rfl (lb rfl) fun a S => ?_
    exact leafL ⟨rfl, S⟩
  · refine fI 34 q51 [(32, .slice ad7 p0.Right.length cp8), (33, iv s14), (30, .bool (decide (40 < (w64 (x28 - x33)))))] 16 [some 14, some 15, some 12] rfl rfl rfl rfl rfl rfl fun G a w S => ?_
    refine sIdxV (v := .slice ad7 p0.Right.length cp8) (k := .i64) (j := s14) S (wG 12 true 30 rfl rfl rfl hc38) rfl rfl rfl hq52 rfl (lb rfl) fun a S => ?_
    exact leafL ⟨rfl, S⟩
  · refine fI 35 (iv x28) [(34, q51), (30, .bool (decide (40 < (w64 (x28 - x33)))))] 17 [some 16, some 12] rfl rfl rfl rfl rfl rfl fun G a w S => ?_
    refine sLoadV1 (vq := q51) 3 (iv x28) S (wG 12 true 30 rfl rfl rfl hc38) rfl rfl rfl rfl rfl (lb rfl) fun a S => ?_
    exact leafL ⟨rfl, S⟩
  · refine fI 36 (.pointer (some ⟨b10, 0, none⟩)) [(1, .pointer (some ⟨b10, 0, none⟩)), (30, .bool (decide (40 < (w64 (x28 - x33)))))] 18 [none, some 12] rfl rfl rfl rfl rfl rfl fun G a w S => ?_
    refine sField (b := b10) (off := 0) 0 0 S (wG 12 true 30 rfl rfl rfl hc38) rfl rfl rfl rfl rfl (lb rfl) fun a S => ?_
    exact leafL ⟨rfl, S⟩
  · refine fI 37 (.slice ad5 p0.Left.length cp6) [(36, .pointer (some ⟨b10, 0, none⟩)), (30, .bool (decide (40 < (w64 (x28 - x33)))))] 19 [some 18, some 12] rfl rfl rfl rfl rfl rfl fun G a w S => ?_
    refine sLoad1 (p := b10) (off := 0) (T := 36) (vs := [.slice ad5 p0.Left.length cp6, .slice ad7 p0.Right.length cp8]) 0 (.slice ad5 p0.Left.length cp6) S (wG 12 true 30 rfl rfl rfl hc38) rfl rfl rfl rfl rfl rfl (lb rfl) fun a S => ?_
    exact leafL ⟨rfl, S⟩
  · refine fI 38 (iv s14) [(3, iv s14), (30, .bool (decide (40 < (w64 (x28 - x33)))))] 20 [none, some 12] rfl rfl rfl rfl rfl rfl fun G a w S => ?_
    refine sMove (iv s14) S (wG 12 true 30 rfl rfl rfl hc38) (.inl rfl) rfl rfl (lb rfl) fun a S => ?_
    exact leafL ⟨rfl, S⟩
  · refine fI 39 q54 [(37, .slice ad5 p0.Left.length cp6), (38, iv s14), (30, .bool (decide (40 < (w64 (x28 - x33)))))] 21 [some 19, some 20, some 12] rfl rfl rfl rfl rfl rfl fun G a w S => ?_
    refine sIdxV (v := .slice ad5 p0.Left.length cp6) (k := .i64) (j := s14) S (wG 12 true 30 rfl rfl rfl hc38) rfl rfl rfl hq55 rfl (lb rfl) fun a S => ?_
    exact leafL ⟨rfl, S⟩
  · refine fI 40 (iv x33) [(39, q54), (30, .bool (decide (40 < (w64 (x28 - x33)))))] 22 [some 21, some 12] rfl rfl rfl rfl rfl rfl fun G a w S => ?_
    refine sLoadV1 (vq := q54) 0 (iv x33) S (wG 12 true 30 rfl rfl rfl hc38) rfl rfl rfl rfl rfl (lb rfl) fun a S => ?_
    exact leafL ⟨rfl, S⟩
  · refine fI 41 (iv (w64 (x28 - x33))) [(35, iv x28), (40, iv x33), (30, .bool (decide (40 < (w64 (x28 - x33)))))] 23 [some 17, some 22, some 12] rfl rfl rfl rfl rfl rfl fun G a w S => ?_
    refine sBin (iv (w64 (x28 - x33))) S (wG 12 true 30 rfl rfl rfl hc38) rfl rfl rfl (bSub _ _ _ _ x28 x33) rfl (lb rfl) fun a S => ?_
    exact leafL ⟨rfl, S⟩
  · refine fI 42 (.bool (decide ((w64 (x28 - x33)) ≤ 200))) [(41, iv (w64 (x28 - x33))), (30, .bool (decide (40 < (w64 (x28 - x33)))))] 24 [some 23, some 12] rfl rfl rfl rfl rfl rfl fun G a w S => ?_
    refine sBin (.bool (decide ((w64 (x28 - x33)) ≤ 200))) S (wG 12 true 30 rfl rfl rfl hc38) rfl rfl rfl (bLe _ _ _ _ .i64 (w64 (x28 - x33)) 200) rfl (lb rfl) fun a S => ?_
    exact leafL ⟨rfl, S⟩
  · refine fI 43 (.bool (decide ((w64 (x28 - x33)) ≤ 200))) [(30, .bool (decide (40 < (w64 (x28 - x33))))), (42, .bool (decide ((w64 (x28 - x33)) ≤ 200)))] 25 [some 12, some 24] rfl rfl rfl rfl rfl rfl fun G a w S => ?_
    refine sPickT (.bool (decide ((w64 (x28 - x33)) ≤ 200))) S (wN rfl) rfl rfl hc38 rfl rfl (lb rfl) fun a S => ?_
    exact leafL ⟨rfl, S⟩
  exact leafT (⟨decide ((w64 (x28 - x33)) ≤ 200), Option.some.inj h, S.fix [0] [12, 13] (by decide) rfl rfl rfl⟩)

end Go.Proofs.Ytmedbnjhgkcndaa
namespace Go.Proofs.Ytmedbnjhgkcndaa
open Go.RowKit
set_option linter.unusedVariables false

theorem col_eq (x : Int) : F_piece_column x = some (decide (-500 ≤ x) && decide (x ≤ 500)) ∧ F_raddleref37_in x = some (decide (-500 ≤ x) && decide (x ≤ 500)) := by
  unfold F_piece_column F_raddleref37_in
  by_cases h : -500 ≤ x <;> simp [h]
def col (x : Int) : Bool := decide (-500 ≤ x) && decide (x ≤ 500)
def pokAt (p : api_Piece) (k : Nat) : Bool := col (p.Left.getD k 0) && (col (p.Right.getD k 0) && (decide (p.Left.getD k 0 < p.Right.getD k 0) && decide (p.Right.getD k 0 - p.Left.getD k 0 ≤ 200)))
def pok (p : api_Piece) : Bool := decide (p.Left.length = p.Right.length) && (decide (1 ≤ p.Left.length) && (decide (p.Left.length ≤ 100) && (List.range p.Left.length).all (pokAt p)))
theorem col_spec {x : Int} : col x = true ↔ -500 ≤ x ∧ x ≤ 500 := by simp [col]
theorem pcheck_eq (p : api_Piece) (h1 : p.Left.length ≤ 1000000) (h2 : p.Right.length ≤ 1000000) : F_piece_Check p = some (if pok p = true then 0 else 8) ∧ F_raddleref37_Check p = some (if pok p = true then 0 else 8) := by
  unfold F_piece_Check F_raddleref37_Check
  by_cases e1 : p.Left.length = p.Right.length
  case neg =>
    have hb : ((p.Left.length : Int) != (p.Right.length : Int)) = true := nT (by omega)
    have hp : pok p = false := by simp [pok, e1]
    simp [hb, hp]
  have hb : ((p.Left.length : Int) != (p.Right.length : Int)) = false := nF (by omega)
  by_cases e2 : 1 ≤ p.Left.length
  case neg =>
    have hc : ((p.Left.length : Int) == 0) = true := bT (by omega)
    have hd : decide ((p.Left.length : Int) < 1) = true := dT (by omega)
    have hp : pok p = false := by simp [pok, e2]
    simp [hb, hc, hd, hp]
  have hc : ((p.Left.length : Int) == 0) = false := bF (by omega)
  have hd : decide ((p.Left.length : Int) < 1) = false := dF (by omega)
  by_cases e3 : p.Left.length ≤ 100
  case neg =>
    have he : decide (100 < (p.Left.length : Int)) = true := dT (by omega)
    have hp : pok p = false := by simp [pok, e3]
    simp [hb, hc, hd, he, hp]
  have he : decide (100 < (p.Left.length : Int)) = false := dF (by omega)
  have hp : pok p = (List.range p.Left.length).all (pokAt p) := by simp only [pok, e1, e2, e3, decide_true, Bool.true_and]; rw [← e1]; simp [e2, e3]
  have hl1 : whileO (piece_Check_l1 p) 0 = some (if (List.range p.Left.length).all (pokAt p) = true then .inr () else .inl 8) := by
    refine loop_all _ _ _ _ (fun k hk => ?_) ?_
    · have hx := idxO_D (0 : Int) hk
      have hy := idxO_D (0 : Int) (show k < p.Right.length by omega)
      have hs : w64 ((k : Int) + 1) = ((k + 1 : Nat) : Int) := w64_succ (by omega)
      have hk' : decide ((k : Int) < (p.Left.length : Int)) = true := dT (by omega)
      unfold piece_Check_l1 pokAt
      simp only [hk', if_true, hx, hy, hs, Option.bind_some, (col_eq _).1, ← col.eq_1]
      generalize p.Left.getD k 0 = x
      generalize p.Right.getD k 0 = y
      cases hcx : col x with
      | false => simp
      | true =>
        cases hcy : col y with
        | false => simp
        | true =>
          rw [col_spec] at hcx hcy
          have hw : w64 (y - x) = y - x := w64_of (by omega) (by omega)
          by_cases g1 : x < y
          · by_cases g2 : y - x ≤ 200
            · simp [g1, g2, hw, show ¬ y ≤ x by omega, show ¬ 200 < y - x by omega]
            · simp [g1, g2, hw, show ¬ y ≤ x by omega, show 200 < y - x by omega]
          · simp [g1, hw, show y ≤ x by omega]
    · unfold piece_Check_l1; simp
  have hl2 : whileO (raddleref37_Check_l1 p) 0 = some (if (List.range p.Left.length).all (pokAt p) = true then .inr () else .inl 8) := by
    refine loop_all _ _ _ _ (fun k hk => ?_) ?_
    · have hx := idxO_D (0 : Int) hk
      have hy := idxO_D (0 : Int) (show k < p.Right.length by omega)
      have hs : w64 ((k : Int) + 1) = ((k + 1 : Nat) : Int) := w64_succ (by omega)
      have hk' : decide ((k : Int) < (p.Left.length : Int)) = true := dT (by omega)
      unfold raddleref37_Check_l1 pokAt
      simp only [hk', if_true, hx, hy, hs, Option.bind_some, (col_eq _).2, ← col.eq_1]
      generalize p.Left.getD k 0 = x
      generalize p.Right.getD k 0 = y
      cases hcx : col x with
      | false => simp
      | true =>
        cases hcy : col y with
        | false => simp
        | true =>
          rw [col_spec] at hcx hcy
          have hw : w64 (y - x) = y - x := w64_of (by omega) (by omega)
          by_cases g1 : x < y
          · by_cases g2 : y - x ≤ 200
            · simp [g1, g2, hw, show ¬ y ≤ x by omega, show ¬ 200 < y - x by omega]
            · simp [g1, g2, hw, show ¬ y ≤ x by omega, show 200 < y - x by omega]
          · simp [g1, hw, show y ≤ x by omega]
    · unfold raddleref37_Check_l1; simp
  rw [hl1, hl2, ← hp]
  cases pok p <;> simp [hb, hc, hd, he]
theorem same_self (l : List Int) (hl : l.length ≤ 1000000) : F_raddleref36_Same l l = some true := by
  have hw : whileO (raddleref36_Same_l1 l l) 0 = some (if (List.range l.length).all (fun _ => true) = true then .inr () else .inl false) := by
    refine loop_all _ _ _ _ (fun k hk => ?_) ?_
    · unfold raddleref36_Same_l1
      simp only [dT (show (k : Int) < (l.length : Int) by omega), if_true, idxO_nat hk, Option.bind_some, bne_self_eq_false, Bool.false_eq_true, if_false, w64_succ (show k < 9223372036854775807 by omega)]
    · unfold raddleref36_Same_l1; simp
  have : (List.range l.length).all (fun _ => true) = true := by simp
  rw [this] at hw
  unfold F_raddleref36_Same
  simp [hw]
theorem samep_self (p : api_Piece) (h1 : p.Left.length ≤ 1000000) (h2 : p.Right.length ≤ 1000000) : F_raddleref37_Same p p = some true := by
  unfold F_raddleref37_Same
  simp [same_self _ h1, same_self _ h2]
theorem great_eq (p : api_Piece) (h1 : p.Left.length ≤ 9223372036854775807) (h2 : p.Right.length ≤ 9223372036854775807) : ∃ b, F_raddleref37_Great p = some b ∧ (b = false → p.Left.length ≤ 1000 ∧ p.Right.length ≤ 1000) := by
  have hw : ∃ t, whileO (raddleref37_Great_l1 p) 0 = some t ∧ (t = .inl true ∨ t = .inr ()) := by
    refine loop_ix (min p.Left.length p.Right.length) (fun _ => True) _ trivial ?_ ?_
    · intro k hk _
      have ha : decide ((k : Int) < (p.Left.length : Int)) = true := dT (by omega)
      have hb : decide ((k : Int) < (p.Right.length : Int)) = true := dT (by omega)
      have hs : w64 ((k : Int) + 1) = ((k + 1 : Nat) : Int) := w64_succ (by omega)
      have hst : raddleref37_Great_l1 p (k : Int) = (if (decide (40 < w64 (p.Right.getD k 0 - p.Left.getD k 0)) && decide (w64 (p.Right.getD k 0 - p.Left.getD k 0) ≤ 200)) = true then some (.inr (.inl true)) else some (.inl ((k + 1 : Nat) : Int))) := by
        unfold raddleref37_Great_l1
        simp only [ha, hb, if_true, Option.bind_some, idxO_D (0 : Int) (show k < p.Left.length by omega), idxO_D (0 : Int) (show k < p.Right.length by omega), hs]
        generalize w64 (p.Right.getD k 0 - p.Left.getD k 0) = d
        by_cases g1 : 40 < d
        · simp [g1]
        · simp [g1]
      rw [hst]
      split
      · exact .inr ⟨_, rfl, .inl rfl⟩
      · exact .inl ⟨rfl, trivial⟩
    · intro _
      refine ⟨.inr (), ?_, .inr rfl⟩
      unfold raddleref37_Great_l1
      by_cases g : p.Left.length ≤ p.Right.length
      · have ha : decide (((min p.Left.length p.Right.length : Nat) : Int) < (p.Left.length : Int)) = false := dF (by omega)
        simp only [ha, Bool.false_eq_true, if_false, Option.bind_some]
      · have ha : decide (((min p.Left.length p.Right.length : Nat) : Int) < (p.Left.length : Int)) = true := dT (by omega)
        have hb : decide (((min p.Left.length p.Right.length : Nat) : Int) < (p.Right.length : Int)) = false := dF (by omega)
        simp only [ha, hb, Bool.false_eq_true, if_true, if_false, Option.bind_some]
  obtain ⟨t, t1, t2⟩ := hw
  unfold F_raddleref37_Great
  rw [t1]
  rcases t2 with rfl | rfl
  · exact ⟨true, rfl, fun h => by cases h⟩
  · simp only [Option.bind_some]
    by_cases g1 : 110 < p.Left.length
    · refine ⟨true, ?_, fun h => by cases h⟩
      simp [show (20 : Int) < (p.Left.length : Int) by omega, show ¬ (p.Left.length : Int) ≤ 100 by omega, show (110 : Int) < (p.Left.length : Int) by omega]
    by_cases g2 : 110 < p.Right.length
    · by_cases g3 : 20 < p.Left.length
      · by_cases g4 : p.Left.length ≤ 100
        · exact ⟨true, by simp [show (20 : Int) < (p.Left.length : Int) by omega, show (p.Left.length : Int) ≤ 100 by omega], fun h => by cases h⟩
        · exact ⟨true, by simp [show (20 : Int) < (p.Left.length : Int) by omega, show ¬ (p.Left.length : Int) ≤ 100 by omega, show ¬ (110 : Int) < (p.Left.length : Int) by omega, show (110 : Int) < (p.Right.length : Int) by omega], fun h => by cases h⟩
      · exact ⟨true, by simp [show ¬ (20 : Int) < (p.Left.length : Int) by omega, show ¬ (110 : Int) < (p.Left.length : Int) by omega, show (110 : Int) < (p.Right.length : Int) by omega], fun h => by cases h⟩
    · by_cases g3 : 20 < p.Left.length
      · by_cases g4 : p.Left.length ≤ 100
        · exact ⟨true, by simp [show (20 : Int) < (p.Left.length : Int) by omega, show (p.Left.length : Int) ≤ 100 by omega], fun h => by cases h⟩
        · exact ⟨false, by simp [show (20 : Int) < (p.Left.length : Int) by omega, show ¬ (p.Left.length : Int) ≤ 100 by omega, show ¬ (110 : Int) < (p.Left.length : Int) by omega, show ¬ (110 : Int) < (p.Right.length : Int) by omega], fun _ => ⟨by omega, by omega⟩⟩
      · exact ⟨false, by simp [show ¬ (20 : Int) < (p.Left.length : Int) by omega, show ¬ (110 : Int) < (p.Left.length : Int) by omega, show ¬ (110 : Int) < (p.Right.length : Int) by omega], fun _ => ⟨by omega, by omega⟩⟩

end Go.Proofs.Ytmedbnjhgkcndaa
namespace Go.Proofs.Ytmedbnjhgkcndaa
open Go.RowKit
set_option linter.unusedVariables false

noncomputable def F_stitch_forms (p0 : Int) : Option (stitch_form × Bool) :=
  Option.bind (α := Bool) (
    if decide (p0 < 1) then
      some true
    else
      some (decide (([(stitch_form.mk (⟨#[]⟩ : ByteArray) (0, 0) (0, 0) true 1 1), (stitch_form.mk (⟨#[]⟩ : ByteArray) (0, 0) (0, 0) false 0 1), (stitch_form.mk (⟨#[102]⟩ : ByteArray) (2, 4) (0, 0) true 2 1), (stitch_form.mk (⟨#[108]⟩ : ByteArray) (2, 4) (0, 0) true 2 1), (stitch_form.mk (⟨#[109]⟩ : ByteArray) (2, 4) (0, 0) true 1 2), (stitch_form.mk (⟨#[120]⟩ : ByteArray) (1, 6) (1, 6) true 3 3), (stitch_form.mk (⟨#[121]⟩ : ByteArray) (1, 6) (1, 6) true 3 3), (stitch_form.mk (⟨#[115]⟩ : ByteArray) (0, 0) (0, 0) true 1 1), (stitch_form.mk (⟨#[]⟩ : ByteArray) (1, 200) (0, 0) false 0 2), (stitch_form.mk (⟨#[111]⟩ : ByteArray) (1, 200) (0, 0) true 2 0)].length : Int) < (IntKind.i64.wrap p0)))) fun o12 =>
  if o12 then
    some ((stitch_form.mk (⟨#[]⟩ : ByteArray) (0, 0) (0, 0) false 0 0), false)
  else
    Option.bind (idxO [(stitch_form.mk (⟨#[]⟩ : ByteArray) (0, 0) (0, 0) true 1 1), (stitch_form.mk (⟨#[]⟩ : ByteArray) (0, 0) (0, 0) false 0 1), (stitch_form.mk (⟨#[102]⟩ : ByteArray) (2, 4) (0, 0) true 2 1), (stitch_form.mk (⟨#[108]⟩ : ByteArray) (2, 4) (0, 0) true 2 1), (stitch_form.mk (⟨#[109]⟩ : ByteArray) (2, 4) (0, 0) true 1 2), (stitch_form.mk (⟨#[120]⟩ : ByteArray) (1, 6) (1, 6) true 3 3), (stitch_form.mk (⟨#[121]⟩ : ByteArray) (1, 6) (1, 6) true 3 3), (stitch_form.mk (⟨#[115]⟩ : ByteArray) (0, 0) (0, 0) true 1 1), (stitch_form.mk (⟨#[]⟩ : ByteArray) (1, 200) (0, 0) false 0 2), (stitch_form.mk (⟨#[111]⟩ : ByteArray) (1, 200) (0, 0) true 2 0)] (IntKind.u8.wrap (p0 - 1))) fun x19 =>
    some (x19, true)
def c_stitch_forms_val (r : (stitch_form × Bool)) (x : Value) : Value := .tuple #[x, .bool r.2]
def c_stitch_forms_D (r : (stitch_form × Bool)) (x : Value) : List Fact := [fRep r_stitch_form x r.1]
set_option maxHeartbeats 4000000 in
set_option maxRecDepth 100000 in
theorem c_stitch_forms (E : Nat → Prop) (w0 : World) (p0 : Int) (r : (stitch_form × Bool)) (h : F_stitch_forms p0 = some r) (S : St0 E [] w0 w0 [] []) :
    Calls Try.prog 53 #[.int .u8 p0] w0 (Ret (X := Value) E [] w0 (c_stitch_forms_val r) (fun _ => []) (c_stitch_forms_D r)) := by
  unfold F_stitch_forms at h
  refine sEnter (args := [.int .u8 p0]) 57 Try.func53 rfl rfl (by simp) S (fun a S => ?_)
  refine sSeq (fun K1 hK1 => ?_)
  refine sRegion ?_
  refine sAlloc (gv_stitch_form (stitch_form.mk (⟨#[]⟩ : ByteArray) (0, 0) (0, 0) false 0 0)) S (wN rfl) rfl rfl (gl_stitch_form (stitch_form.mk (⟨#[]⟩ : ByteArray) (0, 0) (0, 0) false 0 0)) rfl rfl (lb rfl) fun a b2 w S => ?_
  refine sMove (.bool false) S (wN rfl) (.inr rfl) rfl rfl (lb rfl) fun a S => ?_
  refine leafL (leafT (hK1 _ _ ?_))
  refine sSeq (fun K3 hK3 => ?_)
  refine sRegion ?_
  refine sBuild [(0, iv 2), (1, iv 4)] [iv 2, iv 4] S (wN rfl) rfl rfl rfl rfl (lb rfl) fun a S => ?_
  refine sBuild [(0, iv 1), (1, iv 6)] [iv 1, iv 6] S (wN rfl) rfl rfl rfl rfl (lb rfl) fun a S => ?_
  refine sAlloc (.agg #[iv 0, iv 0]) S (wN rfl) rfl rfl [iv 0, iv 0] rfl rfl (lb rfl) fun a b4 w S => ?_
  refine sAlloc (.agg #[iv 0, iv 0]) S (wN rfl) rfl rfl [iv 0, iv 0] rfl rfl (lb rfl) fun a b5 w S => ?_
  refine sStore (p := b4) (off := 0) (T := 53) (vs := [iv 0, iv 0]) (v := .agg #[iv 2, iv 4]) 1 [iv 2, iv 4] S (wN rfl) rfl rfl rfl rfl rfl rfl rfl (by simp) rfl fun a w S => ?_
  refine sStore (p := b5) (off := 0) (T := 53) (vs := [iv 0, iv 0]) (v := .agg #[iv 1, iv 6]) 1 [iv 1, iv 6] S (wN rfl) rfl rfl rfl rfl rfl rfl rfl (by simp) rfl fun a w S => ?_
  refine leafL (leafT (hK3 _ _ ?_))
  refine sSeq (fun K6 hK6 => ?_)
  refine sRegion ?_
  refine sBuild [(0, iv 1), (1, iv 200)] [iv 1, iv 200] S (wN rfl) rfl rfl rfl rfl (lb rfl) fun a S => ?_
  refine sAlloc (.agg #[iv 0, iv 0]) S (wN rfl) rfl rfl [iv 0, iv 0] rfl rfl (lb rfl) fun a b7 w S => ?_
  refine sStore (p := b7) (off := 0) (T := 53) (vs := [iv 0, iv 0]) (v := .agg #[iv 1, iv 200]) 0 [iv 1, iv 200] S (wN rfl) rfl rfl rfl rfl rfl rfl rfl (by simp) rfl fun a w S => ?_
  refine leafL (leafT (hK6 _ _ ?_))
  refine sSeq (fun K8 hK8 => ?_)
  refine sRegion ?_
  refine sBuild [] [iv 0, iv 0] S (wN rfl) rfl rfl rfl rfl (lb rfl) fun a S => ?_
  refine sBuild [] [iv 0, iv 0] S (wN rfl) rfl rfl rfl rfl (lb rfl) fun a S => ?_
  refine sBuild [(0, .string (⟨#[]⟩ : ByteArray)), (1, .agg #[iv 0, iv 0]), (2, .agg #[iv 0, iv 0]), (3, .bool true), (4, iv 1), (5, iv 1)] (gl_stitch_form (stitch_form.mk (⟨#[]⟩ : ByteArray) (0, 0) (0, 0) true 1 1)) S (wN rfl) rfl rfl rfl rfl (lb rfl) fun a S => ?_
  refine sBuild [] [iv 0, iv 0] S (wN rfl) rfl rfl rfl rfl (lb rfl) fun a S => ?_
  refine sBuild [] [iv 0, iv 0] S (wN rfl) rfl rfl rfl rfl (lb rfl) fun a S => ?_
  refine sBuild [(0, .string (⟨#[]⟩ : ByteArray)), (1, .agg #[iv 0, iv 0]), (2, .agg #[iv 0, iv 0]), (3, .bool false), (4, iv 0), (5, iv 1)] (gl_stitch_form (stitch_form.mk (⟨#[]⟩ : ByteArray) (0, 0) (0, 0) false 0 1)) S (wN rfl) rfl rfl rfl rfl (lb rfl) fun a S => ?_
  refine sLoadN (p := b4) (off := 0) (T := 53) (vs := [iv 2, iv 4]) 2 [iv 2, iv 4] S (wN rfl) rfl rfl rfl rfl rfl rfl rfl (lb rfl) fun a S => ?_
  refine sBuild [] [iv 0, iv 0] S (wN rfl) rfl rfl rfl rfl (lb rfl) fun a S => ?_
  refine sBuild [(0, .string (⟨#[102]⟩ : ByteArray)), (1, .agg #[iv 2, iv 4]), (2, .agg #[iv 0, iv 0]), (3, .bool true), (4, iv 2), (5, iv 1)] (gl_stitch_form (stitch_form.mk (⟨#[102]⟩ : ByteArray) (2, 4) (0, 0) true 2 1)) S (wN rfl) rfl rfl rfl rfl (lb rfl) fun a S => ?_
  refine sLoadN (p := b4) (off := 0) (T := 53) (vs := [iv 2, iv 4]) 2 [iv 2, iv 4] S (wN rfl) rfl rfl rfl rfl rfl rfl rfl (lb rfl) fun a S => ?_
  refine sBuild [] [iv 0, iv 0] S (wN rfl) rfl rfl rfl rfl (lb rfl) fun a S => ?_
  refine sBuild [(0, .string (⟨#[108]⟩ : ByteArray)), (1, .agg #[iv 2, iv 4]), (2, .agg #[iv 0, iv 0]), (3, .bool true), (4, iv 2), (5, iv 1)] (gl_stitch_form (stitch_form.mk (⟨#[108]⟩ : ByteArray) (2, 4) (0, 0) true 2 1)) S (wN rfl) rfl rfl rfl rfl (lb rfl) fun a S => ?_
  refine sLoadN (p := b4) (off := 0) (T := 53) (vs := [iv 2, iv 4]) 2 [iv 2, iv 4] S (wN rfl) rfl rfl rfl rfl rfl rfl rfl (lb rfl) fun a S => ?_
  refine sBuild [] [iv 0, iv 0] S (wN rfl) rfl rfl rfl rfl (lb rfl) fun a S => ?_
  refine sBuild [(0, .string (⟨#[109]⟩ : ByteArray)), (1, .agg #[iv 2, iv 4]), (2, .agg #[iv 0, iv 0]), (3, .bool true), (4, iv 1), (5, iv 2)] (gl_stitch_form (stitch_form.mk (⟨#[109]⟩ : ByteArray) (2, 4) (0, 0) true 1 2)) S (wN rfl) rfl rfl rfl rfl (lb rfl) fun a S => ?_
  refine sLoadN (p := b5) (off := 0) (T := 53) (vs := [iv 1, iv 6]) 1 [iv 1, iv 6] S (wN rfl) rfl rfl rfl rfl rfl rfl rfl (lb rfl) fun a S => ?_
  refine sLoadN (p := b5) (off := 0) (T := 53) (vs := [iv 1, iv 6]) 1 [iv 1, iv 6] S (wN rfl) rfl rfl rfl rfl rfl rfl rfl (lb rfl) fun a S => ?_
  refine sBuild [(0, .string (⟨#[120]⟩ : ByteArray)), (1, .agg #[iv 1, iv 6]), (2, .agg #[iv 1, iv 6]), (3, .bool true), (4, iv 3), (5, iv 3)] (gl_stitch_form (stitch_form.mk (⟨#[120]⟩ : ByteArray) (1, 6) (1, 6) true 3 3)) S (wN rfl) rfl rfl rfl rfl (lb rfl) fun a S => ?_
  refine sLoadN (p := b5) (off := 0) (T := 53) (vs := [iv 1, iv 6]) 1 [iv 1, iv 6] S (wN rfl) rfl rfl rfl rfl rfl rfl rfl (lb rfl) fun a S => ?_
  refine sLoadN (p := b5) (off := 0) (T := 53) (vs := [iv 1, iv 6]) 1 [iv 1, iv 6] S (wN rfl) rfl rfl rfl rfl rfl rfl rfl (lb rfl) fun a S => ?_
  refine sBuild [(0, .string (⟨#[121]⟩ : ByteArray)), (1, .agg #[iv 1, iv 6]), (2, .agg #[iv 1, iv 6]), (3, .bool true), (4, iv 3), (5, iv 3)] (gl_stitch_form (stitch_form.mk (⟨#[121]⟩ : ByteArray) (1, 6) (1, 6) true 3 3)) S (wN rfl) rfl rfl rfl rfl (lb rfl) fun a S => ?_
  refine sBuild [] [iv 0, iv 0] S (wN rfl) rfl rfl rfl rfl (lb rfl) fun a S => ?_
  refine sBuild [] [iv 0, iv 0] S (wN rfl) rfl rfl rfl rfl (lb rfl) fun a S => ?_
  refine sBuild [(0, .string (⟨#[115]⟩ : ByteArray)), (1, .agg #[iv 0, iv 0]), (2, .agg #[iv 0, iv 0]), (3, .bool true), (4, iv 1), (5, iv 1)] (gl_stitch_form (stitch_form.mk (⟨#[115]⟩ : ByteArray) (0, 0) (0, 0) true 1 1)) S (wN rfl) rfl rfl rfl rfl (lb rfl) fun a S => ?_
  refine sLoadN (p := b7) (off := 0) (T := 53) (vs := [iv 1, iv 200]) 0 [iv 1, iv 200] S (wN rfl) rfl rfl rfl rfl rfl rfl rfl (lb rfl) fun a S => ?_
  refine sBuild [] [iv 0, iv 0] S (wN rfl) rfl rfl rfl rfl (lb rfl) fun a S => ?_
  refine sBuild [(0, .string (⟨#[]⟩ : ByteArray)), (1, .agg #[iv 1, iv 200]), (2, .agg #[iv 0, iv 0]), (3, .bool false), (4, iv 0), (5, iv 2)] (gl_stitch_form (stitch_form.mk (⟨#[]⟩ : ByteArray) (1, 200) (0, 0) false 0 2)) S (wN rfl) rfl rfl rfl rfl (lb rfl) fun a S => ?_
  refine sLoadN (p := b7) (off := 0) (T := 53) (vs := [iv 1, iv 200]) 0 [iv 1, iv 200] S (wN rfl) rfl rfl rfl rfl rfl rfl rfl (lb rfl) fun a S => ?_
  refine sBuild [] [iv 0, iv 0] S (wN rfl) rfl rfl rfl rfl (lb rfl) fun a S => ?_
  refine sBuild [(0, .string (⟨#[111]⟩ : ByteArray)), (1, .agg #[iv 1, iv 200]), (2, .agg #[iv 0, iv 0]), (3, .bool true), (4, iv 2), (5, iv 0)] (gl_stitch_form (stitch_form.mk (⟨#[111]⟩ : ByteArray) (1, 200) (0, 0) true 2 0)) S (wN rfl) rfl rfl rfl rfl (lb rfl) fun a S => ?_
  have S := S.learn (fRep r_stitch_form (gv_stitch_form (stitch_form.mk (⟨#[]⟩ : ByteArray) (0, 0) (0, 0) true 1 1)) (stitch_form.mk (⟨#[]⟩ : ByteArray) (0, 0) (0, 0) true 1 1)) rfl
  have S := S.learn (fRep r_stitch_form (gv_stitch_form (stitch_form.mk (⟨#[]⟩ : ByteArray) (0, 0) (0, 0) false 0 1)) (stitch_form.mk (⟨#[]⟩ : ByteArray) (0, 0) (0, 0) false 0 1)) rfl
  have S := S.learn (fRep r_stitch_form (gv_stitch_form (stitch_form.mk (⟨#[102]⟩ : ByteArray) (2, 4) (0, 0) true 2 1)) (stitch_form.mk (⟨#[102]⟩ : ByteArray) (2, 4) (0, 0) true 2 1)) rfl
  have S := S.learn (fRep r_stitch_form (gv_stitch_form (stitch_form.mk (⟨#[108]⟩ : ByteArray) (2, 4) (0, 0) true 2 1)) (stitch_form.mk (⟨#[108]⟩ : ByteArray) (2, 4) (0, 0) true 2 1)) rfl
  have S := S.learn (fRep r_stitch_form (gv_stitch_form (stitch_form.mk (⟨#[109]⟩ : ByteArray) (2, 4) (0, 0) true 1 2)) (stitch_form.mk (⟨#[109]⟩ : ByteArray) (2, 4) (0, 0) true 1 2)) rfl
  have S := S.learn (fRep r_stitch_form (gv_stitch_form (stitch_form.mk (⟨#[120]⟩ : ByteArray) (1, 6) (1, 6) true 3 3)) (stitch_form.mk (⟨#[120]⟩ : ByteArray) (1, 6) (1, 6) true 3 3)) rfl
  have S := S.learn (fRep r_stitch_form (gv_stitch_form (stitch_form.mk (⟨#[121]⟩ : ByteArray) (1, 6) (1, 6) true 3 3)) (stitch_form.mk (⟨#[121]⟩ : ByteArray) (1, 6) (1, 6) true 3 3)) rfl
  have S := S.learn (fRep r_stitch_form (gv_stitch_form (stitch_form.mk (⟨#[115]⟩ : ByteArray) (0, 0) (0, 0) true 1 1)) (stitch_form.mk (⟨#[115]⟩ : ByteArray) (0, 0) (0, 0) true 1 1)) rfl
  have S := S.learn (fRep r_stitch_form (gv_stitch_form (stitch_form.mk (⟨#[]⟩ : ByteArray) (1, 200) (0, 0) false 0 2)) (stitch_form.mk (⟨#[]⟩ : ByteArray) (1, 200) (0, 0) false 0 2)) rfl
  have S := S.learn (fRep r_stitch_form (gv_stitch_form (stitch_form.mk (⟨#[111]⟩ : ByteArray) (1, 200) (0, 0) true 2 0)) (stitch_form.mk (⟨#[111]⟩ : ByteArray) (1, 200) (0, 0) true 2 0)) rfl
  refine sLit (r := r_stitch_form) (T := 109) (xs := [(stitch_form.mk (⟨#[]⟩ : ByteArray) (0, 0) (0, 0) true 1 1), (stitch_form.mk (⟨#[]⟩ : ByteArray) (0, 0) (0, 0) false 0 1), (stitch_form.mk (⟨#[102]⟩ : ByteArray) (2, 4) (0, 0) true 2 1), (stitch_form.mk (⟨#[108]⟩ : ByteArray) (2, 4) (0, 0) true 2 1), (stitch_form.mk (⟨#[109]⟩ : ByteArray) (2, 4) (0, 0) true 1 2), (stitch_form.mk (⟨#[120]⟩ : ByteArray) (1, 6) (1, 6) true 3 3), (stitch_form.mk (⟨#[121]⟩ : ByteArray) (1, 6) (1, 6) true 3 3), (stitch_form.mk (⟨#[115]⟩ : ByteArray) (0, 0) (0, 0) true 1 1), (stitch_form.mk (⟨#[]⟩ : ByteArray) (1, 200) (0, 0) false 0 2), (stitch_form.mk (⟨#[111]⟩ : ByteArray) (1, 200) (0, 0) true 2 0)]) [(0, gv_stitch_form (stitch_form.mk (⟨#[]⟩ : ByteArray) (0, 0) (0, 0) true 1 1)), (1, gv_stitch_form (stitch_form.mk (⟨#[]⟩ : ByteArray) (0, 0) (0, 0) false 0 1)), (2, gv_stitch_form (stitch_form.mk (⟨#[102]⟩ : ByteArray) (2, 4) (0, 0) true 2 1)), (3, gv_stitch_form (stitch_form.mk (⟨#[108]⟩ : ByteArray) (2, 4) (0, 0) true 2 1)), (4, gv_stitch_form (stitch_form.mk (⟨#[109]⟩ : ByteArray) (2, 4) (0, 0) true 1 2)), (5, gv_stitch_form (stitch_form.mk (⟨#[120]⟩ : ByteArray) (1, 6) (1, 6) true 3 3)), (6, gv_stitch_form (stitch_form.mk (⟨#[121]⟩ : ByteArray) (1, 6) (1, 6) true 3 3)), (7, gv_stitch_form (stitch_form.mk (⟨#[115]⟩ : ByteArray) (0, 0) (0, 0) true 1 1)), (8, gv_stitch_form (stitch_form.mk (⟨#[]⟩ : ByteArray) (1, 200) (0, 0) false 0 2)), (9, gv_stitch_form (stitch_form.mk (⟨#[111]⟩ : ByteArray) (1, 200) (0, 0) true 2 0))] 10 [gv_stitch_form (stitch_form.mk (⟨#[]⟩ : ByteArray) (0, 0) (0, 0) true 1 1), gv_stitch_form (stitch_form.mk (⟨#[]⟩ : ByteArray) (0, 0) (0, 0) false 0 1), gv_stitch_form (stitch_form.mk (⟨#[102]⟩ : ByteArray) (2, 4) (0, 0) true 2 1), gv_stitch_form (stitch_form.mk (⟨#[108]⟩ : ByteArray) (2, 4) (0, 0) true 2 1), gv_stitch_form (stitch_form.mk (⟨#[109]⟩ : ByteArray) (2, 4) (0, 0) true 1 2), gv_stitch_form (stitch_form.mk (⟨#[120]⟩ : ByteArray) (1, 6) (1, 6) true 3 3), gv_stitch_form (stitch_form.mk (⟨#[121]⟩ : ByteArray) (1, 6) (1, 6) true 3 3), gv_stitch_form (stitch_form.mk (⟨#[115]⟩ : ByteArray) (0, 0) (0, 0) true 1 1), gv_stitch_form (stitch_form.mk (⟨#[]⟩ : ByteArray) (1, 200) (0, 0) false 0 2), gv_stitch_form (stitch_form.mk (⟨#[111]⟩ : ByteArray) (1, 200) (0, 0) true 2 0)] [.string (⟨#[]⟩ : ByteArray), iv 0, iv 0, iv 0, iv 0, .bool true, iv 1, iv 1, .string (⟨#[]⟩ : ByteArray), iv 0, iv 0, iv 0, iv 0, .bool false, iv 0, iv 1, .string (⟨#[102]⟩ : ByteArray), iv 2, iv 4, iv 0, iv 0, .bool true, iv 2, iv 1, .string (⟨#[108]⟩ : ByteArray), iv 2, iv 4, iv 0, iv 0, .bool true, iv 2, iv 1, .string (⟨#[109]⟩ : ByteArray), iv 2, iv 4, iv 0, iv 0, .bool true, iv 1, iv 2, .string (⟨#[120]⟩ : ByteArray), iv 1, iv 6, iv 1, iv 6, .bool true, iv 3, iv 3, .string (⟨#[121]⟩ : ByteArray), iv 1, iv 6, iv 1, iv 6, .bool true, iv 3, iv 3, .string (⟨#[115]⟩ : ByteArray), iv 0, iv 0, iv 0, iv 0, .bool true, iv 1, iv 1, .string (⟨#[]⟩ : ByteArray), iv 1, iv 200, iv 0, iv 0, .bool false, iv 0, iv 2, .string (⟨#[111]⟩ : ByteArray), iv 1, iv 200, iv 0, iv 0, .bool true, iv 2, iv 0] (gv_stitch_form (stitch_form.mk (⟨#[]⟩ : ByteArray) (0, 0) (0, 0) false 0 0)) 72 S (wN rfl) rfl rfl Try.underlying129 rfl (by decide) (by decide) (by kernel_rfl) rfl (fun E1 w1 hE => All.cons (r_stitch_form.mono hE (S.mem.know (i := 9) (e := fRep r_stitch_form (gv_stitch_form (stitch_form.mk (⟨#[]⟩ : ByteArray) (0, 0) (0, 0) true 1 1)) (stitch_form.mk (⟨#[]⟩ : ByteArray) (0, 0) (0, 0) true 1 1)) rfl)) (All.cons (r_stitch_form.mono hE (S.mem.know (i := 8) (e := fRep r_stitch_form (gv_stitch_form (stitch_form.mk (⟨#[]⟩ : ByteArray) (0, 0) (0, 0) false 0 1)) (stitch_form.mk (⟨#[]⟩ : ByteArray) (0, 0) (0, 0) false 0 1)) rfl)) (All.cons (r_stitch_form.mono hE (S.mem.know (i := 7) (e := fRep r_stitch_form (gv_stitch_form (stitch_form.mk (⟨#[102]⟩ : ByteArray) (2, 4) (0, 0) true 2 1)) (stitch_form.mk (⟨#[102]⟩ : ByteArray) (2, 4) (0, 0) true 2 1)) rfl)) (All.cons (r_stitch_form.mono hE (S.mem.know (i := 6) (e := fRep r_stitch_form (gv_stitch_form (stitch_form.mk (⟨#[108]⟩ : ByteArray) (2, 4) (0, 0) true 2 1)) (stitch_form.mk (⟨#[108]⟩ : ByteArray) (2, 4) (0, 0) true 2 1)) rfl)) (All.cons (r_stitch_form.mono hE (S.mem.know (i := 5) (e := fRep r_stitch_form (gv_stitch_form (stitch_form.mk (⟨#[109]⟩ : ByteArray) (2, 4) (0, 0) true 1 2)) (stitch_form.mk (⟨#[109]⟩ : ByteArray) (2, 4) (0, 0) true 1 2)) rfl)) (All.cons (r_stitch_form.mono hE (S.mem.know (i := 4) (e := fRep r_stitch_form (gv_stitch_form (stitch_form.mk (⟨#[120]⟩ : ByteArray) (1, 6) (1, 6) true 3 3)) (stitch_form.mk (⟨#[120]⟩ : ByteArray) (1, 6) (1, 6) true 3 3)) rfl)) (All.cons (r_stitch_form.mono hE (S.mem.know (i := 3) (e := fRep r_stitch_form (gv_stitch_form (stitch_form.mk (⟨#[121]⟩ : ByteArray) (1, 6) (1, 6) true 3 3)) (stitch_form.mk (⟨#[121]⟩ : ByteArray) (1, 6) (1, 6) true 3 3)) rfl)) (All.cons (r_stitch_form.mono hE (S.mem.know (i := 2) (e := fRep r_stitch_form (gv_stitch_form (stitch_form.mk (⟨#[115]⟩ : ByteArray) (0, 0) (0, 0) true 1 1)) (stitch_form.mk (⟨#[115]⟩ : ByteArray) (0, 0) (0, 0) true 1 1)) rfl)) (All.cons (r_stitch_form.mono hE (S.mem.know (i := 1) (e := fRep r_stitch_form (gv_stitch_form (stitch_form.mk (⟨#[]⟩ : ByteArray) (1, 200) (0, 0) false 0 2)) (stitch_form.mk (⟨#[]⟩ : ByteArray) (1, 200) (0, 0) false 0 2)) rfl)) (All.cons (r_stitch_form.mono hE (S.mem.know (i := 0) (e := fRep r_stitch_form (gv_stitch_form (stitch_form.mk (⟨#[111]⟩ : ByteArray) (1, 200) (0, 0) true 2 0)) (stitch_form.mk (⟨#[111]⟩ : ByteArray) (1, 200) (0, 0) true 2 0)) rfl)) (All.nil _ _ _))))))))))) rfl rfl (lb rfl) fun a w ad9 cp10 S => ?_
  refine sMove (.slice ad9 [(stitch_form.mk (⟨#[]⟩ : ByteArray) (0, 0) (0, 0) true 1 1), (stitch_form.mk (⟨#[]⟩ : ByteArray) (0, 0) (0, 0) false 0 1), (stitch_form.mk (⟨#[102]⟩ : ByteArray) (2, 4) (0, 0) true 2 1), (stitch_form.mk (⟨#[108]⟩ : ByteArray) (2, 4) (0, 0) true 2 1), (stitch_form.mk (⟨#[109]⟩ : ByteArray) (2, 4) (0, 0) true 1 2), (stitch_form.mk (⟨#[120]⟩ : ByteArray) (1, 6) (1, 6) true 3 3), (stitch_form.mk (⟨#[121]⟩ : ByteArray) (1, 6) (1, 6) true 3 3), (stitch_form.mk (⟨#[115]⟩ : ByteArray) (0, 0) (0, 0) true 1 1), (stitch_form.mk (⟨#[]⟩ : ByteArray) (1, 200) (0, 0) false 0 2), (stitch_form.mk (⟨#[111]⟩ : ByteArray) (1, 200) (0, 0) true 2 0)].length cp10) S (wN rfl) (.inr rfl) rfl rfl (lb rfl) fun a S => ?_
  refine leafL (leafT (hK8 _ _ ?_))
  refine sSeq (fun K11 hK11 => ?_)
  obtain ⟨t13, h, g14⟩ := bindSome h
  refine sCut (fun a w => ∃ o12, o12 = t13 ∧ St [] E [] w0 57 a w [(0, .int .u8 p0), (2, .pointer (some ⟨b2, 0, none⟩)), (7, .slice ad9 [(stitch_form.mk (⟨#[]⟩ : ByteArray) (0, 0) (0, 0) true 1 1), (stitch_form.mk (⟨#[]⟩ : ByteArray) (0, 0) (0, 0) false 0 1), (stitch_form.mk (⟨#[102]⟩ : ByteArray) (2, 4) (0, 0) true 2 1), (stitch_form.mk (⟨#[108]⟩ : ByteArray) (2, 4) (0, 0) true 2 1), (stitch_form.mk (⟨#[109]⟩ : ByteArray) (2, 4) (0, 0) true 1 2), (stitch_form.mk (⟨#[120]⟩ : ByteArray) (1, 6) (1, 6) true 3 3), (stitch_form.mk (⟨#[121]⟩ : ByteArray) (1, 6) (1, 6) true 3 3), (stitch_form.mk (⟨#[115]⟩ : ByteArray) (0, 0) (0, 0) true 1 1), (stitch_form.mk (⟨#[]⟩ : ByteArray) (1, 200) (0, 0) false 0 2), (stitch_form.mk (⟨#[111]⟩ : ByteArray) (1, 200) (0, 0) true 2 0)].length cp10), (50, .bool o12)] [eBox b2 109 (gl_stitch_form (stitch_form.mk (⟨#[]⟩ : ByteArray) (0, 0) (0, 0) false 0 0)), eRow r_stitch_form 109 (.slice ad9 [(stitch_form.mk (⟨#[]⟩ : ByteArray) (0, 0) (0, 0) true 1 1), (stitch_form.mk (⟨#[]⟩ : ByteArray) (0, 0) (0, 0) false 0 1), (stitch_form.mk (⟨#[102]⟩ : ByteArray) (2, 4) (0, 0) true 2 1), (stitch_form.mk (⟨#[108]⟩ : ByteArray) (2, 4) (0, 0) true 2 1), (stitch_form.mk (⟨#[109]⟩ : ByteArray) (2, 4) (0, 0) true 1 2), (stitch_form.mk (⟨#[120]⟩ : ByteArray) (1, 6) (1, 6) true 3 3), (stitch_form.mk (⟨#[121]⟩ : ByteArray) (1, 6) (1, 6) true 3 3), (stitch_form.mk (⟨#[115]⟩ : ByteArray) (0, 0) (0, 0) true 1 1), (stitch_form.mk (⟨#[]⟩ : ByteArray) (1, 200) (0, 0) false 0 2), (stitch_form.mk (⟨#[111]⟩ : ByteArray) (1, 200) (0, 0) true 2 0)].length cp10) [(stitch_form.mk (⟨#[]⟩ : ByteArray) (0, 0) (0, 0) true 1 1), (stitch_form.mk (⟨#[]⟩ : ByteArray) (0, 0) (0, 0) false 0 1), (stitch_form.mk (⟨#[102]⟩ : ByteArray) (2, 4) (0, 0) true 2 1), (stitch_form.mk (⟨#[108]⟩ : ByteArray) (2, 4) (0, 0) true 2 1), (stitch_form.mk (⟨#[109]⟩ : ByteArray) (2, 4) (0, 0) true 1 2), (stitch_form.mk (⟨#[120]⟩ : ByteArray) (1, 6) (1, 6) true 3 3), (stitch_form.mk (⟨#[121]⟩ : ByteArray) (1, 6) (1, 6) true 3 3), (stitch_form.mk (⟨#[115]⟩ : ByteArray) (0, 0) (0, 0) true 1 1), (stitch_form.mk (⟨#[]⟩ : ByteArray) (1, 200) (0, 0) false 0 2), (stitch_form.mk (⟨#[111]⟩ : ByteArray) (1, 200) (0, 0) true 2 0)]] []) ?_ (fun a w hI => ?_)
  · refine sRegion ?_
    refine sMove (.int .u8 p0) S (wN rfl) (.inl rfl) rfl rfl (lb rfl) fun a S => ?_
    refine sBin (.bool (decide (p0 < 1))) S (wN rfl) rfl rfl rfl (bLt _ _ _ _ .u8 p0 1) rfl (lb rfl) fun a S => ?_
    refine sMove (.bool (decide (p0 < 1))) S (wN rfl) (.inl rfl) rfl rfl (lb rfl) fun a S => ?_
    rcases iteSome h with ⟨hc15, h⟩ | ⟨hc15, h⟩
    · refine sSkip 2 false 44 45 S rfl rfl rfl hc15 rfl (lb rfl) fun a S => ?_
      refine sSkip 2 false 44 46 S rfl rfl rfl hc15 rfl (lb rfl) fun a S => ?_
      refine sSkip 2 false 44 47 S rfl rfl rfl hc15 rfl (lb rfl) fun a S => ?_
      refine sSkip 2 false 44 48 S rfl rfl rfl hc15 rfl (lb rfl) fun a S => ?_
      refine sSkip 2 false 44 49 S rfl rfl rfl hc15 rfl (lb rfl) fun a S => ?_
      refine sPickT (.bool true) S (wN rfl) rfl rfl hc15 rfl rfl (lb rfl) fun a S => ?_
      exact leafL (leafT (⟨true, Option.some.inj h, S.fix [4, 0] [] (by decide) rfl rfl rfl⟩))
    refine sMove (.int .u8 p0) S (wG 2 false 44 rfl rfl rfl hc15) (.inl rfl) rfl rfl (lb rfl) fun a S => ?_
    refine sConv (k := .u8) (k2 := .i64) (b := p0) S (wG 2 false 44 rfl rfl rfl hc15) rfl Try.underlying5 Try.underlying3 rfl rfl (lb rfl) fun a S => ?_
    refine sMove (.slice ad9 [(stitch_form.mk (⟨#[]⟩ : ByteArray) (0, 0) (0, 0) true 1 1), (stitch_form.mk (⟨#[]⟩ : ByteArray) (0, 0) (0, 0) false 0 1), (stitch_form.mk (⟨#[102]⟩ : ByteArray) (2, 4) (0, 0) true 2 1), (stitch_form.mk (⟨#[108]⟩ : ByteArray) (2, 4) (0, 0) true 2 1), (stitch_form.mk (⟨#[109]⟩ : ByteArray) (2, 4) (0, 0) true 1 2), (stitch_form.mk (⟨#[120]⟩ : ByteArray) (1, 6) (1, 6) true 3 3), (stitch_form.mk (⟨#[121]⟩ : ByteArray) (1, 6) (1, 6) true 3 3), (stitch_form.mk (⟨#[115]⟩ : ByteArray) (0, 0) (0, 0) true 1 1), (stitch_form.mk (⟨#[]⟩ : ByteArray) (1, 200) (0, 0) false 0 2), (stitch_form.mk (⟨#[111]⟩ : ByteArray) (1, 200) (0, 0) true 2 0)].length cp10) S (wG 2 false 44 rfl rfl rfl hc15) (.inl rfl) rfl rfl (lb rfl) fun a S => ?_
    refine sLen (ad := ad9) (m := [(stitch_form.mk (⟨#[]⟩ : ByteArray) (0, 0) (0, 0) true 1 1), (stitch_form.mk (⟨#[]⟩ : ByteArray) (0, 0) (0, 0) false 0 1), (stitch_form.mk (⟨#[102]⟩ : ByteArray) (2, 4) (0, 0) true 2 1), (stitch_form.mk (⟨#[108]⟩ : ByteArray) (2, 4) (0, 0) true 2 1), (stitch_form.mk (⟨#[109]⟩ : ByteArray) (2, 4) (0, 0) true 1 2), (stitch_form.mk (⟨#[120]⟩ : ByteArray) (1, 6) (1, 6) true 3 3), (stitch_form.mk (⟨#[121]⟩ : ByteArray) (1, 6) (1, 6) true 3 3), (stitch_form.mk (⟨#[115]⟩ : ByteArray) (0, 0) (0, 0) true 1 1), (stitch_form.mk (⟨#[]⟩ : ByteArray) (1, 200) (0, 0) false 0 2), (stitch_form.mk (⟨#[111]⟩ : ByteArray) (1, 200) (0, 0) true 2 0)].length) (c := cp10) S (wG 2 false 44 rfl rfl rfl hc15) rfl Try.underlying129 rfl rfl (lb rfl) fun a S => ?_
    refine sBin (.bool (decide (([(stitch_form.mk (⟨#[]⟩ : ByteArray) (0, 0) (0, 0) true 1 1), (stitch_form.mk (⟨#[]⟩ : ByteArray) (0, 0) (0, 0) false 0 1), (stitch_form.mk (⟨#[102]⟩ : ByteArray) (2, 4) (0, 0) true 2 1), (stitch_form.mk (⟨#[108]⟩ : ByteArray) (2, 4) (0, 0) true 2 1), (stitch_form.mk (⟨#[109]⟩ : ByteArray) (2, 4) (0, 0) true 1 2), (stitch_form.mk (⟨#[120]⟩ : ByteArray) (1, 6) (1, 6) true 3 3), (stitch_form.mk (⟨#[121]⟩ : ByteArray) (1, 6) (1, 6) true 3 3), (stitch_form.mk (⟨#[115]⟩ : ByteArray) (0, 0) (0, 0) true 1 1), (stitch_form.mk (⟨#[]⟩ : ByteArray) (1, 200) (0, 0) false 0 2), (stitch_form.mk (⟨#[111]⟩ : ByteArray) (1, 200) (0, 0) true 2 0)].length : Int) < (IntKind.i64.wrap p0)))) S (wG 2 false 44 rfl rfl rfl hc15) rfl rfl rfl (bGt _ _ _ _ .i64 (IntKind.i64.wrap p0) ([(stitch_form.mk (⟨#[]⟩ : ByteArray) (0, 0) (0, 0) true 1 1), (stitch_form.mk (⟨#[]⟩ : ByteArray) (0, 0) (0, 0) false 0 1), (stitch_form.mk (⟨#[102]⟩ : ByteArray) (2, 4) (0, 0) true 2 1), (stitch_form.mk (⟨#[108]⟩ : ByteArray) (2, 4) (0, 0) true 2 1), (stitch_form.mk (⟨#[109]⟩ : ByteArray) (2, 4) (0, 0) true 1 2), (stitch_form.mk (⟨#[120]⟩ : ByteArray) (1, 6) (1, 6) true 3 3), (stitch_form.mk (⟨#[121]⟩ : ByteArray) (1, 6) (1, 6) true 3 3), (stitch_form.mk (⟨#[115]⟩ : ByteArray) (0, 0) (0, 0) true 1 1), (stitch_form.mk (⟨#[]⟩ : ByteArray) (1, 200) (0, 0) false 0 2), (stitch_form.mk (⟨#[111]⟩ : ByteArray) (1, 200) (0, 0) true 2 0)].length : Int)) rfl (lb rfl) fun a S => ?_
    refine sPickF (.bool (decide (([(stitch_form.mk (⟨#[]⟩ : ByteArray) (0, 0) (0, 0) true 1 1), (stitch_form.mk (⟨#[]⟩ : ByteArray) (0, 0) (0, 0) false 0 1), (stitch_form.mk (⟨#[102]⟩ : ByteArray) (2, 4) (0, 0) true 2 1), (stitch_form.mk (⟨#[108]⟩ : ByteArray) (2, 4) (0, 0) true 2 1), (stitch_form.mk (⟨#[109]⟩ : ByteArray) (2, 4) (0, 0) true 1 2), (stitch_form.mk (⟨#[120]⟩ : ByteArray) (1, 6) (1, 6) true 3 3), (stitch_form.mk (⟨#[121]⟩ : ByteArray) (1, 6) (1, 6) true 3 3), (stitch_form.mk (⟨#[115]⟩ : ByteArray) (0, 0) (0, 0) true 1 1), (stitch_form.mk (⟨#[]⟩ : ByteArray) (1, 200) (0, 0) false 0 2), (stitch_form.mk (⟨#[111]⟩ : ByteArray) (1, 200) (0, 0) true 2 0)].length : Int) < (IntKind.i64.wrap p0)))) S (wN rfl) rfl rfl hc15 rfl rfl (lb rfl) fun a S => ?_
    exact leafL (leafT (⟨decide (([(stitch_form.mk (⟨#[]⟩ : ByteArray) (0, 0) (0, 0) true 1 1), (stitch_form.mk (⟨#[]⟩ : ByteArray) (0, 0) (0, 0) false 0 1), (stitch_form.mk (⟨#[102]⟩ : ByteArray) (2, 4) (0, 0) true 2 1), (stitch_form.mk (⟨#[108]⟩ : ByteArray) (2, 4) (0, 0) true 2 1), (stitch_form.mk (⟨#[109]⟩ : ByteArray) (2, 4) (0, 0) true 1 2), (stitch_form.mk (⟨#[120]⟩ : ByteArray) (1, 6) (1, 6) true 3 3), (stitch_form.mk (⟨#[121]⟩ : ByteArray) (1, 6) (1, 6) true 3 3), (stitch_form.mk (⟨#[115]⟩ : ByteArray) (0, 0) (0, 0) true 1 1), (stitch_form.mk (⟨#[]⟩ : ByteArray) (1, 200) (0, 0) false 0 2), (stitch_form.mk (⟨#[111]⟩ : ByteArray) (1, 200) (0, 0) true 2 0)].length : Int) < (IntKind.i64.wrap p0)), Option.some.inj h, S.fix [4, 0] [] (by decide) rfl rfl rfl⟩))
  obtain ⟨o12, rfl, S⟩ := hI
  have h := g14
  clear g14
  try dsimp only at h
  rcases iteSome h with ⟨hc16, h⟩ | ⟨hc16, h⟩
  · refine sCondT S rfl hc16 ?_
    refine sSeq (fun K17 hK17 => ?_)
    refine sRegion ?_
    refine sBuild [] (gl_stitch_form (stitch_form.mk (⟨#[]⟩ : ByteArray) (0, 0) (0, 0) false 0 0)) S (wN rfl) rfl rfl rfl rfl (lb rfl) fun a S => ?_
    refine sStore (p := b2) (off := 0) (T := 109) (vs := [.string (⟨#[]⟩ : ByteArray), iv 0, iv 0, iv 0, iv 0, .bool false, iv 0, iv 0]) (v := gv_stitch_form (stitch_form.mk (⟨#[]⟩ : ByteArray) (0, 0) (0, 0) false 0 0)) 0 [.string (⟨#[]⟩ : ByteArray), iv 0, iv 0, iv 0, iv 0, .bool false, iv 0, iv 0] S (wN rfl) rfl rfl rfl rfl rfl rfl rfl (by simp) rfl fun a w S => ?_
    refine sMove (.bool false) S (wN rfl) (.inr rfl) rfl rfl (lb rfl) fun a S => ?_
    refine leafL (leafT (hK17 _ _ ?_))
    obtain rfl := Option.some.inj h
    have S := S.learn (fRep r_stitch_form (gv_stitch_form (stitch_form.mk (⟨#[]⟩ : ByteArray) (0, 0) (0, 0) false 0 0)) (stitch_form.mk (⟨#[]⟩ : ByteArray) (0, 0) (0, 0) false 0 0)) rfl
    exact wp_ret (rThen (sRet (.tuple #[gv_stitch_form (stitch_form.mk (⟨#[]⟩ : ByteArray) (0, 0) (0, 0) false 0 0), .bool false]) S (rsl2 rfl (rvN (c := 2) (t := 109) (T := 109) (p := b2) 0 [.string (⟨#[]⟩ : ByteArray), iv 0, iv 0, iv 0, iv 0, .bool false, iv 0, iv 0] S rfl rfl rfl rfl) (rvT (t := 3) (v := .bool false) S rfl)) ⟨(gv_stitch_form (stitch_form.mk (⟨#[]⟩ : ByteArray) (0, 0) (0, 0) false 0 0)), rfl, S.mem.sel [] [0] (by decide) rfl rfl⟩))
  refine sCondF S rfl hc16 ?_
  refine wp_skip (leafT (hK11 _ _ ?_))
  refine sSeq (fun K18 hK18 => ?_)
  refine sRegion ?_
  refine sMove (.slice ad9 [(stitch_form.mk (⟨#[]⟩ : ByteArray) (0, 0) (0, 0) true 1 1), (stitch_form.mk (⟨#[]⟩ : ByteArray) (0, 0) (0, 0) false 0 1), (stitch_form.mk (⟨#[102]⟩ : ByteArray) (2, 4) (0, 0) true 2 1), (stitch_form.mk (⟨#[108]⟩ : ByteArray) (2, 4) (0, 0) true 2 1), (stitch_form.mk (⟨#[109]⟩ : ByteArray) (2, 4) (0, 0) true 1 2), (stitch_form.mk (⟨#[120]⟩ : ByteArray) (1, 6) (1, 6) true 3 3), (stitch_form.mk (⟨#[121]⟩ : ByteArray) (1, 6) (1, 6) true 3 3), (stitch_form.mk (⟨#[115]⟩ : ByteArray) (0, 0) (0, 0) true 1 1), (stitch_form.mk (⟨#[]⟩ : ByteArray) (1, 200) (0, 0) false 0 2), (stitch_form.mk (⟨#[111]⟩ : ByteArray) (1, 200) (0, 0) true 2 0)].length cp10) S (wN rfl) (.inl rfl) rfl rfl (lb rfl) fun a S => ?_
  refine sMove (.int .u8 p0) S (wN rfl) (.inl rfl) rfl rfl (lb rfl) fun a S => ?_
  refine sBin (.int .u8 (IntKind.u8.wrap (p0 - 1))) S (wN rfl) rfl rfl rfl (bSubK _ _ _ _ .u8 p0 1) rfl (lb rfl) fun a S => ?_
  obtain ⟨x19, hx20, h⟩ := bindSome h
  have S := S.shutR (r := r_stitch_form) (T := 109) (v := .slice ad9 [(stitch_form.mk (⟨#[]⟩ : ByteArray) (0, 0) (0, 0) true 1 1), (stitch_form.mk (⟨#[]⟩ : ByteArray) (0, 0) (0, 0) false 0 1), (stitch_form.mk (⟨#[102]⟩ : ByteArray) (2, 4) (0, 0) true 2 1), (stitch_form.mk (⟨#[108]⟩ : ByteArray) (2, 4) (0, 0) true 2 1), (stitch_form.mk (⟨#[109]⟩ : ByteArray) (2, 4) (0, 0) true 1 2), (stitch_form.mk (⟨#[120]⟩ : ByteArray) (1, 6) (1, 6) true 3 3), (stitch_form.mk (⟨#[121]⟩ : ByteArray) (1, 6) (1, 6) true 3 3), (stitch_form.mk (⟨#[115]⟩ : ByteArray) (0, 0) (0, 0) true 1 1), (stitch_form.mk (⟨#[]⟩ : ByteArray) (1, 200) (0, 0) false 0 2), (stitch_form.mk (⟨#[111]⟩ : ByteArray) (1, 200) (0, 0) true 2 0)].length cp10) (xs := [(stitch_form.mk (⟨#[]⟩ : ByteArray) (0, 0) (0, 0) true 1 1), (stitch_form.mk (⟨#[]⟩ : ByteArray) (0, 0) (0, 0) false 0 1), (stitch_form.mk (⟨#[102]⟩ : ByteArray) (2, 4) (0, 0) true 2 1), (stitch_form.mk (⟨#[108]⟩ : ByteArray) (2, 4) (0, 0) true 2 1), (stitch_form.mk (⟨#[109]⟩ : ByteArray) (2, 4) (0, 0) true 1 2), (stitch_form.mk (⟨#[120]⟩ : ByteArray) (1, 6) (1, 6) true 3 3), (stitch_form.mk (⟨#[121]⟩ : ByteArray) (1, 6) (1, 6) true 3 3), (stitch_form.mk (⟨#[115]⟩ : ByteArray) (0, 0) (0, 0) true 1 1), (stitch_form.mk (⟨#[]⟩ : ByteArray) (1, 200) (0, 0) false 0 2), (stitch_form.mk (⟨#[111]⟩ : ByteArray) (1, 200) (0, 0) true 2 0)]) 1 rfl
  obtain ⟨q21, hq22, S⟩ := pIdx (P := Try.prog) (r := r_stitch_form) (v := .slice ad9 [(stitch_form.mk (⟨#[]⟩ : ByteArray) (0, 0) (0, 0) true 1 1), (stitch_form.mk (⟨#[]⟩ : ByteArray) (0, 0) (0, 0) false 0 1), (stitch_form.mk (⟨#[102]⟩ : ByteArray) (2, 4) (0, 0) true 2 1), (stitch_form.mk (⟨#[108]⟩ : ByteArray) (2, 4) (0, 0) true 2 1), (stitch_form.mk (⟨#[109]⟩ : ByteArray) (2, 4) (0, 0) true 1 2), (stitch_form.mk (⟨#[120]⟩ : ByteArray) (1, 6) (1, 6) true 3 3), (stitch_form.mk (⟨#[121]⟩ : ByteArray) (1, 6) (1, 6) true 3 3), (stitch_form.mk (⟨#[115]⟩ : ByteArray) (0, 0) (0, 0) true 1 1), (stitch_form.mk (⟨#[]⟩ : ByteArray) (1, 200) (0, 0) false 0 2), (stitch_form.mk (⟨#[111]⟩ : ByteArray) (1, 200) (0, 0) true 2 0)].length cp10) (xs := [(stitch_form.mk (⟨#[]⟩ : ByteArray) (0, 0) (0, 0) true 1 1), (stitch_form.mk (⟨#[]⟩ : ByteArray) (0, 0) (0, 0) false 0 1), (stitch_form.mk (⟨#[102]⟩ : ByteArray) (2, 4) (0, 0) true 2 1), (stitch_form.mk (⟨#[108]⟩ : ByteArray) (2, 4) (0, 0) true 2 1), (stitch_form.mk (⟨#[109]⟩ : ByteArray) (2, 4) (0, 0) true 1 2), (stitch_form.mk (⟨#[120]⟩ : ByteArray) (1, 6) (1, 6) true 3 3), (stitch_form.mk (⟨#[121]⟩ : ByteArray) (1, 6) (1, 6) true 3 3), (stitch_form.mk (⟨#[115]⟩ : ByteArray) (0, 0) (0, 0) true 1 1), (stitch_form.mk (⟨#[]⟩ : ByteArray) (1, 200) (0, 0) false 0 2), (stitch_form.mk (⟨#[111]⟩ : ByteArray) (1, 200) (0, 0) true 2 0)]) (j := IntKind.u8.wrap (p0 - 1)) 129 109 0 S Try.underlying129 rfl rfl hx20
  refine sIdxV (v := .slice ad9 [(stitch_form.mk (⟨#[]⟩ : ByteArray) (0, 0) (0, 0) true 1 1), (stitch_form.mk (⟨#[]⟩ : ByteArray) (0, 0) (0, 0) false 0 1), (stitch_form.mk (⟨#[102]⟩ : ByteArray) (2, 4) (0, 0) true 2 1), (stitch_form.mk (⟨#[108]⟩ : ByteArray) (2, 4) (0, 0) true 2 1), (stitch_form.mk (⟨#[109]⟩ : ByteArray) (2, 4) (0, 0) true 1 2), (stitch_form.mk (⟨#[120]⟩ : ByteArray) (1, 6) (1, 6) true 3 3), (stitch_form.mk (⟨#[121]⟩ : ByteArray) (1, 6) (1, 6) true 3 3), (stitch_form.mk (⟨#[115]⟩ : ByteArray) (0, 0) (0, 0) true 1 1), (stitch_form.mk (⟨#[]⟩ : ByteArray) (1, 200) (0, 0) false 0 2), (stitch_form.mk (⟨#[111]⟩ : ByteArray) (1, 200) (0, 0) true 2 0)].length cp10) (k := .u8) (j := IntKind.u8.wrap (p0 - 1)) S (wN rfl) rfl rfl rfl hq22 rfl (lb rfl) fun a S => ?_
  obtain ⟨u23, S⟩ := pLoad (r := r_stitch_form) (q := q21) (x := x19) 0 S rfl
  obtain rfl : u23 = gv_stitch_form x19 := S.mem.know (i := 1) (e := fRep r_stitch_form (u23) x19) rfl
  refine sLoadVN (vq := q21) 0 [.string x19.letter, iv x19.a.1, iv x19.a.2, iv x19.b.1, iv x19.b.2, .bool x19.sided, iv x19.uses, iv x19.made] S (wN rfl) rfl rfl rfl rfl rfl rfl (lb rfl) fun a S => ?_
  refine sStore (p := b2) (off := 0) (T := 109) (vs := [.string (⟨#[]⟩ : ByteArray), iv 0, iv 0, iv 0, iv 0, .bool false, iv 0, iv 0]) (v := gv_stitch_form x19) 0 [.string x19.letter, iv x19.a.1, iv x19.a.2, iv x19.b.1, iv x19.b.2, .bool x19.sided, iv x19.uses, iv x19.made] S (wN rfl) rfl rfl rfl rfl rfl rfl rfl (by simp) rfl fun a w S => ?_
  refine sMove (.bool true) S (wN rfl) (.inr rfl) rfl rfl (lb rfl) fun a S => ?_
  refine leafL (leafT (hK18 _ _ ?_))
  obtain rfl := Option.some.inj h
  exact wp_ret (sRet (.tuple #[gv_stitch_form x19, .bool true]) S (rsl2 rfl (rvN (c := 2) (t := 109) (T := 109) (p := b2) 0 [.string x19.letter, iv x19.a.1, iv x19.a.2, iv x19.b.1, iv x19.b.2, .bool x19.sided, iv x19.uses, iv x19.made] S rfl rfl rfl rfl) (rvT (t := 3) (v := .bool true) S rfl)) ⟨(gv_stitch_form x19), rfl, S.mem.sel [] [1] (by decide) rfl rfl⟩)

end Go.Proofs.Ytmedbnjhgkcndaa
namespace Go.Proofs.Ytmedbnjhgkcndaa
open Go.RowKit
set_option linter.unusedVariables false

noncomputable def F_stitch_within (p0 : Int) (p1 : (Int × Int)) : Option Bool :=
  Option.bind (α := Bool) (
    if decide (p1.1 ≤ p0) then
      some (decide (p0 ≤ p1.2))
    else
      some false) fun o3 =>
  some o3
set_option maxHeartbeats 4000000 in
set_option maxRecDepth 100000 in
theorem c_stitch_within (E : Nat → Prop) (w0 : World) (p0 : Int) (p1 : (Int × Int)) (v1 : Value) (r : Bool) (h : F_stitch_within p0 p1 = some r) (S : St0 E [] w0 w0 [] [fRep r_A2_Int (v1) p1]) :
    Calls Try.prog 75 #[iv p0, v1] w0 (Ret (X := Unit) E [] w0 (fun _ => .bool r) (fun _ => []) (fun _ => [])) := by
  unfold F_stitch_within at h
  obtain rfl : v1 = .agg #[iv p1.1, iv p1.2] := S.know (i := 0) (e := fRep r_A2_Int (v1) p1) rfl
  refine sEnter (args := [iv p0, .agg #[iv p1.1, iv p1.2]]) 15 Try.func75 rfl rfl (by simp) S (fun a S => ?_)
  refine sSeq (fun K1 hK1 => ?_)
  refine sRegion ?_
  refine sBox (v := .agg #[iv p1.1, iv p1.2]) S (wN rfl) rfl rfl [iv p1.1, iv p1.2] rfl rfl (lb rfl) fun a b2 w S => ?_
  refine sMove (.bool false) S (wN rfl) (.inr rfl) rfl rfl (lb rfl) fun a S => ?_
  refine leafL (leafT (hK1 _ _ ?_))
  obtain ⟨t4, h, g5⟩ := bindSome h
  refine sCut (fun a w => ∃ o3, o3 = t4 ∧ St [] E [] w0 15 a w [(4, .bool o3)] [] []) ?_ (fun a w hI => ?_)
  rotate_left
  · obtain ⟨o3, rfl, S⟩ := hI
    have h := g5
    clear g5
    try dsimp only at h
    obtain rfl := Option.some.inj h
    exact wp_ret (sRet (.bool o3) S (rsl1 rfl (rvT (t := 4) (v := .bool o3) S rfl)) ⟨(), rfl, S.mem.sel [] [] (by decide) rfl rfl⟩)
  refine sRegion ?_
  refine sMove (iv p0) S (wN rfl) (.inl rfl) rfl rfl (lb rfl) fun a S => ?_
  refine sIdxV (v := .pointer (some ⟨b2, 0, none⟩)) (k := .i64) (j := 0) (q := .pointer (some ⟨b2, 0, none⟩)) S (wN rfl) rfl rfl rfl (idxV_arr (m := 2) (sz := 1) Try.underlying53 rfl (by decide) (by decide) 0) rfl (lb rfl) fun a S => ?_
  refine sLoad1 (p := b2) (off := 0) (T := 53) (vs := [iv p1.1, iv p1.2]) 0 (iv p1.1) S (wN rfl) rfl rfl rfl rfl rfl rfl (lb rfl) fun a S => ?_
  refine sBin (.bool (decide (p1.1 ≤ p0))) S (wN rfl) rfl rfl rfl (bGe _ _ _ _ .i64 p0 p1.1) rfl (lb rfl) fun a S => ?_
  refine sMove (.bool (decide (p1.1 ≤ p0))) S (wN rfl) (.inl rfl) rfl rfl (lb rfl) fun a S => ?_
  rcases iteSome h with ⟨hc6, h⟩ | ⟨hc6, h⟩
  rotate_left
  · refine sSkip 4 true 9 10 S rfl rfl rfl hc6 rfl (lb rfl) fun a S => ?_
    refine sSkip 4 true 9 11 S rfl rfl rfl hc6 rfl (lb rfl) fun a S => ?_
    refine sSkip 4 true 9 12 S rfl rfl rfl hc6 rfl (lb rfl) fun a S => ?_
    refine sSkip 4 true 9 13 S rfl rfl rfl hc6 rfl (lb rfl) fun a S => ?_
    refine sPickF (.bool false) S (wN rfl) rfl rfl hc6 rfl rfl (lb rfl) fun a S => ?_
    refine sMove (.bool false) S (wN rfl) (.inr rfl) rfl rfl (lb rfl) fun a S => ?_
    exact leafL (leafT (⟨false, Option.some.inj h, S.fix [] [] (by decide) rfl rfl rfl⟩))
  refine sMove (iv p0) S (wG 4 true 9 rfl rfl rfl hc6) (.inl rfl) rfl rfl (lb rfl) fun a S => ?_
  refine sIdxV (v := .pointer (some ⟨b2, 0, none⟩)) (k := .i64) (j := 1) (q := .pointer (some ⟨b2, 1, none⟩)) S (wG 4 true 9 rfl rfl rfl hc6) rfl rfl rfl (idxV_arr (m := 2) (sz := 1) Try.underlying53 rfl (by decide) (by decide) 0) rfl (lb rfl) fun a S => ?_
  refine sLoad1 (p := b2) (off := 1) (T := 53) (vs := [iv p1.1, iv p1.2]) 0 (iv p1.2) S (wG 4 true 9 rfl rfl rfl hc6) rfl rfl rfl rfl rfl rfl (lb rfl) fun a S => ?_
  refine sBin (.bool (decide (p0 ≤ p1.2))) S (wG 4 true 9 rfl rfl rfl hc6) rfl rfl rfl (bLe _ _ _ _ .i64 p0 p1.2) rfl (lb rfl) fun a S => ?_
  refine sPickT (.bool (decide (p0 ≤ p1.2))) S (wN rfl) rfl rfl hc6 rfl rfl (lb rfl) fun a S => ?_
  refine sMove (.bool (decide (p0 ≤ p1.2))) S (wN rfl) (.inr rfl) rfl rfl (lb rfl) fun a S => ?_
  exact leafL (leafT (⟨decide (p0 ≤ p1.2), Option.some.inj h, S.fix [] [] (by decide) rfl rfl rfl⟩))

end Go.Proofs.Ytmedbnjhgkcndaa
