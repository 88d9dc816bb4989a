/- Several texts in one: G26 G37 G36 G28 G59 G60 G62s0 G61s1 G76i0 G29 G38 G30 G5 PlIx PlSp PlSb G8 LBR LBRv FrBlockReads -/
import Derived.WalkKit
import Derived.Maps.AppendAt
import Derived.Deep.AppendLies
import Derived.KernelRfl
import Derived.Laws.OwnMore
import Derived.Great.BuildSlice
import Derived.Orders
import Derived.Laws.StructEq
import Derived.ChangeKeysEq
import Derived.Defers
import Derived.Laws.BytesString
import Derived.RangeFuncNested
import Derived.RangeFuncBound
import Derived.RangeFuncCalls
import Derived.RangeFuncLeaves
import Derived.OrdersIn
import Derived.LoopNIn
import Derived.ArgAppend
import Derived.Test.YthfifeabomdlpaaProg
import Derived.ProofKit
import Derived.OpenShut
import Derived.ChangeOld
import Derived.Deep.Slices
import Derived.Lib.SmallJoins
import Derived.JoinedOf
import Derived.JoinedAt
import Derived.Below
import Derived.Test.YthfifeabomdlpaaRows
import Derived.Test.YthfifeabomdlpaaMBlockReads3
namespace Go.Proofs.Ythfifeabomdlpaa
open Go.RowKit
set_option linter.unusedVariables false

noncomputable def raddleref13_Great_l1 (p0 : (List (List Int))) : Int → Option (Int ⊕ (Bool ⊕ Unit)) := fun s0 => match s0 with
  | s7 =>
    if decide (s7 < (p0.length : Int)) then
      Option.bind (idxO p0 s7) fun x16 =>
      Option.bind (F_raddleref02_Great x16) fun r23 =>
      if r23 then
        some (.inr (.inl true))
      else
        some (.inl (w64 (s7 + 1)))
    else
      some (.inr (.inr ()))
noncomputable def F_raddleref13_Great (p0 : (List (List Int))) : Option Bool :=
  Option.bind (α := Unit ⊕ Bool) (
    Option.bind (whileO (raddleref13_Great_l1 p0) 0) fun z0 => match z0 with
      | .inl z =>
        some (.inr z)
      | .inr _ =>
        some (.inl ())) fun z0 => match z0 with
    | .inl _ =>
      Option.bind (α := Bool) (
        if decide (20 < (p0.length : Int)) then
          if decide ((p0.length : Int) ≤ 400) then
            some true
          else
            some (decide (410 < (p0.length : Int)))
        else
          some (decide (410 < (p0.length : Int)))) fun o27 =>
      some o27
    | .inr z =>
      some z
set_option maxHeartbeats 4000000 in
set_option maxRecDepth 100000 in
theorem c_raddleref13_Great (E : Nat → Prop) (w0 : World) (p0 : (List (List Int))) (v0 : Value) (r : Bool) (h : F_raddleref13_Great p0 = some r) (S : St0 E [] w0 w0 [] [fRep (rL (rL (rI .i64))) (v0) p0]) :
    Calls Try.prog 26 #[v0] w0 (Ret (X := Unit) E [] w0 (fun _ => .bool r) (fun _ => []) (fun _ => [])) := by
  unfold F_raddleref13_Great at h
  obtain ⟨ad1, cp2, _, rfl, _⟩ := S.know (i := 0) (e := fRep (rL (rL (rI .i64))) (v0) p0) rfl
  refine sEnter (args := [.slice ad1 p0.length cp2]) 28 Try.func26 rfl rfl (by simp) S (fun a S => ?_)
  refine sSeq (fun K3 hK3 => ?_)
  refine sRegion ?_
  refine sMove (.bool false) S (wN rfl) (.inr rfl) rfl rfl (lb rfl) fun a S => ?_
  refine leafL (leafT (hK3 _ _ ?_))
  obtain ⟨t4, h, g5⟩ := bindSome h
  refine sCut (fun a w => .inl () = t4 ∧ St [] E [] w0 28 a w [(0, .slice ad1 p0.length cp2)] [] [fRep (rL (rL (rI .i64))) (.slice ad1 p0.length cp2) p0]) ?_ (fun a w hI => ?_)
  · refine sSeq (fun K6 hK6 => ?_)
    refine sRegion ?_
    refine sMove (iv 0) S (wN rfl) (.inr rfl) rfl rfl (lb rfl) fun a S => ?_
    refine leafL (leafT (hK6 _ _ ?_))
    refine wp_block ?_
    obtain ⟨t10, hl, g9⟩ := bindSome h
    refine sLoop hl (fun s0 a w => match s0 with | s7 => St [] E [] w0 28 a w [(0, .slice ad1 p0.length cp2), (3, iv s7)] [] [fRep (rL (rL (rI .i64))) (.slice ad1 p0.length cp2) p0]) (S.fix [] [0] (by decide) rfl rfl rfl) ?_
    clear hl h
    intro s7 a w c0 hI h hu8
    unfold raddleref13_Great_l1 at h
    dsimp only at h hI
    have S := hI
    refine sSeq (fun K11 hK11 => ?_)
    refine sSeq (fun K12 hK12 => ?_)
    refine sRegion ?_
    refine sMove (iv s7) S (wN rfl) (.inl rfl) rfl rfl (lb rfl) fun a S => ?_
    refine sMove (.slice ad1 p0.length cp2) S (wN rfl) (.inl rfl) rfl rfl (lb rfl) fun a S => ?_
    refine sLen (ad := ad1) (m := p0.length) (c := cp2) S (wN rfl) rfl Try.underlying46 rfl rfl (lb rfl) fun a S => ?_
    refine sBin (.bool (decide (s7 < (p0.length : Int)))) S (wN rfl) rfl rfl rfl (bLt _ _ _ _ .i64 s7 (p0.length : Int)) rfl (lb rfl) fun a S => ?_
    refine leafL (leafT (hK12 _ _ ?_))
    rcases iteSome h with ⟨hc13, h⟩ | ⟨hc13, h⟩
    rotate_left
    · refine sCondF S rfl hc13 ?_
      obtain rfl := Option.some.inj h
      obtain rfl := hu8 _ rfl
      have h := g9
      clear g9
      try dsimp only at h
      exact wp_exit (xThen (xThen (xHit (leafT (⟨Option.some.inj h, S.fix [] [0] (by decide) rfl rfl rfl⟩)))))
    refine sCondT S rfl hc13 ?_
    refine wp_skip (leafT (hK11 _ _ ?_))
    refine sSeq (fun K14 hK14 => ?_)
    refine wp_block ?_
    refine sSeq (fun K15 hK15 => ?_)
    refine sRegion ?_
    refine sMove (.slice ad1 p0.length cp2) S (wN rfl) (.inl rfl) rfl rfl (lb rfl) fun a S => ?_
    refine sMove (iv s7) S (wN rfl) (.inl rfl) rfl rfl (lb rfl) fun a S => ?_
    obtain ⟨x16, hx17, h⟩ := bindSome h
    obtain ⟨q18, hq19, S⟩ := pIdx (P := Try.prog) (r := (rL (rI .i64))) (v := .slice ad1 p0.length cp2) (xs := p0) (j := s7) 46 35 0 S Try.underlying46 rfl rfl hx17
    refine sIdxV (v := .slice ad1 p0.length cp2) (k := .i64) (j := s7) S (wN rfl) rfl rfl rfl hq19 rfl (lb rfl) fun a S => ?_
    obtain ⟨u20, S⟩ := pLoad (r := (rL (rI .i64))) (q := q18) (x := x16) 0 S rfl
    obtain ⟨ad21, cp22, _, rfl, _⟩ := S.mem.know (i := 1) (e := fRep (rL (rI .i64)) (u20) x16) rfl
    refine sLoadV1 (vq := q18) 0 (.slice ad21 x16.length cp22) S (wN rfl) rfl rfl rfl rfl rfl (lb rfl) fun a S => ?_
    obtain ⟨r23, hx24, h⟩ := bindSome h
    have S1 := S.mem
    refine sCallQ (X := Unit) (f := 25) (vs := [.slice ad21 x16.length cp22]) (val := fun _ => .bool r23) S (wN rfl) rfl callee25 rfl (S1.quiet [1] rfl) (fun E1 w1 S1 => c_raddleref02_Great E1 w1 x16 (.slice ad21 x16.length cp22) r23 hx24 S1) rfl (lb rfl) fun _ a w S => ?_
    refine leafL (leafT (hK15 _ _ ?_))
    rcases iteSome h with ⟨hc25, h⟩ | ⟨hc25, h⟩
    rotate_left
    · refine sCondF S rfl hc25 ?_
      refine wp_skip (leafB (leafT (hK14 _ _ ?_)))
      refine sRegion ?_
      refine sMove (iv s7) S (wN rfl) (.inl rfl) rfl rfl (lb rfl) fun a S => ?_
      refine sBin (iv (w64 (s7 + 1))) S (wN rfl) rfl rfl rfl (bAdd _ _ _ _ s7 1) rfl (lb rfl) fun a S => ?_
      refine sMove (iv (w64 (s7 + 1))) S (wN rfl) (.inr rfl) rfl rfl (lb rfl) fun a S => ?_
      exact leafL (leafT (⟨w64 (s7 + 1), (Option.some.inj h).symm, (S.fix [] [3] (by decide) rfl rfl rfl)⟩))
    refine sCondT S rfl hc25 ?_
    refine sSeq (fun K26 hK26 => ?_)
    refine sRegion ?_
    refine sMove (.bool true) S (wN rfl) (.inr rfl) rfl rfl (lb rfl) fun a S => ?_
    refine leafL (leafT (hK26 _ _ ?_))
    obtain rfl := Option.some.inj h
    obtain rfl := hu8 _ rfl
    have h := g9
    clear g9
    try dsimp only at h
    obtain rfl := Option.some.inj h
    have h := g5
    clear g5
    try dsimp only at h
    obtain rfl := Option.some.inj h
    exact wp_ret (rBlock (rThen (rThen (rBlock (rThen (sRet (.bool true) S (rsl1 rfl (rvT (t := 2) (v := .bool true) S rfl)) ⟨(), rfl, S.mem.sel [] [] (by decide) rfl rfl⟩))))))
  obtain ⟨rfl, S⟩ := hI
  have h := g5
  clear g5
  try dsimp only at h
  obtain ⟨t28, h, g29⟩ := bindSome h
  refine sCut (fun a w => ∃ o27, o27 = t28 ∧ St [] E [] w0 28 a w [(2, .bool o27)] [] []) ?_ (fun a w hI => ?_)
  rotate_left
  · obtain ⟨o27, rfl, S⟩ := hI
    have h := g29
    clear g29
    try dsimp only at h
    obtain rfl := Option.some.inj h
    exact wp_ret (sRet (.bool o27) S (rsl1 rfl (rvT (t := 2) (v := .bool o27) S rfl)) ⟨(), rfl, S.mem.sel [] [] (by decide) rfl rfl⟩)
  refine sRegion ?_
  refine sMove (.slice ad1 p0.length cp2) S (wN rfl) (.inl rfl) rfl rfl (lb rfl) fun a S => ?_
  refine sLen (ad := ad1) (m := p0.length) (c := cp2) S (wN rfl) rfl Try.underlying46 rfl rfl (lb rfl) fun a S => ?_
  refine sBin (.bool (decide (20 < (p0.length : Int)))) S (wN rfl) rfl rfl rfl (bGt _ _ _ _ .i64 (p0.length : Int) 20) rfl (lb rfl) fun a S => ?_
  refine sMove (.bool (decide (20 < (p0.length : Int)))) S (wN rfl) (.inl rfl) rfl rfl (lb rfl) fun a S => ?_
  rcases iteSome h with ⟨hc30, h⟩ | ⟨hc30, h⟩
  rotate_left
  · refine sSkip 3 true 18 19 S rfl rfl rfl hc30 rfl (lb rfl) fun a S => ?_
    refine sSkip 3 true 18 20 S rfl rfl rfl hc30 rfl (lb rfl) fun a S => ?_
    refine sSkip 3 true 18 21 S rfl rfl rfl hc30 rfl (lb rfl) fun a S => ?_
    refine sPickF (.bool false) S (wN rfl) rfl rfl hc30 rfl rfl (lb rfl) fun a S => ?_
    refine sMove (.bool false) S (wN rfl) (.inl rfl) rfl rfl (lb rfl) fun a S => ?_
    refine sMove (.slice ad1 p0.length cp2) S (wG 8 false 23 rfl rfl rfl rfl) (.inl rfl) rfl rfl (lb rfl) fun a S => ?_
    refine sLen (ad := ad1) (m := p0.length) (c := cp2) S (wG 8 false 23 rfl rfl rfl rfl) rfl Try.underlying46 rfl rfl (lb rfl) fun a S => ?_
    refine sBin (.bool (decide (410 < (p0.length : Int)))) S (wG 8 false 23 rfl rfl rfl rfl) rfl rfl rfl (bGt _ _ _ _ .i64 (p0.length : Int) 410) rfl (lb rfl) fun a S => ?_
    refine sPickF (.bool (decide (410 < (p0.length : Int)))) S (wN rfl) rfl rfl rfl rfl rfl (lb rfl) fun a S => ?_
    refine sMove (.bool (decide (410 < (p0.length : Int)))) S (wN rfl) (.inr rfl) rfl rfl (lb rfl) fun a S => ?_
    exact leafL (leafT (⟨decide (410 < (p0.length : Int)), Option.some.inj h, S.fix [] [] (by decide) rfl rfl rfl⟩))
  refine sMove (.slice ad1 p0.length cp2) S (wG 3 true 18 rfl rfl rfl hc30) (.inl rfl) rfl rfl (lb rfl) fun a S => ?_
  refine sLen (ad := ad1) (m := p0.length) (c := cp2) S (wG 3 true 18 rfl rfl rfl hc30) rfl Try.underlying46 rfl rfl (lb rfl) fun a S => ?_
  refine sBin (.bool (decide ((p0.length : Int) ≤ 400))) S (wG 3 true 18 rfl rfl rfl hc30) rfl rfl rfl (bLe _ _ _ _ .i64 (p0.length : Int) 400) rfl (lb rfl) fun a S => ?_
  refine sPickT (.bool (decide ((p0.length : Int) ≤ 400))) S (wN rfl) rfl rfl hc30 rfl rfl (lb rfl) fun a S => ?_
  refine sMove (.bool (decide ((p0.length : Int) ≤ 400))) S (wN rfl) (.inl rfl) rfl rfl (lb rfl) fun a S => ?_
  rcases iteSome h with ⟨hc31, h⟩ | ⟨hc31, h⟩
  · refine sSkip 8 false 23 24 S rfl rfl rfl hc31 rfl (lb rfl) fun a S => ?_
    refine sSkip 8 false 23 25 S rfl rfl rfl hc31 rfl (lb rfl) fun a S => ?_
    refine sSkip 8 false 23 26 S rfl rfl rfl hc31 rfl (lb rfl) fun a S => ?_
    refine sPickT (.bool true) S (wN rfl) rfl rfl hc31 rfl rfl (lb rfl) fun a S => ?_
    refine sMove (.bool true) S (wN rfl) (.inr rfl) rfl rfl (lb rfl) fun a S => ?_
    exact leafL (leafT (⟨true, Option.some.inj h, S.fix [] [] (by decide) rfl rfl rfl⟩))
  refine sMove (.slice ad1 p0.length cp2) S (wG 8 false 23 rfl rfl rfl hc31) (.inl rfl) rfl rfl (lb rfl) fun a S => ?_
  refine sLen (ad := ad1) (m := p0.length) (c := cp2) S (wG 8 false 23 rfl rfl rfl hc31) rfl Try.underlying46 rfl rfl (lb rfl) fun a S => ?_
  refine sBin (.bool (decide (410 < (p0.length : Int)))) S (wG 8 false 23 rfl rfl rfl hc31) rfl rfl rfl (bGt _ _ _ _ .i64 (p0.length : Int) 410) rfl (lb rfl) fun a S => ?_
  refine sPickF (.bool (decide (410 < (p0.length : Int)))) S (wN rfl) rfl rfl hc31 rfl rfl (lb rfl) fun a S => ?_
  refine sMove (.bool (decide (410 < (p0.length : Int)))) S (wN rfl) (.inr rfl) rfl rfl (lb rfl) fun a S => ?_
  exact leafL (leafT (⟨decide (410 < (p0.length : Int)), Option.some.inj h, S.fix [] [] (by decide) rfl rfl rfl⟩))

end Go.Proofs.Ythfifeabomdlpaa
namespace Go.Proofs.Ythfifeabomdlpaa
open Go.RowKit
set_option linter.unusedVariables false

noncomputable def raddleref02_Check_l1 (p0 : (List Int)) : Int → Option (Int ⊕ (Int ⊕ Unit)) := fun s0 => match s0 with
  | s11 =>
    if decide (s11 < (p0.length : Int)) then
      Option.bind (α := Bool) (
        Option.bind (idxO p0 s11) fun x22 =>
        if decide (x22 < 0) then
          some true
        else
          some (decide (400 ≤ x22))) fun o19 =>
      if o19 then
        some (.inr (.inl 8))
      else
        some (.inl (w64 (s11 + 1)))
    else
      some (.inr (.inr ()))
noncomputable def F_raddleref02_Check (p0 : (List Int)) : Option Int :=
  if decide (400 < (p0.length : Int)) then
    some 4
  else
    Option.bind (α := Unit ⊕ Int) (
      Option.bind (whileO (raddleref02_Check_l1 p0) 0) fun z0 => match z0 with
        | .inl z =>
          some (.inr z)
        | .inr _ =>
          some (.inl ())) fun z0 => match z0 with
      | .inl _ =>
        some 0
      | .inr z =>
        some z
set_option maxHeartbeats 4000000 in
set_option maxRecDepth 100000 in
theorem c_raddleref02_Check (E : Nat → Prop) (w0 : World) (p0 : (List Int)) (v0 : Value) (r : Int) (h : F_raddleref02_Check p0 = some r) (S : St0 E [] w0 w0 [] [fRep (rL (rI .i64)) (v0) p0]) :
    Calls Try.prog 37 #[v0] w0 (Ret (X := Unit) E [] w0 (fun _ => .int .i64 r) (fun _ => []) (fun _ => [])) := by
  unfold F_raddleref02_Check at h
  obtain ⟨ad1, cp2, _, rfl, _⟩ := S.know (i := 0) (e := fRep (rL (rI .i64)) (v0) p0) rfl
  refine sEnter (args := [.slice ad1 p0.length cp2]) 25 Try.func37 rfl rfl (by simp) S (fun a S => ?_)
  refine sSeq (fun K3 hK3 => ?_)
  refine sRegion ?_
  refine sMove (iv 0) S (wN rfl) (.inr rfl) rfl rfl (lb rfl) fun a S => ?_
  refine leafL (leafT (hK3 _ _ ?_))
  refine sSeq (fun K4 hK4 => ?_)
  refine sSeq (fun K5 hK5 => ?_)
  refine sRegion ?_
  refine sMove (.slice ad1 p0.length cp2) S (wN rfl) (.inl rfl) rfl rfl (lb rfl) fun a S => ?_
  refine sLen (ad := ad1) (m := p0.length) (c := cp2) S (wN rfl) rfl Try.underlying35 rfl rfl (lb rfl) fun a S => ?_
  refine sBin (.bool (decide (400 < (p0.length : Int)))) S (wN rfl) rfl rfl rfl (bGt _ _ _ _ .i64 (p0.length : Int) 400) rfl (lb rfl) fun a S => ?_
  refine leafL (leafT (hK5 _ _ ?_))
  rcases iteSome h with ⟨hc6, h⟩ | ⟨hc6, h⟩
  · refine sCondT S rfl hc6 ?_
    refine sSeq (fun K7 hK7 => ?_)
    refine sRegion ?_
    refine sMove (iv 4) S (wN rfl) (.inr rfl) rfl rfl (lb rfl) fun a S => ?_
    refine leafL (leafT (hK7 _ _ ?_))
    obtain rfl := Option.some.inj h
    exact wp_ret (rThen (sRet (iv 4) S (rsl1 rfl (rvT (t := 2) (v := iv 4) S rfl)) ⟨(), rfl, S.mem.sel [] [] (by decide) rfl rfl⟩))
  refine sCondF S rfl hc6 ?_
  refine wp_skip (leafT (hK4 _ _ ?_))
  obtain ⟨t8, h, g9⟩ := bindSome h
  refine sCut (fun a w => .inl () = t8 ∧ St [] E [] w0 25 a w [] [] []) ?_ (fun a w hI => ?_)
  rotate_left
  · obtain ⟨rfl, S⟩ := hI
    have h := g9
    clear g9
    try dsimp only at h
    refine sSeq (fun K33 hK33 => ?_)
    refine sRegion ?_
    refine sMove (iv 0) S (wN rfl) (.inr rfl) rfl rfl (lb rfl) fun a S => ?_
    refine leafL (leafT (hK33 _ _ ?_))
    obtain rfl := Option.some.inj h
    exact wp_ret (sRet (iv 0) S (rsl1 rfl (rvT (t := 2) (v := iv 0) S rfl)) ⟨(), rfl, S.mem.sel [] [] (by decide) rfl rfl⟩)
  refine sSeq (fun K10 hK10 => ?_)
  refine sRegion ?_
  refine sMove (iv 0) S (wN rfl) (.inr rfl) rfl rfl (lb rfl) fun a S => ?_
  refine leafL (leafT (hK10 _ _ ?_))
  refine wp_block ?_
  obtain ⟨t14, hl, g13⟩ := bindSome h
  refine sLoop hl (fun s0 a w => match s0 with | s11 => St [] E [] w0 25 a w [(0, .slice ad1 p0.length cp2), (3, iv s11)] [] [fRep (rL (rI .i64)) (.slice ad1 p0.length cp2) p0]) (S.fix [] [0] (by decide) rfl rfl rfl) ?_
  clear hl h
  intro s11 a w c0 hI h hu12
  unfold raddleref02_Check_l1 at h
  dsimp only at h hI
  have S := hI
  refine sSeq (fun K15 hK15 => ?_)
  refine sSeq (fun K16 hK16 => ?_)
  refine sRegion ?_
  refine sMove (iv s11) S (wN rfl) (.inl rfl) rfl rfl (lb rfl) fun a S => ?_
  refine sMove (.slice ad1 p0.length cp2) S (wN rfl) (.inl rfl) rfl rfl (lb rfl) fun a S => ?_
  refine sLen (ad := ad1) (m := p0.length) (c := cp2) S (wN rfl) rfl Try.underlying35 rfl rfl (lb rfl) fun a S => ?_
  refine sBin (.bool (decide (s11 < (p0.length : Int)))) S (wN rfl) rfl rfl rfl (bLt _ _ _ _ .i64 s11 (p0.length : Int)) rfl (lb rfl) fun a S => ?_
  refine leafL (leafT (hK16 _ _ ?_))
  rcases iteSome h with ⟨hc17, h⟩ | ⟨hc17, h⟩
  rotate_left
  · refine sCondF S rfl hc17 ?_
    obtain rfl := Option.some.inj h
    obtain rfl := hu12 _ rfl
    have h := g13
    clear g13
    try dsimp only at h
    exact wp_exit (xThen (xThen (xHit (leafT (⟨Option.some.inj h, S.fix [] [] (by decide) rfl rfl rfl⟩)))))
  refine sCondT S rfl hc17 ?_
  refine wp_skip (leafT (hK15 _ _ ?_))
  refine sSeq (fun K18 hK18 => ?_)
  refine wp_block ?_
  obtain ⟨t20, h, g21⟩ := bindSome h
  refine sCut (fun a w => ∃ o19, o19 = t20 ∧ St [] E [] w0 25 a w [(0, .slice ad1 p0.length cp2), (3, iv s11), (24, .bool o19)] [] [fRep (rL (rI .i64)) (.slice ad1 p0.length cp2) p0]) ?_ (fun a w hI => ?_)
  rotate_left
  · obtain ⟨o19, rfl, S⟩ := hI
    have h := g21
    clear g21
    try dsimp only at h
    rcases iteSome h with ⟨hc31, h⟩ | ⟨hc31, h⟩
    rotate_left
    · refine sCondF S rfl hc31 ?_
      refine wp_skip (leafB (leafT (hK18 _ _ ?_)))
      refine sRegion ?_
      refine sMove (iv s11) S (wN rfl) (.inl rfl) rfl rfl (lb rfl) fun a S => ?_
      refine sBin (iv (w64 (s11 + 1))) S (wN rfl) rfl rfl rfl (bAdd _ _ _ _ s11 1) rfl (lb rfl) fun a S => ?_
      refine sMove (iv (w64 (s11 + 1))) S (wN rfl) (.inr rfl) rfl rfl (lb rfl) fun a S => ?_
      exact leafL (leafT (⟨w64 (s11 + 1), (Option.some.inj h).symm, (S.fix [] [0] (by decide) rfl rfl rfl)⟩))
    refine sCondT S rfl hc31 ?_
    refine sSeq (fun K32 hK32 => ?_)
    refine sRegion ?_
    refine sMove (iv 8) S (wN rfl) (.inr rfl) rfl rfl (lb rfl) fun a S => ?_
    refine leafL (leafT (hK32 _ _ ?_))
    obtain rfl := Option.some.inj h
    obtain rfl := hu12 _ rfl
    have h := g13
    clear g13
    try dsimp only at h
    obtain rfl := Option.some.inj h
    have h := g9
    clear g9
    try dsimp only at h
    obtain rfl := Option.some.inj h
    exact wp_ret (rBlock (rThen (rThen (rBlock (rThen (sRet (iv 8) S (rsl1 rfl (rvT (t := 2) (v := iv 8) S rfl)) ⟨(), rfl, S.mem.sel [] [] (by decide) rfl rfl⟩))))))
  refine sRegion ?_
  refine sMove (.slice ad1 p0.length cp2) S (wN rfl) (.inl rfl) rfl rfl (lb rfl) fun a S => ?_
  refine sMove (iv s11) S (wN rfl) (.inl rfl) rfl rfl (lb rfl) fun a S => ?_
  obtain ⟨x22, hx23, h⟩ := bindSome h
  obtain ⟨q24, hq25, S⟩ := pIdx (P := Try.prog) (r := (rI .i64)) (v := .slice ad1 p0.length cp2) (xs := p0) (j := s11) 35 3 0 S Try.underlying35 rfl rfl hx23
  refine sIdxV (v := .slice ad1 p0.length cp2) (k := .i64) (j := s11) S (wN rfl) rfl rfl rfl hq25 rfl (lb rfl) fun a S => ?_
  obtain ⟨u26, S⟩ := pLoad (r := (rI .i64)) (q := q24) (x := x22) 0 S rfl
  obtain rfl : u26 = iv x22 := S.mem.know (i := 1) (e := fRep (rI .i64) (u26) x22) rfl
  refine sLoadV1 (vq := q24) 0 (iv x22) S (wN rfl) rfl rfl rfl rfl rfl (lb rfl) fun a S => ?_
  refine sBin (.bool (decide (x22 < 0))) S (wN rfl) rfl rfl rfl (bLt _ _ _ _ .i64 x22 0) rfl (lb rfl) fun a S => ?_
  refine sMove (.bool (decide (x22 < 0))) S (wN rfl) (.inl rfl) rfl rfl (lb rfl) fun a S => ?_
  rcases iteSome h with ⟨hc27, h⟩ | ⟨hc27, h⟩
  · refine sSkip 5 false 18 19 S rfl rfl rfl hc27 rfl (lb rfl) fun a S => ?_
    refine sSkip 5 false 18 20 S rfl rfl rfl hc27 rfl (lb rfl) fun a S => ?_
    refine sSkip 5 false 18 21 S rfl rfl rfl hc27 rfl (lb rfl) fun a S => ?_
    refine sSkip 5 false 18 22 S rfl rfl rfl hc27 rfl (lb rfl) fun a S => ?_
    refine sSkip 5 false 18 23 S rfl rfl rfl hc27 rfl (lb rfl) fun a S => ?_
    refine sPickT (.bool true) S (wN rfl) rfl rfl hc27 rfl rfl (lb rfl) fun a S => ?_
    exact leafL (leafT (⟨true, Option.some.inj h, S.fix [] [3] (by decide) rfl rfl rfl⟩))
  refine sMove (.slice ad1 p0.length cp2) S (wG 5 false 18 rfl rfl rfl hc27) (.inl rfl) rfl rfl (lb rfl) fun a S => ?_
  refine sMove (iv s11) S (wG 5 false 18 rfl rfl rfl hc27) (.inl rfl) rfl rfl (lb rfl) fun a S => ?_
  obtain ⟨q28, hq29, S⟩ := pIdx (P := Try.prog) (r := (rI .i64)) (v := .slice ad1 p0.length cp2) (xs := p0) (j := s11) 35 3 3 S Try.underlying35 rfl rfl hx23
  refine sIdxV (v := .slice ad1 p0.length cp2) (k := .i64) (j := s11) S (wG 5 false 18 rfl rfl rfl hc27) rfl rfl rfl hq29 rfl (lb rfl) fun a S => ?_
  obtain ⟨u30, S⟩ := pLoad (r := (rI .i64)) (q := q28) (x := x22) 0 S rfl
  obtain rfl : u30 = iv x22 := S.mem.know (i := 1) (e := fRep (rI .i64) (u30) x22) rfl
  refine sLoadV1 (vq := q28) 0 (iv x22) S (wG 5 false 18 rfl rfl rfl hc27) rfl rfl rfl rfl rfl (lb rfl) fun a S => ?_
  refine sBin (.bool (decide (400 ≤ x22))) S (wG 5 false 18 rfl rfl rfl hc27) rfl rfl rfl (bGe _ _ _ _ .i64 x22 400) rfl (lb rfl) fun a S => ?_
  refine sPickF (.bool (decide (400 ≤ x22))) S (wN rfl) rfl rfl hc27 rfl rfl (lb rfl) fun a S => ?_
  exact leafL (leafT (⟨decide (400 ≤ x22), Option.some.inj h, S.fix [] [6] (by decide) rfl rfl rfl⟩))

end Go.Proofs.Ythfifeabomdlpaa
namespace Go.Proofs.Ythfifeabomdlpaa
open Go.RowKit
set_option linter.unusedVariables false

def anc_raddleref13_Spelled_0 : List (List Nat) := [[], [], [0, 1], [0, 1, 2], [0, 1, 2, 3], [0, 1, 2, 3, 4], [0, 1, 2, 3, 4, 5], [0, 1, 2, 3, 4, 5, 6], [0, 1, 2, 3, 4, 5, 6], [0, 1, 2, 3, 4, 5, 6, 7, 8], [0, 1, 2, 3, 4, 5, 6, 7, 8, 9], [0, 1, 2, 3, 4, 5, 6, 7, 8, 9, 10], [0, 1, 2, 3, 4, 5, 6], [0, 1, 2, 3, 4, 5, 6, 12], [0, 1, 2, 3, 4, 5, 6, 12, 13], [0, 1, 2, 3, 4, 5, 6, 12, 13, 14], [0, 1, 2, 3, 4, 5, 6, 7, 8, 9, 10, 11, 12, 13, 14, 15], [0, 1, 2, 3, 4, 5, 6, 7, 8, 9, 10, 11, 12, 13, 14, 15, 16]]
noncomputable def raddleref13_Spelled_l1 (p0 : (List (List Int))) : Int → Option (Int ⊕ (Int ⊕ Unit)) := fun s0 => match s0 with
  | s14 =>
    if decide (s14 < (p0.length : Int)) then
      Option.bind (idxO p0 s14) fun x23 =>
      Option.bind (F_raddleref02_Check x23) fun r30 =>
      if r30 != 0 then
        some (.inr (.inl r30))
      else
        some (.inl (w64 (s14 + 1)))
    else
      some (.inr (.inr ()))
noncomputable def raddleref13_Spelled_l2 (p0 : (List (List Int))) : Int → Option (Int ⊕ (Int ⊕ Unit)) := fun s0 => match s0 with
  | s42 =>
    if decide (s42 < (p0.length : Int)) then
      Option.bind (α := Bool) (
        Option.bind (idxO p0 s42) fun x53 =>
        if (x53.length : Int) == 0 then
          some true
        else
          Option.bind (idxO p0 0) fun x71 =>
          some ((x53.length : Int) != (x71.length : Int))) fun o50 =>
      if o50 then
        some (.inr (.inl 26))
      else
        some (.inl (w64 (s42 + 1)))
    else
      some (.inr (.inr ()))
noncomputable def F_raddleref13_Spelled (p0 : (List (List Int))) : Option Int :=
  Option.bind (α := Bool) (
    if decide ((p0.length : Int) < 1) then
      some true
    else
      some (decide (400 < (p0.length : Int)))) fun o5 =>
  if o5 then
    some 2
  else
    Option.bind (α := Unit ⊕ Int) (
      Option.bind (whileO (raddleref13_Spelled_l1 p0) 0) fun z0 => match z0 with
        | .inl z =>
          some (.inr z)
        | .inr _ =>
          some (.inl ())) fun z0 => match z0 with
      | .inl _ =>
        Option.bind (α := Unit ⊕ Int) (
          Option.bind (whileO (raddleref13_Spelled_l2 p0) 0) fun z0 => match z0 with
            | .inl z =>
              some (.inr z)
            | .inr _ =>
              some (.inl ())) fun z0 => match z0 with
          | .inl _ =>
            some 0
          | .inr z =>
            some z
      | .inr z =>
        some z
set_option maxHeartbeats 4000000 in
set_option maxRecDepth 100000 in
theorem c_raddleref13_Spelled (E : Nat → Prop) (w0 : World) (p0 : (List (List Int))) (v0 : Value) (r : Int) (h : F_raddleref13_Spelled p0 = some r) (S : St0 E [] w0 w0 [] [fRep (rL (rL (rI .i64))) (v0) p0]) :
    Calls Try.prog 36 #[v0] w0 (Ret (X := Unit) E [] w0 (fun _ => .int .i64 r) (fun _ => []) (fun _ => [])) := by
  unfold F_raddleref13_Spelled at h
  obtain ⟨ad1, cp2, _, rfl, _⟩ := S.know (i := 0) (e := fRep (rL (rL (rI .i64))) (v0) p0) rfl
  refine sEnter (args := [.slice ad1 p0.length cp2]) 54 Try.func36 rfl rfl (by simp) S (fun a S => ?_)
  refine sSeq (fun K3 hK3 => ?_)
  refine sRegion ?_
  refine sMove (iv 0) S (wN rfl) (.inr rfl) rfl rfl (lb rfl) fun a S => ?_
  refine leafL (leafT (hK3 _ _ ?_))
  refine sSeq (fun K4 hK4 => ?_)
  obtain ⟨t6, h, g7⟩ := bindSome h
  refine sCut (fun a w => ∃ o5, o5 = t6 ∧ St [] E [] w0 54 a w [(0, .slice ad1 p0.length cp2), (12, .bool o5)] [] [fRep (rL (rL (rI .i64))) (.slice ad1 p0.length cp2) p0]) ?_ (fun a w hI => ?_)
  · refine sRegion ?_
    refine sMove (.slice ad1 p0.length cp2) S (wN rfl) (.inl rfl) rfl rfl (lb rfl) fun a S => ?_
    refine sLen (ad := ad1) (m := p0.length) (c := cp2) S (wN rfl) rfl Try.underlying46 rfl rfl (lb rfl) fun a S => ?_
    refine sBin (.bool (decide ((p0.length : Int) < 1))) S (wN rfl) rfl rfl rfl (bLt _ _ _ _ .i64 (p0.length : Int) 1) rfl (lb rfl) fun a S => ?_
    refine sMove (.bool (decide ((p0.length : Int) < 1))) S (wN rfl) (.inl rfl) rfl rfl (lb rfl) fun a S => ?_
    rcases iteSome h with ⟨hc8, h⟩ | ⟨hc8, h⟩
    · refine sSkip 3 false 8 9 S rfl rfl rfl hc8 rfl (lb rfl) fun a S => ?_
      refine sSkip 3 false 8 10 S rfl rfl rfl hc8 rfl (lb rfl) fun a S => ?_
      refine sSkip 3 false 8 11 S rfl rfl rfl hc8 rfl (lb rfl) fun a S => ?_
      refine sPickT (.bool true) S (wN rfl) rfl rfl hc8 rfl rfl (lb rfl) fun a S => ?_
      exact leafL (leafT (⟨true, Option.some.inj h, S.fix [] [0] (by decide) rfl rfl rfl⟩))
    refine sMove (.slice ad1 p0.length cp2) S (wG 3 false 8 rfl rfl rfl hc8) (.inl rfl) rfl rfl (lb rfl) fun a S => ?_
    refine sLen (ad := ad1) (m := p0.length) (c := cp2) S (wG 3 false 8 rfl rfl rfl hc8) rfl Try.underlying46 rfl rfl (lb rfl) fun a S => ?_
    refine sBin (.bool (decide (400 < (p0.length : Int)))) S (wG 3 false 8 rfl rfl rfl hc8) rfl rfl rfl (bGt _ _ _ _ .i64 (p0.length : Int) 400) rfl (lb rfl) fun a S => ?_
    refine sPickF (.bool (decide (400 < (p0.length : Int)))) S (wN rfl) rfl rfl hc8 rfl rfl (lb rfl) fun a S => ?_
    exact leafL (leafT (⟨decide (400 < (p0.length : Int)), Option.some.inj h, S.fix [] [0] (by decide) rfl rfl rfl⟩))
  obtain ⟨o5, rfl, S⟩ := hI
  have h := g7
  clear g7
  try dsimp only at h
  rcases iteSome h with ⟨hc9, h⟩ | ⟨hc9, h⟩
  · refine sCondT S rfl hc9 ?_
    refine sSeq (fun K10 hK10 => ?_)
    refine sRegion ?_
    refine sMove (iv 2) S (wN rfl) (.inr rfl) rfl rfl (lb rfl) fun a S => ?_
    refine leafL (leafT (hK10 _ _ ?_))
    obtain rfl := Option.some.inj h
    exact wp_ret (rThen (sRet (iv 2) S (rsl1 rfl (rvT (t := 2) (v := iv 2) S rfl)) ⟨(), rfl, S.mem.sel [] [] (by decide) rfl rfl⟩))
  refine sCondF S rfl hc9 ?_
  refine wp_skip (leafT (hK4 _ _ ?_))
  obtain ⟨t11, h, g12⟩ := bindSome h
  refine sCut (fun a w => .inl () = t11 ∧ St [] E [] w0 54 a w [(0, .slice ad1 p0.length cp2)] [] [fRep (rL (rL (rI .i64))) (.slice ad1 p0.length cp2) p0]) ?_ (fun a w hI => ?_)
  · refine sSeq (fun K13 hK13 => ?_)
    refine sRegion ?_
    refine sMove (iv 0) S (wN rfl) (.inr rfl) rfl rfl (lb rfl) fun a S => ?_
    refine leafL (leafT (hK13 _ _ ?_))
    refine wp_block ?_
    obtain ⟨t17, hl, g16⟩ := bindSome h
    refine sLoop hl (fun s0 a w => match s0 with | s14 => St [] E [] w0 54 a w [(0, .slice ad1 p0.length cp2), (3, iv s14)] [] [fRep (rL (rL (rI .i64))) (.slice ad1 p0.length cp2) p0]) (S.fix [] [0] (by decide) rfl rfl rfl) ?_
    clear hl h
    intro s14 a w c0 hI h hu15
    unfold raddleref13_Spelled_l1 at h
    dsimp only at h hI
    have S := hI
    refine sSeq (fun K18 hK18 => ?_)
    refine sSeq (fun K19 hK19 => ?_)
    refine sRegion ?_
    refine sMove (iv s14) S (wN rfl) (.inl rfl) rfl rfl (lb rfl) fun a S => ?_
    refine sMove (.slice ad1 p0.length cp2) S (wN rfl) (.inl rfl) rfl rfl (lb rfl) fun a S => ?_
    refine sLen (ad := ad1) (m := p0.length) (c := cp2) S (wN rfl) rfl Try.underlying46 rfl rfl (lb rfl) fun a S => ?_
    refine sBin (.bool (decide (s14 < (p0.length : Int)))) S (wN rfl) rfl rfl rfl (bLt _ _ _ _ .i64 s14 (p0.length : Int)) rfl (lb rfl) fun a S => ?_
    refine leafL (leafT (hK19 _ _ ?_))
    rcases iteSome h with ⟨hc20, h⟩ | ⟨hc20, h⟩
    rotate_left
    · refine sCondF S rfl hc20 ?_
      obtain rfl := Option.some.inj h
      obtain rfl := hu15 _ rfl
      have h := g16
      clear g16
      try dsimp only at h
      exact wp_exit (xThen (xThen (xHit (leafT (⟨Option.some.inj h, S.fix [] [0] (by decide) rfl rfl rfl⟩)))))
    refine sCondT S rfl hc20 ?_
    refine wp_skip (leafT (hK18 _ _ ?_))
    refine sSeq (fun K21 hK21 => ?_)
    refine wp_block ?_
    refine sSeq (fun K22 hK22 => ?_)
    refine sRegion ?_
    refine sMove (.slice ad1 p0.length cp2) S (wN rfl) (.inl rfl) rfl rfl (lb rfl) fun a S => ?_
    refine sMove (iv s14) S (wN rfl) (.inl rfl) rfl rfl (lb rfl) fun a S => ?_
    obtain ⟨x23, hx24, h⟩ := bindSome h
    obtain ⟨q25, hq26, S⟩ := pIdx (P := Try.prog) (r := (rL (rI .i64))) (v := .slice ad1 p0.length cp2) (xs := p0) (j := s14) 46 35 0 S Try.underlying46 rfl rfl hx24
    refine sIdxV (v := .slice ad1 p0.length cp2) (k := .i64) (j := s14) S (wN rfl) rfl rfl rfl hq26 rfl (lb rfl) fun a S => ?_
    obtain ⟨u27, S⟩ := pLoad (r := (rL (rI .i64))) (q := q25) (x := x23) 0 S rfl
    obtain ⟨ad28, cp29, _, rfl, _⟩ := S.mem.know (i := 1) (e := fRep (rL (rI .i64)) (u27) x23) rfl
    refine sLoadV1 (vq := q25) 0 (.slice ad28 x23.length cp29) S (wN rfl) rfl rfl rfl rfl rfl (lb rfl) fun a S => ?_
    obtain ⟨r30, hx31, h⟩ := bindSome h
    have S1 := S.mem
    refine sCallQ (X := Unit) (f := 37) (vs := [.slice ad28 x23.length cp29]) (val := fun _ => iv r30) S (wN rfl) rfl callee37 rfl (S1.quiet [1] rfl) (fun E1 w1 S1 => c_raddleref02_Check E1 w1 x23 (.slice ad28 x23.length cp29) r30 hx31 S1) rfl (lb rfl) fun _ a w S => ?_
    refine sBin (.bool (r30 != 0)) S (wN rfl) rfl rfl rfl (bNe _ _ _ _ .i64 r30 0) rfl (lb rfl) fun a S => ?_
    refine leafL (leafT (hK22 _ _ ?_))
    rcases iteSome h with ⟨hc32, h⟩ | ⟨hc32, h⟩
    rotate_left
    · refine sCondF S rfl hc32 ?_
      refine wp_skip (leafB (leafT (hK21 _ _ ?_)))
      refine sRegion ?_
      refine sMove (iv s14) S (wN rfl) (.inl rfl) rfl rfl (lb rfl) fun a S => ?_
      refine sBin (iv (w64 (s14 + 1))) S (wN rfl) rfl rfl rfl (bAdd _ _ _ _ s14 1) rfl (lb rfl) fun a S => ?_
      refine sMove (iv (w64 (s14 + 1))) S (wN rfl) (.inr rfl) rfl rfl (lb rfl) fun a S => ?_
      exact leafL (leafT (⟨w64 (s14 + 1), (Option.some.inj h).symm, (S.fix [] [3] (by decide) rfl rfl rfl)⟩))
    refine sCondT S rfl hc32 ?_
    refine sSeq (fun K33 hK33 => ?_)
    refine sRegion ?_
    refine sMove (.slice ad1 p0.length cp2) S (wN rfl) (.inl rfl) rfl rfl (lb rfl) fun a S => ?_
    refine sMove (iv s14) S (wN rfl) (.inl rfl) rfl rfl (lb rfl) fun a S => ?_
    obtain ⟨q34, hq35, S⟩ := pIdx (P := Try.prog) (r := (rL (rI .i64))) (v := .slice ad1 p0.length cp2) (xs := p0) (j := s14) 46 35 3 S Try.underlying46 rfl rfl hx24
    refine sIdxV (v := .slice ad1 p0.length cp2) (k := .i64) (j := s14) S (wN rfl) rfl rfl rfl hq35 rfl (lb rfl) fun a S => ?_
    obtain ⟨u36, S⟩ := pLoad (r := (rL (rI .i64))) (q := q34) (x := x23) 0 S rfl
    obtain ⟨ad37, cp38, _, rfl, _⟩ := S.mem.know (i := 1) (e := fRep (rL (rI .i64)) (u36) x23) rfl
    refine sLoadV1 (vq := q34) 0 (.slice ad37 x23.length cp38) S (wN rfl) rfl rfl rfl rfl rfl (lb rfl) fun a S => ?_
    have S1 := S.mem
    refine sCallQ (X := Unit) (f := 37) (vs := [.slice ad37 x23.length cp38]) (val := fun _ => iv r30) S (wN rfl) rfl callee37 rfl (S1.quiet [1] rfl) (fun E1 w1 S1 => c_raddleref02_Check E1 w1 x23 (.slice ad37 x23.length cp38) r30 hx31 S1) rfl (lb rfl) fun _ a w S => ?_
    refine sMove (iv r30) S (wN rfl) (.inr rfl) rfl rfl (lb rfl) fun a S => ?_
    refine leafL (leafT (hK33 _ _ ?_))
    obtain rfl := Option.some.inj h
    obtain rfl := hu15 _ rfl
    have h := g16
    clear g16
    try dsimp only at h
    obtain rfl := Option.some.inj h
    have h := g12
    clear g12
    try dsimp only at h
    obtain rfl := Option.some.inj h
    exact wp_ret (rBlock (rThen (rThen (rBlock (rThen (sRet (iv r30) S (rsl1 rfl (rvT (t := 2) (v := iv r30) S rfl)) ⟨(), rfl, S.mem.sel [] [] (by decide) rfl rfl⟩))))))
  obtain ⟨rfl, S⟩ := hI
  have h := g12
  clear g12
  try dsimp only at h
  obtain ⟨t39, h, g40⟩ := bindSome h
  refine sCut (fun a w => .inl () = t39 ∧ St [] E [] w0 54 a w [] [] []) ?_ (fun a w hI => ?_)
  rotate_left
  · obtain ⟨rfl, S⟩ := hI
    have h := g40
    clear g40
    try dsimp only at h
    refine sSeq (fun K95 hK95 => ?_)
    refine sRegion ?_
    refine sMove (iv 0) S (wN rfl) (.inr rfl) rfl rfl (lb rfl) fun a S => ?_
    refine leafL (leafT (hK95 _ _ ?_))
    obtain rfl := Option.some.inj h
    exact wp_ret (sRet (iv 0) S (rsl1 rfl (rvT (t := 2) (v := iv 0) S rfl)) ⟨(), rfl, S.mem.sel [] [] (by decide) rfl rfl⟩)
  refine sSeq (fun K41 hK41 => ?_)
  refine sRegion ?_
  refine sMove (iv 0) S (wN rfl) (.inr rfl) rfl rfl (lb rfl) fun a S => ?_
  refine leafL (leafT (hK41 _ _ ?_))
  refine wp_block ?_
  obtain ⟨t45, hl, g44⟩ := bindSome h
  refine sLoop hl (fun s0 a w => match s0 with | s42 => St [] E [] w0 54 a w [(0, .slice ad1 p0.length cp2), (4, iv s42)] [] [fRep (rL (rL (rI .i64))) (.slice ad1 p0.length cp2) p0]) (S.fix [] [0] (by decide) rfl rfl rfl) ?_
  clear hl h
  intro s42 a w c0 hI h hu43
  unfold raddleref13_Spelled_l2 at h
  dsimp only at h hI
  have S := hI
  refine sSeq (fun K46 hK46 => ?_)
  refine sSeq (fun K47 hK47 => ?_)
  refine sRegion ?_
  refine sMove (iv s42) S (wN rfl) (.inl rfl) rfl rfl (lb rfl) fun a S => ?_
  refine sMove (.slice ad1 p0.length cp2) S (wN rfl) (.inl rfl) rfl rfl (lb rfl) fun a S => ?_
  refine sLen (ad := ad1) (m := p0.length) (c := cp2) S (wN rfl) rfl Try.underlying46 rfl rfl (lb rfl) fun a S => ?_
  refine sBin (.bool (decide (s42 < (p0.length : Int)))) S (wN rfl) rfl rfl rfl (bLt _ _ _ _ .i64 s42 (p0.length : Int)) rfl (lb rfl) fun a S => ?_
  refine leafL (leafT (hK47 _ _ ?_))
  rcases iteSome h with ⟨hc48, h⟩ | ⟨hc48, h⟩
  rotate_left
  · refine sCondF S rfl hc48 ?_
    obtain rfl := Option.some.inj h
    obtain rfl := hu43 _ rfl
    have h := g44
    clear g44
    try dsimp only at h
    exact wp_exit (xThen (xThen (xHit (leafT (⟨Option.some.inj h, S.fix [] [] (by decide) rfl rfl rfl⟩)))))
  refine sCondT S rfl hc48 ?_
  refine wp_skip (leafT (hK46 _ _ ?_))
  refine sSeq (fun K49 hK49 => ?_)
  refine wp_block ?_
  obtain ⟨t51, h, g52⟩ := bindSome h
  refine sCut (fun a w => ∃ o50, o50 = t51 ∧ St [] E [] w0 54 a w [(0, .slice ad1 p0.length cp2), (4, iv s42), (53, .bool o50)] [] [fRep (rL (rL (rI .i64))) (.slice ad1 p0.length cp2) p0]) ?_ (fun a w hI => ?_)
  rotate_left
  · obtain ⟨o50, rfl, S⟩ := hI
    have h := g52
    clear g52
    try dsimp only at h
    rcases iteSome h with ⟨hc93, h⟩ | ⟨hc93, h⟩
    rotate_left
    · refine sCondF S rfl hc93 ?_
      refine wp_skip (leafB (leafT (hK49 _ _ ?_)))
      refine sRegion ?_
      refine sMove (iv s42) S (wN rfl) (.inl rfl) rfl rfl (lb rfl) fun a S => ?_
      refine sBin (iv (w64 (s42 + 1))) S (wN rfl) rfl rfl rfl (bAdd _ _ _ _ s42 1) rfl (lb rfl) fun a S => ?_
      refine sMove (iv (w64 (s42 + 1))) S (wN rfl) (.inr rfl) rfl rfl (lb rfl) fun a S => ?_
      exact leafL (leafT (⟨w64 (s42 + 1), (Option.some.inj h).symm, (S.fix [] [0] (by decide) rfl rfl rfl)⟩))
    refine sCondT S rfl hc93 ?_
    refine sSeq (fun K94 hK94 => ?_)
    refine sRegion ?_
    refine sMove (iv 26) S (wN rfl) (.inr rfl) rfl rfl (lb rfl) fun a S => ?_
    refine leafL (leafT (hK94 _ _ ?_))
    obtain rfl := Option.some.inj h
    obtain rfl := hu43 _ rfl
    have h := g44
    clear g44
    try dsimp only at h
    obtain rfl := Option.some.inj h
    have h := g40
    clear g40
    try dsimp only at h
    obtain rfl := Option.some.inj h
    exact wp_ret (rBlock (rThen (rThen (rBlock (rThen (sRet (iv 26) S (rsl1 rfl (rvT (t := 2) (v := iv 26) S rfl)) ⟨(), rfl, S.mem.sel [] [] (by decide) rfl rfl⟩))))))
  obtain ⟨x53, hx54, h⟩ := bindSome h
  rcases iteSome h with ⟨hc60, h⟩ | ⟨hc60, h⟩
  · obtain ⟨q61, hq62, S⟩ := pIdx (P := Try.prog) (r := (rL (rI .i64))) (v := .slice ad1 p0.length cp2) (xs := p0) (j := s42) 46 35 0 S Try.underlying46 rfl rfl hx54
    obtain ⟨u63, S⟩ := pLoad (r := (rL (rI .i64))) (q := q61) (x := x53) 0 S rfl
    obtain ⟨ad64, cp65, _, rfl, _⟩ := S.mem.know (i := 1) (e := fRep (rL (rI .i64)) (u63) x53) rfl
    refine sDraw (nf := []) (W := [(0, 36, .slice ad1 p0.length cp2), (1, 37, iv s42), (2, 38, q61), (3, 39, .slice ad64 x53.length cp65), (4, 40, iv (x53.length : Int)), (5, 41, .bool ((x53.length : Int) == 0)), (6, 42, .bool ((x53.length : Int) == 0)), (7, 43, undef), (8, 44, undef), (9, 45, undef), (10, 46, undef), (11, 47, undef), (12, 48, undef), (13, 49, undef), (14, 50, undef), (15, 51, undef), (16, 52, undef), (17, 53, .bool true)]) rfl S ?_
    refine node_by (A := anc_raddleref13_Spelled_0) (nf := []) (Y := []) (W := [(0, 36, .slice ad1 p0.length cp2), (1, 37, iv s42), (2, 38, q61), (3, 39, .slice ad64 x53.length cp65), (4, 40, iv (x53.length : Int)), (5, 41, .bool ((x53.length : Int) == 0)), (6, 42, .bool ((x53.length : Int) == 0)), (7, 43, undef), (8, 44, undef), (9, 45, undef), (10, 46, undef), (11, 47, undef), (12, 48, undef), (13, 49, undef), (14, 50, undef), (15, 51, undef), (16, 52, undef), (17, 53, .bool true)]) 18 (by kernel_rfl) (by kernel_rfl) (by kernel_rfl) (by kernel_rfl) (by kernel_rfl) [0, 1, 2, 3, 4, 5, 6, 7, 8, 9, 10, 11, 12, 13, 14, 15, 16, 17] (by kernel_rfl) (by decide) (by decide) (aF 0 17 (by decide) ?_ (aF 1 16 (by decide) ?_ (aF 2 15 (by decide) ?_ (aF 3 14 (by decide) ?_ (aF 4 13 (by decide) ?_ (aF 5 12 (by decide) ?_ (aF 6 11 (by decide) ?_ (aF 7 10 (by decide) ?_ (aF 8 9 (by decide) ?_ (aF 9 8 (by decide) ?_ (aF 10 7 (by decide) ?_ (aF 11 6 (by decide) ?_ (aF 12 5 (by decide) ?_ (aF 13 4 (by decide) ?_ (aF 14 3 (by decide) ?_ (aF 15 2 (by decide) ?_ (aF 16 1 (by decide) ?_ (aF 17 0 (by decide) ?_ (trivial))))))))))))))))))) [(0, .slice ad1 p0.length cp2), (4, iv s42), (43, undef), (44, undef), (45, undef), (46, undef), (47, undef), (48, undef), (49, undef), (50, undef), (51, undef), (52, undef), (53, .bool true)] (fin_of [none, none, some 7, some 8, some 9, some 10, some 11, some 12, some 13, some 14, some 15, some 16, some 17] rfl (by kernel_rfl) (by kernel_rfl)) (fun _ a w S => ?_)
    · refine fI 36 (.slice ad1 p0.length cp2) [(0, .slice ad1 p0.length cp2)] 0 [none] rfl rfl rfl rfl rfl rfl fun G a w S => ?_
      refine sMove (.slice ad1 p0.length cp2) S (wN rfl) (.inl rfl) rfl rfl (lb rfl) fun a S => ?_
      exact leafL ⟨rfl, S⟩
    · refine fI 37 (iv s42) [(4, iv s42)] 1 [none] rfl rfl rfl rfl rfl rfl fun G a w S => ?_
      refine sMove (iv s42) S (wN rfl) (.inl rfl) rfl rfl (lb rfl) fun a S => ?_
      exact leafL ⟨rfl, S⟩
    · refine fI 38 q61 [(36, .slice ad1 p0.length cp2), (37, iv s42)] 2 [some 0, some 1] rfl rfl rfl rfl rfl rfl fun G a w S => ?_
      refine sIdxV (v := .slice ad1 p0.length cp2) (k := .i64) (j := s42) S (wN rfl) rfl rfl rfl hq62 rfl (lb rfl) fun a S => ?_
      exact leafL ⟨rfl, S⟩
    · refine fI 39 (.slice ad64 x53.length cp65) [(38, q61)] 3 [some 2] rfl rfl rfl rfl rfl rfl fun G a w S => ?_
      refine sLoadV1 (vq := q61) 0 (.slice ad64 x53.length cp65) S (wN rfl) rfl rfl rfl rfl rfl (lb rfl) fun a S => ?_
      exact leafL ⟨rfl, S⟩
    · refine fI 40 (iv (x53.length : Int)) [(39, .slice ad64 x53.length cp65)] 4 [some 3] rfl rfl rfl rfl rfl rfl fun G a w S => ?_
      refine sLen (ad := ad64) (m := x53.length) (c := cp65) S (wN rfl) rfl Try.underlying35 rfl rfl (lb rfl) fun a S => ?_
      exact leafL ⟨rfl, S⟩
    · refine fI 41 (.bool ((x53.length : Int) == 0)) [(40, iv (x53.length : Int))] 5 [some 4] rfl rfl rfl rfl rfl rfl fun G a w S => ?_
      refine sBin (.bool ((x53.length : Int) == 0)) S (wN rfl) rfl rfl rfl (bEq _ _ _ _ .i64 (x53.length : Int) 0) rfl (lb rfl) fun a S => ?_
      exact leafL ⟨rfl, S⟩
    · refine fI 42 (.bool ((x53.length : Int) == 0)) [(41, .bool ((x53.length : Int) == 0))] 6 [some 5] rfl rfl rfl rfl rfl rfl fun G a w S => ?_
      refine sMove (.bool ((x53.length : Int) == 0)) S (wN rfl) (.inl rfl) rfl rfl (lb rfl) fun a S => ?_
      exact leafL ⟨rfl, S⟩
    · refine fI 43 undef [(0, .slice ad1 p0.length cp2), (42, .bool ((x53.length : Int) == 0))] 7 [none, some 6] rfl rfl rfl rfl rfl rfl fun G a w S => ?_
      refine sSkip 6 false 42 43 S rfl rfl rfl hc60 rfl (lb rfl) fun a S => ?_
      exact leafL ⟨rfl, S⟩
    · refine fI 44 undef [(4, iv s42), (42, .bool ((x53.length : Int) == 0))] 8 [none, some 6] rfl rfl rfl rfl rfl rfl fun G a w S => ?_
      refine sSkip 6 false 42 44 S rfl rfl rfl hc60 rfl (lb rfl) fun a S => ?_
      exact leafL ⟨rfl, S⟩
    · refine fI 45 undef [(43, undef), (44, undef), (42, .bool ((x53.length : Int) == 0))] 9 [some 7, some 8, some 6] rfl rfl rfl rfl rfl rfl fun G a w S => ?_
      refine sSkip 6 false 42 45 S rfl rfl rfl hc60 rfl (lb rfl) fun a S => ?_
      exact leafL ⟨rfl, S⟩
    · refine fI 46 undef [(45, undef), (42, .bool ((x53.length : Int) == 0))] 10 [some 9, some 6] rfl rfl rfl rfl rfl rfl fun G a w S => ?_
      refine sSkip 6 false 42 46 S rfl rfl rfl hc60 rfl (lb rfl) fun a S => ?_
      exact leafL ⟨rfl, S⟩
    · refine fI 47 undef [(46, undef), (42, .bool ((x53.length : Int) == 0))] 11 [some 10, some 6] rfl rfl rfl rfl rfl rfl fun G a w S => ?_
      refine sSkip 6 false 42 47 S rfl rfl rfl hc60 rfl (lb rfl) fun a S => ?_
      exact leafL ⟨rfl, S⟩
    · refine fI 48 undef [(0, .slice ad1 p0.length cp2), (42, .bool ((x53.length : Int) == 0))] 12 [none, some 6] rfl rfl rfl rfl rfl rfl fun G a w S => ?_
      refine sSkip 6 false 42 48 S rfl rfl rfl hc60 rfl (lb rfl) fun a S => ?_
      exact leafL ⟨rfl, S⟩
    · refine fI 49 undef [(48, undef), (42, .bool ((x53.length : Int) == 0))] 13 [some 12, some 6] rfl rfl rfl rfl rfl rfl fun G a w S => ?_
      refine sSkip 6 false 42 49 S rfl rfl rfl hc60 rfl (lb rfl) fun a S => ?_
      exact leafL ⟨rfl, S⟩
    · refine fI 50 undef [(49, undef), (42, .bool ((x53.length : Int) == 0))] 14 [some 13, some 6] rfl rfl rfl rfl rfl rfl fun G a w S => ?_
      refine sSkip 6 false 42 50 S rfl rfl rfl hc60 rfl (lb rfl) fun a S => ?_
      exact leafL ⟨rfl, S⟩
    · refine fI 51 undef [(50, undef), (42, .bool ((x53.length : Int) == 0))] 15 [some 14, some 6] rfl rfl rfl rfl rfl rfl fun G a w S => ?_
      refine sSkip 6 false 42 51 S rfl rfl rfl hc60 rfl (lb rfl) fun a S => ?_
      exact leafL ⟨rfl, S⟩
    · refine fI 52 undef [(47, undef), (51, undef), (42, .bool ((x53.length : Int) == 0))] 16 [some 11, some 15, some 6] rfl rfl rfl rfl rfl rfl fun G a w S => ?_
      refine sSkip 6 false 42 52 S rfl rfl rfl hc60 rfl (lb rfl) fun a S => ?_
      exact leafL ⟨rfl, S⟩
    · refine fI 53 (.bool true) [(42, .bool ((x53.length : Int) == 0)), (52, undef)] 17 [some 6, some 16] rfl rfl rfl rfl rfl rfl fun G a w S => ?_
      refine sPickT (.bool true) S (wN rfl) rfl rfl hc60 rfl rfl (lb rfl) fun a S => ?_
      exact leafL ⟨rfl, S⟩
    exact leafT (⟨true, Option.some.inj h, S.fix [] [3] (by decide) rfl rfl rfl⟩)
  obtain ⟨x71, hx72, h⟩ := bindSome h
  obtain ⟨q78, hq79, S⟩ := pIdx (P := Try.prog) (r := (rL (rI .i64))) (v := .slice ad1 p0.length cp2) (xs := p0) (j := s42) 46 35 0 S Try.underlying46 rfl rfl hx54
  obtain ⟨u80, S⟩ := pLoad (r := (rL (rI .i64))) (q := q78) (x := x53) 0 S rfl
  obtain ⟨ad81, cp82, _, rfl, _⟩ := S.mem.know (i := 1) (e := fRep (rL (rI .i64)) (u80) x53) rfl
  obtain ⟨q83, hq84, S⟩ := pIdx (P := Try.prog) (r := (rL (rI .i64))) (v := .slice ad1 p0.length cp2) (xs := p0) (j := s42) 46 35 3 S Try.underlying46 rfl rfl hx54
  obtain ⟨u85, S⟩ := pLoad (r := (rL (rI .i64))) (q := q83) (x := x53) 0 S rfl
  obtain ⟨ad86, cp87, _, rfl, _⟩ := S.mem.know (i := 1) (e := fRep (rL (rI .i64)) (u85) x53) rfl
  obtain ⟨q88, hq89, S⟩ := pIdx (P := Try.prog) (r := (rL (rI .i64))) (v := .slice ad1 p0.length cp2) (xs := p0) (j := 0) 46 35 6 S Try.underlying46 rfl rfl hx72
  obtain ⟨u90, S⟩ := pLoad (r := (rL (rI .i64))) (q := q88) (x := x71) 0 S rfl
  obtain ⟨ad91, cp92, _, rfl, _⟩ := S.mem.know (i := 1) (e := fRep (rL (rI .i64)) (u90) x71) rfl
  refine sDraw (nf := []) (W := [(0, 36, .slice ad1 p0.length cp2), (1, 37, iv s42), (2, 38, q78), (3, 39, .slice ad81 x53.length cp82), (4, 40, iv (x53.length : Int)), (5, 41, .bool ((x53.length : Int) == 0)), (6, 42, .bool ((x53.length : Int) == 0)), (7, 43, .slice ad1 p0.length cp2), (8, 44, iv s42), (9, 45, q83), (10, 46, .slice ad86 x53.length cp87), (11, 47, iv (x53.length : Int)), (12, 48, .slice ad1 p0.length cp2), (13, 49, q88), (14, 50, .slice ad91 x71.length cp92), (15, 51, iv (x71.length : Int)), (16, 52, .bool ((x53.length : Int) != (x71.length : Int))), (17, 53, .bool ((x53.length : Int) != (x71.length : Int)))]) rfl S ?_
  refine node_by (A := anc_raddleref13_Spelled_0) (nf := []) (Y := []) (W := [(0, 36, .slice ad1 p0.length cp2), (1, 37, iv s42), (2, 38, q78), (3, 39, .slice ad81 x53.length cp82), (4, 40, iv (x53.length : Int)), (5, 41, .bool ((x53.length : Int) == 0)), (6, 42, .bool ((x53.length : Int) == 0)), (7, 43, .slice ad1 p0.length cp2), (8, 44, iv s42), (9, 45, q83), (10, 46, .slice ad86 x53.length cp87), (11, 47, iv (x53.length : Int)), (12, 48, .slice ad1 p0.length cp2), (13, 49, q88), (14, 50, .slice ad91 x71.length cp92), (15, 51, iv (x71.length : Int)), (16, 52, .bool ((x53.length : Int) != (x71.length : Int))), (17, 53, .bool ((x53.length : Int) != (x71.length : Int)))]) 18 (by kernel_rfl) (by kernel_rfl) (by kernel_rfl) (by kernel_rfl) (by kernel_rfl) [0, 1, 2, 3, 4, 5, 6, 7, 8, 9, 10, 11, 12, 13, 14, 15, 16, 17] (by kernel_rfl) (by decide) (by decide) (aF 0 17 (by decide) ?_ (aF 1 16 (by decide) ?_ (aF 2 15 (by decide) ?_ (aF 3 14 (by decide) ?_ (aF 4 13 (by decide) ?_ (aF 5 12 (by decide) ?_ (aF 6 11 (by decide) ?_ (aF 7 10 (by decide) ?_ (aF 8 9 (by decide) ?_ (aF 9 8 (by decide) ?_ (aF 10 7 (by decide) ?_ (aF 11 6 (by decide) ?_ (aF 12 5 (by decide) ?_ (aF 13 4 (by decide) ?_ (aF 14 3 (by decide) ?_ (aF 15 2 (by decide) ?_ (aF 16 1 (by decide) ?_ (aF 17 0 (by decide) ?_ (trivial))))))))))))))))))) [(0, .slice ad1 p0.length cp2), (4, iv s42), (43, .slice ad1 p0.length cp2), (44, iv s42), (45, q83), (46, .slice ad86 x53.length cp87), (47, iv (x53.length : Int)), (48, .slice ad1 p0.length cp2), (49, q88), (50, .slice ad91 x71.length cp92), (51, iv (x71.length : Int)), (52, .bool ((x53.length : Int) != (x71.length : Int))), (53, .bool ((x53.length : Int) != (x71.length : Int)))] (fin_of [none, none, some 7, some 8, some 9, some 10, some 11, some 12, some 13, some 14, some 15, some 16, some 17] rfl (by kernel_rfl) (by kernel_rfl)) (fun _ a w S => ?_)
  · refine fI 36 (.slice ad1 p0.length cp2) [(0, .slice ad1 p0.length cp2)] 0 [none] rfl rfl rfl rfl rfl rfl fun G a w S => ?_
    refine sMove (.slice ad1 p0.length cp2) S (wN rfl) (.inl rfl) rfl rfl (lb rfl) fun a S => ?_
    exact leafL ⟨rfl, S⟩
  · refine fI 37 (iv s42) [(4, iv s42)] 1 [none] rfl rfl rfl rfl rfl rfl fun G a w S => ?_
    refine sMove (iv s42) S (wN rfl) (.inl rfl) rfl rfl (lb rfl) fun a S => ?_
    exact leafL ⟨rfl, S⟩
  · refine fI 38 q78 [(36, .slice ad1 p0.length cp2), (37, iv s42)] 2 [some 0, some 1] rfl rfl rfl rfl rfl rfl fun G a w S => ?_
    refine sIdxV (v := .slice ad1 p0.length cp2) (k := .i64) (j := s42) S (wN rfl) rfl rfl rfl hq79 rfl (lb rfl) fun a S => ?_
    exact leafL ⟨rfl, S⟩
  · refine fI 39 (.slice ad81 x53.length cp82) [(38, q78)] 3 [some 2] rfl rfl rfl rfl rfl rfl fun G a w S => ?_
    refine sLoadV1 (vq := q78) 6 (.slice ad81 x53.length cp82) S (wN rfl) rfl rfl rfl rfl rfl (lb rfl) fun a S => ?_
    exact leafL ⟨rfl, S⟩
  · refine fI 40 (iv (x53.length : Int)) [(39, .slice ad81 x53.length cp82)] 4 [some 3] rfl rfl rfl rfl rfl rfl fun G a w S => ?_
    refine sLen (ad := ad81) (m := x53.length) (c := cp82) S (wN rfl) rfl Try.underlying35 rfl rfl (lb rfl) fun a S => ?_
    exact leafL ⟨rfl, S⟩
  · refine fI 41 (.bool ((x53.length : Int) == 0)) [(40, iv (x53.length : Int))] 5 [some 4] rfl rfl rfl rfl rfl rfl fun G a w S => ?_
    refine sBin (.bool ((x53.length : Int) == 0)) S (wN rfl) rfl rfl rfl (bEq _ _ _ _ .i64 (x53.length : Int) 0) rfl (lb rfl) fun a S => ?_
    exact leafL ⟨rfl, S⟩
  · refine fI 42 (.bool ((x53.length : Int) == 0)) [(41, .bool ((x53.length : Int) == 0))] 6 [some 5] rfl rfl rfl rfl rfl rfl fun G a w S => ?_
    refine sMove (.bool ((x53.length : Int) == 0)) S (wN rfl) (.inl rfl) rfl rfl (lb rfl) fun a S => ?_
    exact leafL ⟨rfl, S⟩
  · refine fI 43 (.slice ad1 p0.length cp2) [(0, .slice ad1 p0.length cp2), (42, .bool ((x53.length : Int) == 0))] 7 [none, some 6] rfl rfl rfl rfl rfl rfl fun G a w S => ?_
    refine sMove (.slice ad1 p0.length cp2) S (wG 6 false 42 rfl rfl rfl hc60) (.inl rfl) rfl rfl (lb rfl) fun a S => ?_
    exact leafL ⟨rfl, S⟩
  · refine fI 44 (iv s42) [(4, iv s42), (42, .bool ((x53.length : Int) == 0))] 8 [none, some 6] rfl rfl rfl rfl rfl rfl fun G a w S => ?_
    refine sMove (iv s42) S (wG 6 false 42 rfl rfl rfl hc60) (.inl rfl) rfl rfl (lb rfl) fun a S => ?_
    exact leafL ⟨rfl, S⟩
  · refine fI 45 q83 [(43, .slice ad1 p0.length cp2), (44, iv s42), (42, .bool ((x53.length : Int) == 0))] 9 [some 7, some 8, some 6] rfl rfl rfl rfl rfl rfl fun G a w S => ?_
    refine sIdxV (v := .slice ad1 p0.length cp2) (k := .i64) (j := s42) S (wG 6 false 42 rfl rfl rfl hc60) rfl rfl rfl hq84 rfl (lb rfl) fun a S => ?_
    exact leafL ⟨rfl, S⟩
  · refine fI 46 (.slice ad86 x53.length cp87) [(45, q83), (42, .bool ((x53.length : Int) == 0))] 10 [some 9, some 6] rfl rfl rfl rfl rfl rfl fun G a w S => ?_
    refine sLoadV1 (vq := q83) 3 (.slice ad86 x53.length cp87) S (wG 6 false 42 rfl rfl rfl hc60) rfl rfl rfl rfl rfl (lb rfl) fun a S => ?_
    exact leafL ⟨rfl, S⟩
  · refine fI 47 (iv (x53.length : Int)) [(46, .slice ad86 x53.length cp87), (42, .bool ((x53.length : Int) == 0))] 11 [some 10, some 6] rfl rfl rfl rfl rfl rfl fun G a w S => ?_
    refine sLen (ad := ad86) (m := x53.length) (c := cp87) S (wG 6 false 42 rfl rfl rfl hc60) rfl Try.underlying35 rfl rfl (lb rfl) fun a S => ?_
    exact leafL ⟨rfl, S⟩
  · refine fI 48 (.slice ad1 p0.length cp2) [(0, .slice ad1 p0.length cp2), (42, .bool ((x53.length : Int) == 0))] 12 [none, some 6] rfl rfl rfl rfl rfl rfl fun G a w S => ?_
    refine sMove (.slice ad1 p0.length cp2) S (wG 6 false 42 rfl rfl rfl hc60) (.inl rfl) rfl rfl (lb rfl) fun a S => ?_
    exact leafL ⟨rfl, S⟩
  · refine fI 49 q88 [(48, .slice ad1 p0.length cp2), (42, .bool ((x53.length : Int) == 0))] 13 [some 12, some 6] rfl rfl rfl rfl rfl rfl fun G a w S => ?_
    refine sIdxV (v := .slice ad1 p0.length cp2) (k := .i64) (j := 0) S (wG 6 false 42 rfl rfl rfl hc60) rfl rfl rfl hq89 rfl (lb rfl) fun a S => ?_
    exact leafL ⟨rfl, S⟩
  · refine fI 50 (.slice ad91 x71.length cp92) [(49, q88), (42, .bool ((x53.length : Int) == 0))] 14 [some 13, some 6] rfl rfl rfl rfl rfl rfl fun G a w S => ?_
    refine sLoadV1 (vq := q88) 0 (.slice ad91 x71.length cp92) S (wG 6 false 42 rfl rfl rfl hc60) rfl rfl rfl rfl rfl (lb rfl) fun a S => ?_
    exact leafL ⟨rfl, S⟩
  · refine fI 51 (iv (x71.length : Int)) [(50, .slice ad91 x71.length cp92), (42, .bool ((x53.length : Int) == 0))] 15 [some 14, some 6] rfl rfl rfl rfl rfl rfl fun G a w S => ?_
    refine sLen (ad := ad91) (m := x71.length) (c := cp92) S (wG 6 false 42 rfl rfl rfl hc60) rfl Try.underlying35 rfl rfl (lb rfl) fun a S => ?_
    exact leafL ⟨rfl, S⟩
  · refine fI 52 (.bool ((x53.length : Int) != (x71.length : Int))) [(47, iv (x53.length : Int)), (51, iv (x71.length : Int)), (42, .bool ((x53.length : Int) == 0))] 16 [some 11, some 15, some 6] rfl rfl rfl rfl rfl rfl fun G a w S => ?_
    refine sBin (.bool ((x53.length : Int) != (x71.length : Int))) S (wG 6 false 42 rfl rfl rfl hc60) rfl rfl rfl (bNe _ _ _ _ .i64 (x53.length : Int) (x71.length : Int)) rfl (lb rfl) fun a S => ?_
    exact leafL ⟨rfl, S⟩
  · refine fI 53 (.bool ((x53.length : Int) != (x71.length : Int))) [(42, .bool ((x53.length : Int) == 0)), (52, .bool ((x53.length : Int) != (x71.length : Int)))] 17 [some 6, some 16] rfl rfl rfl rfl rfl rfl fun G a w S => ?_
    refine sPickF (.bool ((x53.length : Int) != (x71.length : Int))) S (wN rfl) rfl rfl hc60 rfl rfl (lb rfl) fun a S => ?_
    exact leafL ⟨rfl, S⟩
  exact leafT (⟨(x53.length : Int) != (x71.length : Int), Option.some.inj h, S.fix [] [9] (by decide) rfl rfl rfl⟩)

end Go.Proofs.Ythfifeabomdlpaa
namespace Go.Proofs.Ythfifeabomdlpaa
open Go.RowKit
set_option linter.unusedVariables false

end Go.Proofs.Ythfifeabomdlpaa
namespace Go.Proofs.Ythfifeabomdlpaa
open Go.RowKit
set_option linter.unusedVariables false

def anc_slices_Equal___int_int__0 : List (List Nat) := [[], [], [0, 1], [0, 1, 2], [], [], [4, 5], [4, 5, 6], [0, 1, 2, 3, 4, 5, 6, 7]]
noncomputable def slices_Equal___int_int__l1 (p0 : (List Int)) (p1 : (List Int)) : Int → Option (Int ⊕ (Bool ⊕ Unit)) := fun s0 => match s0 with
  | s13 =>
    if decide (s13 < (p0.length : Int)) then
      Option.bind (idxO p0 s13) fun x23 =>
      Option.bind (idxO p1 s13) fun x28 =>
      if x23 != x28 then
        some (.inr (.inl false))
      else
        some (.inl (w64 (s13 + 1)))
    else
      some (.inr (.inr ()))
noncomputable def F_slices_Equal___int_int_ (p0 : (List Int)) (p1 : (List Int)) : Option Bool :=
  if (p0.length : Int) != (p1.length : Int) then
    some false
  else
    Option.bind (α := Unit ⊕ Bool) (
      Option.bind (whileO (slices_Equal___int_int__l1 p0 p1) 0) fun z0 => match z0 with
        | .inl z =>
          some (.inr z)
        | .inr _ =>
          some (.inl ())) fun z0 => match z0 with
      | .inl _ =>
        some true
      | .inr z =>
        some z
set_option maxHeartbeats 4000000 in
set_option maxRecDepth 100000 in
theorem c_slices_Equal___int_int_ (E : Nat → Prop) (w0 : World) (p0 : (List Int)) (v0 : Value) (p1 : (List Int)) (v1 : Value) (r : Bool) (h : F_slices_Equal___int_int_ p0 p1 = some r) (S : St0 E [] w0 w0 [] [fRep (rL (rI .i64)) (v0) p0, fRep (rL (rI .i64)) (v1) p1]) :
    Calls Try.prog 59 #[v0, v1] w0 (Ret (X := Unit) E [] w0 (fun _ => .bool r) (fun _ => []) (fun _ => [])) := by
  unfold F_slices_Equal___int_int_ at h
  obtain ⟨ad1, cp2, _, rfl, _⟩ := S.know (i := 0) (e := fRep (rL (rI .i64)) (v0) p0) rfl
  obtain ⟨ad3, cp4, _, rfl, _⟩ := S.know (i := 1) (e := fRep (rL (rI .i64)) (v1) p1) rfl
  refine sEnter (args := [.slice ad1 p0.length cp2, .slice ad3 p1.length cp4]) 26 Try.func59 rfl rfl (by simp) S (fun a S => ?_)
  refine sSeq (fun K5 hK5 => ?_)
  refine sRegion ?_
  refine sMove (.bool false) S (wN rfl) (.inr rfl) rfl rfl (lb rfl) fun a S => ?_
  refine leafL (leafT (hK5 _ _ ?_))
  refine sSeq (fun K6 hK6 => ?_)
  refine sSeq (fun K7 hK7 => ?_)
  refine sRegion ?_
  refine sMove (.slice ad1 p0.length cp2) S (wN rfl) (.inl rfl) rfl rfl (lb rfl) fun a S => ?_
  refine sLen (ad := ad1) (m := p0.length) (c := cp2) S (wN rfl) rfl Try.underlying35 rfl rfl (lb rfl) fun a S => ?_
  refine sMove (.slice ad3 p1.length cp4) S (wN rfl) (.inl rfl) rfl rfl (lb rfl) fun a S => ?_
  refine sLen (ad := ad3) (m := p1.length) (c := cp4) S (wN rfl) rfl Try.underlying35 rfl rfl (lb rfl) fun a S => ?_
  refine sBin (.bool ((p0.length : Int) != (p1.length : Int))) S (wN rfl) rfl rfl rfl (bNe _ _ _ _ .i64 (p0.length : Int) (p1.length : Int)) rfl (lb rfl) fun a S => ?_
  refine leafL (leafT (hK7 _ _ ?_))
  rcases iteSome h with ⟨hc8, h⟩ | ⟨hc8, h⟩
  · refine sCondT S rfl hc8 ?_
    refine sSeq (fun K9 hK9 => ?_)
    refine sRegion ?_
    refine sMove (.bool false) S (wN rfl) (.inr rfl) rfl rfl (lb rfl) fun a S => ?_
    refine leafL (leafT (hK9 _ _ ?_))
    obtain rfl := Option.some.inj h
    exact wp_ret (rThen (sRet (.bool false) S (rsl1 rfl (rvT (t := 4) (v := .bool false) S rfl)) ⟨(), rfl, S.mem.sel [] [] (by decide) rfl rfl⟩))
  refine sCondF S rfl hc8 ?_
  refine wp_skip (leafT (hK6 _ _ ?_))
  obtain ⟨t10, h, g11⟩ := bindSome h
  refine sCut (fun a w => .inl () = t10 ∧ St [] E [] w0 26 a w [] [] []) ?_ (fun a w hI => ?_)
  rotate_left
  · obtain ⟨rfl, S⟩ := hI
    have h := g11
    clear g11
    try dsimp only at h
    refine sSeq (fun K41 hK41 => ?_)
    refine sRegion ?_
    refine sMove (.bool true) S (wN rfl) (.inr rfl) rfl rfl (lb rfl) fun a S => ?_
    refine leafL (leafT (hK41 _ _ ?_))
    obtain rfl := Option.some.inj h
    exact wp_ret (sRet (.bool true) S (rsl1 rfl (rvT (t := 4) (v := .bool true) S rfl)) ⟨(), rfl, S.mem.sel [] [] (by decide) rfl rfl⟩)
  refine sSeq (fun K12 hK12 => ?_)
  refine sRegion ?_
  refine sMove (.slice ad1 p0.length cp2) S (wN rfl) (.inl rfl) rfl rfl (lb rfl) fun a S => ?_
  refine sLen (ad := ad1) (m := p0.length) (c := cp2) S (wN rfl) rfl Try.underlying35 rfl rfl (lb rfl) fun a S => ?_
  refine sMove (iv 0) S (wN rfl) (.inl rfl) rfl rfl (lb rfl) fun a S => ?_
  refine leafL (leafT (hK12 _ _ ?_))
  refine wp_block ?_
  obtain ⟨t16, hl, g15⟩ := bindSome h
  refine sLoop hl (fun s0 a w => match s0 with | s13 => St [] E [] w0 26 a w [(0, .slice ad1 p0.length cp2), (1, .slice ad3 p1.length cp4), (12, iv (p0.length : Int)), (13, iv s13)] [] [fRep (rL (rI .i64)) (.slice ad1 p0.length cp2) p0, fRep (rL (rI .i64)) (.slice ad3 p1.length cp4) p1]) (S.fix [] [0, 1] (by decide) rfl rfl rfl) ?_
  clear hl h
  intro s13 a w c0 hI h hu14
  unfold slices_Equal___int_int__l1 at h
  dsimp only at h hI
  have S := hI
  refine sSeq (fun K17 hK17 => ?_)
  refine sRegion ?_
  refine sBin (.bool (decide (s13 < (p0.length : Int)))) S (wN rfl) rfl rfl rfl (bLt _ _ _ _ .i64 s13 (p0.length : Int)) rfl (lb rfl) fun a S => ?_
  refine leafL (leafT (hK17 _ _ ?_))
  refine sSeq (fun K18 hK18 => ?_)
  rcases iteSome h with ⟨hc19, h⟩ | ⟨hc19, h⟩
  rotate_left
  · refine sCondF S rfl hc19 ?_
    obtain rfl := Option.some.inj h
    obtain rfl := hu14 _ rfl
    have h := g15
    clear g15
    try dsimp only at h
    exact wp_exit (xThen (xThen (xHit (leafT (⟨Option.some.inj h, S.fix [] [] (by decide) rfl rfl rfl⟩)))))
  refine sCondT S rfl hc19 ?_
  refine wp_skip (leafT (hK18 _ _ ?_))
  refine sSeq (fun K20 hK20 => ?_)
  refine wp_block ?_
  refine sSeq (fun K21 hK21 => ?_)
  refine sRegion ?_
  refine sMove (iv s13) S (wN rfl) (.inl rfl) rfl rfl (lb rfl) fun a S => ?_
  refine sMove (iv s13) S (wN rfl) (.inr rfl) rfl rfl (lb rfl) fun a S => ?_
  refine leafL (leafT (hK21 _ _ ?_))
  refine sSeq (fun K22 hK22 => ?_)
  obtain ⟨x23, hx24, h⟩ := bindSome h
  obtain ⟨x28, hx29, h⟩ := bindSome h
  obtain ⟨q33, hq34, S⟩ := pIdx (P := Try.prog) (r := (rI .i64)) (v := .slice ad1 p0.length cp2) (xs := p0) (j := s13) 35 3 0 S Try.underlying35 rfl rfl hx24
  obtain ⟨u35, S⟩ := pLoad (r := (rI .i64)) (q := q33) (x := x23) 0 S rfl
  obtain rfl : u35 = iv x23 := S.mem.know (i := 1) (e := fRep (rI .i64) (u35) x23) rfl
  obtain ⟨q36, hq37, S⟩ := pIdx (P := Try.prog) (r := (rI .i64)) (v := .slice ad3 p1.length cp4) (xs := p1) (j := s13) 35 3 4 S Try.underlying35 rfl rfl hx29
  obtain ⟨u38, S⟩ := pLoad (r := (rI .i64)) (q := q36) (x := x28) 0 S rfl
  obtain rfl : u38 = iv x28 := S.mem.know (i := 1) (e := fRep (rI .i64) (u38) x28) rfl
  refine sDraw (nf := []) (W := [(0, 16, .slice ad1 p0.length cp2), (1, 17, iv s13), (2, 18, q33), (3, 19, iv x23), (4, 20, .slice ad3 p1.length cp4), (5, 21, iv s13), (6, 22, q36), (7, 23, iv x28), (8, 24, .bool (x23 != x28))]) rfl S ?_
  refine node_by (A := anc_slices_Equal___int_int__0) (nf := []) (Y := []) (W := [(0, 16, .slice ad1 p0.length cp2), (1, 17, iv s13), (2, 18, q33), (3, 19, iv x23), (4, 20, .slice ad3 p1.length cp4), (5, 21, iv s13), (6, 22, q36), (7, 23, iv x28), (8, 24, .bool (x23 != x28))]) 9 (by kernel_rfl) (by kernel_rfl) (by kernel_rfl) (by kernel_rfl) (by kernel_rfl) [0, 1, 2, 3, 4, 5, 6, 7, 8] (by kernel_rfl) (by decide) (by decide) (aF 0 8 (by decide) ?_ (aF 1 7 (by decide) ?_ (aF 2 6 (by decide) ?_ (aF 3 5 (by decide) ?_ (aF 4 4 (by decide) ?_ (aF 5 3 (by decide) ?_ (aF 6 2 (by decide) ?_ (aF 7 1 (by decide) ?_ (aF 8 0 (by decide) ?_ (trivial)))))))))) [(0, .slice ad1 p0.length cp2), (1, .slice ad3 p1.length cp4), (12, iv (p0.length : Int)), (13, iv s13), (24, .bool (x23 != x28))] (fin_of [none, none, none, none, some 8] rfl (by kernel_rfl) (by kernel_rfl)) (fun _ a w S => ?_)
  · refine fI 16 (.slice ad1 p0.length cp2) [(0, .slice ad1 p0.length cp2)] 0 [none] rfl rfl rfl rfl rfl rfl fun G a w S => ?_
    refine sMove (.slice ad1 p0.length cp2) S (wN rfl) (.inl rfl) rfl rfl (lb rfl) fun a S => ?_
    exact leafL ⟨rfl, S⟩
  · refine fI 17 (iv s13) [(5, iv s13)] 1 [none] rfl rfl rfl rfl rfl rfl fun G a w S => ?_
    refine sMove (iv s13) S (wN rfl) (.inl rfl) rfl rfl (lb rfl) fun a S => ?_
    exact leafL ⟨rfl, S⟩
  · refine fI 18 q33 [(16, .slice ad1 p0.length cp2), (17, iv s13)] 2 [some 0, some 1] rfl rfl rfl rfl rfl rfl fun G a w S => ?_
    refine sIdxV (v := .slice ad1 p0.length cp2) (k := .i64) (j := s13) S (wN rfl) rfl rfl rfl hq34 rfl (lb rfl) fun a S => ?_
    exact leafL ⟨rfl, S⟩
  · refine fI 19 (iv x23) [(18, q33)] 3 [some 2] rfl rfl rfl rfl rfl rfl fun G a w S => ?_
    refine sLoadV1 (vq := q33) 3 (iv x23) S (wN rfl) rfl rfl rfl rfl rfl (lb rfl) fun a S => ?_
    exact leafL ⟨rfl, S⟩
  · refine fI 20 (.slice ad3 p1.length cp4) [(1, .slice ad3 p1.length cp4)] 4 [none] rfl rfl rfl rfl rfl rfl fun G a w S => ?_
    refine sMove (.slice ad3 p1.length cp4) S (wN rfl) (.inl rfl) rfl rfl (lb rfl) fun a S => ?_
    exact leafL ⟨rfl, S⟩
  · refine fI 21 (iv s13) [(5, iv s13)] 5 [none] rfl rfl rfl rfl rfl rfl fun G a w S => ?_
    refine sMove (iv s13) S (wN rfl) (.inl rfl) rfl rfl (lb rfl) fun a S => ?_
    exact leafL ⟨rfl, S⟩
  · refine fI 22 q36 [(20, .slice ad3 p1.length cp4), (21, iv s13)] 6 [some 4, some 5] rfl rfl rfl rfl rfl rfl fun G a w S => ?_
    refine sIdxV (v := .slice ad3 p1.length cp4) (k := .i64) (j := s13) S (wN rfl) rfl rfl rfl hq37 rfl (lb rfl) fun a S => ?_
    exact leafL ⟨rfl, S⟩
  · refine fI 23 (iv x28) [(22, q36)] 7 [some 6] rfl rfl rfl rfl rfl rfl fun G a w S => ?_
    refine sLoadV1 (vq := q36) 0 (iv x28) S (wN rfl) rfl rfl rfl rfl rfl (lb rfl) fun a S => ?_
    exact leafL ⟨rfl, S⟩
  · refine fI 24 (.bool (x23 != x28)) [(19, iv x23), (23, iv x28)] 8 [some 3, some 7] rfl rfl rfl rfl rfl rfl fun G a w S => ?_
    refine sBin (.bool (x23 != x28)) S (wN rfl) rfl rfl rfl (bNe _ _ _ _ .i64 x23 x28) rfl (lb rfl) fun a S => ?_
    exact leafL ⟨rfl, S⟩
  refine leafT (hK22 _ _ ?_)
  rcases iteSome h with ⟨hc39, h⟩ | ⟨hc39, h⟩
  rotate_left
  · refine sCondF S rfl hc39 ?_
    refine wp_skip (leafB (leafT (hK20 _ _ ?_)))
    refine sRegion ?_
    refine sBin (iv (w64 (s13 + 1))) S (wN rfl) rfl rfl rfl (bAdd _ _ _ _ s13 1) rfl (lb rfl) fun a S => ?_
    refine sMove (iv (w64 (s13 + 1))) S (wN rfl) (.inl rfl) rfl rfl (lb rfl) fun a S => ?_
    exact leafL (leafT (⟨w64 (s13 + 1), (Option.some.inj h).symm, (S.fix [] [6, 7] (by decide) rfl rfl rfl)⟩))
  refine sCondT S rfl hc39 ?_
  refine sSeq (fun K40 hK40 => ?_)
  refine sRegion ?_
  refine sMove (.bool false) S (wN rfl) (.inr rfl) rfl rfl (lb rfl) fun a S => ?_
  refine leafL (leafT (hK40 _ _ ?_))
  obtain rfl := Option.some.inj h
  obtain rfl := hu14 _ rfl
  have h := g15
  clear g15
  try dsimp only at h
  obtain rfl := Option.some.inj h
  have h := g11
  clear g11
  try dsimp only at h
  obtain rfl := Option.some.inj h
  exact wp_ret (rBlock (rThen (rThen (rBlock (rThen (sRet (.bool false) S (rsl1 rfl (rvT (t := 4) (v := .bool false) S rfl)) ⟨(), rfl, S.mem.sel [] [] (by decide) rfl rfl⟩))))))

end Go.Proofs.Ythfifeabomdlpaa
namespace Go.Proofs.Ythfifeabomdlpaa
open Go.RowKit
set_option linter.unusedVariables false

noncomputable def F_slices_Chunk___int_int_ (p0 : (List Int)) (p1 : Int) : Option ((List Int) × Int) :=
  if decide (p1 < 1) then
    none
  else
    some (p0, p1)
def c_slices_Chunk___int_int__val (r : ((List Int) × Int)) (x : Value × Value) : Value := .func (.func 76) #[] #[x.1, x.2]
def c_slices_Chunk___int_int__D (r : ((List Int) × Int)) (x : Value × Value) : List Fact := [fPtr (rL (rI .i64)) x.1 r.1, fPtr (rI .i64) x.2 r.2]
set_option maxHeartbeats 4000000 in
set_option maxRecDepth 100000 in
theorem c_slices_Chunk___int_int_ (E : Nat → Prop) (w0 : World) (p0 : (List Int)) (v0 : Value) (p1 : Int) (r : ((List Int) × Int)) (h : F_slices_Chunk___int_int_ p0 p1 = some r) (S : St0 E [] w0 w0 [] [fRep (rL (rI .i64)) (v0) p0]) :
    Calls Try.prog 60 #[v0, iv p1] w0 (Ret (X := Value × Value) E [] w0 (c_slices_Chunk___int_int__val r) (fun _ => []) (c_slices_Chunk___int_int__D r)) := by
  unfold F_slices_Chunk___int_int_ at h
  obtain ⟨ad1, cp2, _, rfl, _⟩ := S.know (i := 0) (e := fRep (rL (rI .i64)) (v0) p0) rfl
  refine sEnter (args := [.slice ad1 p0.length cp2, iv p1]) 9 Try.func60 rfl rfl (by simp) S (fun a S => ?_)
  refine sSeq (fun K3 hK3 => ?_)
  refine sRegion ?_
  refine sBox (v := .slice ad1 p0.length cp2) S (wN rfl) rfl rfl [.slice ad1 p0.length cp2] rfl rfl (lb rfl) fun a b4 w S => ?_
  refine sBox (v := iv p1) S (wN rfl) rfl rfl [iv p1] rfl rfl (lb rfl) fun a b5 w S => ?_
  refine sMove (.nilFunc) S (wN rfl) (.inr rfl) rfl rfl (lb rfl) fun a S => ?_
  refine leafL (leafT (hK3 _ _ ?_))
  refine sSeq (fun K6 hK6 => ?_)
  refine sSeq (fun K7 hK7 => ?_)
  refine sRegion ?_
  refine sLoad1 (p := b5) (off := 0) (T := 3) (vs := [iv p1]) 0 (iv p1) S (wN rfl) rfl rfl rfl rfl rfl rfl (lb rfl) fun a S => ?_
  refine sBin (.bool (decide (p1 < 1))) S (wN rfl) rfl rfl rfl (bLt _ _ _ _ .i64 p1 1) rfl (lb rfl) fun a S => ?_
  refine leafL (leafT (hK7 _ _ ?_))
  rcases iteSome h with ⟨hc8, h⟩ | ⟨hc8, h⟩
  · refine sCondT S rfl hc8 ?_
    refine sRegion ?_
    cases h
  refine sCondF S rfl hc8 ?_
  refine wp_skip (leafT (hK6 _ _ ?_))
  refine sSeq (fun K9 hK9 => ?_)
  refine sRegion ?_
  refine sFunc (g := 76) (vs := [.pointer (some ⟨b4, 0, none⟩), .pointer (some ⟨b5, 0, none⟩)]) S (wN rfl) rfl rfl rfl (lb rfl) fun a S => ?_
  refine sMove (.func (.func 76) #[] #[.pointer (some ⟨b4, 0, none⟩), .pointer (some ⟨b5, 0, none⟩)]) S (wN rfl) (.inr rfl) rfl rfl (lb rfl) fun a S => ?_
  refine leafL (leafT (hK9 _ _ ?_))
  have S := S.shutB (r := (rL (rI .i64))) (T := 35) (b := b4) (cs := [.slice ad1 p0.length cp2]) 1 (.slice ad1 p0.length cp2) p0 rfl rfl (S.mem.know (i := 0) (e := fRep (rL (rI .i64)) (.slice ad1 p0.length cp2) p0) rfl)
  have S := S.shutB (r := (rI .i64)) (T := 3) (b := b5) (cs := [iv p1]) 0 (iv p1) p1 rfl rfl (rfl)
  obtain rfl := Option.some.inj h
  exact wp_ret (sRet (.func (.func 76) #[] #[.pointer (some ⟨b4, 0, none⟩), .pointer (some ⟨b5, 0, none⟩)]) S (rsl1 rfl (rvT (t := 4) (v := .func (.func 76) #[] #[.pointer (some ⟨b4, 0, none⟩), .pointer (some ⟨b5, 0, none⟩)]) S rfl)) ⟨((.pointer (some ⟨b4, 0, none⟩)), (.pointer (some ⟨b5, 0, none⟩))), rfl, S.mem.sel [] [1, 0] (by decide) rfl rfl⟩)

end Go.Proofs.Ythfifeabomdlpaa
namespace Go.Proofs.Ythfifeabomdlpaa
open Go.RowKit
set_option linter.unusedVariables false

noncomputable def F_block_Blocks_1_s0 (p0 : (List Int)) (p1 : (List Int)) : Option Bool :=
  Option.bind (F_slices_Equal___int_int_ p0 p1) fun r8 =>
  some r8
set_option maxHeartbeats 4000000 in
set_option maxRecDepth 100000 in
theorem c_block_Blocks_1_s0 (E : Nat → Prop) (w0 : World) (p0 : (List Int)) (v0 : Value) (p1 : (List Int)) (v1 : Value) (r : Bool) (h : F_block_Blocks_1_s0 p0 p1 = some r) (S : St0 E [] w0 w0 [] [fRep (rL (rI .i64)) (v0) p0, fPtr (rL (rI .i64)) (v1) p1]) :
    Calls Try.prog 62 #[v0, v1] w0 (Ret (X := Unit) E [] w0 (fun _ => .bool r) (fun _ => []) (fun _ => [])) := by
  unfold F_block_Blocks_1_s0 at h
  obtain ⟨ad1, cp2, _, rfl, _⟩ := S.know (i := 0) (e := fRep (rL (rI .i64)) (v0) p0) rfl
  refine sEnter (args := [.slice ad1 p0.length cp2, v1]) 7 Try.func62 rfl rfl (by simp) S (fun a S => ?_)
  refine sSeq (fun K3 hK3 => ?_)
  refine sRegion ?_
  refine sMove (.bool false) S (wN rfl) (.inr rfl) rfl rfl (lb rfl) fun a S => ?_
  refine leafL (leafT (hK3 _ _ ?_))
  refine sSeq (fun K4 hK4 => ?_)
  refine sRegion ?_
  refine sMove (.slice ad1 p0.length cp2) S (wN rfl) (.inl rfl) rfl rfl (lb rfl) fun a S => ?_
  obtain ⟨u5, S⟩ := pLoad (r := (rL (rI .i64))) (q := v1) (x := p1) 1 S rfl
  obtain ⟨ad6, cp7, _, rfl, _⟩ := S.mem.know (i := 1) (e := fRep (rL (rI .i64)) (u5) p1) rfl
  refine sLoadV1 (vq := v1) 0 (.slice ad6 p1.length cp7) S (wN rfl) rfl rfl rfl rfl rfl (lb rfl) fun a S => ?_
  obtain ⟨r8, hx9, h⟩ := bindSome h
  have S1 := S.mem
  refine sCallQ (X := Unit) (f := 59) (vs := [.slice ad1 p0.length cp2, .slice ad6 p1.length cp7]) (val := fun _ => .bool r8) S (wN rfl) rfl callee59 rfl (S1.quiet [2, 1] rfl) (fun E1 w1 S1 => c_slices_Equal___int_int_ E1 w1 p0 (.slice ad1 p0.length cp2) p1 (.slice ad6 p1.length cp7) r8 hx9 S1) rfl (lb rfl) fun _ a w S => ?_
  refine sMove (.bool r8) S (wN rfl) (.inr rfl) rfl rfl (lb rfl) fun a S => ?_
  refine leafL (leafT (hK4 _ _ ?_))
  obtain rfl := Option.some.inj h
  exact wp_ret (sRet (.bool r8) S (rsl1 rfl (rvT (t := 3) (v := .bool r8) S rfl)) ⟨(), rfl, S.mem.sel [] [] (by decide) rfl rfl⟩)

end Go.Proofs.Ythfifeabomdlpaa
namespace Go.Proofs.Ythfifeabomdlpaa
open Go.RowKit
set_option linter.unusedVariables false

noncomputable def slices_IndexFunc_____int___int__s1_l1 (p0 : (List (List Int))) (p1 : (List Int)) : Int → Option (Int ⊕ (Int ⊕ Unit)) := fun s0 => match s0 with
  | s7 =>
    if decide (s7 < (p0.length : Int)) then
      Option.bind (idxO p0 s7) fun x17 =>
      Option.bind (F_block_Blocks_1_s0 x17 p1) fun r24 =>
      if r24 then
        some (.inr (.inl s7))
      else
        some (.inl (w64 (s7 + 1)))
    else
      some (.inr (.inr ()))
noncomputable def F_slices_IndexFunc_____int___int__s1 (p0 : (List (List Int))) (p1 : (List Int)) : Option Int :=
  Option.bind (α := Unit ⊕ Int) (
    Option.bind (whileO (slices_IndexFunc_____int___int__s1_l1 p0 p1) 0) fun z0 => match z0 with
      | .inl z =>
        some (.inr z)
      | .inr _ =>
        some (.inl ())) fun z0 => match z0 with
    | .inl _ =>
      some (-1)
    | .inr z =>
      some z
set_option maxHeartbeats 4000000 in
set_option maxRecDepth 100000 in
theorem c_slices_IndexFunc_____int___int__s1 (E : Nat → Prop) (w0 : World) (p0 : (List (List Int))) (v0 : Value) (p1 : (List Int)) (v1 : Value) (r : Int) (h : F_slices_IndexFunc_____int___int__s1 p0 p1 = some r) (S : St0 E [] w0 w0 [] [fRep (rL (rL (rI .i64))) (v0) p0, fPtr (rL (rI .i64)) (v1) p1]) :
    Calls Try.prog 61 #[v0, .func (.func 62) #[] #[v1]] w0 (Ret (X := Unit) E [] w0 (fun _ => .int .i64 r) (fun _ => []) (fun _ => [])) := by
  unfold F_slices_IndexFunc_____int___int__s1 at h
  obtain ⟨ad1, cp2, _, rfl, _⟩ := S.know (i := 0) (e := fRep (rL (rL (rI .i64))) (v0) p0) rfl
  refine sEnter (args := [.slice ad1 p0.length cp2, .func (.func 62) #[] #[v1]]) 19 Try.func61 rfl rfl (by simp) S (fun a S => ?_)
  refine sSeq (fun K3 hK3 => ?_)
  refine sRegion ?_
  refine sMove (iv 0) S (wN rfl) (.inr rfl) rfl rfl (lb rfl) fun a S => ?_
  refine leafL (leafT (hK3 _ _ ?_))
  obtain ⟨t4, h, g5⟩ := bindSome h
  refine sCut (fun a w => .inl () = t4 ∧ St [] E [] w0 19 a w [] [] []) ?_ (fun a w hI => ?_)
  rotate_left
  · obtain ⟨rfl, S⟩ := hI
    have h := g5
    clear g5
    try dsimp only at h
    refine sSeq (fun K28 hK28 => ?_)
    refine sRegion ?_
    refine sMove (iv (-1)) S (wN rfl) (.inr rfl) rfl rfl (lb rfl) fun a S => ?_
    refine leafL (leafT (hK28 _ _ ?_))
    obtain rfl := Option.some.inj h
    exact wp_ret (sRet (iv (-1)) S (rsl1 rfl (rvT (t := 4) (v := iv (-1)) S rfl)) ⟨(), rfl, S.mem.sel [] [] (by decide) rfl rfl⟩)
  refine sSeq (fun K6 hK6 => ?_)
  refine sRegion ?_
  refine sMove (.slice ad1 p0.length cp2) S (wN rfl) (.inl rfl) rfl rfl (lb rfl) fun a S => ?_
  refine sLen (ad := ad1) (m := p0.length) (c := cp2) S (wN rfl) rfl Try.underlying46 rfl rfl (lb rfl) fun a S => ?_
  refine sMove (iv 0) S (wN rfl) (.inl rfl) rfl rfl (lb rfl) fun a S => ?_
  refine leafL (leafT (hK6 _ _ ?_))
  refine wp_block ?_
  obtain ⟨t10, hl, g9⟩ := bindSome h
  refine sLoop hl (fun s0 a w => match s0 with | s7 => St [] E [] w0 19 a w [(0, .slice ad1 p0.length cp2), (1, .func (.func 62) #[] #[v1]), (7, iv (p0.length : Int)), (8, iv s7)] [] [fPtr (rL (rI .i64)) (v1) p1, fRep (rL (rL (rI .i64))) (.slice ad1 p0.length cp2) p0]) (S.fix [] [1, 0] (by decide) rfl rfl rfl) ?_
  clear hl h
  intro s7 a w c0 hI h hu8
  unfold slices_IndexFunc_____int___int__s1_l1 at h
  dsimp only at h hI
  have S := hI
  refine sSeq (fun K11 hK11 => ?_)
  refine sRegion ?_
  refine sBin (.bool (decide (s7 < (p0.length : Int)))) S (wN rfl) rfl rfl rfl (bLt _ _ _ _ .i64 s7 (p0.length : Int)) rfl (lb rfl) fun a S => ?_
  refine leafL (leafT (hK11 _ _ ?_))
  refine sSeq (fun K12 hK12 => ?_)
  rcases iteSome h with ⟨hc13, h⟩ | ⟨hc13, h⟩
  rotate_left
  · refine sCondF S rfl hc13 ?_
    obtain rfl := Option.some.inj h
    obtain rfl := hu8 _ rfl
    have h := g9
    clear g9
    try dsimp only at h
    exact wp_exit (xThen (xThen (xHit (leafT (⟨Option.some.inj h, S.fix [] [] (by decide) rfl rfl rfl⟩)))))
  refine sCondT S rfl hc13 ?_
  refine wp_skip (leafT (hK12 _ _ ?_))
  refine sSeq (fun K14 hK14 => ?_)
  refine wp_block ?_
  refine sSeq (fun K15 hK15 => ?_)
  refine sRegion ?_
  refine sMove (iv s7) S (wN rfl) (.inl rfl) rfl rfl (lb rfl) fun a S => ?_
  refine sMove (iv s7) S (wN rfl) (.inr rfl) rfl rfl (lb rfl) fun a S => ?_
  refine leafL (leafT (hK15 _ _ ?_))
  refine sSeq (fun K16 hK16 => ?_)
  refine sRegion ?_
  refine sMove (.func (.func 62) #[] #[v1]) S (wN rfl) (.inl rfl) rfl rfl (lb rfl) fun a S => ?_
  refine sMove (.slice ad1 p0.length cp2) S (wN rfl) (.inl rfl) rfl rfl (lb rfl) fun a S => ?_
  refine sMove (iv s7) S (wN rfl) (.inl rfl) rfl rfl (lb rfl) fun a S => ?_
  obtain ⟨x17, hx18, h⟩ := bindSome h
  obtain ⟨q19, hq20, S⟩ := pIdx (P := Try.prog) (r := (rL (rI .i64))) (v := .slice ad1 p0.length cp2) (xs := p0) (j := s7) 46 35 1 S Try.underlying46 rfl rfl hx18
  refine sIdxV (v := .slice ad1 p0.length cp2) (k := .i64) (j := s7) S (wN rfl) rfl rfl rfl hq20 rfl (lb rfl) fun a S => ?_
  obtain ⟨u21, S⟩ := pLoad (r := (rL (rI .i64))) (q := q19) (x := x17) 0 S rfl
  obtain ⟨ad22, cp23, _, rfl, _⟩ := S.mem.know (i := 1) (e := fRep (rL (rI .i64)) (u21) x17) rfl
  refine sLoadV1 (vq := q19) 0 (.slice ad22 x17.length cp23) S (wN rfl) rfl rfl rfl rfl rfl (lb rfl) fun a S => ?_
  obtain ⟨r24, hx25, h⟩ := bindSome h
  have S1 := S.mem
  refine sCallVQ (X := Unit) (g := 62) (vs := [.slice ad22 x17.length cp23]) (caps := [v1]) (val := fun _ => .bool r24) S (wN rfl) rfl rfl callee62 rfl (S1.quiet [1, 3] rfl) (fun E1 w1 S1 => c_block_Blocks_1_s0 E1 w1 x17 (.slice ad22 x17.length cp23) p1 v1 r24 hx25 S1) rfl (lb rfl) fun _ a w S => ?_
  refine leafL (leafT (hK16 _ _ ?_))
  rcases iteSome h with ⟨hc26, h⟩ | ⟨hc26, h⟩
  rotate_left
  · refine sCondF S rfl hc26 ?_
    refine wp_skip (leafB (leafT (hK14 _ _ ?_)))
    refine sRegion ?_
    refine sBin (iv (w64 (s7 + 1))) S (wN rfl) rfl rfl rfl (bAdd _ _ _ _ s7 1) rfl (lb rfl) fun a S => ?_
    refine sMove (iv (w64 (s7 + 1))) S (wN rfl) (.inl rfl) rfl rfl (lb rfl) fun a S => ?_
    exact leafL (leafT (⟨w64 (s7 + 1), (Option.some.inj h).symm, (S.fix [] [3, 4] (by decide) rfl rfl rfl)⟩))
  refine sCondT S rfl hc26 ?_
  refine sSeq (fun K27 hK27 => ?_)
  refine sRegion ?_
  refine sMove (iv s7) S (wN rfl) (.inl rfl) rfl rfl (lb rfl) fun a S => ?_
  refine sMove (iv s7) S (wN rfl) (.inr rfl) rfl rfl (lb rfl) fun a S => ?_
  refine leafL (leafT (hK27 _ _ ?_))
  obtain rfl := Option.some.inj h
  obtain rfl := hu8 _ rfl
  have h := g9
  clear g9
  try dsimp only at h
  obtain rfl := Option.some.inj h
  have h := g5
  clear g5
  try dsimp only at h
  obtain rfl := Option.some.inj h
  exact wp_ret (rBlock (rThen (rThen (rBlock (rThen (sRet (iv s7) S (rsl1 rfl (rvT (t := 4) (v := iv s7) S rfl)) ⟨(), rfl, S.mem.sel [] [] (by decide) rfl rfl⟩))))))

end Go.Proofs.Ythfifeabomdlpaa
namespace Go.Proofs.Ythfifeabomdlpaa
open Go.RowKit
set_option linter.unusedVariables false

def anc_slices_Chunk___int_int__1_0 : List (List Nat) := [[], [], [], [1, 2], [1, 2, 3], [0, 1, 2, 3, 4], [0, 1, 2, 3, 4, 5]]
noncomputable def slices_Chunk___int_int__1_l1 {σ τ : Type} (p0 : (List Int)) (p1 : Int) (B : σ → (List Int) → Option (σ ⊕ τ)) : (Int × σ) → Option ((Int × σ) ⊕ ((σ ⊕ τ) ⊕ (σ))) := fun s0 => match s0 with
  | (s2, gz3) =>
    if decide (s2 < (p0.length : Int)) then
      Option.bind (sliceO p0 s2 (p0.length : Int)) fun y20 =>
      Option.bind (slice3O p0 s2 (w64 (s2 + (if (y20.length : Int) < p1 then (y20.length : Int) else p1))) (w64 (s2 + (if (y20.length : Int) < p1 then (y20.length : Int) else p1)))) fun y35 =>
      Option.bind (B gz3 y35) fun y38 =>
      match y38 with
      | .inl gz40 =>
        some (.inl (w64 (s2 + p1), gz40))
      | .inr tz41 =>
        some (.inr (.inl (.inr tz41)))
    else
      some (.inr (.inr gz3))
noncomputable def I_slices_Chunk___int_int__1 (p0 : (List Int)) (p1 : Int) (σ τ : Type) (B : σ → (List Int) → Option (σ ⊕ τ)) (gz0 : σ) : Option (σ ⊕ τ) :=
  Option.bind (whileO (slices_Chunk___int_int__1_l1 p0 p1 B) (0, gz0)) fun z0 => match z0 with
    | .inl z =>
      some z
    | .inr gz7 =>
      some (.inl gz7)
set_option maxHeartbeats 4000000 in
set_option maxRecDepth 100000 in
theorem it_slices_Chunk___int_int__1 (p0 : (List Int)) (v0 : Value) (p1 : Int) (v1 : Value) : SeqF Try.prog 76 #[v0, v1] (fA1 (rL (rI .i64))) (I_slices_Chunk___int_int__1 p0 p1) [fPtr (rL (rI .i64)) (v0) p0, fPtr (rI .i64) (v1) p1] := by
  refine seqF_of (lb := [v0, v1]) (fun σ τ B gz0 r h l J Jx E w0 hC S hJ => ?_)
  unfold I_slices_Chunk___int_int__1 at h
  refine sEnterI (args := [.func (.yield l) #[] #[], v0, v1]) 31 Try.func76 rfl rfl (by simp) S (fun a S => ?_)
  refine sSeq (fun K1 hK1 => ?_)
  refine sRegion ?_
  refine sMove (iv 0) S (wN rfl) (.inr rfl) rfl rfl (lb rfl) fun a S => ?_
  refine leafL (leafT (hK1 _ _ ?_))
  refine wp_block ?_
  obtain ⟨t6, hl, g5⟩ := bindSome h
  refine sLoop hl (fun s0 a w => match s0 with | (s2, gz3) => ∃ E w0, J gz3 E w0 ∧ St [] E [] w0 31 a w [(0, .func (.yield l) #[] #[]), (1, v0), (2, v1), (4, iv s2)] [] [fPtr (rL (rI .i64)) (v0) p0, fPtr (rI .i64) (v1) p1]) ⟨_, _, hJ, S.fix [] [0, 1] (by decide) rfl rfl rfl⟩ ?_
  clear hl h
  intro s0 a w c0 hI h hu4
  obtain ⟨s2, gz3⟩ := s0
  unfold slices_Chunk___int_int__1_l1 at h
  dsimp only at h hI
  obtain ⟨E, w0, hJ, S⟩ := hI
  refine sSeq (fun K8 hK8 => ?_)
  refine sSeq (fun K9 hK9 => ?_)
  refine sRegion ?_
  refine sMove (iv s2) S (wN rfl) (.inl rfl) rfl rfl (lb rfl) fun a S => ?_
  obtain ⟨u10, S⟩ := pLoad (r := (rL (rI .i64))) (q := v0) (x := p0) 0 S rfl
  obtain ⟨ad11, cp12, _, rfl, _⟩ := S.mem.know (i := 1) (e := fRep (rL (rI .i64)) (u10) p0) rfl
  refine sLoadV1 (vq := v0) 0 (.slice ad11 p0.length cp12) S (wN rfl) rfl rfl rfl rfl rfl (lb rfl) fun a S => ?_
  refine sLen (ad := ad11) (m := p0.length) (c := cp12) S (wN rfl) rfl Try.underlying35 rfl rfl (lb rfl) fun a S => ?_
  refine sBin (.bool (decide (s2 < (p0.length : Int)))) S (wN rfl) rfl rfl rfl (bLt _ _ _ _ .i64 s2 (p0.length : Int)) rfl (lb rfl) fun a S => ?_
  refine leafL (leafT (hK9 _ _ ?_))
  rcases iteSome h with ⟨hc13, h⟩ | ⟨hc13, h⟩
  rotate_left
  · refine sCondF S rfl hc13 ?_
    obtain rfl := Option.some.inj h
    obtain rfl := hu4 _ rfl
    have h := g5
    clear g5
    try dsimp only at h
    exact wp_exit (xThen (xThen (xHit (sEnd (.tuple #[]) S (res0 rfl) (sGoI S hC hJ (Option.some.inj h) _)))))
  refine sCondT S rfl hc13 ?_
  refine wp_skip (leafT (hK8 _ _ ?_))
  refine sSeq (fun K14 hK14 => ?_)
  refine wp_block ?_
  refine sSeq (fun K15 hK15 => ?_)
  obtain ⟨y20, hx21, h⟩ := bindSome h
  obtain ⟨u24, S⟩ := pLoad (r := (rI .i64)) (q := v1) (x := p1) 3 S rfl
  obtain rfl : u24 = iv p1 := S.mem.know (i := 1) (e := fRep (rI .i64) (u24) p1) rfl
  obtain ⟨u25, S⟩ := pLoad (r := (rL (rI .i64))) (q := v0) (x := p0) 4 S rfl
  obtain ⟨ad26, cp27, _, rfl, _⟩ := S.mem.know (i := 1) (e := fRep (rL (rI .i64)) (u25) p0) rfl
  refine sDraw (nf := [3]) (W := [(0, 13, iv p1), (1, 14, .slice ad26 p0.length cp27), (2, 15, iv s2)]) rfl S ?_
  refine node_by (A := anc_slices_Chunk___int_int__1_0) (nf := [3]) (Y := []) (W := [(0, 13, iv p1), (1, 14, .slice ad26 p0.length cp27), (2, 15, iv s2)]) 7 (by kernel_rfl) (by kernel_rfl) (by kernel_rfl) (by kernel_rfl) (by kernel_rfl) [0, 1, 2] (by kernel_rfl) (by decide) (by decide) (aF 0 6 (by decide) ?_ (aF 1 5 (by decide) ?_ (aF 2 4 (by decide) ?_ (aN 3 3 (by decide) ?_ (aE 4 2 3 (by decide) (aE 5 1 3 (by decide) (aE 6 0 3 (by decide) (trivial)))))))) [] (fun q hq => by cases hq) (fun hY => absurd (hY 3 (by decide)) (by decide))
  · refine fI 13 (iv p1) [(2, v1)] 0 [none] rfl rfl rfl rfl rfl rfl fun G a w S => ?_
    refine sLoadV1 (vq := v1) 2 (iv p1) S (wN rfl) rfl rfl rfl rfl rfl (lb rfl) fun a S => ?_
    exact leafL ⟨rfl, S⟩
  · refine fI 14 (.slice ad26 p0.length cp27) [(1, v0)] 1 [none] rfl rfl rfl rfl rfl rfl fun G a w S => ?_
    refine sLoadV1 (vq := v0) 0 (.slice ad26 p0.length cp27) S (wN rfl) rfl rfl rfl rfl rfl (lb rfl) fun a S => ?_
    exact leafL ⟨rfl, S⟩
  · refine fI 15 (iv s2) [(4, iv s2)] 2 [none] rfl rfl rfl rfl rfl rfl fun G a w S => ?_
    refine sMove (iv s2) S (wN rfl) (.inl rfl) rfl rfl (lb rfl) fun a S => ?_
    exact leafL ⟨rfl, S⟩
  refine ⟨_, [(14, .slice ad26 p0.length cp27), (15, iv s2)], rfl, (srcs_of [some 1, some 2] rfl rfl rfl), fun G a w S => ?_⟩
  refine sSlice (r := (rI .i64)) (v := .slice ad26 p0.length cp27) (xs := p0) (vlo := (some (.int .i64 s2))) (vhi := none) (lo' := s2) (hi' := (p0.length : Int)) 1 S (wN rfl) rfl Try.underlying35 rfl rfl rfl rfl rfl (.inl rfl) (.inr ⟨rfl, rfl⟩) hx21 rfl (lb rfl) fun a ad28 cp29 S => ?_
  refine leafL ⟨rfl, _, _, .inl ⟨16, (.slice ad28 y20.length cp29), [(4, 17, iv (y20.length : Int)), (5, 18, iv (if (y20.length : Int) < p1 then (y20.length : Int) else p1)), (6, 5, iv (if (y20.length : Int) < p1 then (y20.length : Int) else p1))], rfl, S, hz_of rfl, ?_⟩⟩
  refine node_by (A := anc_slices_Chunk___int_int__1_0) (nf := [3]) (Y := [3]) 7 (by kernel_rfl) (by kernel_rfl) (by kernel_rfl) (by kernel_rfl) (by kernel_rfl) [4, 5, 6, 3, 0, 1, 2] (by kernel_rfl) (by decide) (by decide) (aF 0 6 (by decide) ?_ (aD 1 5 3 (by decide) (aD 2 4 3 (by decide) (aY 3 3 (by decide) (aF 4 2 (by decide) ?_ (aF 5 1 (by decide) ?_ (aF 6 0 (by decide) ?_ (trivial)))))))) [(0, .func (.yield l) #[] #[]), (1, v0), (2, v1), (4, iv s2), (5, iv (if (y20.length : Int) < p1 then (y20.length : Int) else p1))] (fin_of [none, none, none, none, some 2] rfl (by kernel_rfl) (by kernel_rfl)) (fun _ a w S => ?_)
  · refine fI 13 (iv p1) [(2, v1)] 4 [none] rfl rfl rfl rfl rfl rfl fun G a w S => ?_
    refine sLoadV1 (vq := v1) 3 (iv p1) S (wN rfl) rfl rfl rfl rfl rfl (lb rfl) fun a S => ?_
    exact leafL ⟨rfl, S⟩
  · refine fI 17 (iv (y20.length : Int)) [(16, .slice ad28 y20.length cp29)] 0 [some 3] rfl rfl rfl rfl rfl rfl fun G a w S => ?_
    refine sLen (ad := ad28) (m := y20.length) (c := cp29) S (wN rfl) rfl Try.underlying35 rfl rfl (lb rfl) fun a S => ?_
    exact leafL ⟨rfl, S⟩
  · refine fI 18 (iv (if (y20.length : Int) < p1 then (y20.length : Int) else p1)) [(13, iv p1), (17, iv (y20.length : Int))] 1 [some 4, some 0] rfl rfl rfl rfl rfl rfl fun G a w S => ?_
    refine sMin2 (p := p1) (q := (y20.length : Int)) S (wN rfl) rfl rfl rfl rfl (lb rfl) fun a S => ?_
    exact leafL ⟨rfl, S⟩
  · refine fI 5 (iv (if (y20.length : Int) < p1 then (y20.length : Int) else p1)) [(18, iv (if (y20.length : Int) < p1 then (y20.length : Int) else p1))] 2 [some 1] rfl rfl rfl rfl rfl rfl fun G a w S => ?_
    refine sMove (iv (if (y20.length : Int) < p1 then (y20.length : Int) else p1)) S (wN rfl) (.inr rfl) rfl rfl (lb rfl) fun a S => ?_
    exact leafL ⟨rfl, S⟩
  refine leafT (hK15 _ _ ?_)
  refine sSeq (fun K30 hK30 => ?_)
  refine sRegionY ?_
  refine sSplitR (by repeat (first | exact roundU_out | exact it_out | exact lo_false | refine lo_then ?_ | refine lo_block ?_)) 10 rfl (fun K31 hK31 => ?_)
  refine sMove (.func (.yield l) #[] #[]) S (wN rfl) (.inl rfl) rfl rfl (lb rfl) fun a S => ?_
  obtain ⟨u32, S⟩ := pLoad (r := (rL (rI .i64))) (q := v0) (x := p0) 7 S rfl
  obtain ⟨ad33, cp34, _, rfl, _⟩ := S.mem.know (i := 1) (e := fRep (rL (rI .i64)) (u32) p0) rfl
  refine sLoadV1 (vq := v0) 0 (.slice ad33 p0.length cp34) S (wN rfl) rfl rfl rfl rfl rfl (lb rfl) fun a S => ?_
  refine sMove (iv s2) S (wN rfl) (.inl rfl) rfl rfl (lb rfl) fun a S => ?_
  refine sMove (iv s2) S (wN rfl) (.inl rfl) rfl rfl (lb rfl) fun a S => ?_
  refine sMove (iv (if (y20.length : Int) < p1 then (y20.length : Int) else p1)) S (wN rfl) (.inl rfl) rfl rfl (lb rfl) fun a S => ?_
  refine sBin (iv (w64 (s2 + (if (y20.length : Int) < p1 then (y20.length : Int) else p1)))) S (wN rfl) rfl rfl rfl (bAdd _ _ _ _ s2 (if (y20.length : Int) < p1 then (y20.length : Int) else p1)) rfl (lb rfl) fun a S => ?_
  refine sMove (iv s2) S (wN rfl) (.inl rfl) rfl rfl (lb rfl) fun a S => ?_
  refine sMove (iv (if (y20.length : Int) < p1 then (y20.length : Int) else p1)) S (wN rfl) (.inl rfl) rfl rfl (lb rfl) fun a S => ?_
  refine sBin (iv (w64 (s2 + (if (y20.length : Int) < p1 then (y20.length : Int) else p1)))) S (wN rfl) rfl rfl rfl (bAdd _ _ _ _ s2 (if (y20.length : Int) < p1 then (y20.length : Int) else p1)) rfl (lb rfl) fun a S => ?_
  obtain ⟨y35, hx36, h⟩ := bindSome h
  refine sSlice3 (r := (rI .i64)) (ad := ad33) (c := cp34) (xs := p0) (vlo := (some (.int .i64 s2))) (lo' := s2) (hi' := w64 (s2 + (if (y20.length : Int) < p1 then (y20.length : Int) else p1))) (mx' := w64 (s2 + (if (y20.length : Int) < p1 then (y20.length : Int) else p1))) 1 S (wN rfl) rfl Try.underlying35 rfl rfl rfl rfl rfl rfl (.inl rfl) hx36 rfl (lb rfl) fun a ad37 S => ?_
  refine leafL ⟨rfl, hK31 _ _ ?_⟩
  obtain ⟨y38, hy39, h⟩ := bindSome h
  refine sYieldI y35 [.slice ad37 y35.length (Int.toNat (w64 (s2 + (if (y20.length : Int) < p1 then (y20.length : Int) else p1))) - Int.toNat s2)] S hC hJ hy39 (fA1_mk (S.mem.know (i := 0) (e := fRep (rL (rI .i64)) (.slice ad37 y35.length (Int.toNat (w64 (s2 + (if (y20.length : Int) < p1 then (y20.length : Int) else p1))) - Int.toNat s2)) y35) rfl)) (wN rfl) rfl rfl rfl rfl (by decide) (fun gz40 E a w hb hJ S => ?_) (fun tz41 a w hb hJ S => ?_)
  · obtain rfl := hb
    dsimp only at h
    refine list_inR (by repeat (first | exact roundU_out | exact it_out | exact lo_false | refine lo_then ?_ | refine lo_block ?_)) _ rfl _ _ ?_
    refine sNot (b := true) S (wN rfl) rfl rfl rfl (lb rfl) fun a S => ?_
    refine leafL (leafT (hK30 _ _ ?_))
    refine sCondF S rfl rfl ?_
    refine wp_skip (leafB (leafT (hK14 _ _ ?_)))
    refine sRegion ?_
    refine sMove (iv s2) S (wN rfl) (.inl rfl) rfl rfl (lb rfl) fun a S => ?_
    obtain ⟨u42, S⟩ := pLoad (r := (rI .i64)) (q := v1) (x := p1) 11 S rfl
    obtain rfl : u42 = iv p1 := S.mem.know (i := 1) (e := fRep (rI .i64) (u42) p1) rfl
    refine sLoadV1 (vq := v1) 0 (iv p1) S (wN rfl) rfl rfl rfl rfl rfl (lb rfl) fun a S => ?_
    refine sBin (iv (w64 (s2 + p1))) S (wN rfl) rfl rfl rfl (bAdd _ _ _ _ s2 p1) rfl (lb rfl) fun a S => ?_
    refine sMove (iv (w64 (s2 + p1))) S (wN rfl) (.inr rfl) rfl rfl (lb rfl) fun a S => ?_
    exact leafL (leafT (⟨(w64 (s2 + p1), gz40), (Option.some.inj h).symm, ⟨_, _, hJ, S.fix [] [12, 13] (by decide) rfl rfl rfl⟩⟩))
  · obtain rfl := hb
    dsimp only at h
    refine list_inR (by repeat (first | exact roundU_out | exact it_out | exact lo_false | refine lo_then ?_ | refine lo_block ?_)) _ rfl _ _ ?_
    refine sNot (b := false) S (wN rfl) rfl rfl rfl (lb rfl) fun a S => ?_
    refine leafL (leafT (hK30 _ _ ?_))
    refine sCondT S rfl rfl ?_
    obtain rfl := Option.some.inj h
    obtain rfl := hu4 _ rfl
    have h := g5
    clear g5
    try dsimp only at h
    exact wp_ret (rBlock (rThen (rThen (rBlock (sRet (.tuple #[]) S (res0 rfl) (sStopI S hC hJ (Option.some.inj h) _))))))

end Go.Proofs.Ythfifeabomdlpaa
namespace Go.Proofs.Ythfifeabomdlpaa
open Go.RowKit
set_option linter.unusedVariables false

noncomputable def block_Blocks_l1 (y44 : List (List Int)) (x36 : (List Int)) : Int → Option (Int ⊕ (((List Int) × Int) ⊕ Unit)) := fun s0 => match s0 with
  | s48 =>
    if decide (s48 < (y44.length : Int)) then
      Option.bind (idxO y44 s48) fun x57 =>
      Option.bind (F_slices_Equal___int_int_ x36 x57) fun r65 =>
      if r65 then
        some (.inr (.inl (([] : (List Int)), 14)))
      else
        some (.inl (w64 (s48 + 1)))
    else
      some (.inr (.inr ()))
noncomputable def block_Blocks_l2 (p1 : (List (List Int))) : Int → Option (Int ⊕ (((List Int) × Int) ⊕ Unit)) := fun s0 => match s0 with
  | s26 =>
    if decide (s26 < (p1.length : Int)) then
      Option.bind (α := Unit ⊕ ((List Int) × Int)) (
        Option.bind (idxO p1 s26) fun x36 =>
        Option.bind (sliceO p1 0 s26) fun y44 =>
        Option.bind (whileO (block_Blocks_l1 y44 x36) 0) fun z0 => match z0 with
          | .inl z =>
            some (.inr z)
          | .inr _ =>
            some (.inl ())) fun z0 => match z0 with
        | .inl _ =>
          some (.inl (w64 (s26 + 1)))
        | .inr z =>
          some (.inr (.inl z))
    else
      some (.inr (.inr ()))
noncomputable def block_Blocks_l4 (p1 : (List (List Int))) : List Int → (List Int) → Option (List Int ⊕ Unit) := fun s0 x0 => match s0, x0 with
  | s91, x94 =>
    Option.bind (F_slices_IndexFunc_____int___int__s1 p1 x94) fun r100 =>
    if decide (r100 < 0) then
      some (.inr ())
    else
      Option.bind (appO s91 ([r100] : List Int)) fun l108 =>
      some (.inl l108)
noncomputable def F_block_Blocks (p0 : (List Int)) (p1 : (List (List Int))) : Option ((List Int) × Int) :=
  Option.bind (F_thread_Check p0) fun r11 =>
  if r11 != 0 then
    some (([] : (List Int)), r11)
  else
    Option.bind (F_block_spelled p1) fun r18 =>
    if r18 != 0 then
      some (([] : (List Int)), r18)
    else
      Option.bind (α := Unit ⊕ ((List Int) × Int)) (
        Option.bind (whileO (block_Blocks_l2 p1) 0) fun z0 => match z0 with
          | .inl z =>
            some (.inr z)
          | .inr _ =>
            some (.inl ())) fun z0 => match z0 with
        | .inl _ =>
          Option.bind (idxO p1 0) fun x70 =>
          Option.bind (remI (p0.length : Int) (x70.length : Int)) fun z79 =>
          if z79 != 0 then
            some (([] : (List Int)), 26)
          else
            Option.bind (F_slices_Chunk___int_int_ p0 (x70.length : Int)) fun r87 =>
            Option.bind (I_slices_Chunk___int_int__1 r87.1 r87.2 _ _ (block_Blocks_l4 p1) ([] : List Int)) fun z0 => match z0 with
              | .inl s91 =>
                some (s91, 0)
              | .inr _ =>
                some (([] : (List Int)), 6)
        | .inr z =>
          some z
def c_block_Blocks_val (r : ((List Int) × Int)) (x : Value) : Value := .tuple #[x, .int .i64 r.2]
def c_block_Blocks_D (r : ((List Int) × Int)) (x : Value) : List Fact := [fRep (rL (rI .i64)) x r.1]
set_option maxHeartbeats 4000000 in
set_option maxRecDepth 100000 in
theorem c_block_Blocks (E : Nat → Prop) (w0 : World) (p0 : (List Int)) (v0 : Value) (p1 : (List (List Int))) (v1 : Value) (r : ((List Int) × Int)) (h : F_block_Blocks p0 p1 = some r) (S : St0 E [] w0 w0 [] [fRep (rL (rI .i64)) (v0) p0, fRep (rL (rL (rI .i64))) (v1) p1]) :
    Calls Try.prog 29 #[v0, v1] w0 (Ret (X := Value) E [] w0 (c_block_Blocks_val r) (fun _ => []) (c_block_Blocks_D r)) := by
  unfold F_block_Blocks at h
  obtain ⟨ad1, cp2, _, rfl, _⟩ := S.know (i := 0) (e := fRep (rL (rI .i64)) (v0) p0) rfl
  obtain ⟨ad3, cp4, _, rfl, _⟩ := S.know (i := 1) (e := fRep (rL (rL (rI .i64))) (v1) p1) rfl
  refine sEnterM (args := [.slice ad1 p0.length cp2, .slice ad3 p1.length cp4]) 69 Try.func29 rfl rfl (by simp) S (fun a S => ?_)
  refine sSeq (fun K5 hK5 => ?_)
  refine sRegion ?_
  refine sBox (v := .slice ad3 p1.length cp4) S (wN rfl) rfl rfl [.slice ad3 p1.length cp4] rfl rfl (lb rfl) fun a b6 w S => ?_
  refine sAlloc (.slice none 0 0) S (wN rfl) rfl rfl [.slice none 0 0] rfl rfl (lb rfl) fun a b7 w S => ?_
  refine sAlloc (iv 0) S (wN rfl) rfl rfl [iv 0] rfl rfl (lb rfl) fun a b8 w S => ?_
  refine leafL (leafT (hK5 _ _ ?_))
  refine sSeq (fun K9 hK9 => ?_)
  refine sSeq (fun K10 hK10 => ?_)
  refine sRegion ?_
  refine sMove (.slice ad1 p0.length cp2) S (wN rfl) (.inl rfl) rfl rfl (lb rfl) fun a S => ?_
  obtain ⟨r11, hx12, h⟩ := bindSome h
  have S1 := S.mem
  refine sCallQ (X := Unit) (f := 57) (vs := [.slice ad1 p0.length cp2]) (val := fun _ => iv r11) S (wN rfl) rfl callee57 rfl (S1.quiet [0] rfl) (fun E1 w1 S1 => c_thread_Check E1 w1 p0 (.slice ad1 p0.length cp2) r11 hx12 S1) rfl (lb rfl) fun _ a w S => ?_
  refine sMove (iv r11) S (wN rfl) (.inr rfl) rfl rfl (lb rfl) fun a S => ?_
  refine leafL (leafT (hK10 _ _ ?_))
  refine sSeq (fun K13 hK13 => ?_)
  refine sRegion ?_
  refine sMove (iv r11) S (wN rfl) (.inl rfl) rfl rfl (lb rfl) fun a S => ?_
  refine sBin (.bool (r11 != 0)) S (wN rfl) rfl rfl rfl (bNe _ _ _ _ .i64 r11 0) rfl (lb rfl) fun a S => ?_
  refine leafL (leafT (hK13 _ _ ?_))
  rcases iteSome h with ⟨hc14, h⟩ | ⟨hc14, h⟩
  · refine sCondT S rfl hc14 ?_
    refine sSeq (fun K15 hK15 => ?_)
    refine sRegion ?_
    refine sMove (iv r11) S (wN rfl) (.inl rfl) rfl rfl (lb rfl) fun a S => ?_
    refine sStore (p := b7) (off := 0) (T := 35) (vs := [.slice none 0 0]) (v := .slice none 0 0) 1 [.slice none 0 0] S (wN rfl) rfl rfl rfl rfl rfl rfl rfl (by simp) rfl fun a w S => ?_
    refine sStore (p := b8) (off := 0) (T := 27) (vs := [iv 0]) (v := iv r11) 1 [iv r11] S (wN rfl) rfl rfl rfl rfl rfl rfl rfl (by simp) rfl fun a w S => ?_
    refine leafL (leafT (hK15 _ _ ?_))
    obtain rfl := Option.some.inj h
    have S := S.learn (fRep (rL (rI .i64)) (.slice none 0 0) ([] : (List Int))) (rL_nil _ _ _)
    exact wp_ret (rThen (sRetM0 (.tuple #[.slice none 0 0, iv r11]) S (rsl2 rfl (rv1 (c := 4) (t := 35) (T := 35) (p := b7) 1 (.slice none 0 0) S rfl rfl rfl) (rv1 (c := 5) (t := 27) (T := 27) (p := b8) 0 (iv r11) S rfl rfl rfl)) ⟨(.slice none 0 0), rfl, S.mem.sel [] [0] (by decide) rfl rfl⟩))
  refine sCondF S rfl hc14 ?_
  refine wp_skip (leafT (hK9 _ _ ?_))
  refine sSeq (fun K16 hK16 => ?_)
  refine sSeq (fun K17 hK17 => ?_)
  refine sRegion ?_
  refine sLoad1 (p := b6) (off := 0) (T := 46) (vs := [.slice ad3 p1.length cp4]) 2 (.slice ad3 p1.length cp4) S (wN rfl) rfl rfl rfl rfl rfl rfl (lb rfl) fun a S => ?_
  obtain ⟨r18, hx19, h⟩ := bindSome h
  have S1 := S.mem
  refine sCallQ (X := Unit) (f := 58) (vs := [.slice ad3 p1.length cp4]) (val := fun _ => iv r18) S (wN rfl) rfl callee58 rfl (S1.quiet [1] rfl) (fun E1 w1 S1 => c_block_spelled E1 w1 p1 (.slice ad3 p1.length cp4) r18 hx19 S1) rfl (lb rfl) fun _ a w S => ?_
  refine sMove (iv r18) S (wN rfl) (.inr rfl) rfl rfl (lb rfl) fun a S => ?_
  refine leafL (leafT (hK17 _ _ ?_))
  refine sSeq (fun K20 hK20 => ?_)
  refine sRegion ?_
  refine sMove (iv r18) S (wN rfl) (.inl rfl) rfl rfl (lb rfl) fun a S => ?_
  refine sBin (.bool (r18 != 0)) S (wN rfl) rfl rfl rfl (bNe _ _ _ _ .i64 r18 0) rfl (lb rfl) fun a S => ?_
  refine leafL (leafT (hK20 _ _ ?_))
  rcases iteSome h with ⟨hc21, h⟩ | ⟨hc21, h⟩
  · refine sCondT S rfl hc21 ?_
    refine sSeq (fun K22 hK22 => ?_)
    refine sRegion ?_
    refine sMove (iv r18) S (wN rfl) (.inl rfl) rfl rfl (lb rfl) fun a S => ?_
    refine sStore (p := b7) (off := 0) (T := 35) (vs := [.slice none 0 0]) (v := .slice none 0 0) 1 [.slice none 0 0] S (wN rfl) rfl rfl rfl rfl rfl rfl rfl (by simp) rfl fun a w S => ?_
    refine sStore (p := b8) (off := 0) (T := 27) (vs := [iv 0]) (v := iv r18) 1 [iv r18] S (wN rfl) rfl rfl rfl rfl rfl rfl rfl (by simp) rfl fun a w S => ?_
    refine leafL (leafT (hK22 _ _ ?_))
    obtain rfl := Option.some.inj h
    have S := S.learn (fRep (rL (rI .i64)) (.slice none 0 0) ([] : (List Int))) (rL_nil _ _ _)
    exact wp_ret (rThen (sRetM0 (.tuple #[.slice none 0 0, iv r18]) S (rsl2 rfl (rv1 (c := 4) (t := 35) (T := 35) (p := b7) 1 (.slice none 0 0) S rfl rfl rfl) (rv1 (c := 5) (t := 27) (T := 27) (p := b8) 0 (iv r18) S rfl rfl rfl)) ⟨(.slice none 0 0), rfl, S.mem.sel [] [0] (by decide) rfl rfl⟩))
  refine sCondF S rfl hc21 ?_
  refine wp_skip (leafT (hK16 _ _ ?_))
  obtain ⟨t23, h, g24⟩ := bindSome h
  refine sCut (fun a w => .inl () = t23 ∧ St [] E [] w0 69 a w [(0, .slice ad1 p0.length cp2), (3, .pointer (some ⟨b6, 0, none⟩)), (4, .pointer (some ⟨b7, 0, none⟩)), (5, .pointer (some ⟨b8, 0, none⟩))] [eBox b6 46 [.slice ad3 p1.length cp4], eBox b7 35 [.slice none 0 0], eBox b8 27 [iv 0]] [fRep (rL (rI .i64)) (.slice ad1 p0.length cp2) p0, fRep (rL (rL (rI .i64))) (.slice ad3 p1.length cp4) p1]) ?_ (fun a w hI => ?_)
  · refine sSeq (fun K25 hK25 => ?_)
    refine sRegion ?_
    refine sLoad1 (p := b6) (off := 0) (T := 46) (vs := [.slice ad3 p1.length cp4]) 2 (.slice ad3 p1.length cp4) S (wN rfl) rfl rfl rfl rfl rfl rfl (lb rfl) fun a S => ?_
    refine sLen (ad := ad3) (m := p1.length) (c := cp4) S (wN rfl) rfl Try.underlying46 rfl rfl (lb rfl) fun a S => ?_
    refine sMove (iv 0) S (wN rfl) (.inl rfl) rfl rfl (lb rfl) fun a S => ?_
    refine leafL (leafT (hK25 _ _ ?_))
    refine wp_block ?_
    obtain ⟨t29, hl, g28⟩ := bindSome h
    refine sLoop hl (fun s0 a w => match s0 with | s26 => St [] E [] w0 69 a w [(0, .slice ad1 p0.length cp2), (3, .pointer (some ⟨b6, 0, none⟩)), (4, .pointer (some ⟨b7, 0, none⟩)), (5, .pointer (some ⟨b8, 0, none⟩)), (26, .slice ad3 p1.length cp4), (27, iv (p1.length : Int)), (28, iv s26)] [eBox b6 46 [.slice ad3 p1.length cp4], eBox b7 35 [.slice none 0 0], eBox b8 27 [iv 0]] [fRep (rL (rI .i64)) (.slice ad1 p0.length cp2) p0, fRep (rL (rL (rI .i64))) (.slice ad3 p1.length cp4) p1]) (S.fix [2, 1, 0] [0, 1] (by decide) rfl rfl rfl) ?_
    clear hl h
    intro s26 a w c0 hI h hu27
    unfold block_Blocks_l2 at h
    dsimp only at h hI
    have S := hI
    refine sSeq (fun K30 hK30 => ?_)
    refine sRegion ?_
    refine sBin (.bool (decide (s26 < (p1.length : Int)))) S (wN rfl) rfl rfl rfl (bLt _ _ _ _ .i64 s26 (p1.length : Int)) rfl (lb rfl) fun a S => ?_
    refine leafL (leafT (hK30 _ _ ?_))
    refine sSeq (fun K31 hK31 => ?_)
    rcases iteSome h with ⟨hc32, h⟩ | ⟨hc32, h⟩
    rotate_left
    · refine sCondF S rfl hc32 ?_
      obtain rfl := Option.some.inj h
      obtain rfl := hu27 _ rfl
      have h := g28
      clear g28
      try dsimp only at h
      exact wp_exit (xThen (xThen (xHit (leafT (⟨Option.some.inj h, S.fix [0, 1, 2] [0, 1] (by decide) rfl rfl rfl⟩)))))
    refine sCondT S rfl hc32 ?_
    refine wp_skip (leafT (hK31 _ _ ?_))
    obtain ⟨t33, h, g34⟩ := bindSome h
    refine sCut (fun a w => .inl () = t33 ∧ St [] E [] w0 69 a w [(0, .slice ad1 p0.length cp2), (3, .pointer (some ⟨b6, 0, none⟩)), (4, .pointer (some ⟨b7, 0, none⟩)), (5, .pointer (some ⟨b8, 0, none⟩)), (26, .slice ad3 p1.length cp4), (27, iv (p1.length : Int)), (28, iv s26)] [eBox b6 46 [.slice ad3 p1.length cp4], eBox b7 35 [.slice none 0 0], eBox b8 27 [iv 0]] [fRep (rL (rI .i64)) (.slice ad1 p0.length cp2) p0, fRep (rL (rL (rI .i64))) (.slice ad3 p1.length cp4) p1]) ?_ (fun a w hI => ?_)
    rotate_left
    · obtain ⟨rfl, S⟩ := hI
      have h := g34
      clear g34
      try dsimp only at h
      refine sRegion ?_
      refine sBin (iv (w64 (s26 + 1))) S (wN rfl) rfl rfl rfl (bAdd _ _ _ _ s26 1) rfl (lb rfl) fun a S => ?_
      refine sMove (iv (w64 (s26 + 1))) S (wN rfl) (.inl rfl) rfl rfl (lb rfl) fun a S => ?_
      exact leafL (leafT (⟨w64 (s26 + 1), (Option.some.inj h).symm, (S.fix [0, 1, 2] [0, 1] (by decide) rfl rfl rfl)⟩))
    refine wp_block ?_
    refine sSeq (fun K35 hK35 => ?_)
    refine sRegion ?_
    refine sMove (iv s26) S (wN rfl) (.inl rfl) rfl rfl (lb rfl) fun a S => ?_
    obtain ⟨x36, hx37, h⟩ := bindSome h
    obtain ⟨q38, hq39, S⟩ := pIdx (P := Try.prog) (r := (rL (rI .i64))) (v := .slice ad3 p1.length cp4) (xs := p1) (j := s26) 46 35 1 S Try.underlying46 rfl rfl hx37
    refine sIdxV (v := .slice ad3 p1.length cp4) (k := .i64) (j := s26) S (wN rfl) rfl rfl rfl hq39 rfl (lb rfl) fun a S => ?_
    obtain ⟨u40, S⟩ := pLoad (r := (rL (rI .i64))) (q := q38) (x := x36) 0 S rfl
    obtain ⟨ad41, cp42, _, rfl, _⟩ := S.mem.know (i := 1) (e := fRep (rL (rI .i64)) (u40) x36) rfl
    refine sLoadV1 (vq := q38) 0 (.slice ad41 x36.length cp42) S (wN rfl) rfl rfl rfl rfl rfl (lb rfl) fun a S => ?_
    refine sMove (iv s26) S (wN rfl) (.inr rfl) rfl rfl (lb rfl) fun a S => ?_
    refine sMove (.slice ad41 x36.length cp42) S (wN rfl) (.inr rfl) rfl rfl (lb rfl) fun a S => ?_
    refine leafL (leafT (hK35 _ _ ?_))
    refine sSeq (fun K43 hK43 => ?_)
    refine sRegion ?_
    refine sLoad1 (p := b6) (off := 0) (T := 46) (vs := [.slice ad3 p1.length cp4]) 0 (.slice ad3 p1.length cp4) S (wN rfl) rfl rfl rfl rfl rfl rfl (lb rfl) fun a S => ?_
    refine sMove (iv s26) S (wN rfl) (.inl rfl) rfl rfl (lb rfl) fun a S => ?_
    obtain ⟨y44, hx45, h⟩ := bindSome h
    refine sSlice (r := (rL (rI .i64))) (v := .slice ad3 p1.length cp4) (xs := p1) (vlo := none) (vhi := (some (.int .i64 s26))) (lo' := 0) (hi' := s26) 4 S (wN rfl) rfl Try.underlying46 rfl rfl rfl rfl rfl (.inr ⟨rfl, rfl⟩) (.inl rfl) hx45 rfl (lb rfl) fun a ad46 cp47 S => ?_
    refine sLen (ad := ad46) (m := y44.length) (c := cp47) S (wN rfl) rfl Try.underlying46 rfl rfl (lb rfl) fun a S => ?_
    refine sMove (iv 0) S (wN rfl) (.inl rfl) rfl rfl (lb rfl) fun a S => ?_
    refine leafL (leafT (hK43 _ _ ?_))
    refine wp_block ?_
    obtain ⟨t51, hl, g50⟩ := bindSome h
    refine sLoop hl (fun s0 a w => match s0 with | s48 => St [] E [] w0 69 a w [(0, .slice ad1 p0.length cp2), (3, .pointer (some ⟨b6, 0, none⟩)), (4, .pointer (some ⟨b7, 0, none⟩)), (5, .pointer (some ⟨b8, 0, none⟩)), (9, .slice ad41 x36.length cp42), (26, .slice ad3 p1.length cp4), (27, iv (p1.length : Int)), (28, iv s26), (35, .slice ad46 y44.length cp47), (36, iv (y44.length : Int)), (37, iv s48)] [eBox b6 46 [.slice ad3 p1.length cp4], eBox b7 35 [.slice none 0 0], eBox b8 27 [iv 0]] [fRep (rL (rI .i64)) (.slice ad1 p0.length cp2) p0, fRep (rL (rI .i64)) (.slice ad41 x36.length cp42) x36, fRep (rL (rL (rI .i64))) (.slice ad3 p1.length cp4) p1, fRep (rL (rL (rI .i64))) (.slice ad46 y44.length cp47) y44]) (S.fix [0, 1, 2] [4, 2, 5, 0] (by decide) rfl rfl rfl) ?_
    clear hl h
    intro s48 a w c0 hI h hu49
    unfold block_Blocks_l1 at h
    dsimp only at h hI
    have S := hI
    refine sSeq (fun K52 hK52 => ?_)
    refine sRegion ?_
    refine sBin (.bool (decide (s48 < (y44.length : Int)))) S (wN rfl) rfl rfl rfl (bLt _ _ _ _ .i64 s48 (y44.length : Int)) rfl (lb rfl) fun a S => ?_
    refine leafL (leafT (hK52 _ _ ?_))
    refine sSeq (fun K53 hK53 => ?_)
    rcases iteSome h with ⟨hc54, h⟩ | ⟨hc54, h⟩
    rotate_left
    · refine sCondF S rfl hc54 ?_
      obtain rfl := Option.some.inj h
      obtain rfl := hu49 _ rfl
      have h := g50
      clear g50
      try dsimp only at h
      exact wp_exit (xThen (xThen (xHit (leafB (leafT (⟨Option.some.inj h, S.fix [0, 1, 2] [0, 2] (by decide) rfl rfl rfl⟩))))))
    refine sCondT S rfl hc54 ?_
    refine wp_skip (leafT (hK53 _ _ ?_))
    refine sSeq (fun K55 hK55 => ?_)
    refine wp_block ?_
    refine sSeq (fun K56 hK56 => ?_)
    refine sRegion ?_
    obtain ⟨x57, hx58, h⟩ := bindSome h
    obtain ⟨q59, hq60, S⟩ := pIdx (P := Try.prog) (r := (rL (rI .i64))) (v := .slice ad46 y44.length cp47) (xs := y44) (j := s48) 46 35 3 S Try.underlying46 rfl rfl hx58
    refine sIdxV (v := .slice ad46 y44.length cp47) (k := .i64) (j := s48) S (wN rfl) rfl rfl rfl hq60 rfl (lb rfl) fun a S => ?_
    obtain ⟨u61, S⟩ := pLoad (r := (rL (rI .i64))) (q := q59) (x := x57) 0 S rfl
    obtain ⟨ad62, cp63, _, rfl, _⟩ := S.mem.know (i := 1) (e := fRep (rL (rI .i64)) (u61) x57) rfl
    refine sLoadV1 (vq := q59) 0 (.slice ad62 x57.length cp63) S (wN rfl) rfl rfl rfl rfl rfl (lb rfl) fun a S => ?_
    refine sMove (.slice ad62 x57.length cp63) S (wN rfl) (.inr rfl) rfl rfl (lb rfl) fun a S => ?_
    refine leafL (leafT (hK56 _ _ ?_))
    refine sSeq (fun K64 hK64 => ?_)
    refine sRegion ?_
    refine sMove (.slice ad41 x36.length cp42) S (wN rfl) (.inl rfl) rfl rfl (lb rfl) fun a S => ?_
    refine sMove (.slice ad62 x57.length cp63) S (wN rfl) (.inl rfl) rfl rfl (lb rfl) fun a S => ?_
    obtain ⟨r65, hx66, h⟩ := bindSome h
    have S1 := S.mem
    refine sCallQ (X := Unit) (f := 59) (vs := [.slice ad41 x36.length cp42, .slice ad62 x57.length cp63]) (val := fun _ => .bool r65) S (wN rfl) rfl callee59 rfl (S1.quiet [4, 1] rfl) (fun E1 w1 S1 => c_slices_Equal___int_int_ E1 w1 x36 (.slice ad41 x36.length cp42) x57 (.slice ad62 x57.length cp63) r65 hx66 S1) rfl (lb rfl) fun _ a w S => ?_
    refine leafL (leafT (hK64 _ _ ?_))
    rcases iteSome h with ⟨hc67, h⟩ | ⟨hc67, h⟩
    rotate_left
    · refine sCondF S rfl hc67 ?_
      refine wp_skip (leafB (leafT (hK55 _ _ ?_)))
      refine sRegion ?_
      refine sBin (iv (w64 (s48 + 1))) S (wN rfl) rfl rfl rfl (bAdd _ _ _ _ s48 1) rfl (lb rfl) fun a S => ?_
      refine sMove (iv (w64 (s48 + 1))) S (wN rfl) (.inl rfl) rfl rfl (lb rfl) fun a S => ?_
      exact leafL (leafT (⟨w64 (s48 + 1), (Option.some.inj h).symm, (S.fix [0, 1, 2] [3, 4, 5, 6] (by decide) rfl rfl rfl)⟩))
    refine sCondT S rfl hc67 ?_
    refine sSeq (fun K68 hK68 => ?_)
    refine sRegion ?_
    refine sStore (p := b7) (off := 0) (T := 35) (vs := [.slice none 0 0]) (v := .slice none 0 0) 1 [.slice none 0 0] S (wN rfl) rfl rfl rfl rfl rfl rfl rfl (by simp) rfl fun a w S => ?_
    refine sStore (p := b8) (off := 0) (T := 27) (vs := [iv 0]) (v := iv 14) 2 [iv 14] S (wN rfl) rfl rfl rfl rfl rfl rfl rfl (by simp) rfl fun a w S => ?_
    refine leafL (leafT (hK68 _ _ ?_))
    obtain rfl := Option.some.inj h
    obtain rfl := hu49 _ rfl
    have h := g50
    clear g50
    try dsimp only at h
    obtain rfl := Option.some.inj h
    have h := g34
    clear g34
    try dsimp only at h
    obtain rfl := Option.some.inj h
    obtain rfl := hu27 _ rfl
    have h := g28
    clear g28
    try dsimp only at h
    obtain rfl := Option.some.inj h
    have h := g24
    clear g24
    try dsimp only at h
    obtain rfl := Option.some.inj h
    have S := S.learn (fRep (rL (rI .i64)) (.slice none 0 0) ([] : (List Int))) (rL_nil _ _ _)
    exact wp_ret (rBlock (rThen (rThen (rBlock (rBlock (rThen (rThen (rBlock (rThen (sRetM0 (.tuple #[.slice none 0 0, iv 14]) S (rsl2 rfl (rv1 (c := 4) (t := 35) (T := 35) (p := b7) 1 (.slice none 0 0) S rfl rfl rfl) (rv1 (c := 5) (t := 27) (T := 27) (p := b8) 0 (iv 14) S rfl rfl rfl)) ⟨(.slice none 0 0), rfl, S.mem.sel [] [0] (by decide) rfl rfl⟩))))))))))
  obtain ⟨rfl, S⟩ := hI
  have h := g24
  clear g24
  try dsimp only at h
  refine sSeq (fun K69 hK69 => ?_)
  refine sRegion ?_
  refine sLoad1 (p := b6) (off := 0) (T := 46) (vs := [.slice ad3 p1.length cp4]) 0 (.slice ad3 p1.length cp4) S (wN rfl) rfl rfl rfl rfl rfl rfl (lb rfl) fun a S => ?_
  obtain ⟨x70, hx71, h⟩ := bindSome h
  obtain ⟨q72, hq73, S⟩ := pIdx (P := Try.prog) (r := (rL (rI .i64))) (v := .slice ad3 p1.length cp4) (xs := p1) (j := 0) 46 35 1 S Try.underlying46 rfl rfl hx71
  refine sIdxV (v := .slice ad3 p1.length cp4) (k := .i64) (j := 0) S (wN rfl) rfl rfl rfl hq73 rfl (lb rfl) fun a S => ?_
  obtain ⟨u74, S⟩ := pLoad (r := (rL (rI .i64))) (q := q72) (x := x70) 0 S rfl
  obtain ⟨ad75, cp76, _, rfl, _⟩ := S.mem.know (i := 1) (e := fRep (rL (rI .i64)) (u74) x70) rfl
  refine sLoadV1 (vq := q72) 0 (.slice ad75 x70.length cp76) S (wN rfl) rfl rfl rfl rfl rfl (lb rfl) fun a S => ?_
  refine sLen (ad := ad75) (m := x70.length) (c := cp76) S (wN rfl) rfl Try.underlying35 rfl rfl (lb rfl) fun a S => ?_
  refine sMove (iv (x70.length : Int)) S (wN rfl) (.inr rfl) rfl rfl (lb rfl) fun a S => ?_
  refine leafL (leafT (hK69 _ _ ?_))
  refine sSeq (fun K77 hK77 => ?_)
  refine sSeq (fun K78 hK78 => ?_)
  refine sRegion ?_
  refine sMove (.slice ad1 p0.length cp2) S (wN rfl) (.inl rfl) rfl rfl (lb rfl) fun a S => ?_
  refine sLen (ad := ad1) (m := p0.length) (c := cp2) S (wN rfl) rfl Try.underlying35 rfl rfl (lb rfl) fun a S => ?_
  refine sMove (iv (x70.length : Int)) S (wN rfl) (.inl rfl) rfl rfl (lb rfl) fun a S => ?_
  obtain ⟨z79, hx80, h⟩ := bindSome h
  refine sBin (iv z79) S (wN rfl) rfl rfl rfl (bRem _ _ _ _ (x := (p0.length : Int)) (y := (x70.length : Int)) hx80) rfl (lb rfl) fun a S => ?_
  refine sBin (.bool (z79 != 0)) S (wN rfl) rfl rfl rfl (bNe _ _ _ _ .i64 z79 0) rfl (lb rfl) fun a S => ?_
  refine leafL (leafT (hK78 _ _ ?_))
  rcases iteSome h with ⟨hc81, h⟩ | ⟨hc81, h⟩
  · refine sCondT S rfl hc81 ?_
    refine sSeq (fun K82 hK82 => ?_)
    refine sRegion ?_
    refine sStore (p := b7) (off := 0) (T := 35) (vs := [.slice none 0 0]) (v := .slice none 0 0) 1 [.slice none 0 0] S (wN rfl) rfl rfl rfl rfl rfl rfl rfl (by simp) rfl fun a w S => ?_
    refine sStore (p := b8) (off := 0) (T := 27) (vs := [iv 0]) (v := iv 26) 2 [iv 26] S (wN rfl) rfl rfl rfl rfl rfl rfl rfl (by simp) rfl fun a w S => ?_
    refine leafL (leafT (hK82 _ _ ?_))
    obtain rfl := Option.some.inj h
    have S := S.learn (fRep (rL (rI .i64)) (.slice none 0 0) ([] : (List Int))) (rL_nil _ _ _)
    exact wp_ret (rThen (sRetM0 (.tuple #[.slice none 0 0, iv 26]) S (rsl2 rfl (rv1 (c := 4) (t := 35) (T := 35) (p := b7) 1 (.slice none 0 0) S rfl rfl rfl) (rv1 (c := 5) (t := 27) (T := 27) (p := b8) 0 (iv 26) S rfl rfl rfl)) ⟨(.slice none 0 0), rfl, S.mem.sel [] [0] (by decide) rfl rfl⟩))
  refine sCondF S rfl hc81 ?_
  refine wp_skip (leafT (hK77 _ _ ?_))
  refine sSeq (fun K83 hK83 => ?_)
  refine sRegion ?_
  refine sAlloc (.slice none 0 0) S (wN rfl) rfl rfl [.slice none 0 0] rfl rfl (lb rfl) fun a b84 w S => ?_
  refine leafL (leafT (hK83 _ _ ?_))
  refine sSeq (fun K85 hK85 => ?_)
  refine sSeq (fun K86 hK86 => ?_)
  refine sRegion ?_
  refine sMove (.slice ad1 p0.length cp2) S (wN rfl) (.inl rfl) rfl rfl (lb rfl) fun a S => ?_
  refine sMove (iv (x70.length : Int)) S (wN rfl) (.inl rfl) rfl rfl (lb rfl) fun a S => ?_
  obtain ⟨r87, hx88, h⟩ := bindSome h
  refine sCall (X := Value × Value) (f := 60) (vs := [.slice ad1 p0.length cp2, iv (x70.length : Int)]) (val := c_slices_Chunk___int_int__val r87) (B' := fun _ => []) (D' := c_slices_Chunk___int_int__D r87) [] [eBox b84 35 [.slice none 0 0], eBox b6 46 [.slice ad3 p1.length cp4], eBox b7 35 [.slice none 0 0], eBox b8 27 [iv 0]] [fRep (rL (rI .i64)) (.slice ad1 p0.length cp2) p0] [0, 1, 2, 3] [3] S (wN rfl) rfl callee60 rfl (by decide) rfl rfl (fun E1 w1 S1 => c_slices_Chunk___int_int_ E1 w1 p0 (.slice ad1 p0.length cp2) (x70.length : Int) r87 hx88 S1) rfl (lb rfl) fun xx a w S => ?_
  obtain ⟨u89, u90⟩ := xx
  refine leafL (leafT (hK86 _ _ ?_))
  refine wp_block ?_
  have S := S.nilRow (rI .i64) 3 (α := Int)
  obtain ⟨t114, hl115, g113⟩ := bindSome h
  replace S : St [] E [] w0 69 a w [(3, .pointer (some ⟨b6, 0, none⟩)), (4, .pointer (some ⟨b7, 0, none⟩)), (5, .pointer (some ⟨b8, 0, none⟩)), (13, .pointer (some ⟨b84, 0, none⟩)), (57, .func (.func 76) #[] #[u89, u90])] [eBox b6 46 [.slice ad3 p1.length cp4], eBox b7 35 [.slice none 0 0], eBox b8 27 [iv 0], eBox b84 35 [.slice none ([] : List Int).length 0], eRow (rI .i64) 3 (.slice none ([] : List Int).length 0) ([] : List Int)] [fPtr (rL (rI .i64)) (u89) r87.1, fPtr (rI .i64) (u90) r87.2, fRep (rL (rL (rI .i64))) (.slice ad3 p1.length cp4) p1] := S.fix [2, 3, 4, 1, 0] [0, 1, 6] (by decide) rfl rfl rfl
  refine sRange1 (B := block_Blocks_l4 p1) (fun s0 L D => match s0 with | s91 => ∃ ad92, ∃ cp93, L = [eBox b6 46 [.slice ad3 p1.length cp4], eBox b7 35 [.slice none 0 0], eBox b8 27 [iv 0], eBox b84 35 [.slice ad92 s91.length cp93], eRow (rI .i64) 3 (.slice ad92 s91.length cp93) s91] ∧ D = [fPtr (rL (rI .i64)) (u89) r87.1, fPtr (rI .i64) (u90) r87.2, fRep (rL (rL (rI .i64))) (.slice ad3 p1.length cp4) p1]) (fun t0 c L D => match t0 with | _ => c = .ret ∧ L = [eBox b7 35 [.slice none 0 0], eBox b8 27 [iv 6]] ∧ D = []) [0, 1] S hl115 rfl callee76 (it_slices_Chunk___int_int__1 r87.1 u89 r87.2 u90) rfl (by decide) ⟨none, 0, rfl, rfl⟩ ?_ ?_ ?_
  · intro E l0 s91 x94 u95 b L D K a w0 hK hIL hB S
    clear hl115 g113 h hK
    unfold block_Blocks_l4 at hB
    dsimp only at hB hIL
    obtain ⟨ad92, cp93, rfl, rfl⟩ := hIL
    have h := hB
    clear hB
    obtain ⟨ad96, cp97, _, rfl, _⟩ := S.mem.know (i := 0) (e := fRep (rL (rI .i64)) (u95) x94) rfl
    refine sRegionR (by repeat (first | exact roundU_out | exact it_out | exact lo_false | refine lo_then ?_ | refine lo_block ?_)) rfl ?_
    refine sAlloc (.slice none 0 0) S (wN rfl) rfl rfl [.slice none 0 0] rfl rfl (lb rfl) fun a b98 w S => ?_
    refine sStore (p := b98) (off := 0) (T := 35) (vs := [.slice none 0 0]) (v := .slice ad96 x94.length cp97) 0 [.slice ad96 x94.length cp97] S (wN rfl) rfl rfl rfl rfl rfl rfl rfl (by simp) rfl fun a w S => ?_
    refine leafL (leafT (⟨_, _, _, S, fun K a w0 hK S => ?_⟩))
    refine wpIn_block ?_
    refine sSeqR (fun K99 hK99 => ?_)
    refine sRegionR (by repeat (first | exact roundU_out | exact it_out | exact lo_false | refine lo_then ?_ | refine lo_block ?_)) rfl ?_
    refine sLoad1 (p := b6) (off := 0) (T := 46) (vs := [.slice ad3 p1.length cp4]) 1 (.slice ad3 p1.length cp4) S (wN rfl) rfl rfl rfl rfl rfl rfl (lb rfl) fun a S => ?_
    refine sFunc (g := 62) (vs := [.pointer (some ⟨b98, 0, none⟩)]) S (wN rfl) rfl rfl rfl (lb rfl) fun a S => ?_
    obtain ⟨r100, hx101, h⟩ := bindSome h
    have S1 := S.mem
    have S1 := S1.shutB (r := (rL (rI .i64))) (T := 35) (b := b98) (cs := [.slice ad96 x94.length cp97]) 0 (.slice ad96 x94.length cp97) x94 rfl rfl (S1.know (i := 0) (e := fRep (rL (rI .i64)) (.slice ad96 x94.length cp97) x94) rfl)
    refine sCallQ (X := Unit) (f := 61) (vs := [.slice ad3 p1.length cp4, .func (.func 62) #[] #[.pointer (some ⟨b98, 0, none⟩)]]) (val := fun _ => iv r100) S (wN rfl) rfl callee61 rfl (S1.quiet [4, 0] rfl) (fun E1 w1 S1 => c_slices_IndexFunc_____int___int__s1 E1 w1 p1 (.slice ad3 p1.length cp4) x94 (.pointer (some ⟨b98, 0, none⟩)) r100 hx101 S1) rfl (lb rfl) fun _ a w S => ?_
    refine sMove (iv r100) S (wN rfl) (.inr rfl) rfl rfl (lb rfl) fun a S => ?_
    refine leafL (leafT (hK99 _ _ ?_))
    refine sSeqR (fun K102 hK102 => ?_)
    refine sSeqR (fun K103 hK103 => ?_)
    refine sRegionR (by repeat (first | exact roundU_out | exact it_out | exact lo_false | refine lo_then ?_ | refine lo_block ?_)) rfl ?_
    refine sMove (iv r100) S (wN rfl) (.inl rfl) rfl rfl (lb rfl) fun a S => ?_
    refine sBin (.bool (decide (r100 < 0))) S (wN rfl) rfl rfl rfl (bLt _ _ _ _ .i64 r100 0) rfl (lb rfl) fun a S => ?_
    refine leafL (leafT (hK103 _ _ ?_))
    rcases iteSome h with ⟨hc104, h⟩ | ⟨hc104, h⟩
    · refine sCondTR S rfl hc104 ?_
      refine sSeqR (fun K105 hK105 => ?_)
      refine sRegionR (by repeat (first | exact roundU_out | exact it_out | exact lo_false | refine lo_then ?_ | refine lo_block ?_)) rfl ?_
      refine sStore (p := b7) (off := 0) (T := 35) (vs := [.slice none 0 0]) (v := .slice none 0 0) 2 [.slice none 0 0] S (wN rfl) rfl rfl rfl rfl rfl rfl rfl (by simp) rfl fun a w S => ?_
      refine sStore (p := b8) (off := 0) (T := 27) (vs := [iv 0]) (v := iv 6) 3 [iv 6] S (wN rfl) rfl rfl rfl rfl rfl rfl rfl (by simp) rfl fun a w S => ?_
      refine leafL (leafT (hK105 _ _ ?_))
      exact wpIn_ret (rThen (rBlock (rnR () _ _ [] (Option.some.inj h) ⟨rfl, rfl, rfl⟩ (S.fix [1, 0] [] (by decide) rfl rfl rfl))))
    refine sCondFR S rfl hc104 ?_
    refine wpIn_skip (leafT (hK102 _ _ ?_))
    refine sRegionR (by repeat (first | exact roundU_out | exact it_out | exact lo_false | refine lo_then ?_ | refine lo_block ?_)) rfl ?_
    refine sLoad1 (p := b84) (off := 0) (T := 35) (vs := [.slice ad92 s91.length cp93]) 4 (.slice ad92 s91.length cp93) S (wN rfl) rfl rfl rfl rfl rfl rfl (lb rfl) fun a S => ?_
    refine sMove (iv r100) S (wN rfl) (.inl rfl) rfl rfl (lb rfl) fun a S => ?_
    refine sLit (r := (rI .i64)) (T := 3) (xs := ([r100] : List Int)) [(0, iv r100)] 1 [iv r100] [iv r100] (iv 0) 8 S (wN rfl) rfl rfl Try.underlying35 rfl (by decide) (by decide) (by kernel_rfl) rfl (fun E1 w1 hE => All.cons rfl (All.nil _ _ _)) rfl rfl (lb rfl) fun a w ad106 cp107 S => ?_
    obtain ⟨l108, hx109, h⟩ := bindSome h
    refine sApp (r := (rI .i64)) (T := 3) (xs := s91) (ys := ([r100] : List Int)) (v := .slice ad92 s91.length cp93) (u := .slice ad106 ([r100] : List Int).length cp107) 6 (iv 0) 8 S (wN rfl) rfl Try.underlying35 rfl rfl (by decide) rfl rfl rfl (src_R (T := 3) 0 S.mem rfl) hx109 rfl (lb rfl) fun a w ad110 cp111 S => ?_
    refine sStore (p := b84) (off := 0) (T := 35) (vs := [.slice ad92 s91.length cp93]) (v := .slice ad110 l108.length cp111) 6 [.slice ad110 l108.length cp111] S (wN rfl) rfl rfl rfl rfl rfl rfl rfl (by simp) rfl fun a w S => ?_
    exact leafL (leafB (rnN l108 _ _ [] (Option.some.inj h) ⟨ad110, cp111, rfl, rfl⟩ (S.fix [4, 5, 6, 0, 1] [1, 2, 3] (by decide) rfl rfl rfl)))
  · intro dk112 s91 L D a w hr hIL S
    clear h
    obtain rfl := hr
    dsimp only at g113 hIL
    obtain ⟨ad92, cp93, rfl, rfl⟩ := hIL
    have h := g113
    clear g113 hl115
    replace S : St [mark dk112] E [] w0 69 a w [(3, .pointer (some ⟨b6, 0, none⟩)), (4, .pointer (some ⟨b7, 0, none⟩)), (5, .pointer (some ⟨b8, 0, none⟩)), (13, .pointer (some ⟨b84, 0, none⟩)), (57, .func (.func 76) #[] #[u89, u90])] [eBox b6 46 [.slice ad3 p1.length cp4], eBox b7 35 [.slice none 0 0], eBox b8 27 [iv 0], eBox b84 35 [.slice ad92 s91.length cp93], eRow (rI .i64) 3 (.slice ad92 s91.length cp93) s91, eDef dk112] [fPtr (rL (rI .i64)) (u89) r87.1, fPtr (rI .i64) (u90) r87.2, fRep (rL (rL (rI .i64))) (.slice ad3 p1.length cp4) p1] := S
    refine leafB (leafT (hK85 _ _ ?_))
    refine sSeq (fun K116 hK116 => ?_)
    refine sRegion ?_
    refine sLoad1 (p := b84) (off := 0) (T := 35) (vs := [.slice ad92 s91.length cp93]) 3 (.slice ad92 s91.length cp93) S (wN rfl) rfl rfl rfl rfl rfl rfl (lb rfl) fun a S => ?_
    refine sStore (p := b7) (off := 0) (T := 35) (vs := [.slice none 0 0]) (v := .slice ad92 s91.length cp93) 1 [.slice ad92 s91.length cp93] S (wN rfl) rfl rfl rfl rfl rfl rfl rfl (by simp) rfl fun a w S => ?_
    refine sStore (p := b8) (off := 0) (T := 27) (vs := [iv 0]) (v := iv 0) 2 [iv 0] S (wN rfl) rfl rfl rfl rfl rfl rfl rfl (by simp) rfl fun a w S => ?_
    refine leafL (leafT (hK116 _ _ ?_))
    refine wp_ret (sRetM1 5 S rfl (fun a w S => ?_))
    obtain rfl := Option.some.inj h
    have S := S.shutR (r := (rI .i64)) (T := 3) (v := .slice ad92 s91.length cp93) (xs := s91) 4 rfl
    exact sFin (.tuple #[.slice ad92 s91.length cp93, iv 0]) S (rsl2 rfl (rv1 (c := 4) (t := 35) (T := 35) (p := b7) 1 (.slice ad92 s91.length cp93) S rfl rfl rfl) (rv1 (c := 5) (t := 27) (T := 27) (p := b8) 0 (iv 0) S rfl rfl rfl)) ⟨(.slice ad92 s91.length cp93), rfl, S.mem.sel [] [0] (by decide) rfl rfl⟩
  · intro dk112 c0 t0 L D a w hr hIX S
    clear h
    obtain rfl := hr
    dsimp only at g113 hIX
    obtain ⟨rfl, rfl, rfl⟩ := hIX
    have h := g113
    clear g113 hl115
    replace S : St [mark dk112] E [] w0 69 a w [(3, .pointer (some ⟨b6, 0, none⟩)), (4, .pointer (some ⟨b7, 0, none⟩)), (5, .pointer (some ⟨b8, 0, none⟩)), (13, .pointer (some ⟨b84, 0, none⟩)), (57, .func (.func 76) #[] #[u89, u90])] [eBox b7 35 [.slice none 0 0], eBox b8 27 [iv 6], eDef dk112] [] := S
    refine wp_ret (rBlock (rThen (sRetM1 2 S rfl (fun a w S => ?_))))
    obtain rfl := Option.some.inj h
    have S := S.learn (fRep (rL (rI .i64)) (.slice none 0 0) ([] : (List Int))) (rL_nil _ _ _)
    exact sFin (.tuple #[.slice none 0 0, iv 6]) S (rsl2 rfl (rv1 (c := 4) (t := 35) (T := 35) (p := b7) 0 (.slice none 0 0) S rfl rfl rfl) (rv1 (c := 5) (t := 27) (T := 27) (p := b8) 1 (iv 6) S rfl rfl rfl)) ⟨(.slice none 0 0), rfl, S.mem.sel [] [0] (by decide) rfl rfl⟩

end Go.Proofs.Ythfifeabomdlpaa
namespace Go.Proofs.Ythfifeabomdlpaa
open Go.RowKit
set_option linter.unusedVariables false

def anc_raddleref13_Twice_0 : List (List Nat) := [[], [], [0, 1], [0, 1, 2], [], [], [4, 5], [4, 5, 6], [0, 1, 2, 3, 4, 5, 6, 7]]
noncomputable def raddleref13_Twice_l1 (s7 : Int) (p0 : (List (List Int))) : Int → Option (Int ⊕ (Bool ⊕ Unit)) := fun s0 => match s0 with
  | s17 =>
    if decide (s17 < s7) then
      Option.bind (idxO p0 s7) fun x26 =>
      Option.bind (idxO p0 s17) fun x33 =>
      Option.bind (F_raddleref02_Same x26 x33) fun r40 =>
      if r40 then
        some (.inr (.inl true))
      else
        some (.inl (w64 (s17 + 1)))
    else
      some (.inr (.inr ()))
noncomputable def raddleref13_Twice_l2 (p0 : (List (List Int))) : Int → Option (Int ⊕ (Bool ⊕ Unit)) := fun s0 => match s0 with
  | s7 =>
    if decide (s7 < (p0.length : Int)) then
      Option.bind (α := Unit ⊕ Bool) (
        Option.bind (whileO (raddleref13_Twice_l1 s7 p0) 0) fun z0 => match z0 with
          | .inl z =>
            some (.inr z)
          | .inr _ =>
            some (.inl ())) fun z0 => match z0 with
        | .inl _ =>
          some (.inl (w64 (s7 + 1)))
        | .inr z =>
          some (.inr (.inl z))
    else
      some (.inr (.inr ()))
noncomputable def F_raddleref13_Twice (p0 : (List (List Int))) : Option Bool :=
  Option.bind (α := Unit ⊕ Bool) (
    Option.bind (whileO (raddleref13_Twice_l2 p0) 0) fun z0 => match z0 with
      | .inl z =>
        some (.inr z)
      | .inr _ =>
        some (.inl ())) fun z0 => match z0 with
    | .inl _ =>
      some false
    | .inr z =>
      some z
set_option maxHeartbeats 4000000 in
set_option maxRecDepth 100000 in
theorem c_raddleref13_Twice (E : Nat → Prop) (w0 : World) (p0 : (List (List Int))) (v0 : Value) (r : Bool) (h : F_raddleref13_Twice p0 = some r) (S : St0 E [] w0 w0 [] [fRep (rL (rL (rI .i64))) (v0) p0]) :
    Calls Try.prog 38 #[v0] w0 (Ret (X := Unit) E [] w0 (fun _ => .bool r) (fun _ => []) (fun _ => [])) := by
  unfold F_raddleref13_Twice at h
  obtain ⟨ad1, cp2, _, rfl, _⟩ := S.know (i := 0) (e := fRep (rL (rL (rI .i64))) (v0) p0) rfl
  refine sEnter (args := [.slice ad1 p0.length cp2]) 25 Try.func38 rfl rfl (by simp) S (fun a S => ?_)
  refine sSeq (fun K3 hK3 => ?_)
  refine sRegion ?_
  refine sMove (.bool false) S (wN rfl) (.inr rfl) rfl rfl (lb rfl) fun a S => ?_
  refine leafL (leafT (hK3 _ _ ?_))
  obtain ⟨t4, h, g5⟩ := bindSome h
  refine sCut (fun a w => .inl () = t4 ∧ St [] E [] w0 25 a w [] [] []) ?_ (fun a w hI => ?_)
  rotate_left
  · obtain ⟨rfl, S⟩ := hI
    have h := g5
    clear g5
    try dsimp only at h
    refine sSeq (fun K54 hK54 => ?_)
    refine sRegion ?_
    refine sMove (.bool false) S (wN rfl) (.inr rfl) rfl rfl (lb rfl) fun a S => ?_
    refine leafL (leafT (hK54 _ _ ?_))
    obtain rfl := Option.some.inj h
    exact wp_ret (sRet (.bool false) S (rsl1 rfl (rvT (t := 2) (v := .bool false) S rfl)) ⟨(), rfl, S.mem.sel [] [] (by decide) rfl rfl⟩)
  refine sSeq (fun K6 hK6 => ?_)
  refine sRegion ?_
  refine sMove (iv 0) S (wN rfl) (.inr rfl) rfl rfl (lb rfl) fun a S => ?_
  refine leafL (leafT (hK6 _ _ ?_))
  refine wp_block ?_
  obtain ⟨t10, hl, g9⟩ := bindSome h
  refine sLoop hl (fun s0 a w => match s0 with | s7 => St [] E [] w0 25 a w [(0, .slice ad1 p0.length cp2), (3, iv s7)] [] [fRep (rL (rL (rI .i64))) (.slice ad1 p0.length cp2) p0]) (S.fix [] [0] (by decide) rfl rfl rfl) ?_
  clear hl h
  intro s7 a w c0 hI h hu8
  unfold raddleref13_Twice_l2 at h
  dsimp only at h hI
  have S := hI
  refine sSeq (fun K11 hK11 => ?_)
  refine sSeq (fun K12 hK12 => ?_)
  refine sRegion ?_
  refine sMove (iv s7) S (wN rfl) (.inl rfl) rfl rfl (lb rfl) fun a S => ?_
  refine sMove (.slice ad1 p0.length cp2) S (wN rfl) (.inl rfl) rfl rfl (lb rfl) fun a S => ?_
  refine sLen (ad := ad1) (m := p0.length) (c := cp2) S (wN rfl) rfl Try.underlying46 rfl rfl (lb rfl) fun a S => ?_
  refine sBin (.bool (decide (s7 < (p0.length : Int)))) S (wN rfl) rfl rfl rfl (bLt _ _ _ _ .i64 s7 (p0.length : Int)) rfl (lb rfl) fun a S => ?_
  refine leafL (leafT (hK12 _ _ ?_))
  rcases iteSome h with ⟨hc13, h⟩ | ⟨hc13, h⟩
  rotate_left
  · refine sCondF S rfl hc13 ?_
    obtain rfl := Option.some.inj h
    obtain rfl := hu8 _ rfl
    have h := g9
    clear g9
    try dsimp only at h
    exact wp_exit (xThen (xThen (xHit (leafT (⟨Option.some.inj h, S.fix [] [] (by decide) rfl rfl rfl⟩)))))
  refine sCondT S rfl hc13 ?_
  refine wp_skip (leafT (hK11 _ _ ?_))
  obtain ⟨t14, h, g15⟩ := bindSome h
  refine sCut (fun a w => .inl () = t14 ∧ St [] E [] w0 25 a w [(0, .slice ad1 p0.length cp2), (3, iv s7)] [] [fRep (rL (rL (rI .i64))) (.slice ad1 p0.length cp2) p0]) ?_ (fun a w hI => ?_)
  rotate_left
  · obtain ⟨rfl, S⟩ := hI
    have h := g15
    clear g15
    try dsimp only at h
    refine sRegion ?_
    refine sMove (iv s7) S (wN rfl) (.inl rfl) rfl rfl (lb rfl) fun a S => ?_
    refine sBin (iv (w64 (s7 + 1))) S (wN rfl) rfl rfl rfl (bAdd _ _ _ _ s7 1) rfl (lb rfl) fun a S => ?_
    refine sMove (iv (w64 (s7 + 1))) S (wN rfl) (.inr rfl) rfl rfl (lb rfl) fun a S => ?_
    exact leafL (leafT (⟨w64 (s7 + 1), (Option.some.inj h).symm, (S.fix [] [0] (by decide) rfl rfl rfl)⟩))
  refine wp_block ?_
  refine sSeq (fun K16 hK16 => ?_)
  refine sRegion ?_
  refine sMove (iv 0) S (wN rfl) (.inr rfl) rfl rfl (lb rfl) fun a S => ?_
  refine leafL (leafT (hK16 _ _ ?_))
  refine wp_block ?_
  obtain ⟨t20, hl, g19⟩ := bindSome h
  refine sLoop hl (fun s0 a w => match s0 with | s17 => St [] E [] w0 25 a w [(0, .slice ad1 p0.length cp2), (3, iv s7), (4, iv s17)] [] [fRep (rL (rL (rI .i64))) (.slice ad1 p0.length cp2) p0]) (S.fix [] [0] (by decide) rfl rfl rfl) ?_
  clear hl h
  intro s17 a w c0 hI h hu18
  unfold raddleref13_Twice_l1 at h
  dsimp only at h hI
  have S := hI
  refine sSeq (fun K21 hK21 => ?_)
  refine sSeq (fun K22 hK22 => ?_)
  refine sRegion ?_
  refine sMove (iv s17) S (wN rfl) (.inl rfl) rfl rfl (lb rfl) fun a S => ?_
  refine sMove (iv s7) S (wN rfl) (.inl rfl) rfl rfl (lb rfl) fun a S => ?_
  refine sBin (.bool (decide (s17 < s7))) S (wN rfl) rfl rfl rfl (bLt _ _ _ _ .i64 s17 s7) rfl (lb rfl) fun a S => ?_
  refine leafL (leafT (hK22 _ _ ?_))
  rcases iteSome h with ⟨hc23, h⟩ | ⟨hc23, h⟩
  rotate_left
  · refine sCondF S rfl hc23 ?_
    obtain rfl := Option.some.inj h
    obtain rfl := hu18 _ rfl
    have h := g19
    clear g19
    try dsimp only at h
    exact wp_exit (xThen (xThen (xHit (leafB (leafT (⟨Option.some.inj h, S.fix [] [0] (by decide) rfl rfl rfl⟩))))))
  refine sCondT S rfl hc23 ?_
  refine wp_skip (leafT (hK21 _ _ ?_))
  refine sSeq (fun K24 hK24 => ?_)
  refine wp_block ?_
  refine sSeq (fun K25 hK25 => ?_)
  obtain ⟨x26, hx27, h⟩ := bindSome h
  obtain ⟨x33, hx34, h⟩ := bindSome h
  obtain ⟨r40, hx41, h⟩ := bindSome h
  obtain ⟨q42, hq43, S⟩ := pIdx (P := Try.prog) (r := (rL (rI .i64))) (v := .slice ad1 p0.length cp2) (xs := p0) (j := s7) 46 35 0 S Try.underlying46 rfl rfl hx27
  obtain ⟨u44, S⟩ := pLoad (r := (rL (rI .i64))) (q := q42) (x := x26) 0 S rfl
  obtain ⟨ad45, cp46, _, rfl, _⟩ := S.mem.know (i := 1) (e := fRep (rL (rI .i64)) (u44) x26) rfl
  obtain ⟨q47, hq48, S⟩ := pIdx (P := Try.prog) (r := (rL (rI .i64))) (v := .slice ad1 p0.length cp2) (xs := p0) (j := s17) 46 35 3 S Try.underlying46 rfl rfl hx34
  obtain ⟨u49, S⟩ := pLoad (r := (rL (rI .i64))) (q := q47) (x := x33) 0 S rfl
  obtain ⟨ad50, cp51, _, rfl, _⟩ := S.mem.know (i := 1) (e := fRep (rL (rI .i64)) (u49) x33) rfl
  refine sDraw (nf := []) (W := [(0, 16, .slice ad1 p0.length cp2), (1, 17, iv s7), (2, 18, q42), (3, 19, .slice ad45 x26.length cp46), (4, 20, .slice ad1 p0.length cp2), (5, 21, iv s17), (6, 22, q47), (7, 23, .slice ad50 x33.length cp51), (8, 24, .bool r40)]) rfl S ?_
  refine node_by (A := anc_raddleref13_Twice_0) (nf := []) (Y := []) (W := [(0, 16, .slice ad1 p0.length cp2), (1, 17, iv s7), (2, 18, q42), (3, 19, .slice ad45 x26.length cp46), (4, 20, .slice ad1 p0.length cp2), (5, 21, iv s17), (6, 22, q47), (7, 23, .slice ad50 x33.length cp51), (8, 24, .bool r40)]) 9 (by kernel_rfl) (by kernel_rfl) (by kernel_rfl) (by kernel_rfl) (by kernel_rfl) [0, 1, 2, 3, 4, 5, 6, 7, 8] (by kernel_rfl) (by decide) (by decide) (aF 0 8 (by decide) ?_ (aF 1 7 (by decide) ?_ (aF 2 6 (by decide) ?_ (aF 3 5 (by decide) ?_ (aF 4 4 (by decide) ?_ (aF 5 3 (by decide) ?_ (aF 6 2 (by decide) ?_ (aF 7 1 (by decide) ?_ (aF 8 0 (by decide) ?_ (trivial)))))))))) [(0, .slice ad1 p0.length cp2), (3, iv s7), (4, iv s17), (24, .bool r40)] (fin_of [none, none, none, some 8] rfl (by kernel_rfl) (by kernel_rfl)) (fun _ a w S => ?_)
  · refine fI 16 (.slice ad1 p0.length cp2) [(0, .slice ad1 p0.length cp2)] 0 [none] rfl rfl rfl rfl rfl rfl fun G a w S => ?_
    refine sMove (.slice ad1 p0.length cp2) S (wN rfl) (.inl rfl) rfl rfl (lb rfl) fun a S => ?_
    exact leafL ⟨rfl, S⟩
  · refine fI 17 (iv s7) [(3, iv s7)] 1 [none] rfl rfl rfl rfl rfl rfl fun G a w S => ?_
    refine sMove (iv s7) S (wN rfl) (.inl rfl) rfl rfl (lb rfl) fun a S => ?_
    exact leafL ⟨rfl, S⟩
  · refine fI 18 q42 [(16, .slice ad1 p0.length cp2), (17, iv s7)] 2 [some 0, some 1] rfl rfl rfl rfl rfl rfl fun G a w S => ?_
    refine sIdxV (v := .slice ad1 p0.length cp2) (k := .i64) (j := s7) S (wN rfl) rfl rfl rfl hq43 rfl (lb rfl) fun a S => ?_
    exact leafL ⟨rfl, S⟩
  · refine fI 19 (.slice ad45 x26.length cp46) [(18, q42)] 3 [some 2] rfl rfl rfl rfl rfl rfl fun G a w S => ?_
    refine sLoadV1 (vq := q42) 3 (.slice ad45 x26.length cp46) S (wN rfl) rfl rfl rfl rfl rfl (lb rfl) fun a S => ?_
    exact leafL ⟨rfl, S⟩
  · refine fI 20 (.slice ad1 p0.length cp2) [(0, .slice ad1 p0.length cp2)] 4 [none] rfl rfl rfl rfl rfl rfl fun G a w S => ?_
    refine sMove (.slice ad1 p0.length cp2) S (wN rfl) (.inl rfl) rfl rfl (lb rfl) fun a S => ?_
    exact leafL ⟨rfl, S⟩
  · refine fI 21 (iv s17) [(4, iv s17)] 5 [none] rfl rfl rfl rfl rfl rfl fun G a w S => ?_
    refine sMove (iv s17) S (wN rfl) (.inl rfl) rfl rfl (lb rfl) fun a S => ?_
    exact leafL ⟨rfl, S⟩
  · refine fI 22 q47 [(20, .slice ad1 p0.length cp2), (21, iv s17)] 6 [some 4, some 5] rfl rfl rfl rfl rfl rfl fun G a w S => ?_
    refine sIdxV (v := .slice ad1 p0.length cp2) (k := .i64) (j := s17) S (wN rfl) rfl rfl rfl hq48 rfl (lb rfl) fun a S => ?_
    exact leafL ⟨rfl, S⟩
  · refine fI 23 (.slice ad50 x33.length cp51) [(22, q47)] 7 [some 6] rfl rfl rfl rfl rfl rfl fun G a w S => ?_
    refine sLoadV1 (vq := q47) 0 (.slice ad50 x33.length cp51) S (wN rfl) rfl rfl rfl rfl rfl (lb rfl) fun a S => ?_
    exact leafL ⟨rfl, S⟩
  · refine fI 24 (.bool r40) [(19, .slice ad45 x26.length cp46), (23, .slice ad50 x33.length cp51)] 8 [some 3, some 7] rfl rfl rfl rfl rfl rfl fun G a w S => ?_
    have S1 := S.mem
    refine sCallQ (X := Unit) (f := 24) (vs := [.slice ad45 x26.length cp46, .slice ad50 x33.length cp51]) (val := fun _ => .bool r40) S (wN rfl) rfl callee24 rfl (S1.quiet [4, 1] rfl) (fun E1 w1 S1 => c_raddleref02_Same E1 w1 x26 (.slice ad45 x26.length cp46) x33 (.slice ad50 x33.length cp51) r40 hx41 S1) rfl (lb rfl) fun _ a w S => ?_
    exact leafL ⟨rfl, S⟩
  refine leafT (hK25 _ _ ?_)
  rcases iteSome h with ⟨hc52, h⟩ | ⟨hc52, h⟩
  rotate_left
  · refine sCondF S rfl hc52 ?_
    refine wp_skip (leafB (leafT (hK24 _ _ ?_)))
    refine sRegion ?_
    refine sMove (iv s17) S (wN rfl) (.inl rfl) rfl rfl (lb rfl) fun a S => ?_
    refine sBin (iv (w64 (s17 + 1))) S (wN rfl) rfl rfl rfl (bAdd _ _ _ _ s17 1) rfl (lb rfl) fun a S => ?_
    refine sMove (iv (w64 (s17 + 1))) S (wN rfl) (.inr rfl) rfl rfl (lb rfl) fun a S => ?_
    exact leafL (leafT (⟨w64 (s17 + 1), (Option.some.inj h).symm, (S.fix [] [6] (by decide) rfl rfl rfl)⟩))
  refine sCondT S rfl hc52 ?_
  refine sSeq (fun K53 hK53 => ?_)
  refine sRegion ?_
  refine sMove (.bool true) S (wN rfl) (.inr rfl) rfl rfl (lb rfl) fun a S => ?_
  refine leafL (leafT (hK53 _ _ ?_))
  obtain rfl := Option.some.inj h
  obtain rfl := hu18 _ rfl
  have h := g19
  clear g19
  try dsimp only at h
  obtain rfl := Option.some.inj h
  have h := g15
  clear g15
  try dsimp only at h
  obtain rfl := Option.some.inj h
  obtain rfl := hu8 _ rfl
  have h := g9
  clear g9
  try dsimp only at h
  obtain rfl := Option.some.inj h
  have h := g5
  clear g5
  try dsimp only at h
  obtain rfl := Option.some.inj h
  exact wp_ret (rBlock (rThen (rThen (rBlock (rBlock (rThen (rThen (rBlock (rThen (sRet (.bool true) S (rsl1 rfl (rvT (t := 2) (v := .bool true) S rfl)) ⟨(), rfl, S.mem.sel [] [] (by decide) rfl rfl⟩))))))))))

end Go.Proofs.Ythfifeabomdlpaa
namespace Go.Proofs.Ythfifeabomdlpaa
open Go.RowKit
set_option linter.unusedVariables false

end Go.Proofs.Ythfifeabomdlpaa
namespace Go.Proofs.Ythfifeabomdlpaa
open Go.RowKit
set_option linter.unusedVariables false

end Go.Proofs.Ythfifeabomdlpaa
namespace Go.Proofs.Ythfifeabomdlpaa
open Go.RowKit
set_option linter.unusedVariables false

def inRg (at_ : List Int) (n : Nat) : Bool := at_.all fun k => decide (0 ≤ k ∧ k < (n : Int))
theorem getD_0 {α : Type} {l : List α} (d : α) (h : 0 < l.length) : idxO l 0 = some (l.getD 0 d) := idxO_D (k := 0) d h
theorem index_eq (l : List Int) (n : Nat) (hl : l.length ≤ 1000000) : F_block_index l (n : Int) = some (inRg l n) := by
  have hw := loop_idx (B := slices_IndexFunc___int_int__s0_l1 l (n : Int)) l (fun k => !decide (0 ≤ k ∧ k < (n : Int))) (fun k => .inl (k : Int)) (.inr ()) (fun k hk => by
    unfold slices_IndexFunc___int_int__s0_l1 F_block_index_1_s0
    simp only [dT (show (k : Int) < (l.length : Int) by omega), if_true, idxO_nat hk, Option.bind_some, w64_succ (show k < 9223372036854775807 by omega)]
    by_cases h1 : l[k] < 0
    · simp only [dT h1, if_true, Option.bind_some, dF (show ¬ (0 ≤ l[k] ∧ l[k] < (n : Int)) by omega), Bool.not_false]
    · by_cases h2 : (n : Int) ≤ l[k]
      · simp only [dF h1, dT h2, Bool.false_eq_true, if_false, if_true, Option.bind_some, dF (show ¬ (0 ≤ l[k] ∧ l[k] < (n : Int)) by omega), Bool.not_false]
      · simp only [dF h1, dF h2, Bool.false_eq_true, if_false, Option.bind_some, dT (show 0 ≤ l[k] ∧ l[k] < (n : Int) by omega), Bool.not_true]) (by
    unfold slices_IndexFunc___int_int__s0_l1
    simp only [dF (show ¬ (l.length : Int) < (l.length : Int) by omega), Bool.false_eq_true, if_false])
  have hi : F_slices_IndexFunc___int_int__s0 l (n : Int) = some (idxF l (fun k => !decide (0 ≤ k ∧ k < (n : Int)))) := by
    unfold F_slices_IndexFunc___int_int__s0 idxF
    rw [hw]
    by_cases h : l.findIdx (fun k => !decide (0 ≤ k ∧ k < (n : Int))) < l.length
    · rw [if_pos h, if_pos h]; rfl
    · rw [if_neg h, if_neg h]; rfl
  unfold F_block_index F_slices_ContainsFunc___int_int__s0
  rw [hi, Option.bind_some, idxF_nn, Option.bind_some]
  congr 1
  unfold inRg
  rw [List.all_eq_not_any_not]

end Go.Proofs.Ythfifeabomdlpaa
namespace Go.Proofs.Ythfifeabomdlpaa
open Go.RowKit
set_option linter.unusedVariables false

def lerr (l : List Int) : Int := if 400 < l.length then 4 else if l.all (fun y => decide (0 ≤ y ∧ y < 400)) = true then 0 else 8
theorem lerr_zero {l : List Int} (h : lerr l = 0) : l.length ≤ 400 ∧ ∀ y, y ∈ l → 0 ≤ y ∧ y < 400 := by
  unfold lerr at h
  by_cases h1 : 400 < l.length
  · rw [if_pos h1] at h; cases h
  rw [if_neg h1] at h
  by_cases h2 : l.all (fun y => decide (0 ≤ y ∧ y < 400)) = true
  · exact ⟨by omega, fun y hy => of_decide_eq_true (List.all_eq_true.1 h2 y hy)⟩
  · rw [if_neg h2] at h; cases h
theorem tcheckL (ls : List (List Int)) (hl : ls.length ≤ 9223372036854775806) : whileO (thread_check_l2 ls) 0 = some ((ls.findSome? fun l => if lerr l = 0 then none else some (Sum.inl (β := Unit) (lerr l))).getD (.inr ())) := by
  refine loop_list ls (fun l => if lerr l = 0 then none else some (Sum.inl (lerr l))) (.inr ()) (fun k hk => ?_) ?_
  · unfold thread_check_l2
    simp only [dT (show (k : Int) < (ls.length : Int) by omega), if_true, idxO_nat hk, Option.bind_some]
    generalize ls[k] = x
    by_cases h : 400 < x.length
    · have e : lerr x = 4 := by unfold lerr; rw [if_pos h]
      simp only [dT (show (400 : Int) < (x.length : Int) by omega), if_true, Option.bind_some, e]
      rfl
    · have hw : whileO (thread_check_l1 x) 0 = some (if x.all (fun y => decide (0 ≤ y ∧ y < 400)) = true then .inr () else .inl 8) := by
        refine loop_allL x _ _ _ (fun j hj => ?_) ?_
        · unfold thread_check_l1
          simp only [dT (show (j : Int) < (x.length : Int) by omega), if_true, idxO_nat hj, Option.bind_some, w64_succ (show j < 9223372036854775807 by omega)]
          by_cases c1 : x[j] < 0
          · simp only [dT c1, if_true, Option.bind_some, dF (show ¬ (0 ≤ x[j] ∧ x[j] < 400) by omega), Bool.false_eq_true, if_false]
          · by_cases c2 : 400 ≤ x[j]
            · simp only [dF c1, dT c2, Bool.false_eq_true, if_false, if_true, Option.bind_some, dF (show ¬ (0 ≤ x[j] ∧ x[j] < 400) by omega)]
            · simp only [dF c1, dF c2, Bool.false_eq_true, if_false, Option.bind_some, dT (show 0 ≤ x[j] ∧ x[j] < 400 by omega), if_true]
        · unfold thread_check_l1
          simp only [dF (show ¬ (x.length : Int) < (x.length : Int) by omega), Bool.false_eq_true, if_false]
      simp only [dF (show ¬ (400 : Int) < (x.length : Int) by omega), Bool.false_eq_true, if_false, hw, Option.bind_some]
      by_cases hc : x.all (fun y => decide (0 ≤ y ∧ y < 400)) = true
      · have e : lerr x = 0 := by unfold lerr; rw [if_neg h, if_pos hc]
        rw [if_pos hc, if_pos e]
        simp only [Option.bind_some, w64_succ (show k < 9223372036854775807 by omega)]
      · have e : lerr x = 8 := by unfold lerr; rw [if_neg h, if_neg hc]
        rw [if_neg hc, e]
        rfl
  · unfold thread_check_l2
    simp only [dF (show ¬ (ls.length : Int) < (ls.length : Int) by omega), Bool.false_eq_true, if_false]
theorem tcheck_eq (l : List Int) : F_thread_Check l = some (lerr l) := by
  unfold F_thread_Check F_thread_check
  rw [tcheckL _ (by simp)]
  by_cases h : lerr l = 0
  · simp [h]
  · simp [h]
theorem rcheck2_eq (x : List Int) : F_raddleref02_Check x = some (lerr x) := by
  unfold F_raddleref02_Check
  by_cases h : 400 < x.length
  · have e : lerr x = 4 := by unfold lerr; rw [if_pos h]
    simp only [dT (show (400 : Int) < (x.length : Int) by omega), if_true, e]
  have hw : whileO (raddleref02_Check_l1 x) 0 = some (if x.all (fun y => decide (0 ≤ y ∧ y < 400)) = true then .inr () else .inl 8) := by
    refine loop_allL x _ _ _ (fun j hj => ?_) ?_
    · unfold raddleref02_Check_l1
      simp only [dT (show (j : Int) < (x.length : Int) by omega), if_true, idxO_nat hj, Option.bind_some, w64_succ (show j < 9223372036854775807 by omega)]
      by_cases c1 : x[j] < 0
      · simp only [dT c1, if_true, Option.bind_some, dF (show ¬ (0 ≤ x[j] ∧ x[j] < 400) by omega), Bool.false_eq_true, if_false]
      · by_cases c2 : 400 ≤ x[j]
        · simp only [dF c1, dT c2, Bool.false_eq_true, if_false, if_true, Option.bind_some, dF (show ¬ (0 ≤ x[j] ∧ x[j] < 400) by omega)]
        · simp only [dF c1, dF c2, Bool.false_eq_true, if_false, Option.bind_some, dT (show 0 ≤ x[j] ∧ x[j] < 400 by omega), if_true]
    · unfold raddleref02_Check_l1
      simp only [dF (show ¬ (x.length : Int) < (x.length : Int) by omega), Bool.false_eq_true, if_false]
  simp only [dF (show ¬ (400 : Int) < (x.length : Int) by omega), Bool.false_eq_true, if_false, hw]
  by_cases hc : x.all (fun y => decide (0 ≤ y ∧ y < 400)) = true
  · have e : lerr x = 0 := by unfold lerr; rw [if_neg h, if_pos hc]
    rw [if_pos hc, e]
    rfl
  · have e : lerr x = 8 := by unfold lerr; rw [if_neg h, if_neg hc]
    rw [if_neg hc, e]
    rfl
/-- the first error of the units -/
def eL : List (List Int) → Int
  | [] => 0
  | u :: us => if lerr u = 0 then eL us else lerr u
theorem eL_all {l : List (List Int)} (h : eL l = 0) : ∀ g, g ∈ l → lerr g = 0 := by
  induction l with
  | nil => intro g hg; cases hg
  | cons x l ih =>
    intro g hg
    simp only [eL] at h
    by_cases hx : lerr x = 0
    · rw [if_pos hx] at h
      rcases List.mem_cons.1 hg with rfl | hg
      · exact hx
      · exact ih h g hg
    · rw [if_neg hx] at h; exact absurd h hx
theorem eL_find (l : List (List Int)) : (l.findSome? fun g => if lerr g = 0 then none else some (Sum.inl (β := Unit) (lerr g))).getD (.inr ()) = if eL l = 0 then .inr () else .inl (eL l) := by
  induction l with
  | nil => rfl
  | cons g l ih =>
    rw [List.findSome?_cons]
    by_cases h : lerr g = 0
    · rw [if_pos h]; simp only [eL, if_pos h]; exact ih
    · rw [if_neg h]; simp only [eL, if_neg h, Option.getD_some]
def sameL (us : List (List Int)) : Bool := us.all fun u => decide (u.length ≠ 0 ∧ u.length = (us.getD 0 []).length)
def sperr (us : List (List Int)) : Int := if us.length = 0 ∨ 400 < us.length then 2 else if eL us = 0 then (if sameL us = true then 0 else 26) else eL us
theorem lne (a b : Nat) : ((a : Int) != (b : Int)) = !decide (a = b) := by
  by_cases h : a = b
  · rw [dT h, nF (by omega)]; rfl
  · rw [dF h, nT (by omega)]; rfl
theorem len_idx (us : List (List Int)) (h0 : 0 < us.length) (hl : us.length ≤ 1000000) : F_slices_ContainsFunc_____int___int__s0 us us = some (!us.all fun u => decide (u.length = (us.getD 0 []).length)) := by
  have hw := loop_idx (B := slices_IndexFunc_____int___int__s0_l1 us us) us (fun u => !decide (u.length = (us.getD 0 []).length)) (fun k => .inl (k : Int)) (.inr ()) (fun k hk => by
    unfold slices_IndexFunc_____int___int__s0_l1 F_block_spelled_1_s0
    simp only [dT (show (k : Int) < (us.length : Int) by omega), if_true, idxO_nat hk, getD_0 [] h0, Option.bind_some, lne, w64_succ (show k < 9223372036854775807 by omega)]
    split <;> rfl) (by
    unfold slices_IndexFunc_____int___int__s0_l1
    simp only [dF (show ¬ (us.length : Int) < (us.length : Int) by omega), Bool.false_eq_true, if_false])
  have hi : F_slices_IndexFunc_____int___int__s0 us us = some (idxF us (fun u => !decide (u.length = (us.getD 0 []).length))) := by
    unfold F_slices_IndexFunc_____int___int__s0 idxF
    rw [hw]
    by_cases h : us.findIdx (fun u => !decide (u.length = (us.getD 0 []).length)) < us.length
    · rw [if_pos h, if_pos h]; rfl
    · rw [if_neg h, if_neg h]; rfl
  unfold F_slices_ContainsFunc_____int___int__s0
  rw [hi, Option.bind_some, idxF_nn]
  congr 1
  rw [List.all_eq_not_any_not, Bool.not_not]
theorem getD0_mem {α : Type} {us : List α} (d : α) (h : 0 < us.length) : us.getD 0 d ∈ us := by
  rw [List.getD_eq_getElem?_getD, List.getElem?_eq_getElem h]
  exact List.getElem_mem _
theorem spelled_eq (us : List (List Int)) : F_block_spelled us = some (sperr us) := by
  unfold F_block_spelled sperr
  by_cases h0 : us.length = 0
  · rw [if_pos (show us.length = 0 ∨ 400 < us.length from .inl h0)]; simp only [bT (show (us.length : Int) = 0 by omega), if_true, Option.bind_some]
  by_cases h1 : 400 < us.length
  · rw [if_pos (show us.length = 0 ∨ 400 < us.length from .inr h1)]; simp only [bF (show ¬ (us.length : Int) = 0 by omega), dT (show (400 : Int) < (us.length : Int) by omega), Bool.false_eq_true, if_false, if_true, Option.bind_some]
  rw [if_neg (show ¬ (us.length = 0 ∨ 400 < us.length) by omega)]
  have hw : whileO (block_spelled_l1 us) 0 = some (if eL us = 0 then .inr () else .inl (eL us)) := by
    rw [← eL_find]
    refine loop_list us (fun l => if lerr l = 0 then none else some (Sum.inl (lerr l))) (.inr ()) (fun k hk => ?_) ?_
    · unfold block_spelled_l1
      simp only [dT (show (k : Int) < (us.length : Int) by omega), if_true, idxO_nat hk, Option.bind_some, tcheck_eq, w64_succ (show k < 9223372036854775807 by omega)]
      by_cases h : lerr us[k] = 0
      · rw [nF h, if_pos h]; rfl
      · rw [nT h, if_neg h]; rfl
    · unfold block_spelled_l1
      simp only [dF (show ¬ (us.length : Int) < (us.length : Int) by omega), Bool.false_eq_true, if_false]
  simp only [bF (show ¬ (us.length : Int) = 0 by omega), dF (show ¬ (400 : Int) < (us.length : Int) by omega), Bool.false_eq_true, if_false, Option.bind_some, hw]
  by_cases h2 : eL us = 0
  case neg => rw [if_neg h2, if_neg h2]; rfl
  rw [if_pos h2, if_pos h2]
  have hm := getD0_mem [] (show 0 < us.length by omega)
  simp only [Option.bind_some, getD_0 [] (show 0 < us.length by omega)]
  by_cases h3 : (us.getD 0 []).length = 0
  · have hs : ¬ sameL us = true := fun h => (of_decide_eq_true (List.all_eq_true.1 h _ hm)).1 h3
    rw [if_neg hs]
    simp only [bT (show ((us.getD 0 []).length : Int) = 0 by omega), if_true, Option.bind_some]
  have hs : sameL us = us.all fun u => decide (u.length = (us.getD 0 []).length) := by
    unfold sameL
    have : ∀ l : List (List Int), (l.all fun u => decide (u.length ≠ 0 ∧ u.length = (us.getD 0 []).length)) = l.all fun u => decide (u.length = (us.getD 0 []).length) := by
      intro l
      induction l with
      | nil => rfl
      | cons x l ih =>
        rw [List.all_cons, List.all_cons, ih]
        congr 1
        exact decide_eq_decide.2 ⟨fun h => h.2, fun h => ⟨by omega, h⟩⟩
    exact this us
  simp only [bF (show ¬ ((us.getD 0 []).length : Int) = 0 by omega), Bool.false_eq_true, if_false, len_idx us (by omega) (by omega), Option.bind_some, ← hs]
  cases sameL us <;> rfl
theorem rspelled_eq (us : List (List Int)) : F_raddleref13_Spelled us = some (sperr us) := by
  unfold F_raddleref13_Spelled sperr
  by_cases h0 : us.length = 0
  · rw [if_pos (show us.length = 0 ∨ 400 < us.length from .inl h0)]; simp only [dT (show (us.length : Int) < 1 by omega), if_true, Option.bind_some]
  by_cases h1 : 400 < us.length
  · rw [if_pos (show us.length = 0 ∨ 400 < us.length from .inr h1)]; simp only [dF (show ¬ (us.length : Int) < 1 by omega), dT (show (400 : Int) < (us.length : Int) by omega), Bool.false_eq_true, if_false, if_true, Option.bind_some]
  rw [if_neg (show ¬ (us.length = 0 ∨ 400 < us.length) by omega)]
  have hw : whileO (raddleref13_Spelled_l1 us) 0 = some (if eL us = 0 then .inr () else .inl (eL us)) := by
    rw [← eL_find]
    refine loop_list us (fun l => if lerr l = 0 then none else some (Sum.inl (lerr l))) (.inr ()) (fun k hk => ?_) ?_
    · unfold raddleref13_Spelled_l1
      simp only [dT (show (k : Int) < (us.length : Int) by omega), if_true, idxO_nat hk, Option.bind_some, rcheck2_eq, w64_succ (show k < 9223372036854775807 by omega)]
      by_cases h : lerr us[k] = 0
      · rw [nF h, if_pos h]; rfl
      · rw [nT h, if_neg h]; rfl
    · unfold raddleref13_Spelled_l1
      simp only [dF (show ¬ (us.length : Int) < (us.length : Int) by omega), Bool.false_eq_true, if_false]
  simp only [dF (show ¬ (us.length : Int) < 1 by omega), dF (show ¬ (400 : Int) < (us.length : Int) by omega), Bool.false_eq_true, if_false, Option.bind_some, hw]
  by_cases h2 : eL us = 0
  case neg => rw [if_neg h2, if_neg h2]; rfl
  rw [if_pos h2, if_pos h2]
  have hw2 : whileO (raddleref13_Spelled_l2 us) 0 = some (if sameL us = true then .inr () else .inl 26) := by
    refine loop_allL us _ _ _ (fun k hk => ?_) ?_
    · unfold raddleref13_Spelled_l2
      simp only [dT (show (k : Int) < (us.length : Int) by omega), if_true, idxO_nat hk, getD_0 [] (show 0 < us.length by omega), Option.bind_some, lne, w64_succ (show k < 9223372036854775807 by omega)]
      by_cases c1 : us[k].length = 0
      · simp only [bT (show (us[k].length : Int) = 0 by omega), if_true, Option.bind_some, dF (show ¬ (us[k].length ≠ 0 ∧ us[k].length = (us.getD 0 []).length) from fun h => h.1 c1), Bool.false_eq_true, if_false]
      · by_cases c2 : us[k].length = (us.getD 0 []).length
        · simp only [bF (show ¬ (us[k].length : Int) = 0 by omega), Bool.false_eq_true, if_false, Option.bind_some, dT c2, Bool.not_true, dT (show (us[k].length ≠ 0 ∧ us[k].length = (us.getD 0 []).length) from ⟨c1, c2⟩), if_true]
        · simp only [bF (show ¬ (us[k].length : Int) = 0 by omega), Bool.false_eq_true, if_false, Option.bind_some, dF c2, Bool.not_false, dF (show ¬ (us[k].length ≠ 0 ∧ us[k].length = (us.getD 0 []).length) from fun h => c2 h.2), if_true]
    · unfold raddleref13_Spelled_l2
      simp only [dF (show ¬ (us.length : Int) < (us.length : Int) by omega), Bool.false_eq_true, if_false]
  simp only [Option.bind_some, hw2]
  by_cases h3 : sameL us = true
  · rw [if_pos h3, if_pos h3]; rfl
  · rw [if_neg h3, if_neg h3]; rfl
/-- what units that are spelled have -/
theorem sp_ok {us : List (List Int)} (h : sperr us = 0) : 0 < us.length ∧ us.length ≤ 400 ∧ 1 ≤ (us.getD 0 []).length ∧ (us.getD 0 []).length ≤ 400 ∧ ∀ u, u ∈ us → u.length = (us.getD 0 []).length := by
  unfold sperr at h
  by_cases h0 : us.length = 0 ∨ 400 < us.length
  · rw [if_pos h0] at h; cases h
  rw [if_neg h0] at h
  by_cases h1 : eL us = 0
  case neg => rw [if_neg h1] at h; exact absurd h h1
  rw [if_pos h1] at h
  by_cases h2 : sameL us = true
  case neg => rw [if_neg h2] at h; cases h
  have hm := getD0_mem [] (show 0 < us.length by omega)
  have ha := fun u hu => of_decide_eq_true (List.all_eq_true.1 h2 u hu)
  refine ⟨by omega, by omega, ?_, (lerr_zero (eL_all h1 _ hm)).1, fun u hu => (ha u hu).2⟩
  have := (ha _ hm).1
  omega
/-- the unit of a block -/
def su (us : List (List Int)) (l : List Int) (k : Nat) : List Int := us.getD (l.getD k 0).toNat []
theorem su_ok {us : List (List Int)} {l : List Int} (hr : inRg l us.length = true) {k : Nat} (hk : k < l.length) : idxO us l[k] = some (su us l k) ∧ su us l k ∈ us := by
  have h : 0 ≤ l[k] ∧ l[k] < (us.length : Int) := of_decide_eq_true (List.all_eq_true.1 hr _ (List.getElem_mem hk))
  have hj : l[k].toNat < us.length := by omega
  have e : su us l k = us[l[k].toNat] := by
    unfold su
    rw [List.getD_eq_getElem?_getD (l := l), List.getElem?_eq_getElem hk, Option.getD_some, List.getD_eq_getElem?_getD, List.getElem?_eq_getElem hj, Option.getD_some]
  rw [e]
  exact ⟨idxO_of (by omega) hj, List.getElem_mem _⟩
def spellS (l : List Int) (us : List (List Int)) : List Int × Int :=
  if lerr l = 0 then (if sperr us = 0 then (if inRg l us.length = true then (if 400 < l.length * (us.getD 0 []).length then ([], 4) else (gl (fun x y => (su us l y).getD x 0) (us.getD 0 []).length l.length, 0)) else ([], 8)) else ([], sperr us)) else ([], lerr l)
theorem map_getD {α : Type} (u : List α) (d : α) {n : Nat} (h : u.length = n) : (List.range n).map (fun x => u.getD x d) = u := by
  subst h
  apply List.ext_getElem
  · simp
  · intro i h1 h2
    simp [List.getD_eq_getElem?_getD, h2]
theorem glf_row {α : Type} (f : Nat → Nat → α) (n k : Nat) (u : List α) (d : α) (hu : u.length = n) (h : ∀ x, x < n → f x k = u.getD x d) : glf f n ((k + 1) * n) = glf f n (k * n) ++ u := by
  rw [Nat.add_mul, Nat.one_mul]
  unfold glf
  rw [List.range_add, List.map_append]
  congr 1
  rw [List.map_map]
  refine Eq.trans (map_cong fun x hx => ?_) (map_getD u d hu)
  simp only [Function.comp, pl_mod hx, pl_div hx]
  exact h x hx
theorem spell_eq (l : List Int) (us : List (List Int)) : F_block_Spell l us = some (spellS l us) := by
  unfold F_block_Spell spellS
  rw [tcheck_eq]
  by_cases h0 : lerr l = 0
  case neg => rw [if_neg h0]; simp only [Option.bind_some, nT h0, if_true]
  rw [if_pos h0]
  simp only [Option.bind_some, nF h0, Bool.false_eq_true, if_false, spelled_eq]
  by_cases h1 : sperr us = 0
  case neg => rw [if_neg h1]; simp only [nT h1, if_true]
  rw [if_pos h1]
  obtain ⟨u0, u1, n0, n1, hn⟩ := sp_ok h1
  have hl := (lerr_zero h0).1
  simp only [nF h1, Bool.false_eq_true, if_false, index_eq l us.length (by omega), Option.bind_some]
  by_cases h2 : inRg l us.length = true
  case neg => rw [if_neg h2]; simp only [h2, Bool.not_false, if_true]
  rw [if_pos h2]
  simp only [h2, Bool.not_true, Bool.false_eq_true, if_false, getD_0 [] u0, Option.bind_some]
  generalize (us.getD 0 []).length = n at *
  have hp : l.length * n ≤ 400 * 400 := Nat.mul_le_mul hl n1
  rw [wmul (by omega)]
  by_cases h3 : 400 < l.length * n
  · rw [if_pos h3]; simp only [dT (show (400 : Int) < ((l.length * n : Nat) : Int) by omega), if_true]
  rw [if_neg h3]
  have hb := loop_seq (B := block_Spell_l1 l us) (fun k => (glf (fun x y => (su us l y).getD x 0) n (k * n), (k : Int))) l.length (t := glf (fun x y => (su us l y).getD x 0) n (l.length * n))
    (fun k hk => by
      obtain ⟨e1, e2⟩ := su_ok h2 hk
      have e3 := hn _ e2
      have e4 : k * n + n ≤ l.length * n := by
        have := Nat.mul_le_mul_right n (show k + 1 ≤ l.length by omega)
        rw [Nat.add_mul, Nat.one_mul] at this
        exact this
      unfold block_Spell_l1
      simp only [dT (show (k : Int) < (l.length : Int) by omega), if_true, idxO_nat hk, e1, Option.bind_some]
      rw [appO_of (by simp [glf]; omega), Option.bind_some, w64_succ (by omega), glf_row _ n k (su us l k) 0 e3 (fun x _ => rfl)])
    (by
      unfold block_Spell_l1
      simp only [dF (show ¬ (l.length : Int) < (l.length : Int) by omega), Bool.false_eq_true, if_false])
  have e0 : (glf (fun x y => (su us l y).getD x 0) n (0 * n), (((0 : Nat) : Int))) = (([] : List Int), (0 : Int)) := by simp [glf]
  simp only [e0] at hb
  simp only [dF (show ¬ (400 : Int) < ((l.length * n : Nat) : Int) by omega), Bool.false_eq_true, if_false, hb, Option.bind_some]
  unfold gl
  rw [Nat.mul_comm n l.length]
end Go.Proofs.Ythfifeabomdlpaa
namespace Go.Proofs.Ythfifeabomdlpaa
open Go.RowKit
set_option linter.unusedVariables false

theorem rsame_il (a b : List Int) (hl : a.length ≤ 9223372036854775807) : F_raddleref02_Same a b = some (decide (a = b)) := by
  by_cases h3 : (a.length : Int) = (b.length : Int)
  case neg => unfold F_raddleref02_Same; simp only [nT h3, if_true]; rw [decide_eq_false]; rintro rfl; exact h3 rfl
  have hw : whileO (raddleref02_Same_l1 a b) 0 = some (if a = b then .inr () else .inl false) := by
    refine loop_eql a b (by omega) _ _ (fun k hk => ?_) ?_
    · unfold raddleref02_Same_l1
      simp only [dT (show (k : Int) < (a.length : Int) by omega), if_true, idxO_nat hk, idxO_nat (xs := b) (k := k) (by omega), Option.bind_some, w64_succ (show k < 9223372036854775807 by omega)]
      by_cases e : a[k] = b[k]'(by omega)
      · rw [if_pos e, e]; simp
      · rw [if_neg e, if_pos (by simpa using e)]
    · unfold raddleref02_Same_l1; simp
  unfold F_raddleref02_Same
  simp only [nF h3, Bool.false_eq_true, if_false, Option.bind_some, hw]
  by_cases e : a = b
  · rw [if_pos e]; simp [e]
  · rw [if_neg e]; simp [e]
theorem equal_il (a b : List Int) (hl : a.length ≤ 9223372036854775807) : F_slices_Equal___int_int_ a b = some (decide (a = b)) := by
  by_cases h3 : (a.length : Int) = (b.length : Int)
  case neg => unfold F_slices_Equal___int_int_; simp only [nT h3, if_true]; rw [decide_eq_false]; rintro rfl; exact h3 rfl
  have hw : whileO (slices_Equal___int_int__l1 a b) 0 = some (if a = b then .inr () else .inl false) := by
    refine loop_eql a b (by omega) _ _ (fun k hk => ?_) ?_
    · unfold slices_Equal___int_int__l1
      simp only [dT (show (k : Int) < (a.length : Int) by omega), if_true, idxO_nat hk, idxO_nat (xs := b) (k := k) (by omega), Option.bind_some, w64_succ (show k < 9223372036854775807 by omega)]
      by_cases e : a[k] = b[k]'(by omega)
      · rw [if_pos e, e]; simp
      · rw [if_neg e, if_pos (by simpa using e)]
    · unfold slices_Equal___int_int__l1; simp
  unfold F_slices_Equal___int_int_
  simp only [nF h3, Bool.false_eq_true, if_false, Option.bind_some, hw]
  by_cases e : a = b
  · rw [if_pos e]; simp [e]
  · rw [if_neg e]; simp [e]
def twR (us : List (List Int)) (i : Nat) : Bool := (List.range i).all fun k => !decide (us.getD i [] = us.getD k [])
/-- two units are equal -/
def twS (us : List (List Int)) : Bool := !(List.range us.length).all (twR us)
theorem getD_memL {us : List (List Int)} {i : Nat} (h : i < us.length) : us.getD i [] ∈ us := by
  rw [List.getD_eq_getElem?_getD, List.getElem?_eq_getElem h]
  exact List.getElem_mem _
theorem two_loop (us : List (List Int)) (hl : us.length ≤ 1000000) (hb : ∀ u, u ∈ us → u.length ≤ 1000000) : whileO (block_Blocks_l2 us) 0 = some (if twS us = true then .inl ([], 14) else .inr ()) := by
  have h := loop_all (B := block_Blocks_l2 us) us.length (twR us) (.inr ()) (.inl ([], 14)) (fun i hi => by
    have hs := sliceO_of (xs := us) (lo := 0) (hi := (i : Int)) (l := 0) (k := i) rfl rfl (Nat.zero_le _) (by omega)
    have hA : ((us.take i).drop 0).length = i := by simp; omega
    have hix : ∀ k, k < i → idxO ((us.take i).drop 0) (k : Int) = some (us.getD k []) := by
      intro k hk
      rw [idxO_D [] (by omega)]
      congr 1
      simp [List.getD_eq_getElem?_getD, List.getElem?_take, hk]
    have hw : whileO (block_Blocks_l1 ((us.take i).drop 0) (us.getD i [])) 0 = some (if twR us i = true then .inr () else .inl ([], 14)) := by
      unfold twR
      refine loop_all i _ _ _ (fun k hk => ?_) ?_
      · unfold block_Blocks_l1
        simp only [hA, dT (show (k : Int) < (i : Int) by omega), if_true, hix k hk, Option.bind_some, equal_il _ _ (Nat.le_trans (hb _ (getD_memL hi)) (by decide)), w64_succ (show k < 9223372036854775807 by omega)]
        by_cases e : us.getD i [] = us.getD k []
        · simp only [dT e, if_true, Bool.not_true, Bool.false_eq_true, if_false]
        · simp only [dF e, if_true, Bool.not_false, Bool.false_eq_true, if_false]
      · unfold block_Blocks_l1
        simp only [hA, dF (show ¬ (i : Int) < (i : Int) by omega), Bool.false_eq_true, if_false]
    unfold block_Blocks_l2
    simp only [dT (show (i : Int) < (us.length : Int) by omega), if_true, idxO_D [] hi, hs, Option.bind_some, hw, w64_succ (show i < 9223372036854775807 by omega)]
    cases twR us i <;> rfl) (by
    unfold block_Blocks_l2
    simp only [dF (show ¬ (us.length : Int) < (us.length : Int) by omega), Bool.false_eq_true, if_false])
  rw [h]
  unfold twS
  cases (List.range us.length).all (twR us) <;> rfl
theorem rtwice_eq (us : List (List Int)) (hl : us.length ≤ 1000000) (hb : ∀ u, u ∈ us → u.length ≤ 1000000) : F_raddleref13_Twice us = some (twS us) := by
  have h := loop_all (B := raddleref13_Twice_l2 us) us.length (twR us) (.inr ()) (.inl true) (fun i hi => by
    have hw : whileO (raddleref13_Twice_l1 (i : Int) us) 0 = some (if twR us i = true then .inr () else .inl true) := by
      unfold twR
      refine loop_all i _ _ _ (fun k hk => ?_) ?_
      · unfold raddleref13_Twice_l1
        simp only [dT (show (k : Int) < (i : Int) by omega), if_true, idxO_D [] hi, idxO_D (xs := us) [] (show k < us.length by omega), Option.bind_some, rsame_il _ _ (Nat.le_trans (hb _ (getD_memL hi)) (by decide)), w64_succ (show k < 9223372036854775807 by omega)]
        by_cases e : us.getD i [] = us.getD k []
        · simp only [dT e, if_true, Bool.not_true, Bool.false_eq_true, if_false]
        · simp only [dF e, if_true, Bool.not_false, Bool.false_eq_true, if_false]
      · unfold raddleref13_Twice_l1
        simp only [dF (show ¬ (i : Int) < (i : Int) by omega), Bool.false_eq_true, if_false]
    unfold raddleref13_Twice_l2
    simp only [dT (show (i : Int) < (us.length : Int) by omega), if_true, Option.bind_some, hw, w64_succ (show i < 9223372036854775807 by omega)]
    cases twR us i <;> rfl) (by
    unfold raddleref13_Twice_l2
    simp only [dF (show ¬ (us.length : Int) < (us.length : Int) by omega), Bool.false_eq_true, if_false])
  unfold F_raddleref13_Twice
  rw [h]
  unfold twS
  cases (List.range us.length).all (twR us) <;> rfl
def chk (l : List Int) (n k : Nat) : List Int := (l.take (k * n + n)).drop (k * n)
def bkI (l : List Int) (us : List (List Int)) (n k : Nat) : Nat := us.findIdx fun u => decide (u = chk l n k)
def bkG (l : List Int) (us : List (List Int)) (n k : Nat) : Bool := decide (bkI l us n k < us.length)
def bkL (l : List Int) (us : List (List Int)) (n k : Nat) : List Int := (List.range k).map fun t => ((bkI l us n t : Nat) : Int)
theorem bkL_succ (l : List Int) (us : List (List Int)) (n k : Nat) : bkL l us n (k + 1) = bkL l us n k ++ [((bkI l us n k : Nat) : Int)] := by simp [bkL, List.range_succ]
theorem bkL_len (l : List Int) (us : List (List Int)) (n k : Nat) : (bkL l us n k).length = k := by simp [bkL]
def blocksS (l : List Int) (us : List (List Int)) : List Int × Int :=
  if lerr l = 0 then (if sperr us = 0 then (if twS us = true then ([], 14) else if l.length % (us.getD 0 []).length = 0 then
    (if (List.range (l.length / (us.getD 0 []).length)).all (bkG l us (us.getD 0 []).length) = true then (bkL l us (us.getD 0 []).length (l.length / (us.getD 0 []).length), 0) else ([], 6)) else ([], 26)) else ([], sperr us)) else ([], lerr l)
theorem chunk_idx (us : List (List Int)) (c : List Int) (hl : us.length ≤ 1000000) (hb : ∀ u, u ∈ us → u.length ≤ 1000000) : F_slices_IndexFunc_____int___int__s1 us c = some (idxF us fun u => decide (u = c)) := by
  have hw := loop_idx (B := slices_IndexFunc_____int___int__s1_l1 us c) us (fun u => decide (u = c)) (fun k => .inl (k : Int)) (.inr ()) (fun k hk => by
    have := hb _ (List.getElem_mem hk)
    unfold slices_IndexFunc_____int___int__s1_l1 F_block_Blocks_1_s0
    simp only [dT (show (k : Int) < (us.length : Int) by omega), if_true, idxO_nat hk, Option.bind_some, equal_il _ _ (show us[k].length ≤ 9223372036854775807 by omega), w64_succ (show k < 9223372036854775807 by omega)]
    split <;> rfl) (by
    unfold slices_IndexFunc_____int___int__s1_l1
    simp only [dF (show ¬ (us.length : Int) < (us.length : Int) by omega), Bool.false_eq_true, if_false])
  unfold F_slices_IndexFunc_____int___int__s1 idxF
  rw [hw]
  by_cases h : us.findIdx (fun u => decide (u = c)) < us.length
  · rw [if_pos h, if_pos h]; rfl
  · rw [if_neg h, if_neg h]; rfl
theorem chunks_eq (l : List Int) (us : List (List Int)) {n m : Nat} (n0 : 1 ≤ n) (hm : l.length = m * n) (hl : l.length ≤ 1000000) (hu : us.length ≤ 1000000) (hb : ∀ u, u ∈ us → u.length ≤ 1000000) :
    I_slices_Chunk___int_int__1 l (n : Int) _ _ (block_Blocks_l4 us) ([] : List Int) = some (if (List.range m).all (bkG l us n) = true then .inl (bkL l us n m) else .inr ()) := by
  have hmle : m ≤ m * n := Nat.le_mul_of_pos_right m n0
  have h := loop_seqf (B := slices_Chunk___int_int__1_l1 l (n : Int) (block_Blocks_l4 us)) (fun k => (((k * n : Nat) : Int), bkL l us n k)) m (bkG l us n) (bad := .inl (.inr ())) (t := .inr (bkL l us n m))
    (fun k hk _ => by
      have e4 : k * n + n ≤ m * n := by
        have := Nat.mul_le_mul_right n (show k + 1 ≤ m by omega)
        rw [Nat.add_mul, Nat.one_mul] at this
        exact this
      have hbl := bkL_len l us n k
      have hs := sliceO_all (xs := l) (k := k * n) (by omega)
      have h3 : slice3O l ((k * n : Nat) : Int) ((k * n + n : Nat) : Int) ((k * n + n : Nat) : Int) = some (chk l n k) := by
        unfold slice3O
        rw [if_pos ⟨by omega, by omega, by omega, by omega⟩, Int.toNat_natCast, Int.toNat_natCast]
        rfl
      have hd : ¬ ((l.drop (k * n)).length : Int) < (n : Int) := by rw [List.length_drop]; omega
      unfold slices_Chunk___int_int__1_l1
      simp only [dT (show ((k * n : Nat) : Int) < (l.length : Int) by omega), if_true, hs, Option.bind_some]
      simp only [if_neg hd, wadd (a := k * n) (b := n) (by omega), h3, Option.bind_some]
      unfold block_Blocks_l4
      simp only [chunk_idx us (chk l n k) hu hb, Option.bind_some]
      unfold bkG idxF
      by_cases hc : bkI l us n k < us.length
      · rw [dT hc]
        unfold bkI at hc
        rw [if_pos hc]
        simp only [dF (show ¬ ((us.findIdx (fun u => decide (u = chk l n k)) : Nat) : Int) < 0 by omega), Bool.false_eq_true, if_false, if_true]
        rw [appO_of (by simp [hbl]; omega), bkL_succ, show (k + 1) * n = k * n + n by rw [Nat.add_mul, Nat.one_mul]]
        rfl
      · rw [dF hc]
        unfold bkI at hc
        rw [if_neg hc]
        rfl)
    (fun _ => by
      unfold slices_Chunk___int_int__1_l1
      simp only [dF (show ¬ ((m * n : Nat) : Int) < (l.length : Int) by omega), Bool.false_eq_true, if_false])
  have e0 : (((0 * n : Nat) : Int), bkL l us n 0) = ((0 : Int), ([] : List Int)) := by simp [bkL]
  simp only [e0] at h
  unfold I_slices_Chunk___int_int__1
  rw [h]
  by_cases hc : (List.range m).all (bkG l us n) = true
  · rw [if_pos hc, if_pos hc]; rfl
  · rw [if_neg hc, if_neg hc]; rfl
theorem len_dvd {a n : Nat} (h : a % n = 0) : a = a / n * n := by
  have := pl_of a n
  rw [h, Nat.add_zero] at this
  exact this.symm
theorem blocks_eq (l : List Int) (us : List (List Int)) : F_block_Blocks l us = some (blocksS l us) := by
  unfold F_block_Blocks blocksS
  rw [tcheck_eq]
  by_cases h0 : lerr l = 0
  case neg => rw [if_neg h0]; simp only [Option.bind_some, nT h0, if_true]
  rw [if_pos h0]
  simp only [Option.bind_some, nF h0, Bool.false_eq_true, if_false, spelled_eq]
  by_cases h1 : sperr us = 0
  case neg => rw [if_neg h1]; simp only [nT h1, if_true]
  rw [if_pos h1]
  obtain ⟨u0, u1, n0, n1, hn⟩ := sp_ok h1
  have hl := (lerr_zero h0).1
  have hb : ∀ u, u ∈ us → u.length ≤ 1000000 := fun u hu => by rw [hn u hu]; omega
  simp only [nF h1, Bool.false_eq_true, if_false, two_loop us (by omega) hb, Option.bind_some]
  by_cases h2 : twS us = true
  · rw [if_pos h2, if_pos h2]; rfl
  rw [if_neg h2, if_neg h2]
  simp only [Option.bind_some, getD_0 [] u0]
  generalize (us.getD 0 []).length = n at *
  rw [rem_nat (show 0 < n by omega), Option.bind_some]
  by_cases h3 : l.length % n = 0
  case neg => rw [if_neg h3]; simp only [nT (show ¬ ((l.length % n : Nat) : Int) = 0 by omega), if_true]
  rw [if_pos h3]
  have hd := len_dvd h3
  have hck : F_slices_Chunk___int_int_ l (n : Int) = some (l, (n : Int)) := by
    unfold F_slices_Chunk___int_int_
    simp only [dF (show ¬ (n : Int) < 1 by omega), Bool.false_eq_true, if_false]
  simp only [nF (show ((l.length % n : Nat) : Int) = 0 by omega), Bool.false_eq_true, if_false, hck, Option.bind_some]
  rw [chunks_eq l us n0 hd (by omega) (by omega) hb]
  by_cases hc : (List.range (l.length / n)).all (bkG l us n) = true
  · rw [if_pos hc, if_pos hc]; rfl
  · rw [if_neg hc, if_neg hc]; rfl
/-- great lists -/
theorem rgreat2_eq (l : List Int) : F_raddleref02_Great l = some (decide (60 < l.length ∧ l.length ≤ 400 ∨ 420 < l.length)) := by
  unfold F_raddleref02_Great
  by_cases h1 : 60 < l.length
  · by_cases h2 : l.length ≤ 400
    · simp only [dT (show (60 : Int) < (l.length : Int) by omega), dT (show (l.length : Int) ≤ 400 by omega), if_true, Option.bind_some, dT (show 60 < l.length ∧ l.length ≤ 400 ∨ 420 < l.length by omega)]
    · simp only [dT (show (60 : Int) < (l.length : Int) by omega), dF (show ¬ (l.length : Int) ≤ 400 by omega), if_true, Bool.false_eq_true, if_false, Option.bind_some]
      congr 1
      exact decide_eq_decide.2 (by omega)
  · simp only [dF (show ¬ (60 : Int) < (l.length : Int) by omega), Bool.false_eq_true, if_false, Option.bind_some]
    congr 1
    exact decide_eq_decide.2 (by omega)
theorem rgreatL (us : List (List Int)) (hl : us.length ≤ 9223372036854775807) : ∃ b, F_raddleref13_Great us = some b := by
  have hw : whileO (raddleref13_Great_l1 us) 0 = some (if us.all (fun l => !decide (60 < l.length ∧ l.length ≤ 400 ∨ 420 < l.length)) = true then .inr () else .inl true) := by
    refine loop_allL us _ _ _ (fun k hk => ?_) ?_
    · unfold raddleref13_Great_l1
      simp only [dT (show (k : Int) < (us.length : Int) by omega), if_true, idxO_nat hk, Option.bind_some, rgreat2_eq, w64_succ (show k < 9223372036854775807 by omega)]
      by_cases h : 60 < us[k].length ∧ us[k].length ≤ 400 ∨ 420 < us[k].length
      · simp only [dT h, if_true, Bool.not_true, Bool.false_eq_true, if_false]
      · simp only [dF h, Bool.false_eq_true, if_false, Bool.not_false, if_true]
    · unfold raddleref13_Great_l1
      simp only [dF (show ¬ (us.length : Int) < (us.length : Int) by omega), Bool.false_eq_true, if_false]
  unfold F_raddleref13_Great
  rw [hw]
  by_cases h : us.all (fun l => !decide (60 < l.length ∧ l.length ≤ 400 ∨ 420 < l.length)) = true
  · rw [if_pos h]
    simp only [Option.bind_some]
    by_cases h1 : (20 : Int) < (us.length : Int)
    · by_cases h2 : (us.length : Int) ≤ 400
      · simp only [dT h1, dT h2, if_true, Option.bind_some]; exact ⟨_, rfl⟩
      · simp only [dT h1, dF h2, if_true, Bool.false_eq_true, if_false, Option.bind_some]; exact ⟨_, rfl⟩
    · simp only [dF h1, Bool.false_eq_true, if_false, Option.bind_some]; exact ⟨_, rfl⟩
  · rw [if_neg h]; exact ⟨_, rfl⟩
end Go.Proofs.Ythfifeabomdlpaa
namespace Go.Proofs.Ythfifeabomdlpaa
open Go.RowKit
set_option linter.unusedVariables false

noncomputable def F_raddlelaw13_BlockReads (p0 : (List Int)) (p1 : (List (List Int))) : Option Bool :=
  Option.bind (F_raddlelaw13_alive) fun r7 =>
  Option.bind (α := Bool) (
    Option.bind (F_raddleref02_Great p0) fun r13 =>
    if r13 then
      some true
    else
      Option.bind (F_raddleref13_Great p1) fun r16 =>
      if r16 then
        some true
      else
        Option.bind (F_raddleref13_Spelled p1) fun r19 =>
        if r19 != 0 then
          some true
        else
          Option.bind (F_raddleref02_Check p0) fun r22 =>
          if r22 != 0 then
            some true
          else
            some (!r7)) fun o10 =>
  if o10 then
    some r7
  else
    Option.bind (F_block_Spell p0 p1) fun r28 =>
    Option.bind (α := Unit ⊕ Bool) (
      if r28.2 == 0 then
        Option.bind (F_block_Blocks r28.1 p1) fun r38 =>
        Option.bind (α := Bool) (
          Option.bind (F_raddleref13_Twice p1) fun r46 =>
          if r46 then
            if r38.2 != 14 then
              some true
            else
              if !r46 then
                if r38.2 != 0 then
                  some true
                else
                  Option.bind (F_raddleref02_Same r38.1 p0) fun r52 =>
                  some (!r52)
              else
                some false
          else
            if !r46 then
              if r38.2 != 0 then
                some true
              else
                Option.bind (F_raddleref02_Same r38.1 p0) fun r56 =>
                some (!r56)
            else
              some false) fun o43 =>
        if o43 then
          some (.inr false)
        else
          some (.inl ())
      else
        some (.inl ())) fun z0 => match z0 with
      | .inl _ =>
        Option.bind (F_block_Blocks p0 p1) fun r61 =>
        if r61.2 != 0 then
          Option.bind (α := Bool) (
            if r7 then
              if r61.2 == 14 then
                some true
              else
                if r61.2 == 26 then
                  some true
                else
                  some (r61.2 == 6)
            else
              some false) fun o69 =>
          some o69
        else
          Option.bind (F_block_Spell r61.1 p1) fun r76 =>
          Option.bind (α := Bool) (
            if r7 then
              if r76.2 == 0 then
                Option.bind (F_raddleref02_Same r76.1 p0) fun r86 =>
                some r86
              else
                some false
            else
              some false) fun o81 =>
          some o81
      | .inr z =>
        some z
set_option maxHeartbeats 4000000 in
set_option maxRecDepth 100000 in
theorem c_raddlelaw13_BlockReads (E : Nat → Prop) (w0 : World) (p0 : (List Int)) (v0 : Value) (p1 : (List (List Int))) (v1 : Value) (r : Bool) (h : F_raddlelaw13_BlockReads p0 p1 = some r) (S : St0 E [] w0 w0 [] [fRep (rL (rI .i64)) (v0) p0, fRep (rL (rL (rI .i64))) (v1) p1]) :
    Calls Try.prog 8 #[v0, v1] w0 (Ret (X := Unit) E [] w0 (fun _ => .bool r) (fun _ => []) (fun _ => [])) := by
  unfold F_raddlelaw13_BlockReads at h
  obtain ⟨ad1, cp2, _, rfl, _⟩ := S.know (i := 0) (e := fRep (rL (rI .i64)) (v0) p0) rfl
  obtain ⟨ad3, cp4, _, rfl, _⟩ := S.know (i := 1) (e := fRep (rL (rL (rI .i64))) (v1) p1) rfl
  refine sEnter (args := [.slice ad1 p0.length cp2, .slice ad3 p1.length cp4]) 108 Try.func8 rfl rfl (by simp) S (fun a S => ?_)
  refine sSeq (fun K5 hK5 => ?_)
  refine sRegion ?_
  refine sMove (.bool false) S (wN rfl) (.inr rfl) rfl rfl (lb rfl) fun a S => ?_
  refine leafL (leafT (hK5 _ _ ?_))
  refine sSeq (fun K6 hK6 => ?_)
  refine sRegion ?_
  obtain ⟨r7, hx8, h⟩ := bindSome h
  have S1 := S.mem
  refine sCallQ (X := Unit) (f := 31) (vs := []) (val := fun _ => .bool r7) S (wN rfl) rfl callee31 rfl (S1.quiet [] rfl) (fun E1 w1 S1 => c_raddlelaw13_alive E1 w1  r7 hx8 S1) rfl (lb rfl) fun _ a w S => ?_
  refine sMove (.bool r7) S (wN rfl) (.inr rfl) rfl rfl (lb rfl) fun a S => ?_
  refine leafL (leafT (hK6 _ _ ?_))
  refine sSeq (fun K9 hK9 => ?_)
  obtain ⟨t11, h, g12⟩ := bindSome h
  refine sCut (fun a w => ∃ o10, o10 = t11 ∧ St [] E [] w0 108 a w [(0, .slice ad1 p0.length cp2), (1, .slice ad3 p1.length cp4), (5, .bool r7), (34, .bool o10)] [] [fRep (rL (rI .i64)) (.slice ad1 p0.length cp2) p0, fRep (rL (rL (rI .i64))) (.slice ad3 p1.length cp4) p1]) ?_ (fun a w hI => ?_)
  · refine sRegion ?_
    refine sMove (.slice ad1 p0.length cp2) S (wN rfl) (.inl rfl) rfl rfl (lb rfl) fun a S => ?_
    obtain ⟨r13, hx14, h⟩ := bindSome h
    have S1 := S.mem
    refine sCallQ (X := Unit) (f := 25) (vs := [.slice ad1 p0.length cp2]) (val := fun _ => .bool r13) S (wN rfl) rfl callee25 rfl (S1.quiet [0] rfl) (fun E1 w1 S1 => c_raddleref02_Great E1 w1 p0 (.slice ad1 p0.length cp2) r13 hx14 S1) rfl (lb rfl) fun _ a w S => ?_
    refine sMove (.bool r13) S (wN rfl) (.inl rfl) rfl rfl (lb rfl) fun a S => ?_
    rcases iteSome h with ⟨hc15, h⟩ | ⟨hc15, h⟩
    · refine sSkip 2 false 17 18 S rfl rfl rfl hc15 rfl (lb rfl) fun a S => ?_
      refine sSkip 2 false 17 19 S rfl rfl rfl hc15 rfl (lb rfl) fun a S => ?_
      refine sPickT (.bool true) S (wN rfl) rfl rfl hc15 rfl rfl (lb rfl) fun a S => ?_
      refine sMove (.bool true) S (wN rfl) (.inl rfl) rfl rfl (lb rfl) fun a S => ?_
      refine sSkip 6 false 21 22 S rfl rfl rfl rfl rfl (lb rfl) fun a S => ?_
      refine sSkip 6 false 21 23 S rfl rfl rfl rfl rfl (lb rfl) fun a S => ?_
      refine sSkip 6 false 21 24 S rfl rfl rfl rfl rfl (lb rfl) fun a S => ?_
      refine sPickT (.bool true) S (wN rfl) rfl rfl rfl rfl rfl (lb rfl) fun a S => ?_
      refine sMove (.bool true) S (wN rfl) (.inl rfl) rfl rfl (lb rfl) fun a S => ?_
      refine sSkip 11 false 26 27 S rfl rfl rfl rfl rfl (lb rfl) fun a S => ?_
      refine sSkip 11 false 26 28 S rfl rfl rfl rfl rfl (lb rfl) fun a S => ?_
      refine sSkip 11 false 26 29 S rfl rfl rfl rfl rfl (lb rfl) fun a S => ?_
      refine sPickT (.bool true) S (wN rfl) rfl rfl rfl rfl rfl (lb rfl) fun a S => ?_
      refine sMove (.bool true) S (wN rfl) (.inl rfl) rfl rfl (lb rfl) fun a S => ?_
      refine sSkip 16 false 31 32 S rfl rfl rfl rfl rfl (lb rfl) fun a S => ?_
      refine sSkip 16 false 31 33 S rfl rfl rfl rfl rfl (lb rfl) fun a S => ?_
      refine sPickT (.bool true) S (wN rfl) rfl rfl rfl rfl rfl (lb rfl) fun a S => ?_
      exact leafL (leafT (⟨true, Option.some.inj h, S.fix [] [0, 1] (by decide) rfl rfl rfl⟩))
    refine sMove (.slice ad3 p1.length cp4) S (wG 2 false 17 rfl rfl rfl hc15) (.inl rfl) rfl rfl (lb rfl) fun a S => ?_
    obtain ⟨r16, hx17, h⟩ := bindSome h
    have S1 := S.mem
    refine sCallQ (X := Unit) (f := 26) (vs := [.slice ad3 p1.length cp4]) (val := fun _ => .bool r16) S (wG 2 false 17 rfl rfl rfl hc15) rfl callee26 rfl (S1.quiet [1] rfl) (fun E1 w1 S1 => c_raddleref13_Great E1 w1 p1 (.slice ad3 p1.length cp4) r16 hx17 S1) rfl (lb rfl) fun _ a w S => ?_
    refine sPickF (.bool r16) S (wN rfl) rfl rfl hc15 rfl rfl (lb rfl) fun a S => ?_
    refine sMove (.bool r16) S (wN rfl) (.inl rfl) rfl rfl (lb rfl) fun a S => ?_
    rcases iteSome h with ⟨hc18, h⟩ | ⟨hc18, h⟩
    · refine sSkip 6 false 21 22 S rfl rfl rfl hc18 rfl (lb rfl) fun a S => ?_
      refine sSkip 6 false 21 23 S rfl rfl rfl hc18 rfl (lb rfl) fun a S => ?_
      refine sSkip 6 false 21 24 S rfl rfl rfl hc18 rfl (lb rfl) fun a S => ?_
      refine sPickT (.bool true) S (wN rfl) rfl rfl hc18 rfl rfl (lb rfl) fun a S => ?_
      refine sMove (.bool true) S (wN rfl) (.inl rfl) rfl rfl (lb rfl) fun a S => ?_
      refine sSkip 11 false 26 27 S rfl rfl rfl rfl rfl (lb rfl) fun a S => ?_
      refine sSkip 11 false 26 28 S rfl rfl rfl rfl rfl (lb rfl) fun a S => ?_
      refine sSkip 11 false 26 29 S rfl rfl rfl rfl rfl (lb rfl) fun a S => ?_
      refine sPickT (.bool true) S (wN rfl) rfl rfl rfl rfl rfl (lb rfl) fun a S => ?_
      refine sMove (.bool true) S (wN rfl) (.inl rfl) rfl rfl (lb rfl) fun a S => ?_
      refine sSkip 16 false 31 32 S rfl rfl rfl rfl rfl (lb rfl) fun a S => ?_
      refine sSkip 16 false 31 33 S rfl rfl rfl rfl rfl (lb rfl) fun a S => ?_
      refine sPickT (.bool true) S (wN rfl) rfl rfl rfl rfl rfl (lb rfl) fun a S => ?_
      exact leafL (leafT (⟨true, Option.some.inj h, S.fix [] [0, 1] (by decide) rfl rfl rfl⟩))
    refine sMove (.slice ad3 p1.length cp4) S (wG 6 false 21 rfl rfl rfl hc18) (.inl rfl) rfl rfl (lb rfl) fun a S => ?_
    obtain ⟨r19, hx20, h⟩ := bindSome h
    have S1 := S.mem
    refine sCallQ (X := Unit) (f := 36) (vs := [.slice ad3 p1.length cp4]) (val := fun _ => iv r19) S (wG 6 false 21 rfl rfl rfl hc18) rfl callee36 rfl (S1.quiet [1] rfl) (fun E1 w1 S1 => c_raddleref13_Spelled E1 w1 p1 (.slice ad3 p1.length cp4) r19 hx20 S1) rfl (lb rfl) fun _ a w S => ?_
    refine sBin (.bool (r19 != 0)) S (wG 6 false 21 rfl rfl rfl hc18) rfl rfl rfl (bNe _ _ _ _ .i64 r19 0) rfl (lb rfl) fun a S => ?_
    refine sPickF (.bool (r19 != 0)) S (wN rfl) rfl rfl hc18 rfl rfl (lb rfl) fun a S => ?_
    refine sMove (.bool (r19 != 0)) S (wN rfl) (.inl rfl) rfl rfl (lb rfl) fun a S => ?_
    rcases iteSome h with ⟨hc21, h⟩ | ⟨hc21, h⟩
    · refine sSkip 11 false 26 27 S rfl rfl rfl hc21 rfl (lb rfl) fun a S => ?_
      refine sSkip 11 false 26 28 S rfl rfl rfl hc21 rfl (lb rfl) fun a S => ?_
      refine sSkip 11 false 26 29 S rfl rfl rfl hc21 rfl (lb rfl) fun a S => ?_
      refine sPickT (.bool true) S (wN rfl) rfl rfl hc21 rfl rfl (lb rfl) fun a S => ?_
      refine sMove (.bool true) S (wN rfl) (.inl rfl) rfl rfl (lb rfl) fun a S => ?_
      refine sSkip 16 false 31 32 S rfl rfl rfl rfl rfl (lb rfl) fun a S => ?_
      refine sSkip 16 false 31 33 S rfl rfl rfl rfl rfl (lb rfl) fun a S => ?_
      refine sPickT (.bool true) S (wN rfl) rfl rfl rfl rfl rfl (lb rfl) fun a S => ?_
      exact leafL (leafT (⟨true, Option.some.inj h, S.fix [] [0, 1] (by decide) rfl rfl rfl⟩))
    refine sMove (.slice ad1 p0.length cp2) S (wG 11 false 26 rfl rfl rfl hc21) (.inl rfl) rfl rfl (lb rfl) fun a S => ?_
    obtain ⟨r22, hx23, h⟩ := bindSome h
    have S1 := S.mem
    refine sCallQ (X := Unit) (f := 37) (vs := [.slice ad1 p0.length cp2]) (val := fun _ => iv r22) S (wG 11 false 26 rfl rfl rfl hc21) rfl callee37 rfl (S1.quiet [0] rfl) (fun E1 w1 S1 => c_raddleref02_Check E1 w1 p0 (.slice ad1 p0.length cp2) r22 hx23 S1) rfl (lb rfl) fun _ a w S => ?_
    refine sBin (.bool (r22 != 0)) S (wG 11 false 26 rfl rfl rfl hc21) rfl rfl rfl (bNe _ _ _ _ .i64 r22 0) rfl (lb rfl) fun a S => ?_
    refine sPickF (.bool (r22 != 0)) S (wN rfl) rfl rfl hc21 rfl rfl (lb rfl) fun a S => ?_
    refine sMove (.bool (r22 != 0)) S (wN rfl) (.inl rfl) rfl rfl (lb rfl) fun a S => ?_
    rcases iteSome h with ⟨hc24, h⟩ | ⟨hc24, h⟩
    · refine sSkip 16 false 31 32 S rfl rfl rfl hc24 rfl (lb rfl) fun a S => ?_
      refine sSkip 16 false 31 33 S rfl rfl rfl hc24 rfl (lb rfl) fun a S => ?_
      refine sPickT (.bool true) S (wN rfl) rfl rfl hc24 rfl rfl (lb rfl) fun a S => ?_
      exact leafL (leafT (⟨true, Option.some.inj h, S.fix [] [0, 1] (by decide) rfl rfl rfl⟩))
    refine sMove (.bool r7) S (wG 16 false 31 rfl rfl rfl hc24) (.inl rfl) rfl rfl (lb rfl) fun a S => ?_
    refine sNot (b := r7) S (wG 16 false 31 rfl rfl rfl hc24) rfl rfl rfl (lb rfl) fun a S => ?_
    refine sPickF (.bool (!r7)) S (wN rfl) rfl rfl hc24 rfl rfl (lb rfl) fun a S => ?_
    exact leafL (leafT (⟨!r7, Option.some.inj h, S.fix [] [0, 1] (by decide) rfl rfl rfl⟩))
  obtain ⟨o10, rfl, S⟩ := hI
  have h := g12
  clear g12
  try dsimp only at h
  rcases iteSome h with ⟨hc25, h⟩ | ⟨hc25, h⟩
  · refine sCondT S rfl hc25 ?_
    refine sSeq (fun K26 hK26 => ?_)
    refine sRegion ?_
    refine sMove (.bool r7) S (wN rfl) (.inl rfl) rfl rfl (lb rfl) fun a S => ?_
    refine sMove (.bool r7) S (wN rfl) (.inr rfl) rfl rfl (lb rfl) fun a S => ?_
    refine leafL (leafT (hK26 _ _ ?_))
    obtain rfl := Option.some.inj h
    exact wp_ret (rThen (sRet (.bool r7) S (rsl1 rfl (rvT (t := 4) (v := .bool r7) S rfl)) ⟨(), rfl, S.mem.sel [] [] (by decide) rfl rfl⟩))
  refine sCondF S rfl hc25 ?_
  refine wp_skip (leafT (hK9 _ _ ?_))
  refine sSeq (fun K27 hK27 => ?_)
  refine sRegion ?_
  refine sMove (.slice ad1 p0.length cp2) S (wN rfl) (.inl rfl) rfl rfl (lb rfl) fun a S => ?_
  refine sMove (.slice ad3 p1.length cp4) S (wN rfl) (.inl rfl) rfl rfl (lb rfl) fun a S => ?_
  obtain ⟨r28, hx29, h⟩ := bindSome h
  refine sCall (X := Value) (f := 27) (vs := [.slice ad1 p0.length cp2, .slice ad3 p1.length cp4]) (val := c_block_Spell_val r28) (B' := fun _ => []) (D' := c_block_Spell_D r28) [] [] [fRep (rL (rI .i64)) (.slice ad1 p0.length cp2) p0, fRep (rL (rL (rI .i64))) (.slice ad3 p1.length cp4) p1] [] [0, 1] S (wN rfl) rfl callee27 rfl (by decide) rfl rfl (fun E1 w1 S1 => c_block_Spell E1 w1 p0 (.slice ad1 p0.length cp2) p1 (.slice ad3 p1.length cp4) r28 hx29 S1) rfl (lb rfl) fun u30 a w S => ?_
  obtain ⟨ad31, cp32, _, rfl, _⟩ := S.mem.know (i := 0) (e := fRep (rL (rI .i64)) (u30) r28.1) rfl
  refine sMove (.tuple #[.slice ad31 r28.1.length cp32, iv r28.2]) S (wN rfl) (.inl rfl) rfl rfl (lb rfl) fun a S => ?_
  refine sExtract (vs := [.slice ad31 r28.1.length cp32, iv r28.2]) (.slice ad31 r28.1.length cp32) S (wN rfl) rfl rfl rfl rfl (lb rfl) fun a S => ?_
  refine sExtract (vs := [.slice ad31 r28.1.length cp32, iv r28.2]) (iv r28.2) S (wN rfl) rfl rfl rfl rfl (lb rfl) fun a S => ?_
  refine sMove (.slice ad31 r28.1.length cp32) S (wN rfl) (.inr rfl) rfl rfl (lb rfl) fun a S => ?_
  refine sMove (iv r28.2) S (wN rfl) (.inr rfl) rfl rfl (lb rfl) fun a S => ?_
  refine leafL (leafT (hK27 _ _ ?_))
  obtain ⟨t33, h, g34⟩ := bindSome h
  refine sCut (fun a w => .inl () = t33 ∧ St [] E [] w0 108 a w [(0, .slice ad1 p0.length cp2), (1, .slice ad3 p1.length cp4), (5, .bool r7)] [] [fRep (rL (rI .i64)) (.slice ad1 p0.length cp2) p0, fRep (rL (rL (rI .i64))) (.slice ad3 p1.length cp4) p1]) ?_ (fun a w hI => ?_)
  rotate_left
  · obtain ⟨rfl, S⟩ := hI
    have h := g34
    clear g34
    try dsimp only at h
    refine sSeq (fun K60 hK60 => ?_)
    refine sRegion ?_
    refine sMove (.slice ad1 p0.length cp2) S (wN rfl) (.inl rfl) rfl rfl (lb rfl) fun a S => ?_
    refine sMove (.slice ad3 p1.length cp4) S (wN rfl) (.inl rfl) rfl rfl (lb rfl) fun a S => ?_
    obtain ⟨r61, hx62, h⟩ := bindSome h
    refine sCall (X := Value) (f := 29) (vs := [.slice ad1 p0.length cp2, .slice ad3 p1.length cp4]) (val := c_block_Blocks_val r61) (B' := fun _ => []) (D' := c_block_Blocks_D r61) [] [] [fRep (rL (rI .i64)) (.slice ad1 p0.length cp2) p0, fRep (rL (rL (rI .i64))) (.slice ad3 p1.length cp4) p1] [] [0, 1] S (wN rfl) rfl callee29 rfl (by decide) rfl rfl (fun E1 w1 S1 => c_block_Blocks E1 w1 p0 (.slice ad1 p0.length cp2) p1 (.slice ad3 p1.length cp4) r61 hx62 S1) rfl (lb rfl) fun u63 a w S => ?_
    obtain ⟨ad64, cp65, _, rfl, _⟩ := S.mem.know (i := 0) (e := fRep (rL (rI .i64)) (u63) r61.1) rfl
    refine sMove (.tuple #[.slice ad64 r61.1.length cp65, iv r61.2]) S (wN rfl) (.inl rfl) rfl rfl (lb rfl) fun a S => ?_
    refine sExtract (vs := [.slice ad64 r61.1.length cp65, iv r61.2]) (.slice ad64 r61.1.length cp65) S (wN rfl) rfl rfl rfl rfl (lb rfl) fun a S => ?_
    refine sExtract (vs := [.slice ad64 r61.1.length cp65, iv r61.2]) (iv r61.2) S (wN rfl) rfl rfl rfl rfl (lb rfl) fun a S => ?_
    refine sMove (.slice ad64 r61.1.length cp65) S (wN rfl) (.inr rfl) rfl rfl (lb rfl) fun a S => ?_
    refine sMove (iv r61.2) S (wN rfl) (.inr rfl) rfl rfl (lb rfl) fun a S => ?_
    refine leafL (leafT (hK60 _ _ ?_))
    refine sSeq (fun K66 hK66 => ?_)
    refine sSeq (fun K67 hK67 => ?_)
    refine sRegion ?_
    refine sMove (iv r61.2) S (wN rfl) (.inl rfl) rfl rfl (lb rfl) fun a S => ?_
    refine sBin (.bool (r61.2 != 0)) S (wN rfl) rfl rfl rfl (bNe _ _ _ _ .i64 r61.2 0) rfl (lb rfl) fun a S => ?_
    refine leafL (leafT (hK67 _ _ ?_))
    rcases iteSome h with ⟨hc68, h⟩ | ⟨hc68, h⟩
    · refine sCondT S rfl hc68 ?_
      obtain ⟨t70, h, g71⟩ := bindSome h
      refine sCut (fun a w => ∃ o69, o69 = t70 ∧ St [] E [] w0 108 a w [(4, .bool o69)] [] []) ?_ (fun a w hI => ?_)
      rotate_left
      · obtain ⟨o69, rfl, S⟩ := hI
        have h := g71
        clear g71
        try dsimp only at h
        obtain rfl := Option.some.inj h
        exact wp_ret (rThen (sRet (.bool o69) S (rsl1 rfl (rvT (t := 4) (v := .bool o69) S rfl)) ⟨(), rfl, S.mem.sel [] [] (by decide) rfl rfl⟩))
      refine sRegion ?_
      refine sMove (.bool r7) S (wN rfl) (.inl rfl) rfl rfl (lb rfl) fun a S => ?_
      refine sMove (.bool r7) S (wN rfl) (.inl rfl) rfl rfl (lb rfl) fun a S => ?_
      rcases iteSome h with ⟨hc72, h⟩ | ⟨hc72, h⟩
      rotate_left
      · refine sSkip 1 true 80 81 S rfl rfl rfl hc72 rfl (lb rfl) fun a S => ?_
        refine sSkip 1 true 80 82 S rfl rfl rfl hc72 rfl (lb rfl) fun a S => ?_
        refine sSkip 1 true 80 83 S rfl rfl rfl hc72 rfl (lb rfl) fun a S => ?_
        refine sSkipU 4 false 83 84 S rfl rfl rfl rfl (lb rfl) fun a S => ?_
        refine sSkipU 4 false 83 85 S rfl rfl rfl rfl (lb rfl) fun a S => ?_
        refine sSkip 1 true 80 86 S rfl rfl rfl hc72 rfl (lb rfl) fun a S => ?_
        refine sSkip 1 true 80 87 S rfl rfl rfl hc72 rfl (lb rfl) fun a S => ?_
        refine sSkipU 8 false 87 88 S rfl rfl rfl rfl (lb rfl) fun a S => ?_
        refine sSkipU 8 false 87 89 S rfl rfl rfl rfl (lb rfl) fun a S => ?_
        refine sSkip 1 true 80 90 S rfl rfl rfl hc72 rfl (lb rfl) fun a S => ?_
        refine sPickF (.bool false) S (wN rfl) rfl rfl hc72 rfl rfl (lb rfl) fun a S => ?_
        refine sMove (.bool false) S (wN rfl) (.inr rfl) rfl rfl (lb rfl) fun a S => ?_
        exact leafL (leafT (⟨false, Option.some.inj h, S.fix [] [] (by decide) rfl rfl rfl⟩))
      refine sMove (iv r61.2) S (wG 1 true 80 rfl rfl rfl hc72) (.inl rfl) rfl rfl (lb rfl) fun a S => ?_
      refine sBin (.bool (r61.2 == 14)) S (wG 1 true 80 rfl rfl rfl hc72) rfl rfl rfl (bEq _ _ _ _ .i64 r61.2 14) rfl (lb rfl) fun a S => ?_
      refine sMove (.bool (r61.2 == 14)) S (wG 1 true 80 rfl rfl rfl hc72) (.inl rfl) rfl rfl (lb rfl) fun a S => ?_
      rcases iteSome h with ⟨hc73, h⟩ | ⟨hc73, h⟩
      · refine sSkip 4 false 83 84 S rfl rfl rfl hc73 rfl (lb rfl) fun a S => ?_
        refine sSkip 4 false 83 85 S rfl rfl rfl hc73 rfl (lb rfl) fun a S => ?_
        refine sPickT (.bool true) S (wG 1 true 80 rfl rfl rfl hc72) rfl rfl hc73 rfl rfl (lb rfl) fun a S => ?_
        refine sMove (.bool true) S (wG 1 true 80 rfl rfl rfl hc72) (.inl rfl) rfl rfl (lb rfl) fun a S => ?_
        refine sSkip 8 false 87 88 S rfl rfl rfl rfl rfl (lb rfl) fun a S => ?_
        refine sSkip 8 false 87 89 S rfl rfl rfl rfl rfl (lb rfl) fun a S => ?_
        refine sPickT (.bool true) S (wG 1 true 80 rfl rfl rfl hc72) rfl rfl rfl rfl rfl (lb rfl) fun a S => ?_
        refine sPickT (.bool true) S (wN rfl) rfl rfl hc72 rfl rfl (lb rfl) fun a S => ?_
        refine sMove (.bool true) S (wN rfl) (.inr rfl) rfl rfl (lb rfl) fun a S => ?_
        exact leafL (leafT (⟨true, Option.some.inj h, S.fix [] [] (by decide) rfl rfl rfl⟩))
      refine sMove (iv r61.2) S (wG 4 false 83 rfl rfl rfl hc73) (.inl rfl) rfl rfl (lb rfl) fun a S => ?_
      refine sBin (.bool (r61.2 == 26)) S (wG 4 false 83 rfl rfl rfl hc73) rfl rfl rfl (bEq _ _ _ _ .i64 r61.2 26) rfl (lb rfl) fun a S => ?_
      refine sPickF (.bool (r61.2 == 26)) S (wG 1 true 80 rfl rfl rfl hc72) rfl rfl hc73 rfl rfl (lb rfl) fun a S => ?_
      refine sMove (.bool (r61.2 == 26)) S (wG 1 true 80 rfl rfl rfl hc72) (.inl rfl) rfl rfl (lb rfl) fun a S => ?_
      rcases iteSome h with ⟨hc74, h⟩ | ⟨hc74, h⟩
      · refine sSkip 8 false 87 88 S rfl rfl rfl hc74 rfl (lb rfl) fun a S => ?_
        refine sSkip 8 false 87 89 S rfl rfl rfl hc74 rfl (lb rfl) fun a S => ?_
        refine sPickT (.bool true) S (wG 1 true 80 rfl rfl rfl hc72) rfl rfl hc74 rfl rfl (lb rfl) fun a S => ?_
        refine sPickT (.bool true) S (wN rfl) rfl rfl hc72 rfl rfl (lb rfl) fun a S => ?_
        refine sMove (.bool true) S (wN rfl) (.inr rfl) rfl rfl (lb rfl) fun a S => ?_
        exact leafL (leafT (⟨true, Option.some.inj h, S.fix [] [] (by decide) rfl rfl rfl⟩))
      refine sMove (iv r61.2) S (wG 8 false 87 rfl rfl rfl hc74) (.inl rfl) rfl rfl (lb rfl) fun a S => ?_
      refine sBin (.bool (r61.2 == 6)) S (wG 8 false 87 rfl rfl rfl hc74) rfl rfl rfl (bEq _ _ _ _ .i64 r61.2 6) rfl (lb rfl) fun a S => ?_
      refine sPickF (.bool (r61.2 == 6)) S (wG 1 true 80 rfl rfl rfl hc72) rfl rfl hc74 rfl rfl (lb rfl) fun a S => ?_
      refine sPickT (.bool (r61.2 == 6)) S (wN rfl) rfl rfl hc72 rfl rfl (lb rfl) fun a S => ?_
      refine sMove (.bool (r61.2 == 6)) S (wN rfl) (.inr rfl) rfl rfl (lb rfl) fun a S => ?_
      exact leafL (leafT (⟨r61.2 == 6, Option.some.inj h, S.fix [] [] (by decide) rfl rfl rfl⟩))
    refine sCondF S rfl hc68 ?_
    refine wp_skip (leafT (hK66 _ _ ?_))
    refine sSeq (fun K75 hK75 => ?_)
    refine sRegion ?_
    refine sMove (.slice ad64 r61.1.length cp65) S (wN rfl) (.inl rfl) rfl rfl (lb rfl) fun a S => ?_
    refine sMove (.slice ad3 p1.length cp4) S (wN rfl) (.inl rfl) rfl rfl (lb rfl) fun a S => ?_
    obtain ⟨r76, hx77, h⟩ := bindSome h
    refine sCall (X := Value) (f := 27) (vs := [.slice ad64 r61.1.length cp65, .slice ad3 p1.length cp4]) (val := c_block_Spell_val r76) (B' := fun _ => []) (D' := c_block_Spell_D r76) [] [] [fRep (rL (rI .i64)) (.slice ad64 r61.1.length cp65) r61.1, fRep (rL (rL (rI .i64))) (.slice ad3 p1.length cp4) p1] [] [0, 2] S (wN rfl) rfl callee27 rfl (by decide) rfl rfl (fun E1 w1 S1 => c_block_Spell E1 w1 r61.1 (.slice ad64 r61.1.length cp65) p1 (.slice ad3 p1.length cp4) r76 hx77 S1) rfl (lb rfl) fun u78 a w S => ?_
    obtain ⟨ad79, cp80, _, rfl, _⟩ := S.mem.know (i := 0) (e := fRep (rL (rI .i64)) (u78) r76.1) rfl
    refine sMove (.tuple #[.slice ad79 r76.1.length cp80, iv r76.2]) S (wN rfl) (.inl rfl) rfl rfl (lb rfl) fun a S => ?_
    refine sExtract (vs := [.slice ad79 r76.1.length cp80, iv r76.2]) (.slice ad79 r76.1.length cp80) S (wN rfl) rfl rfl rfl rfl (lb rfl) fun a S => ?_
    refine sExtract (vs := [.slice ad79 r76.1.length cp80, iv r76.2]) (iv r76.2) S (wN rfl) rfl rfl rfl rfl (lb rfl) fun a S => ?_
    refine sMove (.slice ad79 r76.1.length cp80) S (wN rfl) (.inr rfl) rfl rfl (lb rfl) fun a S => ?_
    refine sMove (iv r76.2) S (wN rfl) (.inr rfl) rfl rfl (lb rfl) fun a S => ?_
    refine leafL (leafT (hK75 _ _ ?_))
    obtain ⟨t82, h, g83⟩ := bindSome h
    refine sCut (fun a w => ∃ o81, o81 = t82 ∧ St [] E [] w0 108 a w [(4, .bool o81)] [] []) ?_ (fun a w hI => ?_)
    rotate_left
    · obtain ⟨o81, rfl, S⟩ := hI
      have h := g83
      clear g83
      try dsimp only at h
      obtain rfl := Option.some.inj h
      exact wp_ret (sRet (.bool o81) S (rsl1 rfl (rvT (t := 4) (v := .bool o81) S rfl)) ⟨(), rfl, S.mem.sel [] [] (by decide) rfl rfl⟩)
    refine sRegion ?_
    refine sMove (.bool r7) S (wN rfl) (.inl rfl) rfl rfl (lb rfl) fun a S => ?_
    refine sMove (.bool r7) S (wN rfl) (.inl rfl) rfl rfl (lb rfl) fun a S => ?_
    rcases iteSome h with ⟨hc84, h⟩ | ⟨hc84, h⟩
    rotate_left
    · refine sSkip 1 true 99 100 S rfl rfl rfl hc84 rfl (lb rfl) fun a S => ?_
      refine sSkip 1 true 99 101 S rfl rfl rfl hc84 rfl (lb rfl) fun a S => ?_
      refine sPickF (.bool false) S (wN rfl) rfl rfl hc84 rfl rfl (lb rfl) fun a S => ?_
      refine sMove (.bool false) S (wN rfl) (.inl rfl) rfl rfl (lb rfl) fun a S => ?_
      refine sSkip 5 true 103 104 S rfl rfl rfl rfl rfl (lb rfl) fun a S => ?_
      refine sSkip 5 true 103 105 S rfl rfl rfl rfl rfl (lb rfl) fun a S => ?_
      refine sSkip 5 true 103 106 S rfl rfl rfl rfl rfl (lb rfl) fun a S => ?_
      refine sPickF (.bool false) S (wN rfl) rfl rfl rfl rfl rfl (lb rfl) fun a S => ?_
      refine sMove (.bool false) S (wN rfl) (.inr rfl) rfl rfl (lb rfl) fun a S => ?_
      exact leafL (leafT (⟨false, Option.some.inj h, S.fix [] [] (by decide) rfl rfl rfl⟩))
    refine sMove (iv r76.2) S (wG 1 true 99 rfl rfl rfl hc84) (.inl rfl) rfl rfl (lb rfl) fun a S => ?_
    refine sBin (.bool (r76.2 == 0)) S (wG 1 true 99 rfl rfl rfl hc84) rfl rfl rfl (bEq _ _ _ _ .i64 r76.2 0) rfl (lb rfl) fun a S => ?_
    refine sPickT (.bool (r76.2 == 0)) S (wN rfl) rfl rfl hc84 rfl rfl (lb rfl) fun a S => ?_
    refine sMove (.bool (r76.2 == 0)) S (wN rfl) (.inl rfl) rfl rfl (lb rfl) fun a S => ?_
    rcases iteSome h with ⟨hc85, h⟩ | ⟨hc85, h⟩
    rotate_left
    · refine sSkip 5 true 103 104 S rfl rfl rfl hc85 rfl (lb rfl) fun a S => ?_
      refine sSkip 5 true 103 105 S rfl rfl rfl hc85 rfl (lb rfl) fun a S => ?_
      refine sSkip 5 true 103 106 S rfl rfl rfl hc85 rfl (lb rfl) fun a S => ?_
      refine sPickF (.bool false) S (wN rfl) rfl rfl hc85 rfl rfl (lb rfl) fun a S => ?_
      refine sMove (.bool false) S (wN rfl) (.inr rfl) rfl rfl (lb rfl) fun a S => ?_
      exact leafL (leafT (⟨false, Option.some.inj h, S.fix [] [] (by decide) rfl rfl rfl⟩))
    refine sMove (.slice ad79 r76.1.length cp80) S (wG 5 true 103 rfl rfl rfl hc85) (.inl rfl) rfl rfl (lb rfl) fun a S => ?_
    refine sMove (.slice ad1 p0.length cp2) S (wG 5 true 103 rfl rfl rfl hc85) (.inl rfl) rfl rfl (lb rfl) fun a S => ?_
    obtain ⟨r86, hx87, h⟩ := bindSome h
    have S1 := S.mem
    refine sCallQ (X := Unit) (f := 24) (vs := [.slice ad79 r76.1.length cp80, .slice ad1 p0.length cp2]) (val := fun _ => .bool r86) S (wG 5 true 103 rfl rfl rfl hc85) rfl callee24 rfl (S1.quiet [0, 2] rfl) (fun E1 w1 S1 => c_raddleref02_Same E1 w1 r76.1 (.slice ad79 r76.1.length cp80) p0 (.slice ad1 p0.length cp2) r86 hx87 S1) rfl (lb rfl) fun _ a w S => ?_
    refine sPickT (.bool r86) S (wN rfl) rfl rfl hc85 rfl rfl (lb rfl) fun a S => ?_
    refine sMove (.bool r86) S (wN rfl) (.inr rfl) rfl rfl (lb rfl) fun a S => ?_
    exact leafL (leafT (⟨r86, Option.some.inj h, S.fix [] [] (by decide) rfl rfl rfl⟩))
  refine sSeq (fun K35 hK35 => ?_)
  refine sRegion ?_
  refine sMove (iv r28.2) S (wN rfl) (.inl rfl) rfl rfl (lb rfl) fun a S => ?_
  refine sBin (.bool (r28.2 == 0)) S (wN rfl) rfl rfl rfl (bEq _ _ _ _ .i64 r28.2 0) rfl (lb rfl) fun a S => ?_
  refine leafL (leafT (hK35 _ _ ?_))
  rcases iteSome h with ⟨hc36, h⟩ | ⟨hc36, h⟩
  rotate_left
  · refine sCondF S rfl hc36 ?_
    exact wp_skip (leafT (⟨Option.some.inj h, S.fix [] [1, 2] (by decide) rfl rfl rfl⟩))
  refine sCondT S rfl hc36 ?_
  refine sSeq (fun K37 hK37 => ?_)
  refine sRegion ?_
  refine sMove (.slice ad31 r28.1.length cp32) S (wN rfl) (.inl rfl) rfl rfl (lb rfl) fun a S => ?_
  refine sMove (.slice ad3 p1.length cp4) S (wN rfl) (.inl rfl) rfl rfl (lb rfl) fun a S => ?_
  obtain ⟨r38, hx39, h⟩ := bindSome h
  refine sCall (X := Value) (f := 29) (vs := [.slice ad31 r28.1.length cp32, .slice ad3 p1.length cp4]) (val := c_block_Blocks_val r38) (B' := fun _ => []) (D' := c_block_Blocks_D r38) [] [] [fRep (rL (rI .i64)) (.slice ad31 r28.1.length cp32) r28.1, fRep (rL (rL (rI .i64))) (.slice ad3 p1.length cp4) p1] [] [0, 2] S (wN rfl) rfl callee29 rfl (by decide) rfl rfl (fun E1 w1 S1 => c_block_Blocks E1 w1 r28.1 (.slice ad31 r28.1.length cp32) p1 (.slice ad3 p1.length cp4) r38 hx39 S1) rfl (lb rfl) fun u40 a w S => ?_
  obtain ⟨ad41, cp42, _, rfl, _⟩ := S.mem.know (i := 0) (e := fRep (rL (rI .i64)) (u40) r38.1) rfl
  refine sMove (.tuple #[.slice ad41 r38.1.length cp42, iv r38.2]) S (wN rfl) (.inl rfl) rfl rfl (lb rfl) fun a S => ?_
  refine sExtract (vs := [.slice ad41 r38.1.length cp42, iv r38.2]) (.slice ad41 r38.1.length cp42) S (wN rfl) rfl rfl rfl rfl (lb rfl) fun a S => ?_
  refine sExtract (vs := [.slice ad41 r38.1.length cp42, iv r38.2]) (iv r38.2) S (wN rfl) rfl rfl rfl rfl (lb rfl) fun a S => ?_
  refine sMove (.slice ad41 r38.1.length cp42) S (wN rfl) (.inr rfl) rfl rfl (lb rfl) fun a S => ?_
  refine sMove (iv r38.2) S (wN rfl) (.inr rfl) rfl rfl (lb rfl) fun a S => ?_
  refine leafL (leafT (hK37 _ _ ?_))
  obtain ⟨t44, h, g45⟩ := bindSome h
  refine sCut (fun a w => ∃ o43, o43 = t44 ∧ St [] E [] w0 108 a w [(0, .slice ad1 p0.length cp2), (1, .slice ad3 p1.length cp4), (5, .bool r7), (70, .bool o43)] [] [fRep (rL (rI .i64)) (.slice ad1 p0.length cp2) p0, fRep (rL (rL (rI .i64))) (.slice ad3 p1.length cp4) p1]) ?_ (fun a w hI => ?_)
  rotate_left
  · obtain ⟨o43, rfl, S⟩ := hI
    have h := g45
    clear g45
    try dsimp only at h
    rcases iteSome h with ⟨hc58, h⟩ | ⟨hc58, h⟩
    rotate_left
    · refine sCondF S rfl hc58 ?_
      exact wp_skip (leafT (⟨Option.some.inj h, S.fix [] [0, 1] (by decide) rfl rfl rfl⟩))
    refine sCondT S rfl hc58 ?_
    refine sSeq (fun K59 hK59 => ?_)
    refine sRegion ?_
    refine sMove (.bool false) S (wN rfl) (.inr rfl) rfl rfl (lb rfl) fun a S => ?_
    refine leafL (leafT (hK59 _ _ ?_))
    obtain rfl := Option.some.inj h
    have h := g34
    clear g34
    try dsimp only at h
    obtain rfl := Option.some.inj h
    exact wp_ret (rThen (sRet (.bool false) S (rsl1 rfl (rvT (t := 4) (v := .bool false) S rfl)) ⟨(), rfl, S.mem.sel [] [] (by decide) rfl rfl⟩))
  refine sRegion ?_
  refine sMove (.slice ad3 p1.length cp4) S (wN rfl) (.inl rfl) rfl rfl (lb rfl) fun a S => ?_
  obtain ⟨r46, hx47, h⟩ := bindSome h
  have S1 := S.mem
  refine sCallQ (X := Unit) (f := 38) (vs := [.slice ad3 p1.length cp4]) (val := fun _ => .bool r46) S (wN rfl) rfl callee38 rfl (S1.quiet [3] rfl) (fun E1 w1 S1 => c_raddleref13_Twice E1 w1 p1 (.slice ad3 p1.length cp4) r46 hx47 S1) rfl (lb rfl) fun _ a w S => ?_
  refine sMove (.bool r46) S (wN rfl) (.inl rfl) rfl rfl (lb rfl) fun a S => ?_
  rcases iteSome h with ⟨hc48, h⟩ | ⟨hc48, h⟩
  rotate_left
  · refine sSkip 2 true 52 53 S rfl rfl rfl hc48 rfl (lb rfl) fun a S => ?_
    refine sSkip 2 true 52 54 S rfl rfl rfl hc48 rfl (lb rfl) fun a S => ?_
    refine sPickF (.bool false) S (wN rfl) rfl rfl hc48 rfl rfl (lb rfl) fun a S => ?_
    refine sMove (.bool false) S (wN rfl) (.inl rfl) rfl rfl (lb rfl) fun a S => ?_
    refine sMove (.slice ad3 p1.length cp4) S (wG 6 false 56 rfl rfl rfl rfl) (.inl rfl) rfl rfl (lb rfl) fun a S => ?_
    have S1 := S.mem
    refine sCallQ (X := Unit) (f := 38) (vs := [.slice ad3 p1.length cp4]) (val := fun _ => .bool r46) S (wG 6 false 56 rfl rfl rfl rfl) rfl callee38 rfl (S1.quiet [3] rfl) (fun E1 w1 S1 => c_raddleref13_Twice E1 w1 p1 (.slice ad3 p1.length cp4) r46 hx47 S1) rfl (lb rfl) fun _ a w S => ?_
    refine sNot (b := r46) S (wG 6 false 56 rfl rfl rfl rfl) rfl rfl rfl (lb rfl) fun a S => ?_
    refine sMove (.bool (!r46)) S (wG 6 false 56 rfl rfl rfl rfl) (.inl rfl) rfl rfl (lb rfl) fun a S => ?_
    rcases iteSome h with ⟨hc54, h⟩ | ⟨hc54, h⟩
    rotate_left
    · refine sSkip 10 true 60 61 S rfl rfl rfl hc54 rfl (lb rfl) fun a S => ?_
      refine sSkip 10 true 60 62 S rfl rfl rfl hc54 rfl (lb rfl) fun a S => ?_
      refine sSkip 10 true 60 63 S rfl rfl rfl hc54 rfl (lb rfl) fun a S => ?_
      refine sSkipU 13 false 63 64 S rfl rfl rfl rfl (lb rfl) fun a S => ?_
      refine sSkipU 13 false 63 65 S rfl rfl rfl rfl (lb rfl) fun a S => ?_
      refine sSkipU 13 false 63 66 S rfl rfl rfl rfl (lb rfl) fun a S => ?_
      refine sSkipU 13 false 63 67 S rfl rfl rfl rfl (lb rfl) fun a S => ?_
      refine sSkip 10 true 60 68 S rfl rfl rfl hc54 rfl (lb rfl) fun a S => ?_
      refine sPickF (.bool false) S (wG 6 false 56 rfl rfl rfl rfl) rfl rfl hc54 rfl rfl (lb rfl) fun a S => ?_
      refine sPickF (.bool false) S (wN rfl) rfl rfl rfl rfl rfl (lb rfl) fun a S => ?_
      exact leafL (leafT (⟨false, Option.some.inj h, S.fix [] [2, 3] (by decide) rfl rfl rfl⟩))
    refine sMove (iv r38.2) S (wG 10 true 60 rfl rfl rfl hc54) (.inl rfl) rfl rfl (lb rfl) fun a S => ?_
    refine sBin (.bool (r38.2 != 0)) S (wG 10 true 60 rfl rfl rfl hc54) rfl rfl rfl (bNe _ _ _ _ .i64 r38.2 0) rfl (lb rfl) fun a S => ?_
    refine sMove (.bool (r38.2 != 0)) S (wG 10 true 60 rfl rfl rfl hc54) (.inl rfl) rfl rfl (lb rfl) fun a S => ?_
    rcases iteSome h with ⟨hc55, h⟩ | ⟨hc55, h⟩
    · refine sSkip 13 false 63 64 S rfl rfl rfl hc55 rfl (lb rfl) fun a S => ?_
      refine sSkip 13 false 63 65 S rfl rfl rfl hc55 rfl (lb rfl) fun a S => ?_
      refine sSkip 13 false 63 66 S rfl rfl rfl hc55 rfl (lb rfl) fun a S => ?_
      refine sSkip 13 false 63 67 S rfl rfl rfl hc55 rfl (lb rfl) fun a S => ?_
      refine sPickT (.bool true) S (wG 10 true 60 rfl rfl rfl hc54) rfl rfl hc55 rfl rfl (lb rfl) fun a S => ?_
      refine sPickT (.bool true) S (wG 6 false 56 rfl rfl rfl rfl) rfl rfl hc54 rfl rfl (lb rfl) fun a S => ?_
      refine sPickF (.bool true) S (wN rfl) rfl rfl rfl rfl rfl (lb rfl) fun a S => ?_
      exact leafL (leafT (⟨true, Option.some.inj h, S.fix [] [2, 3] (by decide) rfl rfl rfl⟩))
    refine sMove (.slice ad41 r38.1.length cp42) S (wG 13 false 63 rfl rfl rfl hc55) (.inl rfl) rfl rfl (lb rfl) fun a S => ?_
    refine sMove (.slice ad1 p0.length cp2) S (wG 13 false 63 rfl rfl rfl hc55) (.inl rfl) rfl rfl (lb rfl) fun a S => ?_
    obtain ⟨r56, hx57, h⟩ := bindSome h
    have S1 := S.mem
    refine sCallQ (X := Unit) (f := 24) (vs := [.slice ad41 r38.1.length cp42, .slice ad1 p0.length cp2]) (val := fun _ => .bool r56) S (wG 13 false 63 rfl rfl rfl hc55) rfl callee24 rfl (S1.quiet [0, 2] rfl) (fun E1 w1 S1 => c_raddleref02_Same E1 w1 r38.1 (.slice ad41 r38.1.length cp42) p0 (.slice ad1 p0.length cp2) r56 hx57 S1) rfl (lb rfl) fun _ a w S => ?_
    refine sNot (b := r56) S (wG 13 false 63 rfl rfl rfl hc55) rfl rfl rfl (lb rfl) fun a S => ?_
    refine sPickF (.bool (!r56)) S (wG 10 true 60 rfl rfl rfl hc54) rfl rfl hc55 rfl rfl (lb rfl) fun a S => ?_
    refine sPickT (.bool (!r56)) S (wG 6 false 56 rfl rfl rfl rfl) rfl rfl hc54 rfl rfl (lb rfl) fun a S => ?_
    refine sPickF (.bool (!r56)) S (wN rfl) rfl rfl rfl rfl rfl (lb rfl) fun a S => ?_
    exact leafL (leafT (⟨!r56, Option.some.inj h, S.fix [] [2, 3] (by decide) rfl rfl rfl⟩))
  refine sMove (iv r38.2) S (wG 2 true 52 rfl rfl rfl hc48) (.inl rfl) rfl rfl (lb rfl) fun a S => ?_
  refine sBin (.bool (r38.2 != 14)) S (wG 2 true 52 rfl rfl rfl hc48) rfl rfl rfl (bNe _ _ _ _ .i64 r38.2 14) rfl (lb rfl) fun a S => ?_
  refine sPickT (.bool (r38.2 != 14)) S (wN rfl) rfl rfl hc48 rfl rfl (lb rfl) fun a S => ?_
  refine sMove (.bool (r38.2 != 14)) S (wN rfl) (.inl rfl) rfl rfl (lb rfl) fun a S => ?_
  rcases iteSome h with ⟨hc49, h⟩ | ⟨hc49, h⟩
  · refine sSkip 6 false 56 57 S rfl rfl rfl hc49 rfl (lb rfl) fun a S => ?_
    refine sSkip 6 false 56 58 S rfl rfl rfl hc49 rfl (lb rfl) fun a S => ?_
    refine sSkip 6 false 56 59 S rfl rfl rfl hc49 rfl (lb rfl) fun a S => ?_
    refine sSkip 6 false 56 60 S rfl rfl rfl hc49 rfl (lb rfl) fun a S => ?_
    refine sSkipU 10 true 60 61 S rfl rfl rfl rfl (lb rfl) fun a S => ?_
    refine sSkipU 10 true 60 62 S rfl rfl rfl rfl (lb rfl) fun a S => ?_
    refine sSkipU 10 true 60 63 S rfl rfl rfl rfl (lb rfl) fun a S => ?_
    refine sSkipU 13 false 63 64 S rfl rfl rfl rfl (lb rfl) fun a S => ?_
    refine sSkipU 13 false 63 65 S rfl rfl rfl rfl (lb rfl) fun a S => ?_
    refine sSkipU 13 false 63 66 S rfl rfl rfl rfl (lb rfl) fun a S => ?_
    refine sSkipU 13 false 63 67 S rfl rfl rfl rfl (lb rfl) fun a S => ?_
    refine sSkipU 10 true 60 68 S rfl rfl rfl rfl (lb rfl) fun a S => ?_
    refine sSkip 6 false 56 69 S rfl rfl rfl hc49 rfl (lb rfl) fun a S => ?_
    refine sPickT (.bool true) S (wN rfl) rfl rfl hc49 rfl rfl (lb rfl) fun a S => ?_
    exact leafL (leafT (⟨true, Option.some.inj h, S.fix [] [2, 3] (by decide) rfl rfl rfl⟩))
  refine sMove (.slice ad3 p1.length cp4) S (wG 6 false 56 rfl rfl rfl hc49) (.inl rfl) rfl rfl (lb rfl) fun a S => ?_
  have S1 := S.mem
  refine sCallQ (X := Unit) (f := 38) (vs := [.slice ad3 p1.length cp4]) (val := fun _ => .bool r46) S (wG 6 false 56 rfl rfl rfl hc49) rfl callee38 rfl (S1.quiet [3] rfl) (fun E1 w1 S1 => c_raddleref13_Twice E1 w1 p1 (.slice ad3 p1.length cp4) r46 hx47 S1) rfl (lb rfl) fun _ a w S => ?_
  refine sNot (b := r46) S (wG 6 false 56 rfl rfl rfl hc49) rfl rfl rfl (lb rfl) fun a S => ?_
  refine sMove (.bool (!r46)) S (wG 6 false 56 rfl rfl rfl hc49) (.inl rfl) rfl rfl (lb rfl) fun a S => ?_
  rcases iteSome h with ⟨hc50, h⟩ | ⟨hc50, h⟩
  rotate_left
  · refine sSkip 10 true 60 61 S rfl rfl rfl hc50 rfl (lb rfl) fun a S => ?_
    refine sSkip 10 true 60 62 S rfl rfl rfl hc50 rfl (lb rfl) fun a S => ?_
    refine sSkip 10 true 60 63 S rfl rfl rfl hc50 rfl (lb rfl) fun a S => ?_
    refine sSkipU 13 false 63 64 S rfl rfl rfl rfl (lb rfl) fun a S => ?_
    refine sSkipU 13 false 63 65 S rfl rfl rfl rfl (lb rfl) fun a S => ?_
    refine sSkipU 13 false 63 66 S rfl rfl rfl rfl (lb rfl) fun a S => ?_
    refine sSkipU 13 false 63 67 S rfl rfl rfl rfl (lb rfl) fun a S => ?_
    refine sSkip 10 true 60 68 S rfl rfl rfl hc50 rfl (lb rfl) fun a S => ?_
    refine sPickF (.bool false) S (wG 6 false 56 rfl rfl rfl hc49) rfl rfl hc50 rfl rfl (lb rfl) fun a S => ?_
    refine sPickF (.bool false) S (wN rfl) rfl rfl hc49 rfl rfl (lb rfl) fun a S => ?_
    exact leafL (leafT (⟨false, Option.some.inj h, S.fix [] [2, 3] (by decide) rfl rfl rfl⟩))
  refine sMove (iv r38.2) S (wG 10 true 60 rfl rfl rfl hc50) (.inl rfl) rfl rfl (lb rfl) fun a S => ?_
  refine sBin (.bool (r38.2 != 0)) S (wG 10 true 60 rfl rfl rfl hc50) rfl rfl rfl (bNe _ _ _ _ .i64 r38.2 0) rfl (lb rfl) fun a S => ?_
  refine sMove (.bool (r38.2 != 0)) S (wG 10 true 60 rfl rfl rfl hc50) (.inl rfl) rfl rfl (lb rfl) fun a S => ?_
  rcases iteSome h with ⟨hc51, h⟩ | ⟨hc51, h⟩
  · refine sSkip 13 false 63 64 S rfl rfl rfl hc51 rfl (lb rfl) fun a S => ?_
    refine sSkip 13 false 63 65 S rfl rfl rfl hc51 rfl (lb rfl) fun a S => ?_
    refine sSkip 13 false 63 66 S rfl rfl rfl hc51 rfl (lb rfl) fun a S => ?_
    refine sSkip 13 false 63 67 S rfl rfl rfl hc51 rfl (lb rfl) fun a S => ?_
    refine sPickT (.bool true) S (wG 10 true 60 rfl rfl rfl hc50) rfl rfl hc51 rfl rfl (lb rfl) fun a S => ?_
    refine sPickT (.bool true) S (wG 6 false 56 rfl rfl rfl hc49) rfl rfl hc50 rfl rfl (lb rfl) fun a S => ?_
    refine sPickF (.bool true) S (wN rfl) rfl rfl hc49 rfl rfl (lb rfl) fun a S => ?_
    exact leafL (leafT (⟨true, Option.some.inj h, S.fix [] [2, 3] (by decide) rfl rfl rfl⟩))
  refine sMove (.slice ad41 r38.1.length cp42) S (wG 13 false 63 rfl rfl rfl hc51) (.inl rfl) rfl rfl (lb rfl) fun a S => ?_
  refine sMove (.slice ad1 p0.length cp2) S (wG 13 false 63 rfl rfl rfl hc51) (.inl rfl) rfl rfl (lb rfl) fun a S => ?_
  obtain ⟨r52, hx53, h⟩ := bindSome h
  have S1 := S.mem
  refine sCallQ (X := Unit) (f := 24) (vs := [.slice ad41 r38.1.length cp42, .slice ad1 p0.length cp2]) (val := fun _ => .bool r52) S (wG 13 false 63 rfl rfl rfl hc51) rfl callee24 rfl (S1.quiet [0, 2] rfl) (fun E1 w1 S1 => c_raddleref02_Same E1 w1 r38.1 (.slice ad41 r38.1.length cp42) p0 (.slice ad1 p0.length cp2) r52 hx53 S1) rfl (lb rfl) fun _ a w S => ?_
  refine sNot (b := r52) S (wG 13 false 63 rfl rfl rfl hc51) rfl rfl rfl (lb rfl) fun a S => ?_
  refine sPickF (.bool (!r52)) S (wG 10 true 60 rfl rfl rfl hc50) rfl rfl hc51 rfl rfl (lb rfl) fun a S => ?_
  refine sPickT (.bool (!r52)) S (wG 6 false 56 rfl rfl rfl hc49) rfl rfl hc50 rfl rfl (lb rfl) fun a S => ?_
  refine sPickF (.bool (!r52)) S (wN rfl) rfl rfl hc49 rfl rfl (lb rfl) fun a S => ?_
  exact leafL (leafT (⟨!r52, Option.some.inj h, S.fix [] [2, 3] (by decide) rfl rfl rfl⟩))

end Go.Proofs.Ythfifeabomdlpaa
namespace Go.Proofs.Ythfifeabomdlpaa
open Go.RowKit
set_option linter.unusedVariables false

theorem lerr_of {l : List Int} (h1 : l.length ≤ 400) (h2 : ∀ y, y ∈ l → 0 ≤ y ∧ y < 400) : lerr l = 0 := by
  unfold lerr
  rw [if_neg (by omega), if_pos (List.all_eq_true.2 fun y hy => decide_eq_true (h2 y hy))]
theorem sp_err {us : List (List Int)} (h : sperr us = 0) : eL us = 0 := by
  unfold sperr at h
  by_cases h0 : us.length = 0 ∨ 400 < us.length
  · rw [if_pos h0] at h; cases h
  rw [if_neg h0] at h
  by_cases h1 : eL us = 0
  · exact h1
  · rw [if_neg h1] at h; exact absurd h h1
theorem tw_ne {us : List (List Int)} (h : ¬ twS us = true) {i k : Nat} (hi : i < us.length) (hk : k < i) : ¬ us.getD i [] = us.getD k [] := by
  have h1 : (List.range us.length).all (twR us) = true := by
    unfold twS at h
    cases hc : (List.range us.length).all (twR us) with
    | true => rfl
    | false => rw [hc] at h; exact absurd rfl h
  have h2 := List.all_eq_true.1 h1 i (List.mem_range.2 hi)
  unfold twR at h2
  have h3 := List.all_eq_true.1 h2 k (List.mem_range.2 hk)
  intro e
  rw [dT e] at h3
  cases h3
theorem getD_el {us : List (List Int)} {i : Nat} (h : i < us.length) : us[i]? = some (us.getD i []) := by
  rw [List.getD_eq_getElem?_getD, List.getElem?_eq_getElem h, Option.getD_some]
theorem fi_unit {us : List (List Int)} (h : ¬ twS us = true) {j : Nat} (hj : j < us.length) : us.findIdx (fun u => decide (u = us.getD j [])) = j := by
  have e1 : us[j] = us.getD j [] := by rw [List.getD_eq_getElem?_getD, List.getElem?_eq_getElem hj, Option.getD_some]
  have hl : us.findIdx (fun u => decide (u = us.getD j [])) < us.length := List.findIdx_lt_length.2 ⟨us[j], List.getElem_mem _, decide_eq_true e1⟩
  have hp : us[us.findIdx (fun u => decide (u = us.getD j []))]? = some (us.getD j []) := by
    have h3 : decide (us[us.findIdx (fun u => decide (u = us.getD j []))] = us.getD j []) = true := List.findIdx_getElem (p := fun u => decide (u = us.getD j []))
    rw [List.getElem?_eq_getElem hl, of_decide_eq_true h3]
  generalize us.findIdx (fun u => decide (u = us.getD j [])) = i at *
  rw [getD_el hl] at hp
  have hp := Option.some.inj hp
  rcases Nat.lt_trichotomy i j with c | c | c
  · exact absurd hp.symm (tw_ne h hj c)
  · exact c
  · exact absurd hp (tw_ne h hl c)
theorem chk_gl {f : Nat → Nat → Int} {n M k : Nat} {u : List Int} (hu : u.length = n) (hk : k < M) (hf : ∀ x, x < n → f x k = u.getD x 0) : chk (gl f n M) n k = u := by
  have hlen := gl_len f n M
  have e4 : k * n + n ≤ n * M := by
    have := Nat.mul_le_mul_right n (show k + 1 ≤ M by omega)
    rw [Nat.add_mul, Nat.one_mul, Nat.mul_comm M n] at this
    exact this
  unfold chk
  apply List.ext_getElem?
  intro t
  by_cases ht : t < n
  · rw [List.getElem?_drop, List.getElem?_take, if_pos (by omega)]
    unfold gl glf
    rw [List.getElem?_map, List.getElem?_range (by omega), Option.map_some, pl_mod ht, pl_div ht, hf t ht]
    rw [List.getD_eq_getElem?_getD, List.getElem?_eq_getElem (by omega), Option.getD_some]
  · rw [List.getElem?_eq_none (by simp; omega), List.getElem?_eq_none (by omega)]
/-- what is spelled reads back -/
theorem reads1 {l : List Int} {us : List (List Int)} (h0 : lerr l = 0) (h1 : sperr us = 0) (he : (spellS l us).2 = 0) : blocksS (spellS l us).1 us = if twS us = true then ([], 14) else (l, 0) := by
  obtain ⟨u0, u1, n0, n1, hn⟩ := sp_ok h1
  unfold spellS at he ⊢
  rw [if_pos h0, if_pos h1] at he ⊢
  by_cases h2 : inRg l us.length = true
  case neg => rw [if_neg h2] at he; cases he
  rw [if_pos h2] at he ⊢
  generalize hN : (us.getD 0 []).length = n at *
  by_cases h3 : 400 < l.length * n
  · rw [if_pos h3] at he; cases he
  rw [if_neg h3]
  have hcm : n * l.length = l.length * n := Nat.mul_comm _ _
  have hchk : ∀ k, k < l.length → chk (gl (fun x y => (su us l y).getD x 0) n l.length) n k = su us l k := by
    intro k hk
    have hl : k < l.length := hk
    exact chk_gl (hn _ (su_ok h2 hl).2) hk fun x _ => rfl
  have hlen := gl_len (fun x y => (su us l y).getD x 0) n l.length
  have hs : lerr (gl (fun x y => (su us l y).getD x 0) n l.length) = 0 := by
    refine lerr_of (by rw [hlen]; omega) fun y hy => ?_
    unfold gl glf at hy
    obtain ⟨t, ht, rfl⟩ := List.mem_map.1 hy
    have ht := List.mem_range.1 ht
    have hm := (su_ok h2 (show t / n < l.length from pl_divlt ht)).2
    have hx : t % n < (su us l (t / n)).length := by rw [hn _ hm]; exact pl_modlt n0
    have := lerr_zero (eL_all (sp_err h1) _ hm)
    refine this.2 _ ?_
    dsimp only
    rw [List.getD_eq_getElem?_getD, List.getElem?_eq_getElem hx, Option.getD_some]
    exact List.getElem_mem _
  unfold blocksS
  rw [hN]
  dsimp only
  rw [if_pos hs, if_pos h1]
  by_cases h4 : twS us = true
  · rw [if_pos h4, if_pos h4]
  rw [if_neg h4, if_neg h4, hlen, Nat.mul_mod_right, if_pos rfl, Nat.mul_div_cancel_left _ n0]
  have hI : ∀ k, k < l.length → bkI (gl (fun x y => (su us l y).getD x 0) n l.length) us n k = (l.getD k 0).toNat ∧ (l.getD k 0).toNat < us.length ∧ 0 ≤ l.getD k 0 := by
    intro k hk
    have hr : 0 ≤ l[k] ∧ l[k] < (us.length : Int) := of_decide_eq_true (List.all_eq_true.1 h2 _ (List.getElem_mem hk))
    have e : l.getD k 0 = l[k] := by rw [List.getD_eq_getElem?_getD, List.getElem?_eq_getElem hk, Option.getD_some]
    unfold bkI
    rw [hchk k hk]
    unfold su
    rw [fi_unit h4 (by rw [e]; omega)]
    refine ⟨rfl, ?_, ?_⟩
    · rw [e]; omega
    · rw [e]; exact hr.1
  have ha : (List.range l.length).all (bkG (gl (fun x y => (su us l y).getD x 0) n l.length) us n) = true := by
    refine List.all_eq_true.2 fun k hk => ?_
    obtain ⟨i1, i2, _⟩ := hI k (List.mem_range.1 hk)
    unfold bkG
    exact decide_eq_true (by rw [i1]; exact i2)
  rw [if_pos ha]
  congr 1
  unfold bkL
  refine Eq.trans (map_cong fun k hk => ?_) (map_getD l 0 rfl)
  obtain ⟨i1, _, i3⟩ := hI k hk
  rw [i1]
  omega
/-- what is read spells the list -/
theorem reads2 {l : List Int} {us : List (List Int)} (h0 : lerr l = 0) (h1 : sperr us = 0) (he : (blocksS l us).2 = 0) : spellS (blocksS l us).1 us = (l, 0) := by
  obtain ⟨u0, u1, n0, n1, hn⟩ := sp_ok h1
  have hl := (lerr_zero h0).1
  unfold blocksS at he ⊢
  rw [if_pos h0, if_pos h1] at he ⊢
  by_cases h2 : twS us = true
  · rw [if_pos h2] at he; cases he
  rw [if_neg h2] at he ⊢
  generalize hN : (us.getD 0 []).length = n at *
  by_cases h3 : l.length % n = 0
  case neg => rw [if_neg h3] at he; cases he
  rw [if_pos h3] at he ⊢
  have hd := len_dvd h3
  generalize l.length / n = m at *
  by_cases h4 : (List.range m).all (bkG l us n) = true
  case neg => rw [if_neg h4] at he; cases he
  rw [if_pos h4]
  have hlt : ∀ k, k < m → bkI l us n k < us.length := fun k hk => of_decide_eq_true (List.all_eq_true.1 h4 k (List.mem_range.2 hk))
  have hbl := bkL_len l us n m
  have hm1 : m ≤ m * n := Nat.le_mul_of_pos_right m n0
  have hmem : ∀ y, y ∈ bkL l us n m → 0 ≤ y ∧ y < (us.length : Int) := by
    intro y hy
    unfold bkL at hy
    obtain ⟨t, ht, rfl⟩ := List.mem_map.1 hy
    have := hlt t (List.mem_range.1 ht)
    omega
  have hb0 : lerr (bkL l us n m) = 0 := lerr_of (by omega) fun y hy => by have := hmem y hy; omega
  have hr : inRg (bkL l us n m) us.length = true := List.all_eq_true.2 fun y hy => decide_eq_true (hmem y hy)
  unfold spellS
  rw [hN]
  dsimp only
  rw [if_pos hb0, if_pos h1, if_pos hr, hbl, if_neg (by omega)]
  refine congrArg (fun z => (z, (0 : Int))) (gl_of (0 : Int) (by rw [hd, Nat.mul_comm]) fun x y hx hy => ?_).symm
  have hy2 := hlt y hy
  have hg : (bkL l us n m).getD y 0 = ((bkI l us n y : Nat) : Int) := by
    unfold bkL
    rw [List.getD_eq_getElem?_getD, List.getElem?_map, List.getElem?_range hy, Option.map_some, Option.getD_some]
  have hsu : su us (bkL l us n m) y = chk l n y := by
    unfold su
    rw [hg, Int.toNat_natCast]
    have h3 : decide (us[bkI l us n y] = chk l n y) = true := List.findIdx_getElem (p := fun u => decide (u = chk l n y))
    rw [List.getD_eq_getElem?_getD, List.getElem?_eq_getElem hy2, Option.getD_some, of_decide_eq_true h3]
  rw [hsu]
  unfold chk
  have hlt2 := pl_lt hx hy
  rw [List.getD_eq_getElem?_getD, List.getD_eq_getElem?_getD, List.getElem?_drop, List.getElem?_take, if_pos (by omega)]
theorem reads_err {l : List Int} {us : List (List Int)} (h0 : lerr l = 0) (h1 : sperr us = 0) (he : ¬ (blocksS l us).2 = 0) : (blocksS l us).2 = 14 ∨ (blocksS l us).2 = 26 ∨ (blocksS l us).2 = 6 := by
  unfold blocksS at he ⊢
  rw [if_pos h0, if_pos h1] at he ⊢
  split
  · exact .inl rfl
  rename_i h2
  rw [if_neg h2] at he
  split
  · rename_i h3
    rw [if_pos h3] at he
    split
    · rename_i h4
      rw [if_pos h4] at he
      exact absurd rfl he
    · exact .inr (.inr rfl)
  · exact .inr (.inl rfl)
theorem law_BlockReads' (ha : F_raddlelaw13_alive = some true) (l : List Int) (us : List (List Int)) (wl : Wl (InK .i64) l) (wu : Wl (Wl (InK .i64)) us) : F_raddlelaw13_BlockReads l us = some true := by
  unfold F_raddlelaw13_BlockReads
  obtain ⟨b, hb⟩ := rgreatL us wu.1
  rw [ha, rgreat2_eq, hb]
  by_cases c1 : 60 < l.length ∧ l.length ≤ 400 ∨ 420 < l.length
  · simp only [dT c1, if_true, Option.bind_some]
  cases b with
  | true => simp only [dF c1, Bool.false_eq_true, if_false, if_true, Option.bind_some]
  | false =>
    by_cases h1 : sperr us = 0
    case neg => simp only [dF c1, Bool.false_eq_true, if_false, if_true, Option.bind_some, rspelled_eq, nT h1]
    by_cases h0 : lerr l = 0
    case neg => simp only [dF c1, Bool.false_eq_true, if_false, if_true, Option.bind_some, rspelled_eq, nF h1, rcheck2_eq, nT h0]
    obtain ⟨u0, u1, n0, n1, hn⟩ := sp_ok h1
    have hl := (lerr_zero h0).1
    have htw := rtwice_eq us (by omega) fun u hu => by rw [hn u hu]; omega
    have hll := rsame_il l l (by omega)
    rw [dT (show l = l from rfl)] at hll
    simp only [dF c1, Bool.false_eq_true, if_false, Option.bind_some, rspelled_eq, nF h1, rcheck2_eq, nF h0, Bool.not_true, spell_eq]
    refine Option.bind_eq_some_iff.2 ⟨Sum.inl (), ?_, ?_⟩
    · by_cases he : (spellS l us).2 = 0
      · have hr := reads1 h0 h1 he
        simp only [bT he, if_true, blocks_eq, hr, htw, Option.bind_some]
        by_cases h4 : twS us = true
        · simp only [h4, if_true, bne_self_eq_false, Bool.false_eq_true, if_false, Bool.not_true, Option.bind_some]
        · simp only [h4, if_neg h4, if_true, bne_self_eq_false, Bool.false_eq_true, if_false, Bool.not_false, Option.bind_some, hll, Bool.not_true]
      · simp only [bF he, Bool.false_eq_true, if_false]
    simp only [blocks_eq, Option.bind_some]
    by_cases he : (blocksS l us).2 = 0
    · have hr := reads2 h0 h1 he
      simp only [nF he, Bool.false_eq_true, if_false, hr, Option.bind_some, beq_self_eq_true, if_true, hll]
    · simp only [nT he, if_true]
      rcases reads_err h0 h1 he with e | e | e
      · rw [e]; rfl
      · rw [e]; rfl
      · rw [e]; rfl

end Go.Proofs.Ythfifeabomdlpaa
namespace Go.Proofs.Ythfifeabomdlpaa
open Go.RowKit
set_option linter.unusedVariables false

theorem law_BlockReads (l : List Int) (us : List (List Int)) (wl : Wl (InK .i64) l) (wu : Wl (Wl (InK .i64)) us) : F_raddlelaw13_BlockReads l us = some true := law_BlockReads' k_raddlelaw13_alive l us wl wu

end Go.Proofs.Ythfifeabomdlpaa
namespace Go.Proofs.Ythfifeabomdlpaa
open Go.RowKit
set_option linter.unusedVariables false

namespace frameBlockReads
open Go.ChangeShapes Go.WideShapes Go.ChangeAt Go.Joins
theorem own : ownKnob Try.prog.godebug = none := by kernel_rfl
theorem laidOut : laidOutB Try.prog = true := by kernel_rfl
set_option maxRecDepth 100000 in
theorem lifted (os : Os) (started : os.Started) (H : Type) (enc : TypeId × Value → H) :
    ReturnsInHanded {} Try.checked os 8 .any (Rows.blockReadsSpec.pre6 enc Try.prog Try.f8 Rows.blockReadsRow.domain false) (Rows.blockReadsSpec.post enc Try.prog Try.f8 false true false false) := by
  refine returnsInHanded_of_change (C := Try.checked) own started (by kernel_rfl) Try.func8
    (ChangeSpec.witness6 (enc := enc) (C := Try.checked) false ⟨#[], #[.slice none 0 0, .slice none 0 0], []⟩ 8 (by kernel_rfl) (by kernel_rfl) (by kernel_rfl) (by kernel_rfl)) ?_
  intro W base args ds gs before hval0 hW hcnd _
  have hval : ∀ (j : Nat) t v, Try.f8.params[j]? = some t → args[j]? = some v → Value.okWide Try.prog W .any base t v := hval0
  have hW' := hW
  obtain ⟨p, q, hA0, hV, rfl, hfz, hnd⟩ := hW
  have hA : DataW.TrodAll enc Try.prog W 0 (fun _ => true) true Try.f8.params.toList args.toList ds p := hA0
  rw [Try.params8] at hA hval
  obtain ⟨v0, vs0, d0, ds0, p0, q0, hargs, rfl, rfl, h0, r0⟩ := trodAll_cons hA
  obtain ⟨v1, vs1, d1, ds1, p1, q1, rfl, rfl, rfl, h1, r1⟩ := trodAll_cons r0
  obtain ⟨rfl, rfl, rfl⟩ := trodAll_nil r1
  obtain rfl : args = #[v0, v1] := by cases args; simp_all
  obtain ⟨rfl, rfl⟩ := trodVars_none hV
  have k0 := h0
  have lt0 : ∀ x ∈ p0, x.block < W.heap.size := by obtain ⟨m, hm⟩ := k0; exact DataW.trod_lt m _ _ _ hm
  have k1 := h1
  have lt1 : ∀ x ∈ p1, x.block < W.heap.size := by obtain ⟨m, hm⟩ := k1; exact DataW.trod_lt m _ _ _ hm
  obtain ⟨x0, rep0, wf0⟩ := top_slice Try.underlying35 (op_slice (r := (rI .i64)) Try.underlying35 (by kernel_rfl) (op_int .i64 Try.underlying3)) (hval 0 _ v0 rfl rfl) h0
  obtain ⟨x1, rep1, wf1⟩ := top_slice Try.underlying46 (op_slice (r := (rL (rI .i64))) Try.underlying46 (by kernel_rfl) (op_slice (r := (rI .i64)) Try.underlying35 (by kernel_rfl) (op_int .i64 Try.underlying3))) (hval 1 _ v1 rfl rfl) h1
  clear hA0 hval0
  refine (c_raddlelaw13_BlockReads (fun _ => False) W x0 v0 x1 v1 true (law_BlockReads x0 x1 wf0 wf1) (St0.start (by intro d hd; simp only [List.mem_cons, List.not_mem_nil, or_false] at hd; rcases hd with rfl | rfl; exact rep0; exact rep1))).mono fun e W' hr => ?_
  obtain ⟨_, he, hS⟩ := hr
  have bel := hS.chg.below
  subst he
  exact ⟨_, rfl, _, _, _, [], _, [], hW', trodAll_mk1 (shut_bool Try.underlying4 _), (trodAll_cons_mk (Below.trod laidOut (by kernel_rfl) (of_decide_eq_true (by kernel_rfl)) k0 bel lt0) (trodAll_cons_mk (Below.trod laidOut (by kernel_rfl) (of_decide_eq_true (by kernel_rfl)) k1 bel lt1) trodAll_mk0)), rfl, bel.frame _, fun h => by cases h⟩
theorem over : Rows.blockReadsRow.holds Try.pinned (OpenSpec.ofChange Rows.blockReadsSpec) :=
  OpenClaim.holds_of_wide 8 Try.f8 rfl rfl rfl rfl rfl rfl rfl ⟨rfl, rfl, rfl, rfl, rfl⟩ rfl rfl rfl rfl rfl (by kernel_rfl) Try.func8 (by kernel_rfl)
    (of_decide_eq_true (by kernel_rfl)) (by unfold Func.isWrapper; first | (rw [if_pos (by decide +kernel)]; kernel_rfl) | (rw [if_neg (by decide +kernel)]; exact ⟨rfl, rfl⟩))
    (fun os started H enc _ => lifted os started H enc)
end frameBlockReads
theorem blockReads_holds : Rows.BlockReadsSaid := frameBlockReads.over

end Go.Proofs.Ythfifeabomdlpaa
