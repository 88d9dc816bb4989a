/- Several texts in one: G29 G38 G30 G5 PlIx PlSp PlSb LBS FrBlockSpells -/
import Derived.WalkKit
import Derived.Maps.AppendAt
import Derived.Deep.AppendLies
import Derived.KernelRfl
import Derived.Laws.OwnMore
import Derived.Great.BuildSlice
import Derived.Orders
import Derived.Laws.StructEq
import Derived.ChangeKeysEq
import Derived.Defers
import Derived.Laws.BytesString
import Derived.RangeFuncNested
import Derived.RangeFuncBound
import Derived.RangeFuncCalls
import Derived.RangeFuncLeaves
import Derived.OrdersIn
import Derived.LoopNIn
import Derived.ArgAppend
import Derived.Test.YthfifeabomdlpaaProg
import Derived.ProofKit
import Derived.OpenShut
import Derived.ChangeOld
import Derived.Deep.Slices
import Derived.Lib.SmallJoins
import Derived.JoinedOf
import Derived.JoinedAt
import Derived.Below
import Derived.Test.YthfifeabomdlpaaRows
import Derived.Test.YthfifeabomdlpaaMBlockSpells2
namespace Go.Proofs.Ythfifeabomdlpaa
open Go.RowKit
set_option linter.unusedVariables false

noncomputable def block_Blocks_l1 (y44 : List (List Int)) (x36 : (List Int)) : Int → Option (Int ⊕ (((List Int) × Int) ⊕ Unit)) := fun s0 => match s0 with
  | s48 =>
    if decide (s48 < (y44.length : Int)) then
      Option.bind (idxO y44 s48) fun x57 =>
      Option.bind (F_slices_Equal___int_int_ x36 x57) fun r65 =>
      if r65 then
        some (.inr (.inl (([] : (List Int)), 14)))
      else
        some (.inl (w64 (s48 + 1)))
    else
      some (.inr (.inr ()))
noncomputable def block_Blocks_l2 (p1 : (List (List Int))) : Int → Option (Int ⊕ (((List Int) × Int) ⊕ Unit)) := fun s0 => match s0 with
  | s26 =>
    if decide (s26 < (p1.length : Int)) then
      Option.bind (α := Unit ⊕ ((List Int) × Int)) (
        Option.bind (idxO p1 s26) fun x36 =>
        Option.bind (sliceO p1 0 s26) fun y44 =>
        Option.bind (whileO (block_Blocks_l1 y44 x36) 0) fun z0 => match z0 with
          | .inl z =>
            some (.inr z)
          | .inr _ =>
            some (.inl ())) fun z0 => match z0 with
        | .inl _ =>
          some (.inl (w64 (s26 + 1)))
        | .inr z =>
          some (.inr (.inl z))
    else
      some (.inr (.inr ()))
noncomputable def block_Blocks_l4 (p1 : (List (List Int))) : List Int → (List Int) → Option (List Int ⊕ Unit) := fun s0 x0 => match s0, x0 with
  | s91, x94 =>
    Option.bind (F_slices_IndexFunc_____int___int__s1 p1 x94) fun r100 =>
    if decide (r100 < 0) then
      some (.inr ())
    else
      Option.bind (appO s91 ([r100] : List Int)) fun l108 =>
      some (.inl l108)
noncomputable def F_block_Blocks (p0 : (List Int)) (p1 : (List (List Int))) : Option ((List Int) × Int) :=
  Option.bind (F_thread_Check p0) fun r11 =>
  if r11 != 0 then
    some (([] : (List Int)), r11)
  else
    Option.bind (F_block_spelled p1) fun r18 =>
    if r18 != 0 then
      some (([] : (List Int)), r18)
    else
      Option.bind (α := Unit ⊕ ((List Int) × Int)) (
        Option.bind (whileO (block_Blocks_l2 p1) 0) fun z0 => match z0 with
          | .inl z =>
            some (.inr z)
          | .inr _ =>
            some (.inl ())) fun z0 => match z0 with
        | .inl _ =>
          Option.bind (idxO p1 0) fun x70 =>
          Option.bind (remI (p0.length : Int) (x70.length : Int)) fun z79 =>
          if z79 != 0 then
            some (([] : (List Int)), 26)
          else
            Option.bind (F_slices_Chunk___int_int_ p0 (x70.length : Int)) fun r87 =>
            Option.bind (I_slices_Chunk___int_int__1 r87.1 r87.2 _ _ (block_Blocks_l4 p1) ([] : List Int)) fun z0 => match z0 with
              | .inl s91 =>
                some (s91, 0)
              | .inr _ =>
                some (([] : (List Int)), 6)
        | .inr z =>
          some z
def c_block_Blocks_val (r : ((List Int) × Int)) (x : Value) : Value := .tuple #[x, .int .i64 r.2]
def c_block_Blocks_D (r : ((List Int) × Int)) (x : Value) : List Fact := [fRep (rL (rI .i64)) x r.1]
set_option maxHeartbeats 4000000 in
set_option maxRecDepth 100000 in
theorem c_block_Blocks (E : Nat → Prop) (w0 : World) (p0 : (List Int)) (v0 : Value) (p1 : (List (List Int))) (v1 : Value) (r : ((List Int) × Int)) (h : F_block_Blocks p0 p1 = some r) (S : St0 E [] w0 w0 [] [fRep (rL (rI .i64)) (v0) p0, fRep (rL (rL (rI .i64))) (v1) p1]) :
    Calls Try.prog 29 #[v0, v1] w0 (Ret (X := Value) E [] w0 (c_block_Blocks_val r) (fun _ => []) (c_block_Blocks_D r)) := by
  unfold F_block_Blocks at h
  obtain ⟨ad1, cp2, _, rfl, _⟩ := S.know (i := 0) (e := fRep (rL (rI .i64)) (v0) p0) rfl
  obtain ⟨ad3, cp4, _, rfl, _⟩ := S.know (i := 1) (e := fRep (rL (rL (rI .i64))) (v1) p1) rfl
  refine sEnterM (args := [.slice ad1 p0.length cp2, .slice ad3 p1.length cp4]) 69 Try.func29 rfl rfl (by simp) S (fun a S => ?_)
  refine sSeq (fun K5 hK5 => ?_)
  refine sRegion ?_
  refine sBox (v := .slice ad3 p1.length cp4) S (wN rfl) rfl rfl [.slice ad3 p1.length cp4] rfl rfl (lb rfl) fun a b6 w S => ?_
  refine sAlloc (.slice none 0 0) S (wN rfl) rfl rfl [.slice none 0 0] rfl rfl (lb rfl) fun a b7 w S => ?_
  refine sAlloc (iv 0) S (wN rfl) rfl rfl [iv 0] rfl rfl (lb rfl) fun a b8 w S => ?_
  refine leafL (leafT (hK5 _ _ ?_))
  refine sSeq (fun K9 hK9 => ?_)
  refine sSeq (fun K10 hK10 => ?_)
  refine sRegion ?_
  refine sMove (.slice ad1 p0.length cp2) S (wN rfl) (.inl rfl) rfl rfl (lb rfl) fun a S => ?_
  obtain ⟨r11, hx12, h⟩ := bindSome h
  have S1 := S.mem
  refine sCallQ (X := Unit) (f := 57) (vs := [.slice ad1 p0.length cp2]) (val := fun _ => iv r11) S (wN rfl) rfl callee57 rfl (S1.quiet [0] rfl) (fun E1 w1 S1 => c_thread_Check E1 w1 p0 (.slice ad1 p0.length cp2) r11 hx12 S1) rfl (lb rfl) fun _ a w S => ?_
  refine sMove (iv r11) S (wN rfl) (.inr rfl) rfl rfl (lb rfl) fun a S => ?_
  refine leafL (leafT (hK10 _ _ ?_))
  refine sSeq (fun K13 hK13 => ?_)
  refine sRegion ?_
  refine sMove (iv r11) S (wN rfl) (.inl rfl) rfl rfl (lb rfl) fun a S => ?_
  refine sBin (.bool (r11 != 0)) S (wN rfl) rfl rfl rfl (bNe _ _ _ _ .i64 r11 0) rfl (lb rfl) fun a S => ?_
  refine leafL (leafT (hK13 _ _ ?_))
  rcases iteSome h with ⟨hc14, h⟩ | ⟨hc14, h⟩
  · refine sCondT S rfl hc14 ?_
    refine sSeq (fun K15 hK15 => ?_)
    refine sRegion ?_
    refine sMove (iv r11) S (wN rfl) (.inl rfl) rfl rfl (lb rfl) fun a S => ?_
    refine sStore (p := b7) (off := 0) (T := 35) (vs := [.slice none 0 0]) (v := .slice none 0 0) 1 [.slice none 0 0] S (wN rfl) rfl rfl rfl rfl rfl rfl rfl (by simp) rfl fun a w S => ?_
    refine sStore (p := b8) (off := 0) (T := 27) (vs := [iv 0]) (v := iv r11) 1 [iv r11] S (wN rfl) rfl rfl rfl rfl rfl rfl rfl (by simp) rfl fun a w S => ?_
    refine leafL (leafT (hK15 _ _ ?_))
    obtain rfl := Option.some.inj h
    have S := S.learn (fRep (rL (rI .i64)) (.slice none 0 0) ([] : (List Int))) (rL_nil _ _ _)
    exact wp_ret (rThen (sRetM0 (.tuple #[.slice none 0 0, iv r11]) S (rsl2 rfl (rv1 (c := 4) (t := 35) (T := 35) (p := b7) 1 (.slice none 0 0) S rfl rfl rfl) (rv1 (c := 5) (t := 27) (T := 27) (p := b8) 0 (iv r11) S rfl rfl rfl)) ⟨(.slice none 0 0), rfl, S.mem.sel [] [0] (by decide) rfl rfl⟩))
  refine sCondF S rfl hc14 ?_
  refine wp_skip (leafT (hK9 _ _ ?_))
  refine sSeq (fun K16 hK16 => ?_)
  refine sSeq (fun K17 hK17 => ?_)
  refine sRegion ?_
  refine sLoad1 (p := b6) (off := 0) (T := 46) (vs := [.slice ad3 p1.length cp4]) 2 (.slice ad3 p1.length cp4) S (wN rfl) rfl rfl rfl rfl rfl rfl (lb rfl) fun a S => ?_
  obtain ⟨r18, hx19, h⟩ := bindSome h
  have S1 := S.mem
  refine sCallQ (X := Unit) (f := 58) (vs := [.slice ad3 p1.length cp4]) (val := fun _ => iv r18) S (wN rfl) rfl callee58 rfl (S1.quiet [1] rfl) (fun E1 w1 S1 => c_block_spelled E1 w1 p1 (.slice ad3 p1.length cp4) r18 hx19 S1) rfl (lb rfl) fun _ a w S => ?_
  refine sMove (iv r18) S (wN rfl) (.inr rfl) rfl rfl (lb rfl) fun a S => ?_
  refine leafL (leafT (hK17 _ _ ?_))
  refine sSeq (fun K20 hK20 => ?_)
  refine sRegion ?_
  refine sMove (iv r18) S (wN rfl) (.inl rfl) rfl rfl (lb rfl) fun a S => ?_
  refine sBin (.bool (r18 != 0)) S (wN rfl) rfl rfl rfl (bNe _ _ _ _ .i64 r18 0) rfl (lb rfl) fun a S => ?_
  refine leafL (leafT (hK20 _ _ ?_))
  rcases iteSome h with ⟨hc21, h⟩ | ⟨hc21, h⟩
  · refine sCondT S rfl hc21 ?_
    refine sSeq (fun K22 hK22 => ?_)
    refine sRegion ?_
    refine sMove (iv r18) S (wN rfl) (.inl rfl) rfl rfl (lb rfl) fun a S => ?_
    refine sStore (p := b7) (off := 0) (T := 35) (vs := [.slice none 0 0]) (v := .slice none 0 0) 1 [.slice none 0 0] S (wN rfl) rfl rfl rfl rfl rfl rfl rfl (by simp) rfl fun a w S => ?_
    refine sStore (p := b8) (off := 0) (T := 27) (vs := [iv 0]) (v := iv r18) 1 [iv r18] S (wN rfl) rfl rfl rfl rfl rfl rfl rfl (by simp) rfl fun a w S => ?_
    refine leafL (leafT (hK22 _ _ ?_))
    obtain rfl := Option.some.inj h
    have S := S.learn (fRep (rL (rI .i64)) (.slice none 0 0) ([] : (List Int))) (rL_nil _ _ _)
    exact wp_ret (rThen (sRetM0 (.tuple #[.slice none 0 0, iv r18]) S (rsl2 rfl (rv1 (c := 4) (t := 35) (T := 35) (p := b7) 1 (.slice none 0 0) S rfl rfl rfl) (rv1 (c := 5) (t := 27) (T := 27) (p := b8) 0 (iv r18) S rfl rfl rfl)) ⟨(.slice none 0 0), rfl, S.mem.sel [] [0] (by decide) rfl rfl⟩))
  refine sCondF S rfl hc21 ?_
  refine wp_skip (leafT (hK16 _ _ ?_))
  obtain ⟨t23, h, g24⟩ := bindSome h
  refine sCut (fun a w => .inl () = t23 ∧ St [] E [] w0 69 a w [(0, .slice ad1 p0.length cp2), (3, .pointer (some ⟨b6, 0, none⟩)), (4, .pointer (some ⟨b7, 0, none⟩)), (5, .pointer (some ⟨b8, 0, none⟩))] [eBox b6 46 [.slice ad3 p1.length cp4], eBox b7 35 [.slice none 0 0], eBox b8 27 [iv 0]] [fRep (rL (rI .i64)) (.slice ad1 p0.length cp2) p0, fRep (rL (rL (rI .i64))) (.slice ad3 p1.length cp4) p1]) ?_ (fun a w hI => ?_)
  · refine sSeq (fun K25 hK25 => ?_)
    refine sRegion ?_
    refine sLoad1 (p := b6) (off := 0) (T := 46) (vs := [.slice ad3 p1.length cp4]) 2 (.slice ad3 p1.length cp4) S (wN rfl) rfl rfl rfl rfl rfl rfl (lb rfl) fun a S => ?_
    refine sLen (ad := ad3) (m := p1.length) (c := cp4) S (wN rfl) rfl Try.underlying46 rfl rfl (lb rfl) fun a S => ?_
    refine sMove (iv 0) S (wN rfl) (.inl rfl) rfl rfl (lb rfl) fun a S => ?_
    refine leafL (leafT (hK25 _ _ ?_))
    refine wp_block ?_
    obtain ⟨t29, hl, g28⟩ := bindSome h
    refine sLoop hl (fun s0 a w => match s0 with | s26 => St [] E [] w0 69 a w [(0, .slice ad1 p0.length cp2), (3, .pointer (some ⟨b6, 0, none⟩)), (4, .pointer (some ⟨b7, 0, none⟩)), (5, .pointer (some ⟨b8, 0, none⟩)), (26, .slice ad3 p1.length cp4), (27, iv (p1.length : Int)), (28, iv s26)] [eBox b6 46 [.slice ad3 p1.length cp4], eBox b7 35 [.slice none 0 0], eBox b8 27 [iv 0]] [fRep (rL (rI .i64)) (.slice ad1 p0.length cp2) p0, fRep (rL (rL (rI .i64))) (.slice ad3 p1.length cp4) p1]) (S.fix [2, 1, 0] [0, 1] (by decide) rfl rfl rfl) ?_
    clear hl h
    intro s26 a w c0 hI h hu27
    unfold block_Blocks_l2 at h
    dsimp only at h hI
    have S := hI
    refine sSeq (fun K30 hK30 => ?_)
    refine sRegion ?_
    refine sBin (.bool (decide (s26 < (p1.length : Int)))) S (wN rfl) rfl rfl rfl (bLt _ _ _ _ .i64 s26 (p1.length : Int)) rfl (lb rfl) fun a S => ?_
    refine leafL (leafT (hK30 _ _ ?_))
    refine sSeq (fun K31 hK31 => ?_)
    rcases iteSome h with ⟨hc32, h⟩ | ⟨hc32, h⟩
    rotate_left
    · refine sCondF S rfl hc32 ?_
      obtain rfl := Option.some.inj h
      obtain rfl := hu27 _ rfl
      have h := g28
      clear g28
      try dsimp only at h
      exact wp_exit (xThen (xThen (xHit (leafT (⟨Option.some.inj h, S.fix [0, 1, 2] [0, 1] (by decide) rfl rfl rfl⟩)))))
    refine sCondT S rfl hc32 ?_
    refine wp_skip (leafT (hK31 _ _ ?_))
    obtain ⟨t33, h, g34⟩ := bindSome h
    refine sCut (fun a w => .inl () = t33 ∧ St [] E [] w0 69 a w [(0, .slice ad1 p0.length cp2), (3, .pointer (some ⟨b6, 0, none⟩)), (4, .pointer (some ⟨b7, 0, none⟩)), (5, .pointer (some ⟨b8, 0, none⟩)), (26, .slice ad3 p1.length cp4), (27, iv (p1.length : Int)), (28, iv s26)] [eBox b6 46 [.slice ad3 p1.length cp4], eBox b7 35 [.slice none 0 0], eBox b8 27 [iv 0]] [fRep (rL (rI .i64)) (.slice ad1 p0.length cp2) p0, fRep (rL (rL (rI .i64))) (.slice ad3 p1.length cp4) p1]) ?_ (fun a w hI => ?_)
    rotate_left
    · obtain ⟨rfl, S⟩ := hI
      have h := g34
      clear g34
      try dsimp only at h
      refine sRegion ?_
      refine sBin (iv (w64 (s26 + 1))) S (wN rfl) rfl rfl rfl (bAdd _ _ _ _ s26 1) rfl (lb rfl) fun a S => ?_
      refine sMove (iv (w64 (s26 + 1))) S (wN rfl) (.inl rfl) rfl rfl (lb rfl) fun a S => ?_
      exact leafL (leafT (⟨w64 (s26 + 1), (Option.some.inj h).symm, (S.fix [0, 1, 2] [0, 1] (by decide) rfl rfl rfl)⟩))
    refine wp_block ?_
    refine sSeq (fun K35 hK35 => ?_)
    refine sRegion ?_
    refine sMove (iv s26) S (wN rfl) (.inl rfl) rfl rfl (lb rfl) fun a S => ?_
    obtain ⟨x36, hx37, h⟩ := bindSome h
    obtain ⟨q38, hq39, S⟩ := pIdx (P := Try.prog) (r := (rL (rI .i64))) (v := .slice ad3 p1.length cp4) (xs := p1) (j := s26) 46 35 1 S Try.underlying46 rfl rfl hx37
    refine sIdxV (v := .slice ad3 p1.length cp4) (k := .i64) (j := s26) S (wN rfl) rfl rfl rfl hq39 rfl (lb rfl) fun a S => ?_
    obtain ⟨u40, S⟩ := pLoad (r := (rL (rI .i64))) (q := q38) (x := x36) 0 S rfl
    obtain ⟨ad41, cp42, _, rfl, _⟩ := S.mem.know (i := 1) (e := fRep (rL (rI .i64)) (u40) x36) rfl
    refine sLoadV1 (vq := q38) 0 (.slice ad41 x36.length cp42) S (wN rfl) rfl rfl rfl rfl rfl (lb rfl) fun a S => ?_
    refine sMove (iv s26) S (wN rfl) (.inr rfl) rfl rfl (lb rfl) fun a S => ?_
    refine sMove (.slice ad41 x36.length cp42) S (wN rfl) (.inr rfl) rfl rfl (lb rfl) fun a S => ?_
    refine leafL (leafT (hK35 _ _ ?_))
    refine sSeq (fun K43 hK43 => ?_)
    refine sRegion ?_
    refine sLoad1 (p := b6) (off := 0) (T := 46) (vs := [.slice ad3 p1.length cp4]) 0 (.slice ad3 p1.length cp4) S (wN rfl) rfl rfl rfl rfl rfl rfl (lb rfl) fun a S => ?_
    refine sMove (iv s26) S (wN rfl) (.inl rfl) rfl rfl (lb rfl) fun a S => ?_
    obtain ⟨y44, hx45, h⟩ := bindSome h
    refine sSlice (r := (rL (rI .i64))) (v := .slice ad3 p1.length cp4) (xs := p1) (vlo := none) (vhi := (some (.int .i64 s26))) (lo' := 0) (hi' := s26) 4 S (wN rfl) rfl Try.underlying46 rfl rfl rfl rfl rfl (.inr ⟨rfl, rfl⟩) (.inl rfl) hx45 rfl (lb rfl) fun a ad46 cp47 S => ?_
    refine sLen (ad := ad46) (m := y44.length) (c := cp47) S (wN rfl) rfl Try.underlying46 rfl rfl (lb rfl) fun a S => ?_
    refine sMove (iv 0) S (wN rfl) (.inl rfl) rfl rfl (lb rfl) fun a S => ?_
    refine leafL (leafT (hK43 _ _ ?_))
    refine wp_block ?_
    obtain ⟨t51, hl, g50⟩ := bindSome h
    refine sLoop hl (fun s0 a w => match s0 with | s48 => St [] E [] w0 69 a w [(0, .slice ad1 p0.length cp2), (3, .pointer (some ⟨b6, 0, none⟩)), (4, .pointer (some ⟨b7, 0, none⟩)), (5, .pointer (some ⟨b8, 0, none⟩)), (9, .slice ad41 x36.length cp42), (26, .slice ad3 p1.length cp4), (27, iv (p1.length : Int)), (28, iv s26), (35, .slice ad46 y44.length cp47), (36, iv (y44.length : Int)), (37, iv s48)] [eBox b6 46 [.slice ad3 p1.length cp4], eBox b7 35 [.slice none 0 0], eBox b8 27 [iv 0]] [fRep (rL (rI .i64)) (.slice ad1 p0.length cp2) p0, fRep (rL (rI .i64)) (.slice ad41 x36.length cp42) x36, fRep (rL (rL (rI .i64))) (.slice ad3 p1.length cp4) p1, fRep (rL (rL (rI .i64))) (.slice ad46 y44.length cp47) y44]) (S.fix [0, 1, 2] [4, 2, 5, 0] (by decide) rfl rfl rfl) ?_
    clear hl h
    intro s48 a w c0 hI h hu49
    unfold block_Blocks_l1 at h
    dsimp only at h hI
    have S := hI
    refine sSeq (fun K52 hK52 => ?_)
    refine sRegion ?_
    refine sBin (.bool (decide (s48 < (y44.length : Int)))) S (wN rfl) rfl rfl rfl (bLt _ _ _ _ .i64 s48 (y44.length : Int)) rfl (lb rfl) fun a S => ?_
    refine leafL (leafT (hK52 _ _ ?_))
    refine sSeq (fun K53 hK53 => ?_)
    rcases iteSome h with ⟨hc54, h⟩ | ⟨hc54, h⟩
    rotate_left
    · refine sCondF S rfl hc54 ?_
      obtain rfl := Option.some.inj h
      obtain rfl := hu49 _ rfl
      have h := g50
      clear g50
      try dsimp only at h
      exact wp_exit (xThen (xThen (xHit (leafB (leafT (⟨Option.some.inj h, S.fix [0, 1, 2] [0, 2] (by decide) rfl rfl rfl⟩))))))
    refine sCondT S rfl hc54 ?_
    refine wp_skip (leafT (hK53 _ _ ?_))
    refine sSeq (fun K55 hK55 => ?_)
    refine wp_block ?_
    refine sSeq (fun K56 hK56 => ?_)
    refine sRegion ?_
    obtain ⟨x57, hx58, h⟩ := bindSome h
    obtain ⟨q59, hq60, S⟩ := pIdx (P := Try.prog) (r := (rL (rI .i64))) (v := .slice ad46 y44.length cp47) (xs := y44) (j := s48) 46 35 3 S Try.underlying46 rfl rfl hx58
    refine sIdxV (v := .slice ad46 y44.length cp47) (k := .i64) (j := s48) S (wN rfl) rfl rfl rfl hq60 rfl (lb rfl) fun a S => ?_
    obtain ⟨u61, S⟩ := pLoad (r := (rL (rI .i64))) (q := q59) (x := x57) 0 S rfl
    obtain ⟨ad62, cp63, _, rfl, _⟩ := S.mem.know (i := 1) (e := fRep (rL (rI .i64)) (u61) x57) rfl
    refine sLoadV1 (vq := q59) 0 (.slice ad62 x57.length cp63) S (wN rfl) rfl rfl rfl rfl rfl (lb rfl) fun a S => ?_
    refine sMove (.slice ad62 x57.length cp63) S (wN rfl) (.inr rfl) rfl rfl (lb rfl) fun a S => ?_
    refine leafL (leafT (hK56 _ _ ?_))
    refine sSeq (fun K64 hK64 => ?_)
    refine sRegion ?_
    refine sMove (.slice ad41 x36.length cp42) S (wN rfl) (.inl rfl) rfl rfl (lb rfl) fun a S => ?_
    refine sMove (.slice ad62 x57.length cp63) S (wN rfl) (.inl rfl) rfl rfl (lb rfl) fun a S => ?_
    obtain ⟨r65, hx66, h⟩ := bindSome h
    have S1 := S.mem
    refine sCallQ (X := Unit) (f := 59) (vs := [.slice ad41 x36.length cp42, .slice ad62 x57.length cp63]) (val := fun _ => .bool r65) S (wN rfl) rfl callee59 rfl (S1.quiet [4, 1] rfl) (fun E1 w1 S1 => c_slices_Equal___int_int_ E1 w1 x36 (.slice ad41 x36.length cp42) x57 (.slice ad62 x57.length cp63) r65 hx66 S1) rfl (lb rfl) fun _ a w S => ?_
    refine leafL (leafT (hK64 _ _ ?_))
    rcases iteSome h with ⟨hc67, h⟩ | ⟨hc67, h⟩
    rotate_left
    · refine sCondF S rfl hc67 ?_
      refine wp_skip (leafB (leafT (hK55 _ _ ?_)))
      refine sRegion ?_
      refine sBin (iv (w64 (s48 + 1))) S (wN rfl) rfl rfl rfl (bAdd _ _ _ _ s48 1) rfl (lb rfl) fun a S => ?_
      refine sMove (iv (w64 (s48 + 1))) S (wN rfl) (.inl rfl) rfl rfl (lb rfl) fun a S => ?_
      exact leafL (leafT (⟨w64 (s48 + 1), (Option.some.inj h).symm, (S.fix [0, 1, 2] [3, 4, 5, 6] (by decide) rfl rfl rfl)⟩))
    refine sCondT S rfl hc67 ?_
    refine sSeq (fun K68 hK68 => ?_)
    refine sRegion ?_
    refine sStore (p := b7) (off := 0) (T := 35) (vs := [.slice none 0 0]) (v := .slice none 0 0) 1 [.slice none 0 0] S (wN rfl) rfl rfl rfl rfl rfl rfl rfl (by simp) rfl fun a w S => ?_
    refine sStore (p := b8) (off := 0) (T := 27) (vs := [iv 0]) (v := iv 14) 2 [iv 14] S (wN rfl) rfl rfl rfl rfl rfl rfl rfl (by simp) rfl fun a w S => ?_
    refine leafL (leafT (hK68 _ _ ?_))
    obtain rfl := Option.some.inj h
    obtain rfl := hu49 _ rfl
    have h := g50
    clear g50
    try dsimp only at h
    obtain rfl := Option.some.inj h
    have h := g34
    clear g34
    try dsimp only at h
    obtain rfl := Option.some.inj h
    obtain rfl := hu27 _ rfl
    have h := g28
    clear g28
    try dsimp only at h
    obtain rfl := Option.some.inj h
    have h := g24
    clear g24
    try dsimp only at h
    obtain rfl := Option.some.inj h
    have S := S.learn (fRep (rL (rI .i64)) (.slice none 0 0) ([] : (List Int))) (rL_nil _ _ _)
    exact wp_ret (rBlock (rThen (rThen (rBlock (rBlock (rThen (rThen (rBlock (rThen (sRetM0 (.tuple #[.slice none 0 0, iv 14]) S (rsl2 rfl (rv1 (c := 4) (t := 35) (T := 35) (p := b7) 1 (.slice none 0 0) S rfl rfl rfl) (rv1 (c := 5) (t := 27) (T := 27) (p := b8) 0 (iv 14) S rfl rfl rfl)) ⟨(.slice none 0 0), rfl, S.mem.sel [] [0] (by decide) rfl rfl⟩))))))))))
  obtain ⟨rfl, S⟩ := hI
  have h := g24
  clear g24
  try dsimp only at h
  refine sSeq (fun K69 hK69 => ?_)
  refine sRegion ?_
  refine sLoad1 (p := b6) (off := 0) (T := 46) (vs := [.slice ad3 p1.length cp4]) 0 (.slice ad3 p1.length cp4) S (wN rfl) rfl rfl rfl rfl rfl rfl (lb rfl) fun a S => ?_
  obtain ⟨x70, hx71, h⟩ := bindSome h
  obtain ⟨q72, hq73, S⟩ := pIdx (P := Try.prog) (r := (rL (rI .i64))) (v := .slice ad3 p1.length cp4) (xs := p1) (j := 0) 46 35 1 S Try.underlying46 rfl rfl hx71
  refine sIdxV (v := .slice ad3 p1.length cp4) (k := .i64) (j := 0) S (wN rfl) rfl rfl rfl hq73 rfl (lb rfl) fun a S => ?_
  obtain ⟨u74, S⟩ := pLoad (r := (rL (rI .i64))) (q := q72) (x := x70) 0 S rfl
  obtain ⟨ad75, cp76, _, rfl, _⟩ := S.mem.know (i := 1) (e := fRep (rL (rI .i64)) (u74) x70) rfl
  refine sLoadV1 (vq := q72) 0 (.slice ad75 x70.length cp76) S (wN rfl) rfl rfl rfl rfl rfl (lb rfl) fun a S => ?_
  refine sLen (ad := ad75) (m := x70.length) (c := cp76) S (wN rfl) rfl Try.underlying35 rfl rfl (lb rfl) fun a S => ?_
  refine sMove (iv (x70.length : Int)) S (wN rfl) (.inr rfl) rfl rfl (lb rfl) fun a S => ?_
  refine leafL (leafT (hK69 _ _ ?_))
  refine sSeq (fun K77 hK77 => ?_)
  refine sSeq (fun K78 hK78 => ?_)
  refine sRegion ?_
  refine sMove (.slice ad1 p0.length cp2) S (wN rfl) (.inl rfl) rfl rfl (lb rfl) fun a S => ?_
  refine sLen (ad := ad1) (m := p0.length) (c := cp2) S (wN rfl) rfl Try.underlying35 rfl rfl (lb rfl) fun a S => ?_
  refine sMove (iv (x70.length : Int)) S (wN rfl) (.inl rfl) rfl rfl (lb rfl) fun a S => ?_
  obtain ⟨z79, hx80, h⟩ := bindSome h
  refine sBin (iv z79) S (wN rfl) rfl rfl rfl (bRem _ _ _ _ (x := (p0.length : Int)) (y := (x70.length : Int)) hx80) rfl (lb rfl) fun a S => ?_
  refine sBin (.bool (z79 != 0)) S (wN rfl) rfl rfl rfl (bNe _ _ _ _ .i64 z79 0) rfl (lb rfl) fun a S => ?_
  refine leafL (leafT (hK78 _ _ ?_))
  rcases iteSome h with ⟨hc81, h⟩ | ⟨hc81, h⟩
  · refine sCondT S rfl hc81 ?_
    refine sSeq (fun K82 hK82 => ?_)
    refine sRegion ?_
    refine sStore (p := b7) (off := 0) (T := 35) (vs := [.slice none 0 0]) (v := .slice none 0 0) 1 [.slice none 0 0] S (wN rfl) rfl rfl rfl rfl rfl rfl rfl (by simp) rfl fun a w S => ?_
    refine sStore (p := b8) (off := 0) (T := 27) (vs := [iv 0]) (v := iv 26) 2 [iv 26] S (wN rfl) rfl rfl rfl rfl rfl rfl rfl (by simp) rfl fun a w S => ?_
    refine leafL (leafT (hK82 _ _ ?_))
    obtain rfl := Option.some.inj h
    have S := S.learn (fRep (rL (rI .i64)) (.slice none 0 0) ([] : (List Int))) (rL_nil _ _ _)
    exact wp_ret (rThen (sRetM0 (.tuple #[.slice none 0 0, iv 26]) S (rsl2 rfl (rv1 (c := 4) (t := 35) (T := 35) (p := b7) 1 (.slice none 0 0) S rfl rfl rfl) (rv1 (c := 5) (t := 27) (T := 27) (p := b8) 0 (iv 26) S rfl rfl rfl)) ⟨(.slice none 0 0), rfl, S.mem.sel [] [0] (by decide) rfl rfl⟩))
  refine sCondF S rfl hc81 ?_
  refine wp_skip (leafT (hK77 _ _ ?_))
  refine sSeq (fun K83 hK83 => ?_)
  refine sRegion ?_
  refine sAlloc (.slice none 0 0) S (wN rfl) rfl rfl [.slice none 0 0] rfl rfl (lb rfl) fun a b84 w S => ?_
  refine leafL (leafT (hK83 _ _ ?_))
  refine sSeq (fun K85 hK85 => ?_)
  refine sSeq (fun K86 hK86 => ?_)
  refine sRegion ?_
  refine sMove (.slice ad1 p0.length cp2) S (wN rfl) (.inl rfl) rfl rfl (lb rfl) fun a S => ?_
  refine sMove (iv (x70.length : Int)) S (wN rfl) (.inl rfl) rfl rfl (lb rfl) fun a S => ?_
  obtain ⟨r87, hx88, h⟩ := bindSome h
  refine sCall (X := Value × Value) (f := 60) (vs := [.slice ad1 p0.length cp2, iv (x70.length : Int)]) (val := c_slices_Chunk___int_int__val r87) (B' := fun _ => []) (D' := c_slices_Chunk___int_int__D r87) [] [eBox b84 35 [.slice none 0 0], eBox b6 46 [.slice ad3 p1.length cp4], eBox b7 35 [.slice none 0 0], eBox b8 27 [iv 0]] [fRep (rL (rI .i64)) (.slice ad1 p0.length cp2) p0] [0, 1, 2, 3] [3] S (wN rfl) rfl callee60 rfl (by decide) rfl rfl (fun E1 w1 S1 => c_slices_Chunk___int_int_ E1 w1 p0 (.slice ad1 p0.length cp2) (x70.length : Int) r87 hx88 S1) rfl (lb rfl) fun xx a w S => ?_
  obtain ⟨u89, u90⟩ := xx
  refine leafL (leafT (hK86 _ _ ?_))
  refine wp_block ?_
  have S := S.nilRow (rI .i64) 3 (α := Int)
  obtain ⟨t114, hl115, g113⟩ := bindSome h
  replace S : St [] E [] w0 69 a w [(3, .pointer (some ⟨b6, 0, none⟩)), (4, .pointer (some ⟨b7, 0, none⟩)), (5, .pointer (some ⟨b8, 0, none⟩)), (13, .pointer (some ⟨b84, 0, none⟩)), (57, .func (.func 76) #[] #[u89, u90])] [eBox b6 46 [.slice ad3 p1.length cp4], eBox b7 35 [.slice none 0 0], eBox b8 27 [iv 0], eBox b84 35 [.slice none ([] : List Int).length 0], eRow (rI .i64) 3 (.slice none ([] : List Int).length 0) ([] : List Int)] [fPtr (rL (rI .i64)) (u89) r87.1, fPtr (rI .i64) (u90) r87.2, fRep (rL (rL (rI .i64))) (.slice ad3 p1.length cp4) p1] := S.fix [2, 3, 4, 1, 0] [0, 1, 6] (by decide) rfl rfl rfl
  refine sRange1 (B := block_Blocks_l4 p1) (fun s0 L D => match s0 with | s91 => ∃ ad92, ∃ cp93, L = [eBox b6 46 [.slice ad3 p1.length cp4], eBox b7 35 [.slice none 0 0], eBox b8 27 [iv 0], eBox b84 35 [.slice ad92 s91.length cp93], eRow (rI .i64) 3 (.slice ad92 s91.length cp93) s91] ∧ D = [fPtr (rL (rI .i64)) (u89) r87.1, fPtr (rI .i64) (u90) r87.2, fRep (rL (rL (rI .i64))) (.slice ad3 p1.length cp4) p1]) (fun t0 c L D => match t0 with | _ => c = .ret ∧ L = [eBox b7 35 [.slice none 0 0], eBox b8 27 [iv 6]] ∧ D = []) [0, 1] S hl115 rfl callee76 (it_slices_Chunk___int_int__1 r87.1 u89 r87.2 u90) rfl (by decide) ⟨none, 0, rfl, rfl⟩ ?_ ?_ ?_
  · intro E l0 s91 x94 u95 b L D K a w0 hK hIL hB S
    clear hl115 g113 h hK
    unfold block_Blocks_l4 at hB
    dsimp only at hB hIL
    obtain ⟨ad92, cp93, rfl, rfl⟩ := hIL
    have h := hB
    clear hB
    obtain ⟨ad96, cp97, _, rfl, _⟩ := S.mem.know (i := 0) (e := fRep (rL (rI .i64)) (u95) x94) rfl
    refine sRegionR (by repeat (first | exact roundU_out | exact it_out | exact lo_false | refine lo_then ?_ | refine lo_block ?_)) rfl ?_
    refine sAlloc (.slice none 0 0) S (wN rfl) rfl rfl [.slice none 0 0] rfl rfl (lb rfl) fun a b98 w S => ?_
    refine sStore (p := b98) (off := 0) (T := 35) (vs := [.slice none 0 0]) (v := .slice ad96 x94.length cp97) 0 [.slice ad96 x94.length cp97] S (wN rfl) rfl rfl rfl rfl rfl rfl rfl (by simp) rfl fun a w S => ?_
    refine leafL (leafT (⟨_, _, _, S, fun K a w0 hK S => ?_⟩))
    refine wpIn_block ?_
    refine sSeqR (fun K99 hK99 => ?_)
    refine sRegionR (by repeat (first | exact roundU_out | exact it_out | exact lo_false | refine lo_then ?_ | refine lo_block ?_)) rfl ?_
    refine sLoad1 (p := b6) (off := 0) (T := 46) (vs := [.slice ad3 p1.length cp4]) 1 (.slice ad3 p1.length cp4) S (wN rfl) rfl rfl rfl rfl rfl rfl (lb rfl) fun a S => ?_
    refine sFunc (g := 62) (vs := [.pointer (some ⟨b98, 0, none⟩)]) S (wN rfl) rfl rfl rfl (lb rfl) fun a S => ?_
    obtain ⟨r100, hx101, h⟩ := bindSome h
    have S1 := S.mem
    have S1 := S1.shutB (r := (rL (rI .i64))) (T := 35) (b := b98) (cs := [.slice ad96 x94.length cp97]) 0 (.slice ad96 x94.length cp97) x94 rfl rfl (S1.know (i := 0) (e := fRep (rL (rI .i64)) (.slice ad96 x94.length cp97) x94) rfl)
    refine sCallQ (X := Unit) (f := 61) (vs := [.slice ad3 p1.length cp4, .func (.func 62) #[] #[.pointer (some ⟨b98, 0, none⟩)]]) (val := fun _ => iv r100) S (wN rfl) rfl callee61 rfl (S1.quiet [4, 0] rfl) (fun E1 w1 S1 => c_slices_IndexFunc_____int___int__s1 E1 w1 p1 (.slice ad3 p1.length cp4) x94 (.pointer (some ⟨b98, 0, none⟩)) r100 hx101 S1) rfl (lb rfl) fun _ a w S => ?_
    refine sMove (iv r100) S (wN rfl) (.inr rfl) rfl rfl (lb rfl) fun a S => ?_
    refine leafL (leafT (hK99 _ _ ?_))
    refine sSeqR (fun K102 hK102 => ?_)
    refine sSeqR (fun K103 hK103 => ?_)
    refine sRegionR (by repeat (first | exact roundU_out | exact it_out | exact lo_false | refine lo_then ?_ | refine lo_block ?_)) rfl ?_
    refine sMove (iv r100) S (wN rfl) (.inl rfl) rfl rfl (lb rfl) fun a S => ?_
    refine sBin (.bool (decide (r100 < 0))) S (wN rfl) rfl rfl rfl (bLt _ _ _ _ .i64 r100 0) rfl (lb rfl) fun a S => ?_
    refine leafL (leafT (hK103 _ _ ?_))
    rcases iteSome h with ⟨hc104, h⟩ | ⟨hc104, h⟩
    · refine sCondTR S rfl hc104 ?_
      refine sSeqR (fun K105 hK105 => ?_)
      refine sRegionR (by repeat (first | exact roundU_out | exact it_out | exact lo_false | refine lo_then ?_ | refine lo_block ?_)) rfl ?_
      refine sStore (p := b7) (off := 0) (T := 35) (vs := [.slice none 0 0]) (v := .slice none 0 0) 2 [.slice none 0 0] S (wN rfl) rfl rfl rfl rfl rfl rfl rfl (by simp) rfl fun a w S => ?_
      refine sStore (p := b8) (off := 0) (T := 27) (vs := [iv 0]) (v := iv 6) 3 [iv 6] S (wN rfl) rfl rfl rfl rfl rfl rfl rfl (by simp) rfl fun a w S => ?_
      refine leafL (leafT (hK105 _ _ ?_))
      exact wpIn_ret (rThen (rBlock (rnR () _ _ [] (Option.some.inj h) ⟨rfl, rfl, rfl⟩ (S.fix [1, 0] [] (by decide) rfl rfl rfl))))
    refine sCondFR S rfl hc104 ?_
    refine wpIn_skip (leafT (hK102 _ _ ?_))
    refine sRegionR (by repeat (first | exact roundU_out | exact it_out | exact lo_false | refine lo_then ?_ | refine lo_block ?_)) rfl ?_
    refine sLoad1 (p := b84) (off := 0) (T := 35) (vs := [.slice ad92 s91.length cp93]) 4 (.slice ad92 s91.length cp93) S (wN rfl) rfl rfl rfl rfl rfl rfl (lb rfl) fun a S => ?_
    refine sMove (iv r100) S (wN rfl) (.inl rfl) rfl rfl (lb rfl) fun a S => ?_
    refine sLit (r := (rI .i64)) (T := 3) (xs := ([r100] : List Int)) [(0, iv r100)] 1 [iv r100] [iv r100] (iv 0) 8 S (wN rfl) rfl rfl Try.underlying35 rfl (by decide) (by decide) (by kernel_rfl) rfl (fun E1 w1 hE => All.cons rfl (All.nil _ _ _)) rfl rfl (lb rfl) fun a w ad106 cp107 S => ?_
    obtain ⟨l108, hx109, h⟩ := bindSome h
    refine sApp (r := (rI .i64)) (T := 3) (xs := s91) (ys := ([r100] : List Int)) (v := .slice ad92 s91.length cp93) (u := .slice ad106 ([r100] : List Int).length cp107) 6 (iv 0) 8 S (wN rfl) rfl Try.underlying35 rfl rfl (by decide) rfl rfl rfl (src_R (T := 3) 0 S.mem rfl) hx109 rfl (lb rfl) fun a w ad110 cp111 S => ?_
    refine sStore (p := b84) (off := 0) (T := 35) (vs := [.slice ad92 s91.length cp93]) (v := .slice ad110 l108.length cp111) 6 [.slice ad110 l108.length cp111] S (wN rfl) rfl rfl rfl rfl rfl rfl rfl (by simp) rfl fun a w S => ?_
    exact leafL (leafB (rnN l108 _ _ [] (Option.some.inj h) ⟨ad110, cp111, rfl, rfl⟩ (S.fix [4, 5, 6, 0, 1] [1, 2, 3] (by decide) rfl rfl rfl)))
  · intro dk112 s91 L D a w hr hIL S
    clear h
    obtain rfl := hr
    dsimp only at g113 hIL
    obtain ⟨ad92, cp93, rfl, rfl⟩ := hIL
    have h := g113
    clear g113 hl115
    replace S : St [mark dk112] E [] w0 69 a w [(3, .pointer (some ⟨b6, 0, none⟩)), (4, .pointer (some ⟨b7, 0, none⟩)), (5, .pointer (some ⟨b8, 0, none⟩)), (13, .pointer (some ⟨b84, 0, none⟩)), (57, .func (.func 76) #[] #[u89, u90])] [eBox b6 46 [.slice ad3 p1.length cp4], eBox b7 35 [.slice none 0 0], eBox b8 27 [iv 0], eBox b84 35 [.slice ad92 s91.length cp93], eRow (rI .i64) 3 (.slice ad92 s91.length cp93) s91, eDef dk112] [fPtr (rL (rI .i64)) (u89) r87.1, fPtr (rI .i64) (u90) r87.2, fRep (rL (rL (rI .i64))) (.slice ad3 p1.length cp4) p1] := S
    refine leafB (leafT (hK85 _ _ ?_))
    refine sSeq (fun K116 hK116 => ?_)
    refine sRegion ?_
    refine sLoad1 (p := b84) (off := 0) (T := 35) (vs := [.slice ad92 s91.length cp93]) 3 (.slice ad92 s91.length cp93) S (wN rfl) rfl rfl rfl rfl rfl rfl (lb rfl) fun a S => ?_
    refine sStore (p := b7) (off := 0) (T := 35) (vs := [.slice none 0 0]) (v := .slice ad92 s91.length cp93) 1 [.slice ad92 s91.length cp93] S (wN rfl) rfl rfl rfl rfl rfl rfl rfl (by simp) rfl fun a w S => ?_
    refine sStore (p := b8) (off := 0) (T := 27) (vs := [iv 0]) (v := iv 0) 2 [iv 0] S (wN rfl) rfl rfl rfl rfl rfl rfl rfl (by simp) rfl fun a w S => ?_
    refine leafL (leafT (hK116 _ _ ?_))
    refine wp_ret (sRetM1 5 S rfl (fun a w S => ?_))
    obtain rfl := Option.some.inj h
    have S := S.shutR (r := (rI .i64)) (T := 3) (v := .slice ad92 s91.length cp93) (xs := s91) 4 rfl
    exact sFin (.tuple #[.slice ad92 s91.length cp93, iv 0]) S (rsl2 rfl (rv1 (c := 4) (t := 35) (T := 35) (p := b7) 1 (.slice ad92 s91.length cp93) S rfl rfl rfl) (rv1 (c := 5) (t := 27) (T := 27) (p := b8) 0 (iv 0) S rfl rfl rfl)) ⟨(.slice ad92 s91.length cp93), rfl, S.mem.sel [] [0] (by decide) rfl rfl⟩
  · intro dk112 c0 t0 L D a w hr hIX S
    clear h
    obtain rfl := hr
    dsimp only at g113 hIX
    obtain ⟨rfl, rfl, rfl⟩ := hIX
    have h := g113
    clear g113 hl115
    replace S : St [mark dk112] E [] w0 69 a w [(3, .pointer (some ⟨b6, 0, none⟩)), (4, .pointer (some ⟨b7, 0, none⟩)), (5, .pointer (some ⟨b8, 0, none⟩)), (13, .pointer (some ⟨b84, 0, none⟩)), (57, .func (.func 76) #[] #[u89, u90])] [eBox b7 35 [.slice none 0 0], eBox b8 27 [iv 6], eDef dk112] [] := S
    refine wp_ret (rBlock (rThen (sRetM1 2 S rfl (fun a w S => ?_))))
    obtain rfl := Option.some.inj h
    have S := S.learn (fRep (rL (rI .i64)) (.slice none 0 0) ([] : (List Int))) (rL_nil _ _ _)
    exact sFin (.tuple #[.slice none 0 0, iv 6]) S (rsl2 rfl (rv1 (c := 4) (t := 35) (T := 35) (p := b7) 0 (.slice none 0 0) S rfl rfl rfl) (rv1 (c := 5) (t := 27) (T := 27) (p := b8) 1 (iv 6) S rfl rfl rfl)) ⟨(.slice none 0 0), rfl, S.mem.sel [] [0] (by decide) rfl rfl⟩

end Go.Proofs.Ythfifeabomdlpaa
namespace Go.Proofs.Ythfifeabomdlpaa
open Go.RowKit
set_option linter.unusedVariables false

def anc_raddleref13_Twice_0 : List (List Nat) := [[], [], [0, 1], [0, 1, 2], [], [], [4, 5], [4, 5, 6], [0, 1, 2, 3, 4, 5, 6, 7]]
noncomputable def raddleref13_Twice_l1 (s7 : Int) (p0 : (List (List Int))) : Int → Option (Int ⊕ (Bool ⊕ Unit)) := fun s0 => match s0 with
  | s17 =>
    if decide (s17 < s7) then
      Option.bind (idxO p0 s7) fun x26 =>
      Option.bind (idxO p0 s17) fun x33 =>
      Option.bind (F_raddleref02_Same x26 x33) fun r40 =>
      if r40 then
        some (.inr (.inl true))
      else
        some (.inl (w64 (s17 + 1)))
    else
      some (.inr (.inr ()))
noncomputable def raddleref13_Twice_l2 (p0 : (List (List Int))) : Int → Option (Int ⊕ (Bool ⊕ Unit)) := fun s0 => match s0 with
  | s7 =>
    if decide (s7 < (p0.length : Int)) then
      Option.bind (α := Unit ⊕ Bool) (
        Option.bind (whileO (raddleref13_Twice_l1 s7 p0) 0) fun z0 => match z0 with
          | .inl z =>
            some (.inr z)
          | .inr _ =>
            some (.inl ())) fun z0 => match z0 with
        | .inl _ =>
          some (.inl (w64 (s7 + 1)))
        | .inr z =>
          some (.inr (.inl z))
    else
      some (.inr (.inr ()))
noncomputable def F_raddleref13_Twice (p0 : (List (List Int))) : Option Bool :=
  Option.bind (α := Unit ⊕ Bool) (
    Option.bind (whileO (raddleref13_Twice_l2 p0) 0) fun z0 => match z0 with
      | .inl z =>
        some (.inr z)
      | .inr _ =>
        some (.inl ())) fun z0 => match z0 with
    | .inl _ =>
      some false
    | .inr z =>
      some z
set_option maxHeartbeats 4000000 in
set_option maxRecDepth 100000 in
theorem c_raddleref13_Twice (E : Nat → Prop) (w0 : World) (p0 : (List (List Int))) (v0 : Value) (r : Bool) (h : F_raddleref13_Twice p0 = some r) (S : St0 E [] w0 w0 [] [fRep (rL (rL (rI .i64))) (v0) p0]) :
    Calls Try.prog 38 #[v0] w0 (Ret (X := Unit) E [] w0 (fun _ => .bool r) (fun _ => []) (fun _ => [])) := by
  unfold F_raddleref13_Twice at h
  obtain ⟨ad1, cp2, _, rfl, _⟩ := S.know (i := 0) (e := fRep (rL (rL (rI .i64))) (v0) p0) rfl
  refine sEnter (args := [.slice ad1 p0.length cp2]) 25 Try.func38 rfl rfl (by simp) S (fun a S => ?_)
  refine sSeq (fun K3 hK3 => ?_)
  refine sRegion ?_
  refine sMove (.bool false) S (wN rfl) (.inr rfl) rfl rfl (lb rfl) fun a S => ?_
  refine leafL (leafT (hK3 _ _ ?_))
  obtain ⟨t4, h, g5⟩ := bindSome h
  refine sCut (fun a w => .inl () = t4 ∧ St [] E [] w0 25 a w [] [] []) ?_ (fun a w hI => ?_)
  rotate_left
  · obtain ⟨rfl, S⟩ := hI
    have h := g5
    clear g5
    try dsimp only at h
    refine sSeq (fun K54 hK54 => ?_)
    refine sRegion ?_
    refine sMove (.bool false) S (wN rfl) (.inr rfl) rfl rfl (lb rfl) fun a S => ?_
    refine leafL (leafT (hK54 _ _ ?_))
    obtain rfl := Option.some.inj h
    exact wp_ret (sRet (.bool false) S (rsl1 rfl (rvT (t := 2) (v := .bool false) S rfl)) ⟨(), rfl, S.mem.sel [] [] (by decide) rfl rfl⟩)
  refine sSeq (fun K6 hK6 => ?_)
  refine sRegion ?_
  refine sMove (iv 0) S (wN rfl) (.inr rfl) rfl rfl (lb rfl) fun a S => ?_
  refine leafL (leafT (hK6 _ _ ?_))
  refine wp_block ?_
  obtain ⟨t10, hl, g9⟩ := bindSome h
  refine sLoop hl (fun s0 a w => match s0 with | s7 => St [] E [] w0 25 a w [(0, .slice ad1 p0.length cp2), (3, iv s7)] [] [fRep (rL (rL (rI .i64))) (.slice ad1 p0.length cp2) p0]) (S.fix [] [0] (by decide) rfl rfl rfl) ?_
  clear hl h
  intro s7 a w c0 hI h hu8
  unfold raddleref13_Twice_l2 at h
  dsimp only at h hI
  have S := hI
  refine sSeq (fun K11 hK11 => ?_)
  refine sSeq (fun K12 hK12 => ?_)
  refine sRegion ?_
  refine sMove (iv s7) S (wN rfl) (.inl rfl) rfl rfl (lb rfl) fun a S => ?_
  refine sMove (.slice ad1 p0.length cp2) S (wN rfl) (.inl rfl) rfl rfl (lb rfl) fun a S => ?_
  refine sLen (ad := ad1) (m := p0.length) (c := cp2) S (wN rfl) rfl Try.underlying46 rfl rfl (lb rfl) fun a S => ?_
  refine sBin (.bool (decide (s7 < (p0.length : Int)))) S (wN rfl) rfl rfl rfl (bLt _ _ _ _ .i64 s7 (p0.length : Int)) rfl (lb rfl) fun a S => ?_
  refine leafL (leafT (hK12 _ _ ?_))
  rcases iteSome h with ⟨hc13, h⟩ | ⟨hc13, h⟩
  rotate_left
  · refine sCondF S rfl hc13 ?_
    obtain rfl := Option.some.inj h
    obtain rfl := hu8 _ rfl
    have h := g9
    clear g9
    try dsimp only at h
    exact wp_exit (xThen (xThen (xHit (leafT (⟨Option.some.inj h, S.fix [] [] (by decide) rfl rfl rfl⟩)))))
  refine sCondT S rfl hc13 ?_
  refine wp_skip (leafT (hK11 _ _ ?_))
  obtain ⟨t14, h, g15⟩ := bindSome h
  refine sCut (fun a w => .inl () = t14 ∧ St [] E [] w0 25 a w [(0, .slice ad1 p0.length cp2), (3, iv s7)] [] [fRep (rL (rL (rI .i64))) (.slice ad1 p0.length cp2) p0]) ?_ (fun a w hI => ?_)
  rotate_left
  · obtain ⟨rfl, S⟩ := hI
    have h := g15
    clear g15
    try dsimp only at h
    refine sRegion ?_
    refine sMove (iv s7) S (wN rfl) (.inl rfl) rfl rfl (lb rfl) fun a S => ?_
    refine sBin (iv (w64 (s7 + 1))) S (wN rfl) rfl rfl rfl (bAdd _ _ _ _ s7 1) rfl (lb rfl) fun a S => ?_
    refine sMove (iv (w64 (s7 + 1))) S (wN rfl) (.inr rfl) rfl rfl (lb rfl) fun a S => ?_
    exact leafL (leafT (⟨w64 (s7 + 1), (Option.some.inj h).symm, (S.fix [] [0] (by decide) rfl rfl rfl)⟩))
  refine wp_block ?_
  refine sSeq (fun K16 hK16 => ?_)
  refine sRegion ?_
  refine sMove (iv 0) S (wN rfl) (.inr rfl) rfl rfl (lb rfl) fun a S => ?_
  refine leafL (leafT (hK16 _ _ ?_))
  refine wp_block ?_
  obtain ⟨t20, hl, g19⟩ := bindSome h
  refine sLoop hl (fun s0 a w => match s0 with | s17 => St [] E [] w0 25 a w [(0, .slice ad1 p0.length cp2), (3, iv s7), (4, iv s17)] [] [fRep (rL (rL (rI .i64))) (.slice ad1 p0.length cp2) p0]) (S.fix [] [0] (by decide) rfl rfl rfl) ?_
  clear hl h
  intro s17 a w c0 hI h hu18
  unfold raddleref13_Twice_l1 at h
  dsimp only at h hI
  have S := hI
  refine sSeq (fun K21 hK21 => ?_)
  refine sSeq (fun K22 hK22 => ?_)
  refine sRegion ?_
  refine sMove (iv s17) S (wN rfl) (.inl rfl) rfl rfl (lb rfl) fun a S => ?_
  refine sMove (iv s7) S (wN rfl) (.inl rfl) rfl rfl (lb rfl) fun a S => ?_
  refine sBin (.bool (decide (s17 < s7))) S (wN rfl) rfl rfl rfl (bLt _ _ _ _ .i64 s17 s7) rfl (lb rfl) fun a S => ?_
  refine leafL (leafT (hK22 _ _ ?_))
  rcases iteSome h with ⟨hc23, h⟩ | ⟨hc23, h⟩
  rotate_left
  · refine sCondF S rfl hc23 ?_
    obtain rfl := Option.some.inj h
    obtain rfl := hu18 _ rfl
    have h := g19
    clear g19
    try dsimp only at h
    exact wp_exit (xThen (xThen (xHit (leafB (leafT (⟨Option.some.inj h, S.fix [] [0] (by decide) rfl rfl rfl⟩))))))
  refine sCondT S rfl hc23 ?_
  refine wp_skip (leafT (hK21 _ _ ?_))
  refine sSeq (fun K24 hK24 => ?_)
  refine wp_block ?_
  refine sSeq (fun K25 hK25 => ?_)
  obtain ⟨x26, hx27, h⟩ := bindSome h
  obtain ⟨x33, hx34, h⟩ := bindSome h
  obtain ⟨r40, hx41, h⟩ := bindSome h
  obtain ⟨q42, hq43, S⟩ := pIdx (P := Try.prog) (r := (rL (rI .i64))) (v := .slice ad1 p0.length cp2) (xs := p0) (j := s7) 46 35 0 S Try.underlying46 rfl rfl hx27
  obtain ⟨u44, S⟩ := pLoad (r := (rL (rI .i64))) (q := q42) (x := x26) 0 S rfl
  obtain ⟨ad45, cp46, _, rfl, _⟩ := S.mem.know (i := 1) (e := fRep (rL (rI .i64)) (u44) x26) rfl
  obtain ⟨q47, hq48, S⟩ := pIdx (P := Try.prog) (r := (rL (rI .i64))) (v := .slice ad1 p0.length cp2) (xs := p0) (j := s17) 46 35 3 S Try.underlying46 rfl rfl hx34
  obtain ⟨u49, S⟩ := pLoad (r := (rL (rI .i64))) (q := q47) (x := x33) 0 S rfl
  obtain ⟨ad50, cp51, _, rfl, _⟩ := S.mem.know (i := 1) (e := fRep (rL (rI .i64)) (u49) x33) rfl
  refine sDraw (nf := []) (W := [(0, 16, .slice ad1 p0.length cp2), (1, 17, iv s7), (2, 18, q42), (3, 19, .slice ad45 x26.length cp46), (4, 20, .slice ad1 p0.length cp2), (5, 21, iv s17), (6, 22, q47), (7, 23, .slice ad50 x33.length cp51), (8, 24, .bool r40)]) rfl S ?_
  refine node_by (A := anc_raddleref13_Twice_0) (nf := []) (Y := []) (W := [(0, 16, .slice ad1 p0.length cp2), (1, 17, iv s7), (2, 18, q42), (3, 19, .slice ad45 x26.length cp46), (4, 20, .slice ad1 p0.length cp2), (5, 21, iv s17), (6, 22, q47), (7, 23, .slice ad50 x33.length cp51), (8, 24, .bool r40)]) 9 (by kernel_rfl) (by kernel_rfl) (by kernel_rfl) (by kernel_rfl) (by kernel_rfl) [0, 1, 2, 3, 4, 5, 6, 7, 8] (by kernel_rfl) (by decide) (by decide) (aF 0 8 (by decide) ?_ (aF 1 7 (by decide) ?_ (aF 2 6 (by decide) ?_ (aF 3 5 (by decide) ?_ (aF 4 4 (by decide) ?_ (aF 5 3 (by decide) ?_ (aF 6 2 (by decide) ?_ (aF 7 1 (by decide) ?_ (aF 8 0 (by decide) ?_ (trivial)))))))))) [(0, .slice ad1 p0.length cp2), (3, iv s7), (4, iv s17), (24, .bool r40)] (fin_of [none, none, none, some 8] rfl (by kernel_rfl) (by kernel_rfl)) (fun _ a w S => ?_)
  · refine fI 16 (.slice ad1 p0.length cp2) [(0, .slice ad1 p0.length cp2)] 0 [none] rfl rfl rfl rfl rfl rfl fun G a w S => ?_
    refine sMove (.slice ad1 p0.length cp2) S (wN rfl) (.inl rfl) rfl rfl (lb rfl) fun a S => ?_
    exact leafL ⟨rfl, S⟩
  · refine fI 17 (iv s7) [(3, iv s7)] 1 [none] rfl rfl rfl rfl rfl rfl fun G a w S => ?_
    refine sMove (iv s7) S (wN rfl) (.inl rfl) rfl rfl (lb rfl) fun a S => ?_
    exact leafL ⟨rfl, S⟩
  · refine fI 18 q42 [(16, .slice ad1 p0.length cp2), (17, iv s7)] 2 [some 0, some 1] rfl rfl rfl rfl rfl rfl fun G a w S => ?_
    refine sIdxV (v := .slice ad1 p0.length cp2) (k := .i64) (j := s7) S (wN rfl) rfl rfl rfl hq43 rfl (lb rfl) fun a S => ?_
    exact leafL ⟨rfl, S⟩
  · refine fI 19 (.slice ad45 x26.length cp46) [(18, q42)] 3 [some 2] rfl rfl rfl rfl rfl rfl fun G a w S => ?_
    refine sLoadV1 (vq := q42) 3 (.slice ad45 x26.length cp46) S (wN rfl) rfl rfl rfl rfl rfl (lb rfl) fun a S => ?_
    exact leafL ⟨rfl, S⟩
  · refine fI 20 (.slice ad1 p0.length cp2) [(0, .slice ad1 p0.length cp2)] 4 [none] rfl rfl rfl rfl rfl rfl fun G a w S => ?_
    refine sMove (.slice ad1 p0.length cp2) S (wN rfl) (.inl rfl) rfl rfl (lb rfl) fun a S => ?_
    exact leafL ⟨rfl, S⟩
  · refine fI 21 (iv s17) [(4, iv s17)] 5 [none] rfl rfl rfl rfl rfl rfl fun G a w S => ?_
    refine sMove (iv s17) S (wN rfl) (.inl rfl) rfl rfl (lb rfl) fun a S => ?_
    exact leafL ⟨rfl, S⟩
  · refine fI 22 q47 [(20, .slice ad1 p0.length cp2), (21, iv s17)] 6 [some 4, some 5] rfl rfl rfl rfl rfl rfl fun G a w S => ?_
    refine sIdxV (v := .slice ad1 p0.length cp2) (k := .i64) (j := s17) S (wN rfl) rfl rfl rfl hq48 rfl (lb rfl) fun a S => ?_
    exact leafL ⟨rfl, S⟩
  · refine fI 23 (.slice ad50 x33.length cp51) [(22, q47)] 7 [some 6] rfl rfl rfl rfl rfl rfl fun G a w S => ?_
    refine sLoadV1 (vq := q47) 0 (.slice ad50 x33.length cp51) S (wN rfl) rfl rfl rfl rfl rfl (lb rfl) fun a S => ?_
    exact leafL ⟨rfl, S⟩
  · refine fI 24 (.bool r40) [(19, .slice ad45 x26.length cp46), (23, .slice ad50 x33.length cp51)] 8 [some 3, some 7] rfl rfl rfl rfl rfl rfl fun G a w S => ?_
    have S1 := S.mem
    refine sCallQ (X := Unit) (f := 24) (vs := [.slice ad45 x26.length cp46, .slice ad50 x33.length cp51]) (val := fun _ => .bool r40) S (wN rfl) rfl callee24 rfl (S1.quiet [4, 1] rfl) (fun E1 w1 S1 => c_raddleref02_Same E1 w1 x26 (.slice ad45 x26.length cp46) x33 (.slice ad50 x33.length cp51) r40 hx41 S1) rfl (lb rfl) fun _ a w S => ?_
    exact leafL ⟨rfl, S⟩
  refine leafT (hK25 _ _ ?_)
  rcases iteSome h with ⟨hc52, h⟩ | ⟨hc52, h⟩
  rotate_left
  · refine sCondF S rfl hc52 ?_
    refine wp_skip (leafB (leafT (hK24 _ _ ?_)))
    refine sRegion ?_
    refine sMove (iv s17) S (wN rfl) (.inl rfl) rfl rfl (lb rfl) fun a S => ?_
    refine sBin (iv (w64 (s17 + 1))) S (wN rfl) rfl rfl rfl (bAdd _ _ _ _ s17 1) rfl (lb rfl) fun a S => ?_
    refine sMove (iv (w64 (s17 + 1))) S (wN rfl) (.inr rfl) rfl rfl (lb rfl) fun a S => ?_
    exact leafL (leafT (⟨w64 (s17 + 1), (Option.some.inj h).symm, (S.fix [] [6] (by decide) rfl rfl rfl)⟩))
  refine sCondT S rfl hc52 ?_
  refine sSeq (fun K53 hK53 => ?_)
  refine sRegion ?_
  refine sMove (.bool true) S (wN rfl) (.inr rfl) rfl rfl (lb rfl) fun a S => ?_
  refine leafL (leafT (hK53 _ _ ?_))
  obtain rfl := Option.some.inj h
  obtain rfl := hu18 _ rfl
  have h := g19
  clear g19
  try dsimp only at h
  obtain rfl := Option.some.inj h
  have h := g15
  clear g15
  try dsimp only at h
  obtain rfl := Option.some.inj h
  obtain rfl := hu8 _ rfl
  have h := g9
  clear g9
  try dsimp only at h
  obtain rfl := Option.some.inj h
  have h := g5
  clear g5
  try dsimp only at h
  obtain rfl := Option.some.inj h
  exact wp_ret (rBlock (rThen (rThen (rBlock (rBlock (rThen (rThen (rBlock (rThen (sRet (.bool true) S (rsl1 rfl (rvT (t := 2) (v := .bool true) S rfl)) ⟨(), rfl, S.mem.sel [] [] (by decide) rfl rfl⟩))))))))))

end Go.Proofs.Ythfifeabomdlpaa
namespace Go.Proofs.Ythfifeabomdlpaa
open Go.RowKit
set_option linter.unusedVariables false

def anc_raddleref13_Blocks_0 : List (List Nat) := [[], [], [1], [0, 1, 2], [0, 1, 2, 3], [0, 1, 2, 3, 4], [0, 1, 2, 3, 4], [0, 1, 2, 3, 4, 5, 6], [0, 1, 2, 3, 4, 5, 6, 7], [0, 1, 2, 3, 4], [0, 1, 2, 3, 4], [0, 1, 2, 3, 4], [0, 1, 2, 3, 4], [0, 1, 2, 3, 4, 11, 12], [0, 1, 2, 3, 4, 9, 10, 11, 12, 13], [0, 1, 2, 3, 4, 5, 6, 7, 8, 9, 10, 11, 12, 13, 14], [0, 1, 2, 3, 4, 5, 6, 7, 8, 9, 10, 11, 12, 13, 14, 15], [0, 1, 2, 3, 4, 5, 6, 7, 8, 9, 10, 11, 12, 13, 14, 15, 16]]
noncomputable def raddleref13_Blocks_l1 (p1 : (List (List Int))) (p0 : (List Int)) (s48 : Int) (x25 : (List Int)) : Int → Option (Int ⊕ Int) := fun s0 => match s0 with
  | s67 =>
    Option.bind (α := Bool) (
      if decide (s67 < (p1.length : Int)) then
        Option.bind (idxO p1 s67) fun x77 =>
        Option.bind (sliceO p0 s48 (w64 (s48 + (x25.length : Int)))) fun y84 =>
        Option.bind (F_raddleref02_Same x77 y84) fun r88 =>
        some (!r88)
      else
        some false) fun o73 =>
    if o73 then
      some (.inl (w64 (s67 + 1)))
    else
      some (.inr s67)
noncomputable def raddleref13_Blocks_l2 (p0 : (List Int)) (p1 : (List (List Int))) (x25 : (List Int)) : (List Int × Int) → Option ((List Int × Int) ⊕ (((List Int) × Int) ⊕ (List Int))) := fun s0 => match s0 with
  | (s45, s48) =>
    if decide (s48 < (p0.length : Int)) then
      Option.bind (α := List Int ⊕ ((List Int) × Int)) (
        Option.bind (α := Int) (
          Option.bind (whileO (raddleref13_Blocks_l1 p1 p0 s48 x25) 0) fun e71 =>
            some e71) fun o64 =>
        if o64 == (p1.length : Int) then
          some (.inr (([] : (List Int)), 6))
        else
          Option.bind (appO s45 ([o64] : List Int)) fun l104 =>
          some (.inl l104)) fun z0 => match z0 with
        | .inl o58 =>
          some (.inl (o58, w64 (s48 + (x25.length : Int))))
        | .inr z =>
          some (.inr (.inl z))
    else
      some (.inr (.inr s45))
noncomputable def F_raddleref13_Blocks (p0 : (List Int)) (p1 : (List (List Int))) : Option ((List Int) × Int) :=
  Option.bind (F_raddleref02_Check p0) fun r8 =>
  if r8 != 0 then
    some (([] : (List Int)), r8)
  else
    Option.bind (F_raddleref13_Spelled p1) fun r14 =>
    if r14 != 0 then
      some (([] : (List Int)), r14)
    else
      Option.bind (F_raddleref13_Twice p1) fun r20 =>
      if r20 then
        some (([] : (List Int)), 14)
      else
        Option.bind (idxO p1 0) fun x25 =>
        Option.bind (remI (p0.length : Int) (x25.length : Int)) fun z34 =>
        if z34 != 0 then
          some (([] : (List Int)), 26)
        else
          Option.bind (α := List Int ⊕ ((List Int) × Int)) (
            Option.bind (whileO (raddleref13_Blocks_l2 p0 p1 x25) (([] : List Int), 0)) fun z0 => match z0 with
              | .inl z =>
                some (.inr z)
              | .inr e52 =>
                some (.inl e52)) fun z0 => match z0 with
            | .inl o39 =>
              some (o39, 0)
            | .inr z =>
              some z
def c_raddleref13_Blocks_val (r : ((List Int) × Int)) (x : Value) : Value := .tuple #[x, .int .i64 r.2]
def c_raddleref13_Blocks_D (r : ((List Int) × Int)) (x : Value) : List Fact := [fRep (rL (rI .i64)) x r.1]
set_option maxHeartbeats 4000000 in
set_option maxRecDepth 100000 in
theorem c_raddleref13_Blocks (E : Nat → Prop) (w0 : World) (p0 : (List Int)) (v0 : Value) (p1 : (List (List Int))) (v1 : Value) (r : ((List Int) × Int)) (h : F_raddleref13_Blocks p0 p1 = some r) (S : St0 E [] w0 w0 [] [fRep (rL (rI .i64)) (v0) p0, fRep (rL (rL (rI .i64))) (v1) p1]) :
    Calls Try.prog 30 #[v0, v1] w0 (Ret (X := Value) E [] w0 (c_raddleref13_Blocks_val r) (fun _ => []) (c_raddleref13_Blocks_D r)) := by
  unfold F_raddleref13_Blocks at h
  obtain ⟨ad1, cp2, _, rfl, _⟩ := S.know (i := 0) (e := fRep (rL (rI .i64)) (v0) p0) rfl
  obtain ⟨ad3, cp4, _, rfl, _⟩ := S.know (i := 1) (e := fRep (rL (rL (rI .i64))) (v1) p1) rfl
  refine sEnter (args := [.slice ad1 p0.length cp2, .slice ad3 p1.length cp4]) 67 Try.func30 rfl rfl (by simp) S (fun a S => ?_)
  refine sSeq (fun K5 hK5 => ?_)
  refine sRegion ?_
  refine sMove (.slice none 0 0) S (wN rfl) (.inr rfl) rfl rfl (lb rfl) fun a S => ?_
  refine sMove (iv 0) S (wN rfl) (.inr rfl) rfl rfl (lb rfl) fun a S => ?_
  refine leafL (leafT (hK5 _ _ ?_))
  refine sSeq (fun K6 hK6 => ?_)
  refine sSeq (fun K7 hK7 => ?_)
  refine sRegion ?_
  refine sMove (.slice ad1 p0.length cp2) S (wN rfl) (.inl rfl) rfl rfl (lb rfl) fun a S => ?_
  obtain ⟨r8, hx9, h⟩ := bindSome h
  have S1 := S.mem
  refine sCallQ (X := Unit) (f := 37) (vs := [.slice ad1 p0.length cp2]) (val := fun _ => iv r8) S (wN rfl) rfl callee37 rfl (S1.quiet [0] rfl) (fun E1 w1 S1 => c_raddleref02_Check E1 w1 p0 (.slice ad1 p0.length cp2) r8 hx9 S1) rfl (lb rfl) fun _ a w S => ?_
  refine sBin (.bool (r8 != 0)) S (wN rfl) rfl rfl rfl (bNe _ _ _ _ .i64 r8 0) rfl (lb rfl) fun a S => ?_
  refine leafL (leafT (hK7 _ _ ?_))
  rcases iteSome h with ⟨hc10, h⟩ | ⟨hc10, h⟩
  · refine sCondT S rfl hc10 ?_
    refine sSeq (fun K11 hK11 => ?_)
    refine sRegion ?_
    refine sMove (.slice ad1 p0.length cp2) S (wN rfl) (.inl rfl) rfl rfl (lb rfl) fun a S => ?_
    have S1 := S.mem
    refine sCallQ (X := Unit) (f := 37) (vs := [.slice ad1 p0.length cp2]) (val := fun _ => iv r8) S (wN rfl) rfl callee37 rfl (S1.quiet [0] rfl) (fun E1 w1 S1 => c_raddleref02_Check E1 w1 p0 (.slice ad1 p0.length cp2) r8 hx9 S1) rfl (lb rfl) fun _ a w S => ?_
    refine sMove (.slice none 0 0) S (wN rfl) (.inr rfl) rfl rfl (lb rfl) fun a S => ?_
    refine sMove (iv r8) S (wN rfl) (.inr rfl) rfl rfl (lb rfl) fun a S => ?_
    refine leafL (leafT (hK11 _ _ ?_))
    obtain rfl := Option.some.inj h
    have S := S.learn (fRep (rL (rI .i64)) (.slice none 0 0) ([] : (List Int))) (rL_nil _ _ _)
    exact wp_ret (rThen (sRet (.tuple #[.slice none 0 0, iv r8]) S (rsl2 rfl (rvT (t := 4) (v := .slice none 0 0) S rfl) (rvT (t := 5) (v := iv r8) S rfl)) ⟨(.slice none 0 0), rfl, S.mem.sel [] [0] (by decide) rfl rfl⟩))
  refine sCondF S rfl hc10 ?_
  refine wp_skip (leafT (hK6 _ _ ?_))
  refine sSeq (fun K12 hK12 => ?_)
  refine sSeq (fun K13 hK13 => ?_)
  refine sRegion ?_
  refine sMove (.slice ad3 p1.length cp4) S (wN rfl) (.inl rfl) rfl rfl (lb rfl) fun a S => ?_
  obtain ⟨r14, hx15, h⟩ := bindSome h
  have S1 := S.mem
  refine sCallQ (X := Unit) (f := 36) (vs := [.slice ad3 p1.length cp4]) (val := fun _ => iv r14) S (wN rfl) rfl callee36 rfl (S1.quiet [1] rfl) (fun E1 w1 S1 => c_raddleref13_Spelled E1 w1 p1 (.slice ad3 p1.length cp4) r14 hx15 S1) rfl (lb rfl) fun _ a w S => ?_
  refine sBin (.bool (r14 != 0)) S (wN rfl) rfl rfl rfl (bNe _ _ _ _ .i64 r14 0) rfl (lb rfl) fun a S => ?_
  refine leafL (leafT (hK13 _ _ ?_))
  rcases iteSome h with ⟨hc16, h⟩ | ⟨hc16, h⟩
  · refine sCondT S rfl hc16 ?_
    refine sSeq (fun K17 hK17 => ?_)
    refine sRegion ?_
    refine sMove (.slice ad3 p1.length cp4) S (wN rfl) (.inl rfl) rfl rfl (lb rfl) fun a S => ?_
    have S1 := S.mem
    refine sCallQ (X := Unit) (f := 36) (vs := [.slice ad3 p1.length cp4]) (val := fun _ => iv r14) S (wN rfl) rfl callee36 rfl (S1.quiet [1] rfl) (fun E1 w1 S1 => c_raddleref13_Spelled E1 w1 p1 (.slice ad3 p1.length cp4) r14 hx15 S1) rfl (lb rfl) fun _ a w S => ?_
    refine sMove (.slice none 0 0) S (wN rfl) (.inr rfl) rfl rfl (lb rfl) fun a S => ?_
    refine sMove (iv r14) S (wN rfl) (.inr rfl) rfl rfl (lb rfl) fun a S => ?_
    refine leafL (leafT (hK17 _ _ ?_))
    obtain rfl := Option.some.inj h
    have S := S.learn (fRep (rL (rI .i64)) (.slice none 0 0) ([] : (List Int))) (rL_nil _ _ _)
    exact wp_ret (rThen (sRet (.tuple #[.slice none 0 0, iv r14]) S (rsl2 rfl (rvT (t := 4) (v := .slice none 0 0) S rfl) (rvT (t := 5) (v := iv r14) S rfl)) ⟨(.slice none 0 0), rfl, S.mem.sel [] [0] (by decide) rfl rfl⟩))
  refine sCondF S rfl hc16 ?_
  refine wp_skip (leafT (hK12 _ _ ?_))
  refine sSeq (fun K18 hK18 => ?_)
  refine sSeq (fun K19 hK19 => ?_)
  refine sRegion ?_
  refine sMove (.slice ad3 p1.length cp4) S (wN rfl) (.inl rfl) rfl rfl (lb rfl) fun a S => ?_
  obtain ⟨r20, hx21, h⟩ := bindSome h
  have S1 := S.mem
  refine sCallQ (X := Unit) (f := 38) (vs := [.slice ad3 p1.length cp4]) (val := fun _ => .bool r20) S (wN rfl) rfl callee38 rfl (S1.quiet [1] rfl) (fun E1 w1 S1 => c_raddleref13_Twice E1 w1 p1 (.slice ad3 p1.length cp4) r20 hx21 S1) rfl (lb rfl) fun _ a w S => ?_
  refine leafL (leafT (hK19 _ _ ?_))
  rcases iteSome h with ⟨hc22, h⟩ | ⟨hc22, h⟩
  · refine sCondT S rfl hc22 ?_
    refine sSeq (fun K23 hK23 => ?_)
    refine sRegion ?_
    refine sMove (.slice none 0 0) S (wN rfl) (.inr rfl) rfl rfl (lb rfl) fun a S => ?_
    refine sMove (iv 14) S (wN rfl) (.inr rfl) rfl rfl (lb rfl) fun a S => ?_
    refine leafL (leafT (hK23 _ _ ?_))
    obtain rfl := Option.some.inj h
    have S := S.learn (fRep (rL (rI .i64)) (.slice none 0 0) ([] : (List Int))) (rL_nil _ _ _)
    exact wp_ret (rThen (sRet (.tuple #[.slice none 0 0, iv 14]) S (rsl2 rfl (rvT (t := 4) (v := .slice none 0 0) S rfl) (rvT (t := 5) (v := iv 14) S rfl)) ⟨(.slice none 0 0), rfl, S.mem.sel [] [0] (by decide) rfl rfl⟩))
  refine sCondF S rfl hc22 ?_
  refine wp_skip (leafT (hK18 _ _ ?_))
  refine sSeq (fun K24 hK24 => ?_)
  refine sRegion ?_
  refine sMove (.slice ad3 p1.length cp4) S (wN rfl) (.inl rfl) rfl rfl (lb rfl) fun a S => ?_
  obtain ⟨x25, hx26, h⟩ := bindSome h
  obtain ⟨q27, hq28, S⟩ := pIdx (P := Try.prog) (r := (rL (rI .i64))) (v := .slice ad3 p1.length cp4) (xs := p1) (j := 0) 46 35 1 S Try.underlying46 rfl rfl hx26
  refine sIdxV (v := .slice ad3 p1.length cp4) (k := .i64) (j := 0) S (wN rfl) rfl rfl rfl hq28 rfl (lb rfl) fun a S => ?_
  obtain ⟨u29, S⟩ := pLoad (r := (rL (rI .i64))) (q := q27) (x := x25) 0 S rfl
  obtain ⟨ad30, cp31, _, rfl, _⟩ := S.mem.know (i := 1) (e := fRep (rL (rI .i64)) (u29) x25) rfl
  refine sLoadV1 (vq := q27) 0 (.slice ad30 x25.length cp31) S (wN rfl) rfl rfl rfl rfl rfl (lb rfl) fun a S => ?_
  refine sLen (ad := ad30) (m := x25.length) (c := cp31) S (wN rfl) rfl Try.underlying35 rfl rfl (lb rfl) fun a S => ?_
  refine sMove (iv (x25.length : Int)) S (wN rfl) (.inr rfl) rfl rfl (lb rfl) fun a S => ?_
  refine leafL (leafT (hK24 _ _ ?_))
  refine sSeq (fun K32 hK32 => ?_)
  refine sSeq (fun K33 hK33 => ?_)
  refine sRegion ?_
  refine sMove (.slice ad1 p0.length cp2) S (wN rfl) (.inl rfl) rfl rfl (lb rfl) fun a S => ?_
  refine sLen (ad := ad1) (m := p0.length) (c := cp2) S (wN rfl) rfl Try.underlying35 rfl rfl (lb rfl) fun a S => ?_
  refine sMove (iv (x25.length : Int)) S (wN rfl) (.inl rfl) rfl rfl (lb rfl) fun a S => ?_
  obtain ⟨z34, hx35, h⟩ := bindSome h
  refine sBin (iv z34) S (wN rfl) rfl rfl rfl (bRem _ _ _ _ (x := (p0.length : Int)) (y := (x25.length : Int)) hx35) rfl (lb rfl) fun a S => ?_
  refine sBin (.bool (z34 != 0)) S (wN rfl) rfl rfl rfl (bNe _ _ _ _ .i64 z34 0) rfl (lb rfl) fun a S => ?_
  refine leafL (leafT (hK33 _ _ ?_))
  rcases iteSome h with ⟨hc36, h⟩ | ⟨hc36, h⟩
  · refine sCondT S rfl hc36 ?_
    refine sSeq (fun K37 hK37 => ?_)
    refine sRegion ?_
    refine sMove (.slice none 0 0) S (wN rfl) (.inr rfl) rfl rfl (lb rfl) fun a S => ?_
    refine sMove (iv 26) S (wN rfl) (.inr rfl) rfl rfl (lb rfl) fun a S => ?_
    refine leafL (leafT (hK37 _ _ ?_))
    obtain rfl := Option.some.inj h
    have S := S.learn (fRep (rL (rI .i64)) (.slice none 0 0) ([] : (List Int))) (rL_nil _ _ _)
    exact wp_ret (rThen (sRet (.tuple #[.slice none 0 0, iv 26]) S (rsl2 rfl (rvT (t := 4) (v := .slice none 0 0) S rfl) (rvT (t := 5) (v := iv 26) S rfl)) ⟨(.slice none 0 0), rfl, S.mem.sel [] [0] (by decide) rfl rfl⟩))
  refine sCondF S rfl hc36 ?_
  refine wp_skip (leafT (hK32 _ _ ?_))
  refine sSeq (fun K38 hK38 => ?_)
  refine sRegion ?_
  refine sMove (.slice none 0 0) S (wN rfl) (.inr rfl) rfl rfl (lb rfl) fun a S => ?_
  refine leafL (leafT (hK38 _ _ ?_))
  obtain ⟨t42, h, g43⟩ := bindSome h
  refine sCut (fun a w => ∃ o39, .inl o39 = t42 ∧ ∃ ad40, ∃ cp41, St [] E [] w0 67 a w [(7, .slice ad40 o39.length cp41)] [eRow (rI .i64) 3 (.slice ad40 o39.length cp41) o39] []) ?_ (fun a w hI => ?_)
  rotate_left
  · obtain ⟨o39, rfl, ad40, cp41, S⟩ := hI
    have h := g43
    clear g43
    try dsimp only at h
    refine sSeq (fun K108 hK108 => ?_)
    refine sRegion ?_
    refine sMove (.slice ad40 o39.length cp41) S (wN rfl) (.inl rfl) rfl rfl (lb rfl) fun a S => ?_
    refine sMove (.slice ad40 o39.length cp41) S (wN rfl) (.inr rfl) rfl rfl (lb rfl) fun a S => ?_
    refine sMove (iv 0) S (wN rfl) (.inr rfl) rfl rfl (lb rfl) fun a S => ?_
    refine leafL (leafT (hK108 _ _ ?_))
    obtain rfl := Option.some.inj h
    have S := S.shutR (r := (rI .i64)) (T := 3) (v := .slice ad40 o39.length cp41) (xs := o39) 0 rfl
    exact wp_ret (sRet (.tuple #[.slice ad40 o39.length cp41, iv 0]) S (rsl2 rfl (rvT (t := 4) (v := .slice ad40 o39.length cp41) S rfl) (rvT (t := 5) (v := iv 0) S rfl)) ⟨(.slice ad40 o39.length cp41), rfl, S.mem.sel [] [0] (by decide) rfl rfl⟩)
  refine sSeq (fun K44 hK44 => ?_)
  refine sRegion ?_
  refine sMove (iv 0) S (wN rfl) (.inr rfl) rfl rfl (lb rfl) fun a S => ?_
  refine leafL (leafT (hK44 _ _ ?_))
  refine wp_block ?_
  have S := S.nilRow (rI .i64) 3 (α := Int)
  obtain ⟨t51, hl, g50⟩ := bindSome h
  refine sLoop hl (fun s0 a w => match s0 with | (s45, s48) => ∃ ad46, ∃ cp47, St [] E [] w0 67 a w [(0, .slice ad1 p0.length cp2), (1, .slice ad3 p1.length cp4), (6, iv (x25.length : Int)), (7, .slice ad46 s45.length cp47), (8, iv s48)] [eRow (rI .i64) 3 (.slice ad46 s45.length cp47) s45] [fRep (rL (rI .i64)) (.slice ad1 p0.length cp2) p0, fRep (rL (rL (rI .i64))) (.slice ad3 p1.length cp4) p1]) ⟨none, 0, S.fix [0] [3, 4] (by decide) rfl rfl rfl⟩ ?_
  clear hl h
  intro s0 a w c0 hI h hu49
  obtain ⟨s45, s48⟩ := s0
  unfold raddleref13_Blocks_l2 at h
  dsimp only at h hI
  obtain ⟨ad46, cp47, S⟩ := hI
  refine sSeq (fun K55 hK55 => ?_)
  refine sSeq (fun K56 hK56 => ?_)
  refine sRegion ?_
  refine sMove (iv s48) S (wN rfl) (.inl rfl) rfl rfl (lb rfl) fun a S => ?_
  refine sMove (.slice ad1 p0.length cp2) S (wN rfl) (.inl rfl) rfl rfl (lb rfl) fun a S => ?_
  refine sLen (ad := ad1) (m := p0.length) (c := cp2) S (wN rfl) rfl Try.underlying35 rfl rfl (lb rfl) fun a S => ?_
  refine sBin (.bool (decide (s48 < (p0.length : Int)))) S (wN rfl) rfl rfl rfl (bLt _ _ _ _ .i64 s48 (p0.length : Int)) rfl (lb rfl) fun a S => ?_
  refine leafL (leafT (hK56 _ _ ?_))
  rcases iteSome h with ⟨hc57, h⟩ | ⟨hc57, h⟩
  rotate_left
  · refine sCondF S rfl hc57 ?_
    obtain rfl := Option.some.inj h
    obtain rfl := hu49 _ rfl
    have h := g50
    clear g50
    try dsimp only at h
    exact wp_exit (xThen (xThen (xHit (leafT (⟨s45, Option.some.inj h, ad46, cp47, S.fix [0] [] (by decide) rfl rfl rfl⟩)))))
  refine sCondT S rfl hc57 ?_
  refine wp_skip (leafT (hK55 _ _ ?_))
  obtain ⟨t61, h, g62⟩ := bindSome h
  refine sCut (fun a w => ∃ o58, .inl o58 = t61 ∧ ∃ ad59, ∃ cp60, St [] E [] w0 67 a w [(0, .slice ad1 p0.length cp2), (1, .slice ad3 p1.length cp4), (6, iv (x25.length : Int)), (7, .slice ad59 o58.length cp60), (8, iv s48)] [eRow (rI .i64) 3 (.slice ad59 o58.length cp60) o58] [fRep (rL (rI .i64)) (.slice ad1 p0.length cp2) p0, fRep (rL (rL (rI .i64))) (.slice ad3 p1.length cp4) p1]) ?_ (fun a w hI => ?_)
  rotate_left
  · obtain ⟨o58, rfl, ad59, cp60, S⟩ := hI
    have h := g62
    clear g62
    try dsimp only at h
    refine sRegion ?_
    refine sMove (iv s48) S (wN rfl) (.inl rfl) rfl rfl (lb rfl) fun a S => ?_
    refine sMove (iv (x25.length : Int)) S (wN rfl) (.inl rfl) rfl rfl (lb rfl) fun a S => ?_
    refine sBin (iv (w64 (s48 + (x25.length : Int)))) S (wN rfl) rfl rfl rfl (bAdd _ _ _ _ s48 (x25.length : Int)) rfl (lb rfl) fun a S => ?_
    refine sMove (iv (w64 (s48 + (x25.length : Int)))) S (wN rfl) (.inr rfl) rfl rfl (lb rfl) fun a S => ?_
    exact leafL (leafT (⟨(o58, w64 (s48 + (x25.length : Int))), (Option.some.inj h).symm, ⟨ad59, cp60, S.fix [0] [0, 1] (by decide) rfl rfl rfl⟩⟩))
  refine wp_block ?_
  refine sSeq (fun K63 hK63 => ?_)
  refine sRegion ?_
  refine sMove (iv 0) S (wN rfl) (.inr rfl) rfl rfl (lb rfl) fun a S => ?_
  refine leafL (leafT (hK63 _ _ ?_))
  obtain ⟨t65, h, g66⟩ := bindSome h
  refine sCut (fun a w => ∃ o64, o64 = t65 ∧ St [] E [] w0 67 a w [(0, .slice ad1 p0.length cp2), (1, .slice ad3 p1.length cp4), (6, iv (x25.length : Int)), (7, .slice ad46 s45.length cp47), (8, iv s48), (9, iv o64)] [eRow (rI .i64) 3 (.slice ad46 s45.length cp47) s45] [fRep (rL (rI .i64)) (.slice ad1 p0.length cp2) p0, fRep (rL (rL (rI .i64))) (.slice ad3 p1.length cp4) p1]) ?_ (fun a w hI => ?_)
  rotate_left
  · obtain ⟨o64, rfl, S⟩ := hI
    have h := g66
    clear g66
    try dsimp only at h
    refine sSeq (fun K98 hK98 => ?_)
    refine sSeq (fun K99 hK99 => ?_)
    refine sRegion ?_
    refine sMove (iv o64) S (wN rfl) (.inl rfl) rfl rfl (lb rfl) fun a S => ?_
    refine sMove (.slice ad3 p1.length cp4) S (wN rfl) (.inl rfl) rfl rfl (lb rfl) fun a S => ?_
    refine sLen (ad := ad3) (m := p1.length) (c := cp4) S (wN rfl) rfl Try.underlying46 rfl rfl (lb rfl) fun a S => ?_
    refine sBin (.bool (o64 == (p1.length : Int))) S (wN rfl) rfl rfl rfl (bEq _ _ _ _ .i64 o64 (p1.length : Int)) rfl (lb rfl) fun a S => ?_
    refine leafL (leafT (hK99 _ _ ?_))
    rcases iteSome h with ⟨hc100, h⟩ | ⟨hc100, h⟩
    · refine sCondT S rfl hc100 ?_
      refine sSeq (fun K101 hK101 => ?_)
      refine sRegion ?_
      refine sMove (.slice none 0 0) S (wN rfl) (.inr rfl) rfl rfl (lb rfl) fun a S => ?_
      refine sMove (iv 6) S (wN rfl) (.inr rfl) rfl rfl (lb rfl) fun a S => ?_
      refine leafL (leafT (hK101 _ _ ?_))
      obtain rfl := Option.some.inj h
      have h := g62
      clear g62
      try dsimp only at h
      obtain rfl := Option.some.inj h
      obtain rfl := hu49 _ rfl
      have h := g50
      clear g50
      try dsimp only at h
      obtain rfl := Option.some.inj h
      have h := g43
      clear g43
      try dsimp only at h
      obtain rfl := Option.some.inj h
      have S := S.learn (fRep (rL (rI .i64)) (.slice none 0 0) ([] : (List Int))) (rL_nil _ _ _)
      exact wp_ret (rThen (rBlock (rThen (rThen (rBlock (rThen (sRet (.tuple #[.slice none 0 0, iv 6]) S (rsl2 rfl (rvT (t := 4) (v := .slice none 0 0) S rfl) (rvT (t := 5) (v := iv 6) S rfl)) ⟨(.slice none 0 0), rfl, S.mem.sel [] [0] (by decide) rfl rfl⟩)))))))
    refine sCondF S rfl hc100 ?_
    refine wp_skip (leafT (hK98 _ _ ?_))
    refine sRegion ?_
    refine sMove (.slice ad46 s45.length cp47) S (wN rfl) (.inl rfl) rfl rfl (lb rfl) fun a S => ?_
    refine sMove (iv o64) S (wN rfl) (.inl rfl) rfl rfl (lb rfl) fun a S => ?_
    refine sLit (r := (rI .i64)) (T := 3) (xs := ([o64] : List Int)) [(0, iv o64)] 1 [iv o64] [iv o64] (iv 0) 8 S (wN rfl) rfl rfl Try.underlying35 rfl (by decide) (by decide) (by kernel_rfl) rfl (fun E1 w1 hE => All.cons rfl (All.nil _ _ _)) rfl rfl (lb rfl) fun a w ad102 cp103 S => ?_
    obtain ⟨l104, hx105, h⟩ := bindSome h
    refine sApp (r := (rI .i64)) (T := 3) (xs := s45) (ys := ([o64] : List Int)) (v := .slice ad46 s45.length cp47) (u := .slice ad102 ([o64] : List Int).length cp103) 1 (iv 0) 8 S (wN rfl) rfl Try.underlying35 rfl rfl (by decide) rfl rfl rfl (src_R (T := 3) 0 S.mem rfl) hx105 rfl (lb rfl) fun a w ad106 cp107 S => ?_
    refine sMove (.slice ad106 l104.length cp107) S (wN rfl) (.inr rfl) rfl rfl (lb rfl) fun a S => ?_
    exact leafL (leafB (leafT (⟨l104, Option.some.inj h, ad106, cp107, S.fix [0] [0, 1] (by decide) rfl rfl rfl⟩)))
  refine wp_block ?_
  obtain ⟨t70, hl, g69⟩ := bindSome h
  refine sLoop hl (fun s0 a w => match s0 with | s67 => St [] E [] w0 67 a w [(0, .slice ad1 p0.length cp2), (1, .slice ad3 p1.length cp4), (6, iv (x25.length : Int)), (7, .slice ad46 s45.length cp47), (8, iv s48), (9, iv s67)] [eRow (rI .i64) 3 (.slice ad46 s45.length cp47) s45] [fRep (rL (rI .i64)) (.slice ad1 p0.length cp2) p0, fRep (rL (rL (rI .i64))) (.slice ad3 p1.length cp4) p1]) (S.fix [0] [0, 1] (by decide) rfl rfl rfl) ?_
  clear hl h
  intro s67 a w c0 hI h hu68
  unfold raddleref13_Blocks_l1 at h
  dsimp only at h hI
  have S := hI
  refine sSeq (fun K72 hK72 => ?_)
  obtain ⟨t74, h, g75⟩ := bindSome h
  refine sCut (fun a w => ∃ o73, o73 = t74 ∧ St [] E [] w0 67 a w [(0, .slice ad1 p0.length cp2), (1, .slice ad3 p1.length cp4), (6, iv (x25.length : Int)), (7, .slice ad46 s45.length cp47), (8, iv s48), (9, iv s67), (55, .bool o73)] [eRow (rI .i64) 3 (.slice ad46 s45.length cp47) s45] [fRep (rL (rI .i64)) (.slice ad1 p0.length cp2) p0, fRep (rL (rL (rI .i64))) (.slice ad3 p1.length cp4) p1]) ?_ (fun a w hI => ?_)
  rotate_left
  · obtain ⟨o73, rfl, S⟩ := hI
    have h := g75
    clear g75
    try dsimp only at h
    rcases iteSome h with ⟨hc97, h⟩ | ⟨hc97, h⟩
    rotate_left
    · refine sCondF S rfl hc97 ?_
      obtain rfl := Option.some.inj h
      obtain rfl := hu68 _ rfl
      have h := g69
      clear g69
      try dsimp only at h
      exact wp_exit (xThen (xThen (xHit (leafT (⟨s67, Option.some.inj h, S.fix [0] [0, 1] (by decide) rfl rfl rfl⟩)))))
    refine sCondT S rfl hc97 ?_
    refine wp_skip (leafT (hK72 _ _ ?_))
    refine wp_block ?_
    refine sRegion ?_
    refine sMove (iv s67) S (wN rfl) (.inl rfl) rfl rfl (lb rfl) fun a S => ?_
    refine sBin (iv (w64 (s67 + 1))) S (wN rfl) rfl rfl rfl (bAdd _ _ _ _ s67 1) rfl (lb rfl) fun a S => ?_
    refine sMove (iv (w64 (s67 + 1))) S (wN rfl) (.inr rfl) rfl rfl (lb rfl) fun a S => ?_
    exact leafL (leafB (leafT (⟨w64 (s67 + 1), (Option.some.inj h).symm, (S.fix [0] [0, 1] (by decide) rfl rfl rfl)⟩)))
  rcases iteSome h with ⟨hc76, h⟩ | ⟨hc76, h⟩
  rotate_left
  · refine sDraw (nf := []) (W := [(0, 38, iv s67), (1, 39, .slice ad3 p1.length cp4), (2, 40, iv (p1.length : Int)), (3, 41, .bool (decide (s67 < (p1.length : Int)))), (4, 42, .bool (decide (s67 < (p1.length : Int)))), (5, 43, undef), (6, 44, undef), (7, 45, undef), (8, 46, undef), (9, 47, undef), (10, 48, undef), (11, 49, undef), (12, 50, undef), (13, 51, undef), (14, 52, undef), (15, 53, undef), (16, 54, undef), (17, 55, .bool false)]) rfl S ?_
    refine node_by (A := anc_raddleref13_Blocks_0) (nf := []) (Y := []) (W := [(0, 38, iv s67), (1, 39, .slice ad3 p1.length cp4), (2, 40, iv (p1.length : Int)), (3, 41, .bool (decide (s67 < (p1.length : Int)))), (4, 42, .bool (decide (s67 < (p1.length : Int)))), (5, 43, undef), (6, 44, undef), (7, 45, undef), (8, 46, undef), (9, 47, undef), (10, 48, undef), (11, 49, undef), (12, 50, undef), (13, 51, undef), (14, 52, undef), (15, 53, undef), (16, 54, undef), (17, 55, .bool false)]) 18 (by kernel_rfl) (by kernel_rfl) (by kernel_rfl) (by kernel_rfl) (by kernel_rfl) [0, 1, 2, 3, 4, 5, 6, 7, 8, 9, 10, 11, 12, 13, 14, 15, 16, 17] (by kernel_rfl) (by decide) (by decide) (aF 0 17 (by decide) ?_ (aF 1 16 (by decide) ?_ (aF 2 15 (by decide) ?_ (aF 3 14 (by decide) ?_ (aF 4 13 (by decide) ?_ (aF 5 12 (by decide) ?_ (aF 6 11 (by decide) ?_ (aF 7 10 (by decide) ?_ (aF 8 9 (by decide) ?_ (aF 9 8 (by decide) ?_ (aF 10 7 (by decide) ?_ (aF 11 6 (by decide) ?_ (aF 12 5 (by decide) ?_ (aF 13 4 (by decide) ?_ (aF 14 3 (by decide) ?_ (aF 15 2 (by decide) ?_ (aF 16 1 (by decide) ?_ (aF 17 0 (by decide) ?_ (trivial))))))))))))))))))) [(0, .slice ad1 p0.length cp2), (1, .slice ad3 p1.length cp4), (6, iv (x25.length : Int)), (7, .slice ad46 s45.length cp47), (8, iv s48), (9, iv s67), (43, undef), (44, undef), (45, undef), (46, undef), (47, undef), (48, undef), (49, undef), (50, undef), (51, undef), (52, undef), (53, undef), (54, undef), (55, .bool false)] (fin_of [none, none, none, none, none, none, some 5, some 6, some 7, some 8, some 9, some 10, some 11, some 12, some 13, some 14, some 15, some 16, some 17] rfl (by kernel_rfl) (by kernel_rfl)) (fun _ a w S => ?_)
    · refine fI 38 (iv s67) [(9, iv s67)] 0 [none] rfl rfl rfl rfl rfl rfl fun G a w S => ?_
      refine sMove (iv s67) S (wN rfl) (.inl rfl) rfl rfl (lb rfl) fun a S => ?_
      exact leafL ⟨rfl, S⟩
    · refine fI 39 (.slice ad3 p1.length cp4) [(1, .slice ad3 p1.length cp4)] 1 [none] rfl rfl rfl rfl rfl rfl fun G a w S => ?_
      refine sMove (.slice ad3 p1.length cp4) S (wN rfl) (.inl rfl) rfl rfl (lb rfl) fun a S => ?_
      exact leafL ⟨rfl, S⟩
    · refine fI 40 (iv (p1.length : Int)) [(39, .slice ad3 p1.length cp4)] 2 [some 1] rfl rfl rfl rfl rfl rfl fun G a w S => ?_
      refine sLen (ad := ad3) (m := p1.length) (c := cp4) S (wN rfl) rfl Try.underlying46 rfl rfl (lb rfl) fun a S => ?_
      exact leafL ⟨rfl, S⟩
    · refine fI 41 (.bool (decide (s67 < (p1.length : Int)))) [(38, iv s67), (40, iv (p1.length : Int))] 3 [some 0, some 2] rfl rfl rfl rfl rfl rfl fun G a w S => ?_
      refine sBin (.bool (decide (s67 < (p1.length : Int)))) S (wN rfl) rfl rfl rfl (bLt _ _ _ _ .i64 s67 (p1.length : Int)) rfl (lb rfl) fun a S => ?_
      exact leafL ⟨rfl, S⟩
    · refine fI 42 (.bool (decide (s67 < (p1.length : Int)))) [(41, .bool (decide (s67 < (p1.length : Int))))] 4 [some 3] rfl rfl rfl rfl rfl rfl fun G a w S => ?_
      refine sMove (.bool (decide (s67 < (p1.length : Int)))) S (wN rfl) (.inl rfl) rfl rfl (lb rfl) fun a S => ?_
      exact leafL ⟨rfl, S⟩
    · refine fI 43 undef [(1, .slice ad3 p1.length cp4), (42, .bool (decide (s67 < (p1.length : Int))))] 5 [none, some 4] rfl rfl rfl rfl rfl rfl fun G a w S => ?_
      refine sSkip 4 true 42 43 S rfl rfl rfl hc76 rfl (lb rfl) fun a S => ?_
      exact leafL ⟨rfl, S⟩
    · refine fI 44 undef [(9, iv s67), (42, .bool (decide (s67 < (p1.length : Int))))] 6 [none, some 4] rfl rfl rfl rfl rfl rfl fun G a w S => ?_
      refine sSkip 4 true 42 44 S rfl rfl rfl hc76 rfl (lb rfl) fun a S => ?_
      exact leafL ⟨rfl, S⟩
    · refine fI 45 undef [(43, undef), (44, undef), (42, .bool (decide (s67 < (p1.length : Int))))] 7 [some 5, some 6, some 4] rfl rfl rfl rfl rfl rfl fun G a w S => ?_
      refine sSkip 4 true 42 45 S rfl rfl rfl hc76 rfl (lb rfl) fun a S => ?_
      exact leafL ⟨rfl, S⟩
    · refine fI 46 undef [(45, undef), (42, .bool (decide (s67 < (p1.length : Int))))] 8 [some 7, some 4] rfl rfl rfl rfl rfl rfl fun G a w S => ?_
      refine sSkip 4 true 42 46 S rfl rfl rfl hc76 rfl (lb rfl) fun a S => ?_
      exact leafL ⟨rfl, S⟩
    · refine fI 47 undef [(0, .slice ad1 p0.length cp2), (42, .bool (decide (s67 < (p1.length : Int))))] 9 [none, some 4] rfl rfl rfl rfl rfl rfl fun G a w S => ?_
      refine sSkip 4 true 42 47 S rfl rfl rfl hc76 rfl (lb rfl) fun a S => ?_
      exact leafL ⟨rfl, S⟩
    · refine fI 48 undef [(8, iv s48), (42, .bool (decide (s67 < (p1.length : Int))))] 10 [none, some 4] rfl rfl rfl rfl rfl rfl fun G a w S => ?_
      refine sSkip 4 true 42 48 S rfl rfl rfl hc76 rfl (lb rfl) fun a S => ?_
      exact leafL ⟨rfl, S⟩
    · refine fI 49 undef [(8, iv s48), (42, .bool (decide (s67 < (p1.length : Int))))] 11 [none, some 4] rfl rfl rfl rfl rfl rfl fun G a w S => ?_
      refine sSkip 4 true 42 49 S rfl rfl rfl hc76 rfl (lb rfl) fun a S => ?_
      exact leafL ⟨rfl, S⟩
    · refine fI 50 undef [(6, iv (x25.length : Int)), (42, .bool (decide (s67 < (p1.length : Int))))] 12 [none, some 4] rfl rfl rfl rfl rfl rfl fun G a w S => ?_
      refine sSkip 4 true 42 50 S rfl rfl rfl hc76 rfl (lb rfl) fun a S => ?_
      exact leafL ⟨rfl, S⟩
    · refine fI 51 undef [(49, undef), (50, undef), (42, .bool (decide (s67 < (p1.length : Int))))] 13 [some 11, some 12, some 4] rfl rfl rfl rfl rfl rfl fun G a w S => ?_
      refine sSkip 4 true 42 51 S rfl rfl rfl hc76 rfl (lb rfl) fun a S => ?_
      exact leafL ⟨rfl, S⟩
    · refine fI 52 undef [(47, undef), (48, undef), (51, undef), (42, .bool (decide (s67 < (p1.length : Int))))] 14 [some 9, some 10, some 13, some 4] rfl rfl rfl rfl rfl rfl fun G a w S => ?_
      refine sSkip 4 true 42 52 S rfl rfl rfl hc76 rfl (lb rfl) fun a S => ?_
      exact leafL ⟨rfl, S⟩
    · refine fI 53 undef [(46, undef), (52, undef), (42, .bool (decide (s67 < (p1.length : Int))))] 15 [some 8, some 14, some 4] rfl rfl rfl rfl rfl rfl fun G a w S => ?_
      refine sSkip 4 true 42 53 S rfl rfl rfl hc76 rfl (lb rfl) fun a S => ?_
      exact leafL ⟨rfl, S⟩
    · refine fI 54 undef [(53, undef), (42, .bool (decide (s67 < (p1.length : Int))))] 16 [some 15, some 4] rfl rfl rfl rfl rfl rfl fun G a w S => ?_
      refine sSkip 4 true 42 54 S rfl rfl rfl hc76 rfl (lb rfl) fun a S => ?_
      exact leafL ⟨rfl, S⟩
    · refine fI 55 (.bool false) [(42, .bool (decide (s67 < (p1.length : Int)))), (54, undef)] 17 [some 4, some 16] rfl rfl rfl rfl rfl rfl fun G a w S => ?_
      refine sPickF (.bool false) S (wN rfl) rfl rfl hc76 rfl rfl (lb rfl) fun a S => ?_
      exact leafL ⟨rfl, S⟩
    exact leafT (⟨false, Option.some.inj h, S.fix [0] [0, 1] (by decide) rfl rfl rfl⟩)
  obtain ⟨x77, hx78, h⟩ := bindSome h
  obtain ⟨y84, hx85, h⟩ := bindSome h
  obtain ⟨r88, hx89, h⟩ := bindSome h
  obtain ⟨q90, hq91, S⟩ := pIdx (P := Try.prog) (r := (rL (rI .i64))) (v := .slice ad3 p1.length cp4) (xs := p1) (j := s67) 46 35 1 S Try.underlying46 rfl rfl hx78
  obtain ⟨u92, S⟩ := pLoad (r := (rL (rI .i64))) (q := q90) (x := x77) 0 S rfl
  obtain ⟨ad93, cp94, _, rfl, _⟩ := S.mem.know (i := 1) (e := fRep (rL (rI .i64)) (u92) x77) rfl
  refine sDraw (nf := [14]) (W := [(0, 38, iv s67), (1, 39, .slice ad3 p1.length cp4), (2, 40, iv (p1.length : Int)), (3, 41, .bool (decide (s67 < (p1.length : Int)))), (4, 42, .bool (decide (s67 < (p1.length : Int)))), (5, 43, .slice ad3 p1.length cp4), (6, 44, iv s67), (7, 45, q90), (8, 46, .slice ad93 x77.length cp94), (9, 47, .slice ad1 p0.length cp2), (10, 48, iv s48), (11, 49, iv s48), (12, 50, iv (x25.length : Int)), (13, 51, iv (w64 (s48 + (x25.length : Int))))]) rfl S ?_
  refine node_by (A := anc_raddleref13_Blocks_0) (nf := [14]) (Y := []) (W := [(0, 38, iv s67), (1, 39, .slice ad3 p1.length cp4), (2, 40, iv (p1.length : Int)), (3, 41, .bool (decide (s67 < (p1.length : Int)))), (4, 42, .bool (decide (s67 < (p1.length : Int)))), (5, 43, .slice ad3 p1.length cp4), (6, 44, iv s67), (7, 45, q90), (8, 46, .slice ad93 x77.length cp94), (9, 47, .slice ad1 p0.length cp2), (10, 48, iv s48), (11, 49, iv s48), (12, 50, iv (x25.length : Int)), (13, 51, iv (w64 (s48 + (x25.length : Int))))]) 18 (by kernel_rfl) (by kernel_rfl) (by kernel_rfl) (by kernel_rfl) (by kernel_rfl) [0, 1, 2, 3, 4, 5, 6, 7, 8, 9, 10, 11, 12, 13] (by kernel_rfl) (by decide) (by decide) (aF 0 17 (by decide) ?_ (aF 1 16 (by decide) ?_ (aF 2 15 (by decide) ?_ (aF 3 14 (by decide) ?_ (aF 4 13 (by decide) ?_ (aF 5 12 (by decide) ?_ (aF 6 11 (by decide) ?_ (aF 7 10 (by decide) ?_ (aF 8 9 (by decide) ?_ (aF 9 8 (by decide) ?_ (aF 10 7 (by decide) ?_ (aF 11 6 (by decide) ?_ (aF 12 5 (by decide) ?_ (aF 13 4 (by decide) ?_ (aN 14 3 (by decide) ?_ (aE 15 2 14 (by decide) (aE 16 1 14 (by decide) (aE 17 0 14 (by decide) (trivial))))))))))))))))))) [] (fun q hq => by cases hq) (fun hY => absurd (hY 14 (by decide)) (by decide))
  · refine fI 38 (iv s67) [(9, iv s67)] 0 [none] rfl rfl rfl rfl rfl rfl fun G a w S => ?_
    refine sMove (iv s67) S (wN rfl) (.inl rfl) rfl rfl (lb rfl) fun a S => ?_
    exact leafL ⟨rfl, S⟩
  · refine fI 39 (.slice ad3 p1.length cp4) [(1, .slice ad3 p1.length cp4)] 1 [none] rfl rfl rfl rfl rfl rfl fun G a w S => ?_
    refine sMove (.slice ad3 p1.length cp4) S (wN rfl) (.inl rfl) rfl rfl (lb rfl) fun a S => ?_
    exact leafL ⟨rfl, S⟩
  · refine fI 40 (iv (p1.length : Int)) [(39, .slice ad3 p1.length cp4)] 2 [some 1] rfl rfl rfl rfl rfl rfl fun G a w S => ?_
    refine sLen (ad := ad3) (m := p1.length) (c := cp4) S (wN rfl) rfl Try.underlying46 rfl rfl (lb rfl) fun a S => ?_
    exact leafL ⟨rfl, S⟩
  · refine fI 41 (.bool (decide (s67 < (p1.length : Int)))) [(38, iv s67), (40, iv (p1.length : Int))] 3 [some 0, some 2] rfl rfl rfl rfl rfl rfl fun G a w S => ?_
    refine sBin (.bool (decide (s67 < (p1.length : Int)))) S (wN rfl) rfl rfl rfl (bLt _ _ _ _ .i64 s67 (p1.length : Int)) rfl (lb rfl) fun a S => ?_
    exact leafL ⟨rfl, S⟩
  · refine fI 42 (.bool (decide (s67 < (p1.length : Int)))) [(41, .bool (decide (s67 < (p1.length : Int))))] 4 [some 3] rfl rfl rfl rfl rfl rfl fun G a w S => ?_
    refine sMove (.bool (decide (s67 < (p1.length : Int)))) S (wN rfl) (.inl rfl) rfl rfl (lb rfl) fun a S => ?_
    exact leafL ⟨rfl, S⟩
  · refine fI 43 (.slice ad3 p1.length cp4) [(1, .slice ad3 p1.length cp4), (42, .bool (decide (s67 < (p1.length : Int))))] 5 [none, some 4] rfl rfl rfl rfl rfl rfl fun G a w S => ?_
    refine sMove (.slice ad3 p1.length cp4) S (wG 4 true 42 rfl rfl rfl hc76) (.inl rfl) rfl rfl (lb rfl) fun a S => ?_
    exact leafL ⟨rfl, S⟩
  · refine fI 44 (iv s67) [(9, iv s67), (42, .bool (decide (s67 < (p1.length : Int))))] 6 [none, some 4] rfl rfl rfl rfl rfl rfl fun G a w S => ?_
    refine sMove (iv s67) S (wG 4 true 42 rfl rfl rfl hc76) (.inl rfl) rfl rfl (lb rfl) fun a S => ?_
    exact leafL ⟨rfl, S⟩
  · refine fI 45 q90 [(43, .slice ad3 p1.length cp4), (44, iv s67), (42, .bool (decide (s67 < (p1.length : Int))))] 7 [some 5, some 6, some 4] rfl rfl rfl rfl rfl rfl fun G a w S => ?_
    refine sIdxV (v := .slice ad3 p1.length cp4) (k := .i64) (j := s67) S (wG 4 true 42 rfl rfl rfl hc76) rfl rfl rfl hq91 rfl (lb rfl) fun a S => ?_
    exact leafL ⟨rfl, S⟩
  · refine fI 46 (.slice ad93 x77.length cp94) [(45, q90), (42, .bool (decide (s67 < (p1.length : Int))))] 8 [some 7, some 4] rfl rfl rfl rfl rfl rfl fun G a w S => ?_
    refine sLoadV1 (vq := q90) 0 (.slice ad93 x77.length cp94) S (wG 4 true 42 rfl rfl rfl hc76) rfl rfl rfl rfl rfl (lb rfl) fun a S => ?_
    exact leafL ⟨rfl, S⟩
  · refine fI 47 (.slice ad1 p0.length cp2) [(0, .slice ad1 p0.length cp2), (42, .bool (decide (s67 < (p1.length : Int))))] 9 [none, some 4] rfl rfl rfl rfl rfl rfl fun G a w S => ?_
    refine sMove (.slice ad1 p0.length cp2) S (wG 4 true 42 rfl rfl rfl hc76) (.inl rfl) rfl rfl (lb rfl) fun a S => ?_
    exact leafL ⟨rfl, S⟩
  · refine fI 48 (iv s48) [(8, iv s48), (42, .bool (decide (s67 < (p1.length : Int))))] 10 [none, some 4] rfl rfl rfl rfl rfl rfl fun G a w S => ?_
    refine sMove (iv s48) S (wG 4 true 42 rfl rfl rfl hc76) (.inl rfl) rfl rfl (lb rfl) fun a S => ?_
    exact leafL ⟨rfl, S⟩
  · refine fI 49 (iv s48) [(8, iv s48), (42, .bool (decide (s67 < (p1.length : Int))))] 11 [none, some 4] rfl rfl rfl rfl rfl rfl fun G a w S => ?_
    refine sMove (iv s48) S (wG 4 true 42 rfl rfl rfl hc76) (.inl rfl) rfl rfl (lb rfl) fun a S => ?_
    exact leafL ⟨rfl, S⟩
  · refine fI 50 (iv (x25.length : Int)) [(6, iv (x25.length : Int)), (42, .bool (decide (s67 < (p1.length : Int))))] 12 [none, some 4] rfl rfl rfl rfl rfl rfl fun G a w S => ?_
    refine sMove (iv (x25.length : Int)) S (wG 4 true 42 rfl rfl rfl hc76) (.inl rfl) rfl rfl (lb rfl) fun a S => ?_
    exact leafL ⟨rfl, S⟩
  · refine fI 51 (iv (w64 (s48 + (x25.length : Int)))) [(49, iv s48), (50, iv (x25.length : Int)), (42, .bool (decide (s67 < (p1.length : Int))))] 13 [some 11, some 12, some 4] rfl rfl rfl rfl rfl rfl fun G a w S => ?_
    refine sBin (iv (w64 (s48 + (x25.length : Int)))) S (wG 4 true 42 rfl rfl rfl hc76) rfl rfl rfl (bAdd _ _ _ _ s48 (x25.length : Int)) rfl (lb rfl) fun a S => ?_
    exact leafL ⟨rfl, S⟩
  refine ⟨_, [(47, .slice ad1 p0.length cp2), (48, iv s48), (51, iv (w64 (s48 + (x25.length : Int)))), (42, .bool (decide (s67 < (p1.length : Int))))], rfl, (srcs_of [some 9, some 10, some 13, some 4] rfl rfl rfl), fun G a w S => ?_⟩
  refine sSlice (r := (rI .i64)) (v := .slice ad1 p0.length cp2) (xs := p0) (vlo := (some (.int .i64 s48))) (vhi := (some (.int .i64 (w64 (s48 + (x25.length : Int)))))) (lo' := s48) (hi' := w64 (s48 + (x25.length : Int))) 3 S (wG 4 true 42 rfl rfl rfl hc76) rfl Try.underlying35 rfl rfl rfl rfl rfl (.inl rfl) (.inl rfl) hx85 rfl (lb rfl) fun a ad95 cp96 S => ?_
  refine leafL ⟨rfl, _, _, .inl ⟨52, (.slice ad95 y84.length cp96), [(15, 53, .bool r88), (16, 54, .bool (!r88)), (17, 55, .bool (!r88))], rfl, S, hz_of rfl, ?_⟩⟩
  refine node_by (A := anc_raddleref13_Blocks_0) (nf := [14]) (Y := [14]) 18 (by kernel_rfl) (by kernel_rfl) (by kernel_rfl) (by kernel_rfl) (by kernel_rfl) [15, 16, 17, 14, 0, 1, 2, 3, 4, 5, 6, 7, 8, 9, 10, 11, 12, 13] (by kernel_rfl) (by decide) (by decide) (aD 0 17 14 (by decide) (aD 1 16 14 (by decide) (aD 2 15 14 (by decide) (aD 3 14 14 (by decide) (aD 4 13 14 (by decide) (aF 5 12 (by decide) ?_ (aF 6 11 (by decide) ?_ (aF 7 10 (by decide) ?_ (aF 8 9 (by decide) ?_ (aD 9 8 14 (by decide) (aD 10 7 14 (by decide) (aD 11 6 14 (by decide) (aD 12 5 14 (by decide) (aD 13 4 14 (by decide) (aY 14 3 (by decide) (aF 15 2 (by decide) ?_ (aF 16 1 (by decide) ?_ (aF 17 0 (by decide) ?_ (trivial))))))))))))))))))) [(0, .slice ad1 p0.length cp2), (1, .slice ad3 p1.length cp4), (6, iv (x25.length : Int)), (7, .slice ad46 s45.length cp47), (8, iv s48), (9, iv s67), (43, .slice ad3 p1.length cp4), (44, iv s67), (45, q90), (46, .slice ad93 x77.length cp94), (47, .slice ad1 p0.length cp2), (48, iv s48), (49, iv s48), (50, iv (x25.length : Int)), (51, iv (w64 (s48 + (x25.length : Int)))), (52, .slice ad95 y84.length cp96), (53, .bool r88), (54, .bool (!r88)), (55, .bool (!r88))] (fin_of [none, none, none, none, none, none, some 9, some 10, some 11, some 12, some 13, some 14, some 15, some 16, some 17, some 3, some 0, some 1, some 2] rfl (by kernel_rfl) (by kernel_rfl)) (fun _ a w S => ?_)
  · refine fI 43 (.slice ad3 p1.length cp4) [(1, .slice ad3 p1.length cp4), (42, .bool (decide (s67 < (p1.length : Int))))] 9 [none, some 8] rfl rfl rfl rfl rfl rfl fun G a w S => ?_
    refine sMove (.slice ad3 p1.length cp4) S (wG 4 true 42 rfl rfl rfl hc76) (.inl rfl) rfl rfl (lb rfl) fun a S => ?_
    exact leafL ⟨rfl, S⟩
  · refine fI 44 (iv s67) [(9, iv s67), (42, .bool (decide (s67 < (p1.length : Int))))] 10 [none, some 8] rfl rfl rfl rfl rfl rfl fun G a w S => ?_
    refine sMove (iv s67) S (wG 4 true 42 rfl rfl rfl hc76) (.inl rfl) rfl rfl (lb rfl) fun a S => ?_
    exact leafL ⟨rfl, S⟩
  · refine fI 45 q90 [(43, .slice ad3 p1.length cp4), (44, iv s67), (42, .bool (decide (s67 < (p1.length : Int))))] 11 [some 9, some 10, some 8] rfl rfl rfl rfl rfl rfl fun G a w S => ?_
    refine sIdxV (v := .slice ad3 p1.length cp4) (k := .i64) (j := s67) S (wG 4 true 42 rfl rfl rfl hc76) rfl rfl rfl hq91 rfl (lb rfl) fun a S => ?_
    exact leafL ⟨rfl, S⟩
  · refine fI 46 (.slice ad93 x77.length cp94) [(45, q90), (42, .bool (decide (s67 < (p1.length : Int))))] 12 [some 11, some 8] rfl rfl rfl rfl rfl rfl fun G a w S => ?_
    refine sLoadV1 (vq := q90) 1 (.slice ad93 x77.length cp94) S (wG 4 true 42 rfl rfl rfl hc76) rfl rfl rfl rfl rfl (lb rfl) fun a S => ?_
    exact leafL ⟨rfl, S⟩
  · refine fI 53 (.bool r88) [(46, .slice ad93 x77.length cp94), (52, .slice ad95 y84.length cp96), (42, .bool (decide (s67 < (p1.length : Int))))] 0 [some 12, some 3, some 8] rfl rfl rfl rfl rfl rfl fun G a w S => ?_
    have S1 := S.mem
    refine sCallQ (X := Unit) (f := 24) (vs := [.slice ad93 x77.length cp94, .slice ad95 y84.length cp96]) (val := fun _ => .bool r88) S (wG 4 true 42 rfl rfl rfl hc76) rfl callee24 rfl (S1.quiet [2, 0] rfl) (fun E1 w1 S1 => c_raddleref02_Same E1 w1 x77 (.slice ad93 x77.length cp94) y84 (.slice ad95 y84.length cp96) r88 hx89 S1) rfl (lb rfl) fun _ a w S => ?_
    exact leafL ⟨rfl, S⟩
  · refine fI 54 (.bool (!r88)) [(53, .bool r88), (42, .bool (decide (s67 < (p1.length : Int))))] 1 [some 0, some 8] rfl rfl rfl rfl rfl rfl fun G a w S => ?_
    refine sNot (b := r88) S (wG 4 true 42 rfl rfl rfl hc76) rfl rfl rfl (lb rfl) fun a S => ?_
    exact leafL ⟨rfl, S⟩
  · refine fI 55 (.bool (!r88)) [(42, .bool (decide (s67 < (p1.length : Int)))), (54, .bool (!r88))] 2 [some 8, some 1] rfl rfl rfl rfl rfl rfl fun G a w S => ?_
    refine sPickT (.bool (!r88)) S (wN rfl) rfl rfl hc76 rfl rfl (lb rfl) fun a S => ?_
    exact leafL ⟨rfl, S⟩
  exact leafT (⟨!r88, Option.some.inj h, S.fix [0] [4, 5] (by decide) rfl rfl rfl⟩)

end Go.Proofs.Ythfifeabomdlpaa
namespace Go.Proofs.Ythfifeabomdlpaa
open Go.RowKit
set_option linter.unusedVariables false

noncomputable def F_raddlelaw13_BlockSpells (p0 : (List Int)) (p1 : (List (List Int))) : Option Bool :=
  Option.bind (α := Bool) (
    Option.bind (F_raddleref02_Great p0) fun r10 =>
    if r10 then
      some true
    else
      Option.bind (F_raddleref13_Great p1) fun r13 =>
      some r13) fun o7 =>
  if o7 then
    some true
  else
    Option.bind (F_block_Spell p0 p1) fun r18 =>
    Option.bind (F_raddleref13_Spell p0 p1) fun r24 =>
    Option.bind (F_block_Blocks p0 p1) fun r30 =>
    Option.bind (F_raddleref13_Blocks p0 p1) fun r36 =>
    Option.bind (α := Bool) (
      Option.bind (F_raddleref02_Same r18.1 r24.1) fun r44 =>
      if r44 then
        if r18.2 == r24.2 then
          Option.bind (F_raddleref02_Same r30.1 r36.1) fun r48 =>
          if r48 then
            some (r30.2 == r36.2)
          else
            some false
        else
          some false
      else
        some false) fun o41 =>
    some o41
set_option maxHeartbeats 4000000 in
set_option maxRecDepth 100000 in
theorem c_raddlelaw13_BlockSpells (E : Nat → Prop) (w0 : World) (p0 : (List Int)) (v0 : Value) (p1 : (List (List Int))) (v1 : Value) (r : Bool) (h : F_raddlelaw13_BlockSpells p0 p1 = some r) (S : St0 E [] w0 w0 [] [fRep (rL (rI .i64)) (v0) p0, fRep (rL (rL (rI .i64))) (v1) p1]) :
    Calls Try.prog 5 #[v0, v1] w0 (Ret (X := Unit) E [] w0 (fun _ => .bool r) (fun _ => []) (fun _ => [])) := by
  unfold F_raddlelaw13_BlockSpells at h
  obtain ⟨ad1, cp2, _, rfl, _⟩ := S.know (i := 0) (e := fRep (rL (rI .i64)) (v0) p0) rfl
  obtain ⟨ad3, cp4, _, rfl, _⟩ := S.know (i := 1) (e := fRep (rL (rL (rI .i64))) (v1) p1) rfl
  refine sEnter (args := [.slice ad1 p0.length cp2, .slice ad3 p1.length cp4]) 61 Try.func5 rfl rfl (by simp) S (fun a S => ?_)
  refine sSeq (fun K5 hK5 => ?_)
  refine sRegion ?_
  refine sMove (.bool false) S (wN rfl) (.inr rfl) rfl rfl (lb rfl) fun a S => ?_
  refine leafL (leafT (hK5 _ _ ?_))
  refine sSeq (fun K6 hK6 => ?_)
  obtain ⟨t8, h, g9⟩ := bindSome h
  refine sCut (fun a w => ∃ o7, o7 = t8 ∧ St [] E [] w0 61 a w [(0, .slice ad1 p0.length cp2), (1, .slice ad3 p1.length cp4), (18, .bool o7)] [] [fRep (rL (rI .i64)) (.slice ad1 p0.length cp2) p0, fRep (rL (rL (rI .i64))) (.slice ad3 p1.length cp4) p1]) ?_ (fun a w hI => ?_)
  · refine sRegion ?_
    refine sMove (.slice ad1 p0.length cp2) S (wN rfl) (.inl rfl) rfl rfl (lb rfl) fun a S => ?_
    obtain ⟨r10, hx11, h⟩ := bindSome h
    have S1 := S.mem
    refine sCallQ (X := Unit) (f := 25) (vs := [.slice ad1 p0.length cp2]) (val := fun _ => .bool r10) S (wN rfl) rfl callee25 rfl (S1.quiet [0] rfl) (fun E1 w1 S1 => c_raddleref02_Great E1 w1 p0 (.slice ad1 p0.length cp2) r10 hx11 S1) rfl (lb rfl) fun _ a w S => ?_
    refine sMove (.bool r10) S (wN rfl) (.inl rfl) rfl rfl (lb rfl) fun a S => ?_
    rcases iteSome h with ⟨hc12, h⟩ | ⟨hc12, h⟩
    · refine sSkip 2 false 15 16 S rfl rfl rfl hc12 rfl (lb rfl) fun a S => ?_
      refine sSkip 2 false 15 17 S rfl rfl rfl hc12 rfl (lb rfl) fun a S => ?_
      refine sPickT (.bool true) S (wN rfl) rfl rfl hc12 rfl rfl (lb rfl) fun a S => ?_
      exact leafL (leafT (⟨true, Option.some.inj h, S.fix [] [0, 1] (by decide) rfl rfl rfl⟩))
    refine sMove (.slice ad3 p1.length cp4) S (wG 2 false 15 rfl rfl rfl hc12) (.inl rfl) rfl rfl (lb rfl) fun a S => ?_
    obtain ⟨r13, hx14, h⟩ := bindSome h
    have S1 := S.mem
    refine sCallQ (X := Unit) (f := 26) (vs := [.slice ad3 p1.length cp4]) (val := fun _ => .bool r13) S (wG 2 false 15 rfl rfl rfl hc12) rfl callee26 rfl (S1.quiet [1] rfl) (fun E1 w1 S1 => c_raddleref13_Great E1 w1 p1 (.slice ad3 p1.length cp4) r13 hx14 S1) rfl (lb rfl) fun _ a w S => ?_
    refine sPickF (.bool r13) S (wN rfl) rfl rfl hc12 rfl rfl (lb rfl) fun a S => ?_
    exact leafL (leafT (⟨r13, Option.some.inj h, S.fix [] [0, 1] (by decide) rfl rfl rfl⟩))
  obtain ⟨o7, rfl, S⟩ := hI
  have h := g9
  clear g9
  try dsimp only at h
  rcases iteSome h with ⟨hc15, h⟩ | ⟨hc15, h⟩
  · refine sCondT S rfl hc15 ?_
    refine sSeq (fun K16 hK16 => ?_)
    refine sRegion ?_
    refine sMove (.bool true) S (wN rfl) (.inr rfl) rfl rfl (lb rfl) fun a S => ?_
    refine leafL (leafT (hK16 _ _ ?_))
    obtain rfl := Option.some.inj h
    exact wp_ret (rThen (sRet (.bool true) S (rsl1 rfl (rvT (t := 4) (v := .bool true) S rfl)) ⟨(), rfl, S.mem.sel [] [] (by decide) rfl rfl⟩))
  refine sCondF S rfl hc15 ?_
  refine wp_skip (leafT (hK6 _ _ ?_))
  refine sSeq (fun K17 hK17 => ?_)
  refine sRegion ?_
  refine sMove (.slice ad1 p0.length cp2) S (wN rfl) (.inl rfl) rfl rfl (lb rfl) fun a S => ?_
  refine sMove (.slice ad3 p1.length cp4) S (wN rfl) (.inl rfl) rfl rfl (lb rfl) fun a S => ?_
  obtain ⟨r18, hx19, h⟩ := bindSome h
  refine sCall (X := Value) (f := 27) (vs := [.slice ad1 p0.length cp2, .slice ad3 p1.length cp4]) (val := c_block_Spell_val r18) (B' := fun _ => []) (D' := c_block_Spell_D r18) [] [] [fRep (rL (rI .i64)) (.slice ad1 p0.length cp2) p0, fRep (rL (rL (rI .i64))) (.slice ad3 p1.length cp4) p1] [] [0, 1] S (wN rfl) rfl callee27 rfl (by decide) rfl rfl (fun E1 w1 S1 => c_block_Spell E1 w1 p0 (.slice ad1 p0.length cp2) p1 (.slice ad3 p1.length cp4) r18 hx19 S1) rfl (lb rfl) fun u20 a w S => ?_
  obtain ⟨ad21, cp22, _, rfl, _⟩ := S.mem.know (i := 0) (e := fRep (rL (rI .i64)) (u20) r18.1) rfl
  refine sMove (.tuple #[.slice ad21 r18.1.length cp22, iv r18.2]) S (wN rfl) (.inl rfl) rfl rfl (lb rfl) fun a S => ?_
  refine sExtract (vs := [.slice ad21 r18.1.length cp22, iv r18.2]) (.slice ad21 r18.1.length cp22) S (wN rfl) rfl rfl rfl rfl (lb rfl) fun a S => ?_
  refine sExtract (vs := [.slice ad21 r18.1.length cp22, iv r18.2]) (iv r18.2) S (wN rfl) rfl rfl rfl rfl (lb rfl) fun a S => ?_
  refine sMove (.slice ad21 r18.1.length cp22) S (wN rfl) (.inr rfl) rfl rfl (lb rfl) fun a S => ?_
  refine sMove (iv r18.2) S (wN rfl) (.inr rfl) rfl rfl (lb rfl) fun a S => ?_
  refine leafL (leafT (hK17 _ _ ?_))
  refine sSeq (fun K23 hK23 => ?_)
  refine sRegion ?_
  refine sMove (.slice ad1 p0.length cp2) S (wN rfl) (.inl rfl) rfl rfl (lb rfl) fun a S => ?_
  refine sMove (.slice ad3 p1.length cp4) S (wN rfl) (.inl rfl) rfl rfl (lb rfl) fun a S => ?_
  obtain ⟨r24, hx25, h⟩ := bindSome h
  refine sCall (X := Value) (f := 28) (vs := [.slice ad1 p0.length cp2, .slice ad3 p1.length cp4]) (val := c_raddleref13_Spell_val r24) (B' := fun _ => []) (D' := c_raddleref13_Spell_D r24) [] [] [fRep (rL (rI .i64)) (.slice ad1 p0.length cp2) p0, fRep (rL (rL (rI .i64))) (.slice ad3 p1.length cp4) p1] [] [1, 2] S (wN rfl) rfl callee28 rfl (by decide) rfl rfl (fun E1 w1 S1 => c_raddleref13_Spell E1 w1 p0 (.slice ad1 p0.length cp2) p1 (.slice ad3 p1.length cp4) r24 hx25 S1) rfl (lb rfl) fun u26 a w S => ?_
  obtain ⟨ad27, cp28, _, rfl, _⟩ := S.mem.know (i := 0) (e := fRep (rL (rI .i64)) (u26) r24.1) rfl
  refine sMove (.tuple #[.slice ad27 r24.1.length cp28, iv r24.2]) S (wN rfl) (.inl rfl) rfl rfl (lb rfl) fun a S => ?_
  refine sExtract (vs := [.slice ad27 r24.1.length cp28, iv r24.2]) (.slice ad27 r24.1.length cp28) S (wN rfl) rfl rfl rfl rfl (lb rfl) fun a S => ?_
  refine sExtract (vs := [.slice ad27 r24.1.length cp28, iv r24.2]) (iv r24.2) S (wN rfl) rfl rfl rfl rfl (lb rfl) fun a S => ?_
  refine sMove (.slice ad27 r24.1.length cp28) S (wN rfl) (.inr rfl) rfl rfl (lb rfl) fun a S => ?_
  refine sMove (iv r24.2) S (wN rfl) (.inr rfl) rfl rfl (lb rfl) fun a S => ?_
  refine leafL (leafT (hK23 _ _ ?_))
  refine sSeq (fun K29 hK29 => ?_)
  refine sRegion ?_
  refine sMove (.slice ad1 p0.length cp2) S (wN rfl) (.inl rfl) rfl rfl (lb rfl) fun a S => ?_
  refine sMove (.slice ad3 p1.length cp4) S (wN rfl) (.inl rfl) rfl rfl (lb rfl) fun a S => ?_
  obtain ⟨r30, hx31, h⟩ := bindSome h
  refine sCall (X := Value) (f := 29) (vs := [.slice ad1 p0.length cp2, .slice ad3 p1.length cp4]) (val := c_block_Blocks_val r30) (B' := fun _ => []) (D' := c_block_Blocks_D r30) [] [] [fRep (rL (rI .i64)) (.slice ad1 p0.length cp2) p0, fRep (rL (rL (rI .i64))) (.slice ad3 p1.length cp4) p1] [] [2, 3] S (wN rfl) rfl callee29 rfl (by decide) rfl rfl (fun E1 w1 S1 => c_block_Blocks E1 w1 p0 (.slice ad1 p0.length cp2) p1 (.slice ad3 p1.length cp4) r30 hx31 S1) rfl (lb rfl) fun u32 a w S => ?_
  obtain ⟨ad33, cp34, _, rfl, _⟩ := S.mem.know (i := 0) (e := fRep (rL (rI .i64)) (u32) r30.1) rfl
  refine sMove (.tuple #[.slice ad33 r30.1.length cp34, iv r30.2]) S (wN rfl) (.inl rfl) rfl rfl (lb rfl) fun a S => ?_
  refine sExtract (vs := [.slice ad33 r30.1.length cp34, iv r30.2]) (.slice ad33 r30.1.length cp34) S (wN rfl) rfl rfl rfl rfl (lb rfl) fun a S => ?_
  refine sExtract (vs := [.slice ad33 r30.1.length cp34, iv r30.2]) (iv r30.2) S (wN rfl) rfl rfl rfl rfl (lb rfl) fun a S => ?_
  refine sMove (.slice ad33 r30.1.length cp34) S (wN rfl) (.inr rfl) rfl rfl (lb rfl) fun a S => ?_
  refine sMove (iv r30.2) S (wN rfl) (.inr rfl) rfl rfl (lb rfl) fun a S => ?_
  refine leafL (leafT (hK29 _ _ ?_))
  refine sSeq (fun K35 hK35 => ?_)
  refine sRegion ?_
  refine sMove (.slice ad1 p0.length cp2) S (wN rfl) (.inl rfl) rfl rfl (lb rfl) fun a S => ?_
  refine sMove (.slice ad3 p1.length cp4) S (wN rfl) (.inl rfl) rfl rfl (lb rfl) fun a S => ?_
  obtain ⟨r36, hx37, h⟩ := bindSome h
  refine sCall (X := Value) (f := 30) (vs := [.slice ad1 p0.length cp2, .slice ad3 p1.length cp4]) (val := c_raddleref13_Blocks_val r36) (B' := fun _ => []) (D' := c_raddleref13_Blocks_D r36) [] [] [fRep (rL (rI .i64)) (.slice ad1 p0.length cp2) p0, fRep (rL (rL (rI .i64))) (.slice ad3 p1.length cp4) p1] [] [3, 4] S (wN rfl) rfl callee30 rfl (by decide) rfl rfl (fun E1 w1 S1 => c_raddleref13_Blocks E1 w1 p0 (.slice ad1 p0.length cp2) p1 (.slice ad3 p1.length cp4) r36 hx37 S1) rfl (lb rfl) fun u38 a w S => ?_
  obtain ⟨ad39, cp40, _, rfl, _⟩ := S.mem.know (i := 0) (e := fRep (rL (rI .i64)) (u38) r36.1) rfl
  refine sMove (.tuple #[.slice ad39 r36.1.length cp40, iv r36.2]) S (wN rfl) (.inl rfl) rfl rfl (lb rfl) fun a S => ?_
  refine sExtract (vs := [.slice ad39 r36.1.length cp40, iv r36.2]) (.slice ad39 r36.1.length cp40) S (wN rfl) rfl rfl rfl rfl (lb rfl) fun a S => ?_
  refine sExtract (vs := [.slice ad39 r36.1.length cp40, iv r36.2]) (iv r36.2) S (wN rfl) rfl rfl rfl rfl (lb rfl) fun a S => ?_
  refine sMove (.slice ad39 r36.1.length cp40) S (wN rfl) (.inr rfl) rfl rfl (lb rfl) fun a S => ?_
  refine sMove (iv r36.2) S (wN rfl) (.inr rfl) rfl rfl (lb rfl) fun a S => ?_
  refine leafL (leafT (hK35 _ _ ?_))
  obtain ⟨t42, h, g43⟩ := bindSome h
  refine sCut (fun a w => ∃ o41, o41 = t42 ∧ St [] E [] w0 61 a w [(4, .bool o41)] [] []) ?_ (fun a w hI => ?_)
  rotate_left
  · obtain ⟨o41, rfl, S⟩ := hI
    have h := g43
    clear g43
    try dsimp only at h
    obtain rfl := Option.some.inj h
    exact wp_ret (sRet (.bool o41) S (rsl1 rfl (rvT (t := 4) (v := .bool o41) S rfl)) ⟨(), rfl, S.mem.sel [] [] (by decide) rfl rfl⟩)
  refine sRegion ?_
  refine sMove (.slice ad21 r18.1.length cp22) S (wN rfl) (.inl rfl) rfl rfl (lb rfl) fun a S => ?_
  refine sMove (.slice ad27 r24.1.length cp28) S (wN rfl) (.inl rfl) rfl rfl (lb rfl) fun a S => ?_
  obtain ⟨r44, hx45, h⟩ := bindSome h
  have S1 := S.mem
  refine sCallQ (X := Unit) (f := 24) (vs := [.slice ad21 r18.1.length cp22, .slice ad27 r24.1.length cp28]) (val := fun _ => .bool r44) S (wN rfl) rfl callee24 rfl (S1.quiet [3, 2] rfl) (fun E1 w1 S1 => c_raddleref02_Same E1 w1 r18.1 (.slice ad21 r18.1.length cp22) r24.1 (.slice ad27 r24.1.length cp28) r44 hx45 S1) rfl (lb rfl) fun _ a w S => ?_
  refine sMove (.bool r44) S (wN rfl) (.inl rfl) rfl rfl (lb rfl) fun a S => ?_
  rcases iteSome h with ⟨hc46, h⟩ | ⟨hc46, h⟩
  rotate_left
  · refine sSkip 3 true 46 47 S rfl rfl rfl hc46 rfl (lb rfl) fun a S => ?_
    refine sSkip 3 true 46 48 S rfl rfl rfl hc46 rfl (lb rfl) fun a S => ?_
    refine sSkip 3 true 46 49 S rfl rfl rfl hc46 rfl (lb rfl) fun a S => ?_
    refine sPickF (.bool false) S (wN rfl) rfl rfl hc46 rfl rfl (lb rfl) fun a S => ?_
    refine sMove (.bool false) S (wN rfl) (.inl rfl) rfl rfl (lb rfl) fun a S => ?_
    refine sSkip 8 true 51 52 S rfl rfl rfl rfl rfl (lb rfl) fun a S => ?_
    refine sSkip 8 true 51 53 S rfl rfl rfl rfl rfl (lb rfl) fun a S => ?_
    refine sSkip 8 true 51 54 S rfl rfl rfl rfl rfl (lb rfl) fun a S => ?_
    refine sPickF (.bool false) S (wN rfl) rfl rfl rfl rfl rfl (lb rfl) fun a S => ?_
    refine sMove (.bool false) S (wN rfl) (.inl rfl) rfl rfl (lb rfl) fun a S => ?_
    refine sSkip 13 true 56 57 S rfl rfl rfl rfl rfl (lb rfl) fun a S => ?_
    refine sSkip 13 true 56 58 S rfl rfl rfl rfl rfl (lb rfl) fun a S => ?_
    refine sSkip 13 true 56 59 S rfl rfl rfl rfl rfl (lb rfl) fun a S => ?_
    refine sPickF (.bool false) S (wN rfl) rfl rfl rfl rfl rfl (lb rfl) fun a S => ?_
    refine sMove (.bool false) S (wN rfl) (.inr rfl) rfl rfl (lb rfl) fun a S => ?_
    exact leafL (leafT (⟨false, Option.some.inj h, S.fix [] [] (by decide) rfl rfl rfl⟩))
  refine sMove (iv r18.2) S (wG 3 true 46 rfl rfl rfl hc46) (.inl rfl) rfl rfl (lb rfl) fun a S => ?_
  refine sMove (iv r24.2) S (wG 3 true 46 rfl rfl rfl hc46) (.inl rfl) rfl rfl (lb rfl) fun a S => ?_
  refine sBin (.bool (r18.2 == r24.2)) S (wG 3 true 46 rfl rfl rfl hc46) rfl rfl rfl (bEq _ _ _ _ .i64 r18.2 r24.2) rfl (lb rfl) fun a S => ?_
  refine sPickT (.bool (r18.2 == r24.2)) S (wN rfl) rfl rfl hc46 rfl rfl (lb rfl) fun a S => ?_
  refine sMove (.bool (r18.2 == r24.2)) S (wN rfl) (.inl rfl) rfl rfl (lb rfl) fun a S => ?_
  rcases iteSome h with ⟨hc47, h⟩ | ⟨hc47, h⟩
  rotate_left
  · refine sSkip 8 true 51 52 S rfl rfl rfl hc47 rfl (lb rfl) fun a S => ?_
    refine sSkip 8 true 51 53 S rfl rfl rfl hc47 rfl (lb rfl) fun a S => ?_
    refine sSkip 8 true 51 54 S rfl rfl rfl hc47 rfl (lb rfl) fun a S => ?_
    refine sPickF (.bool false) S (wN rfl) rfl rfl hc47 rfl rfl (lb rfl) fun a S => ?_
    refine sMove (.bool false) S (wN rfl) (.inl rfl) rfl rfl (lb rfl) fun a S => ?_
    refine sSkip 13 true 56 57 S rfl rfl rfl rfl rfl (lb rfl) fun a S => ?_
    refine sSkip 13 true 56 58 S rfl rfl rfl rfl rfl (lb rfl) fun a S => ?_
    refine sSkip 13 true 56 59 S rfl rfl rfl rfl rfl (lb rfl) fun a S => ?_
    refine sPickF (.bool false) S (wN rfl) rfl rfl rfl rfl rfl (lb rfl) fun a S => ?_
    refine sMove (.bool false) S (wN rfl) (.inr rfl) rfl rfl (lb rfl) fun a S => ?_
    exact leafL (leafT (⟨false, Option.some.inj h, S.fix [] [] (by decide) rfl rfl rfl⟩))
  refine sMove (.slice ad33 r30.1.length cp34) S (wG 8 true 51 rfl rfl rfl hc47) (.inl rfl) rfl rfl (lb rfl) fun a S => ?_
  refine sMove (.slice ad39 r36.1.length cp40) S (wG 8 true 51 rfl rfl rfl hc47) (.inl rfl) rfl rfl (lb rfl) fun a S => ?_
  obtain ⟨r48, hx49, h⟩ := bindSome h
  have S1 := S.mem
  refine sCallQ (X := Unit) (f := 24) (vs := [.slice ad33 r30.1.length cp34, .slice ad39 r36.1.length cp40]) (val := fun _ => .bool r48) S (wG 8 true 51 rfl rfl rfl hc47) rfl callee24 rfl (S1.quiet [1, 0] rfl) (fun E1 w1 S1 => c_raddleref02_Same E1 w1 r30.1 (.slice ad33 r30.1.length cp34) r36.1 (.slice ad39 r36.1.length cp40) r48 hx49 S1) rfl (lb rfl) fun _ a w S => ?_
  refine sPickT (.bool r48) S (wN rfl) rfl rfl hc47 rfl rfl (lb rfl) fun a S => ?_
  refine sMove (.bool r48) S (wN rfl) (.inl rfl) rfl rfl (lb rfl) fun a S => ?_
  rcases iteSome h with ⟨hc50, h⟩ | ⟨hc50, h⟩
  rotate_left
  · refine sSkip 13 true 56 57 S rfl rfl rfl hc50 rfl (lb rfl) fun a S => ?_
    refine sSkip 13 true 56 58 S rfl rfl rfl hc50 rfl (lb rfl) fun a S => ?_
    refine sSkip 13 true 56 59 S rfl rfl rfl hc50 rfl (lb rfl) fun a S => ?_
    refine sPickF (.bool false) S (wN rfl) rfl rfl hc50 rfl rfl (lb rfl) fun a S => ?_
    refine sMove (.bool false) S (wN rfl) (.inr rfl) rfl rfl (lb rfl) fun a S => ?_
    exact leafL (leafT (⟨false, Option.some.inj h, S.fix [] [] (by decide) rfl rfl rfl⟩))
  refine sMove (iv r30.2) S (wG 13 true 56 rfl rfl rfl hc50) (.inl rfl) rfl rfl (lb rfl) fun a S => ?_
  refine sMove (iv r36.2) S (wG 13 true 56 rfl rfl rfl hc50) (.inl rfl) rfl rfl (lb rfl) fun a S => ?_
  refine sBin (.bool (r30.2 == r36.2)) S (wG 13 true 56 rfl rfl rfl hc50) rfl rfl rfl (bEq _ _ _ _ .i64 r30.2 r36.2) rfl (lb rfl) fun a S => ?_
  refine sPickT (.bool (r30.2 == r36.2)) S (wN rfl) rfl rfl hc50 rfl rfl (lb rfl) fun a S => ?_
  refine sMove (.bool (r30.2 == r36.2)) S (wN rfl) (.inr rfl) rfl rfl (lb rfl) fun a S => ?_
  exact leafL (leafT (⟨r30.2 == r36.2, Option.some.inj h, S.fix [] [] (by decide) rfl rfl rfl⟩))

end Go.Proofs.Ythfifeabomdlpaa
namespace Go.Proofs.Ythfifeabomdlpaa
open Go.RowKit
set_option linter.unusedVariables false

def inRg (at_ : List Int) (n : Nat) : Bool := at_.all fun k => decide (0 ≤ k ∧ k < (n : Int))
theorem getD_0 {α : Type} {l : List α} (d : α) (h : 0 < l.length) : idxO l 0 = some (l.getD 0 d) := idxO_D (k := 0) d h
theorem index_eq (l : List Int) (n : Nat) (hl : l.length ≤ 1000000) : F_block_index l (n : Int) = some (inRg l n) := by
  have hw := loop_idx (B := slices_IndexFunc___int_int__s0_l1 l (n : Int)) l (fun k => !decide (0 ≤ k ∧ k < (n : Int))) (fun k => .inl (k : Int)) (.inr ()) (fun k hk => by
    unfold slices_IndexFunc___int_int__s0_l1 F_block_index_1_s0
    simp only [dT (show (k : Int) < (l.length : Int) by omega), if_true, idxO_nat hk, Option.bind_some, w64_succ (show k < 9223372036854775807 by omega)]
    by_cases h1 : l[k] < 0
    · simp only [dT h1, if_true, Option.bind_some, dF (show ¬ (0 ≤ l[k] ∧ l[k] < (n : Int)) by omega), Bool.not_false]
    · by_cases h2 : (n : Int) ≤ l[k]
      · simp only [dF h1, dT h2, Bool.false_eq_true, if_false, if_true, Option.bind_some, dF (show ¬ (0 ≤ l[k] ∧ l[k] < (n : Int)) by omega), Bool.not_false]
      · simp only [dF h1, dF h2, Bool.false_eq_true, if_false, Option.bind_some, dT (show 0 ≤ l[k] ∧ l[k] < (n : Int) by omega), Bool.not_true]) (by
    unfold slices_IndexFunc___int_int__s0_l1
    simp only [dF (show ¬ (l.length : Int) < (l.length : Int) by omega), Bool.false_eq_true, if_false])
  have hi : F_slices_IndexFunc___int_int__s0 l (n : Int) = some (idxF l (fun k => !decide (0 ≤ k ∧ k < (n : Int)))) := by
    unfold F_slices_IndexFunc___int_int__s0 idxF
    rw [hw]
    by_cases h : l.findIdx (fun k => !decide (0 ≤ k ∧ k < (n : Int))) < l.length
    · rw [if_pos h, if_pos h]; rfl
    · rw [if_neg h, if_neg h]; rfl
  unfold F_block_index F_slices_ContainsFunc___int_int__s0
  rw [hi, Option.bind_some, idxF_nn, Option.bind_some]
  congr 1
  unfold inRg
  rw [List.all_eq_not_any_not]

end Go.Proofs.Ythfifeabomdlpaa
namespace Go.Proofs.Ythfifeabomdlpaa
open Go.RowKit
set_option linter.unusedVariables false

def lerr (l : List Int) : Int := if 400 < l.length then 4 else if l.all (fun y => decide (0 ≤ y ∧ y < 400)) = true then 0 else 8
theorem lerr_zero {l : List Int} (h : lerr l = 0) : l.length ≤ 400 ∧ ∀ y, y ∈ l → 0 ≤ y ∧ y < 400 := by
  unfold lerr at h
  by_cases h1 : 400 < l.length
  · rw [if_pos h1] at h; cases h
  rw [if_neg h1] at h
  by_cases h2 : l.all (fun y => decide (0 ≤ y ∧ y < 400)) = true
  · exact ⟨by omega, fun y hy => of_decide_eq_true (List.all_eq_true.1 h2 y hy)⟩
  · rw [if_neg h2] at h; cases h
theorem tcheckL (ls : List (List Int)) (hl : ls.length ≤ 9223372036854775806) : whileO (thread_check_l2 ls) 0 = some ((ls.findSome? fun l => if lerr l = 0 then none else some (Sum.inl (β := Unit) (lerr l))).getD (.inr ())) := by
  refine loop_list ls (fun l => if lerr l = 0 then none else some (Sum.inl (lerr l))) (.inr ()) (fun k hk => ?_) ?_
  · unfold thread_check_l2
    simp only [dT (show (k : Int) < (ls.length : Int) by omega), if_true, idxO_nat hk, Option.bind_some]
    generalize ls[k] = x
    by_cases h : 400 < x.length
    · have e : lerr x = 4 := by unfold lerr; rw [if_pos h]
      simp only [dT (show (400 : Int) < (x.length : Int) by omega), if_true, Option.bind_some, e]
      rfl
    · have hw : whileO (thread_check_l1 x) 0 = some (if x.all (fun y => decide (0 ≤ y ∧ y < 400)) = true then .inr () else .inl 8) := by
        refine loop_allL x _ _ _ (fun j hj => ?_) ?_
        · unfold thread_check_l1
          simp only [dT (show (j : Int) < (x.length : Int) by omega), if_true, idxO_nat hj, Option.bind_some, w64_succ (show j < 9223372036854775807 by omega)]
          by_cases c1 : x[j] < 0
          · simp only [dT c1, if_true, Option.bind_some, dF (show ¬ (0 ≤ x[j] ∧ x[j] < 400) by omega), Bool.false_eq_true, if_false]
          · by_cases c2 : 400 ≤ x[j]
            · simp only [dF c1, dT c2, Bool.false_eq_true, if_false, if_true, Option.bind_some, dF (show ¬ (0 ≤ x[j] ∧ x[j] < 400) by omega)]
            · simp only [dF c1, dF c2, Bool.false_eq_true, if_false, Option.bind_some, dT (show 0 ≤ x[j] ∧ x[j] < 400 by omega), if_true]
        · unfold thread_check_l1
          simp only [dF (show ¬ (x.length : Int) < (x.length : Int) by omega), Bool.false_eq_true, if_false]
      simp only [dF (show ¬ (400 : Int) < (x.length : Int) by omega), Bool.false_eq_true, if_false, hw, Option.bind_some]
      by_cases hc : x.all (fun y => decide (0 ≤ y ∧ y < 400)) = true
      · have e : lerr x = 0 := by unfold lerr; rw [if_neg h, if_pos hc]
        rw [if_pos hc, if_pos e]
        simp only [Option.bind_some, w64_succ (show k < 9223372036854775807 by omega)]
      · have e : lerr x = 8 := by unfold lerr; rw [if_neg h, if_neg hc]
        rw [if_neg hc, e]
        rfl
  · unfold thread_check_l2
    simp only [dF (show ¬ (ls.length : Int) < (ls.length : Int) by omega), Bool.false_eq_true, if_false]
theorem tcheck_eq (l : List Int) : F_thread_Check l = some (lerr l) := by
  unfold F_thread_Check F_thread_check
  rw [tcheckL _ (by simp)]
  by_cases h : lerr l = 0
  · simp [h]
  · simp [h]
theorem rcheck2_eq (x : List Int) : F_raddleref02_Check x = some (lerr x) := by
  unfold F_raddleref02_Check
  by_cases h : 400 < x.length
  · have e : lerr x = 4 := by unfold lerr; rw [if_pos h]
    simp only [dT (show (400 : Int) < (x.length : Int) by omega), if_true, e]
  have hw : whileO (raddleref02_Check_l1 x) 0 = some (if x.all (fun y => decide (0 ≤ y ∧ y < 400)) = true then .inr () else .inl 8) := by
    refine loop_allL x _ _ _ (fun j hj => ?_) ?_
    · unfold raddleref02_Check_l1
      simp only [dT (show (j : Int) < (x.length : Int) by omega), if_true, idxO_nat hj, Option.bind_some, w64_succ (show j < 9223372036854775807 by omega)]
      by_cases c1 : x[j] < 0
      · simp only [dT c1, if_true, Option.bind_some, dF (show ¬ (0 ≤ x[j] ∧ x[j] < 400) by omega), Bool.false_eq_true, if_false]
      · by_cases c2 : 400 ≤ x[j]
        · simp only [dF c1, dT c2, Bool.false_eq_true, if_false, if_true, Option.bind_some, dF (show ¬ (0 ≤ x[j] ∧ x[j] < 400) by omega)]
        · simp only [dF c1, dF c2, Bool.false_eq_true, if_false, Option.bind_some, dT (show 0 ≤ x[j] ∧ x[j] < 400 by omega), if_true]
    · unfold raddleref02_Check_l1
      simp only [dF (show ¬ (x.length : Int) < (x.length : Int) by omega), Bool.false_eq_true, if_false]
  simp only [dF (show ¬ (400 : Int) < (x.length : Int) by omega), Bool.false_eq_true, if_false, hw]
  by_cases hc : x.all (fun y => decide (0 ≤ y ∧ y < 400)) = true
  · have e : lerr x = 0 := by unfold lerr; rw [if_neg h, if_pos hc]
    rw [if_pos hc, e]
    rfl
  · have e : lerr x = 8 := by unfold lerr; rw [if_neg h, if_neg hc]
    rw [if_neg hc, e]
    rfl
/-- the first error of the units -/
def eL : List (List Int) → Int
  | [] => 0
  | u :: us => if lerr u = 0 then eL us else lerr u
theorem eL_all {l : List (List Int)} (h : eL l = 0) : ∀ g, g ∈ l → lerr g = 0 := by
  induction l with
  | nil => intro g hg; cases hg
  | cons x l ih =>
    intro g hg
    simp only [eL] at h
    by_cases hx : lerr x = 0
    · rw [if_pos hx] at h
      rcases List.mem_cons.1 hg with rfl | hg
      · exact hx
      · exact ih h g hg
    · rw [if_neg hx] at h; exact absurd h hx
theorem eL_find (l : List (List Int)) : (l.findSome? fun g => if lerr g = 0 then none else some (Sum.inl (β := Unit) (lerr g))).getD (.inr ()) = if eL l = 0 then .inr () else .inl (eL l) := by
  induction l with
  | nil => rfl
  | cons g l ih =>
    rw [List.findSome?_cons]
    by_cases h : lerr g = 0
    · rw [if_pos h]; simp only [eL, if_pos h]; exact ih
    · rw [if_neg h]; simp only [eL, if_neg h, Option.getD_some]
def sameL (us : List (List Int)) : Bool := us.all fun u => decide (u.length ≠ 0 ∧ u.length = (us.getD 0 []).length)
def sperr (us : List (List Int)) : Int := if us.length = 0 ∨ 400 < us.length then 2 else if eL us = 0 then (if sameL us = true then 0 else 26) else eL us
theorem lne (a b : Nat) : ((a : Int) != (b : Int)) = !decide (a = b) := by
  by_cases h : a = b
  · rw [dT h, nF (by omega)]; rfl
  · rw [dF h, nT (by omega)]; rfl
theorem len_idx (us : List (List Int)) (h0 : 0 < us.length) (hl : us.length ≤ 1000000) : F_slices_ContainsFunc_____int___int__s0 us us = some (!us.all fun u => decide (u.length = (us.getD 0 []).length)) := by
  have hw := loop_idx (B := slices_IndexFunc_____int___int__s0_l1 us us) us (fun u => !decide (u.length = (us.getD 0 []).length)) (fun k => .inl (k : Int)) (.inr ()) (fun k hk => by
    unfold slices_IndexFunc_____int___int__s0_l1 F_block_spelled_1_s0
    simp only [dT (show (k : Int) < (us.length : Int) by omega), if_true, idxO_nat hk, getD_0 [] h0, Option.bind_some, lne, w64_succ (show k < 9223372036854775807 by omega)]
    split <;> rfl) (by
    unfold slices_IndexFunc_____int___int__s0_l1
    simp only [dF (show ¬ (us.length : Int) < (us.length : Int) by omega), Bool.false_eq_true, if_false])
  have hi : F_slices_IndexFunc_____int___int__s0 us us = some (idxF us (fun u => !decide (u.length = (us.getD 0 []).length))) := by
    unfold F_slices_IndexFunc_____int___int__s0 idxF
    rw [hw]
    by_cases h : us.findIdx (fun u => !decide (u.length = (us.getD 0 []).length)) < us.length
    · rw [if_pos h, if_pos h]; rfl
    · rw [if_neg h, if_neg h]; rfl
  unfold F_slices_ContainsFunc_____int___int__s0
  rw [hi, Option.bind_some, idxF_nn]
  congr 1
  rw [List.all_eq_not_any_not, Bool.not_not]
theorem getD0_mem {α : Type} {us : List α} (d : α) (h : 0 < us.length) : us.getD 0 d ∈ us := by
  rw [List.getD_eq_getElem?_getD, List.getElem?_eq_getElem h]
  exact List.getElem_mem _
theorem spelled_eq (us : List (List Int)) : F_block_spelled us = some (sperr us) := by
  unfold F_block_spelled sperr
  by_cases h0 : us.length = 0
  · rw [if_pos (show us.length = 0 ∨ 400 < us.length from .inl h0)]; simp only [bT (show (us.length : Int) = 0 by omega), if_true, Option.bind_some]
  by_cases h1 : 400 < us.length
  · rw [if_pos (show us.length = 0 ∨ 400 < us.length from .inr h1)]; simp only [bF (show ¬ (us.length : Int) = 0 by omega), dT (show (400 : Int) < (us.length : Int) by omega), Bool.false_eq_true, if_false, if_true, Option.bind_some]
  rw [if_neg (show ¬ (us.length = 0 ∨ 400 < us.length) by omega)]
  have hw : whileO (block_spelled_l1 us) 0 = some (if eL us = 0 then .inr () else .inl (eL us)) := by
    rw [← eL_find]
    refine loop_list us (fun l => if lerr l = 0 then none else some (Sum.inl (lerr l))) (.inr ()) (fun k hk => ?_) ?_
    · unfold block_spelled_l1
      simp only [dT (show (k : Int) < (us.length : Int) by omega), if_true, idxO_nat hk, Option.bind_some, tcheck_eq, w64_succ (show k < 9223372036854775807 by omega)]
      by_cases h : lerr us[k] = 0
      · rw [nF h, if_pos h]; rfl
      · rw [nT h, if_neg h]; rfl
    · unfold block_spelled_l1
      simp only [dF (show ¬ (us.length : Int) < (us.length : Int) by omega), Bool.false_eq_true, if_false]
  simp only [bF (show ¬ (us.length : Int) = 0 by omega), dF (show ¬ (400 : Int) < (us.length : Int) by omega), Bool.false_eq_true, if_false, Option.bind_some, hw]
  by_cases h2 : eL us = 0
  case neg => rw [if_neg h2, if_neg h2]; rfl
  rw [if_pos h2, if_pos h2]
  have hm := getD0_mem [] (show 0 < us.length by omega)
  simp only [Option.bind_some, getD_0 [] (show 0 < us.length by omega)]
  by_cases h3 : (us.getD 0 []).length = 0
  · have hs : ¬ sameL us = true := fun h => (of_decide_eq_true (List.all_eq_true.1 h _ hm)).1 h3
    rw [if_neg hs]
    simp only [bT (show ((us.getD 0 []).length : Int) = 0 by omega), if_true, Option.bind_some]
  have hs : sameL us = us.all fun u => decide (u.length = (us.getD 0 []).length) := by
    unfold sameL
    have : ∀ l : List (List Int), (l.all fun u => decide (u.length ≠ 0 ∧ u.length = (us.getD 0 []).length)) = l.all fun u => decide (u.length = (us.getD 0 []).length) := by
      intro l
      induction l with
      | nil => rfl
      | cons x l ih =>
        rw [List.all_cons, List.all_cons, ih]
        congr 1
        exact decide_eq_decide.2 ⟨fun h => h.2, fun h => ⟨by omega, h⟩⟩
    exact this us
  simp only [bF (show ¬ ((us.getD 0 []).length : Int) = 0 by omega), Bool.false_eq_true, if_false, len_idx us (by omega) (by omega), Option.bind_some, ← hs]
  cases sameL us <;> rfl
theorem rspelled_eq (us : List (List Int)) : F_raddleref13_Spelled us = some (sperr us) := by
  unfold F_raddleref13_Spelled sperr
  by_cases h0 : us.length = 0
  · rw [if_pos (show us.length = 0 ∨ 400 < us.length from .inl h0)]; simp only [dT (show (us.length : Int) < 1 by omega), if_true, Option.bind_some]
  by_cases h1 : 400 < us.length
  · rw [if_pos (show us.length = 0 ∨ 400 < us.length from .inr h1)]; simp only [dF (show ¬ (us.length : Int) < 1 by omega), dT (show (400 : Int) < (us.length : Int) by omega), Bool.false_eq_true, if_false, if_true, Option.bind_some]
  rw [if_neg (show ¬ (us.length = 0 ∨ 400 < us.length) by omega)]
  have hw : whileO (raddleref13_Spelled_l1 us) 0 = some (if eL us = 0 then .inr () else .inl (eL us)) := by
    rw [← eL_find]
    refine loop_list us (fun l => if lerr l = 0 then none else some (Sum.inl (lerr l))) (.inr ()) (fun k hk => ?_) ?_
    · unfold raddleref13_Spelled_l1
      simp only [dT (show (k : Int) < (us.length : Int) by omega), if_true, idxO_nat hk, Option.bind_some, rcheck2_eq, w64_succ (show k < 9223372036854775807 by omega)]
      by_cases h : lerr us[k] = 0
      · rw [nF h, if_pos h]; rfl
      · rw [nT h, if_neg h]; rfl
    · unfold raddleref13_Spelled_l1
      simp only [dF (show ¬ (us.length : Int) < (us.length : Int) by omega), Bool.false_eq_true, if_false]
  simp only [dF (show ¬ (us.length : Int) < 1 by omega), dF (show ¬ (400 : Int) < (us.length : Int) by omega), Bool.false_eq_true, if_false, Option.bind_some, hw]
  by_cases h2 : eL us = 0
  case neg => rw [if_neg h2, if_neg h2]; rfl
  rw [if_pos h2, if_pos h2]
  have hw2 : whileO (raddleref13_Spelled_l2 us) 0 = some (if sameL us = true then .inr () else .inl 26) := by
    refine loop_allL us _ _ _ (fun k hk => ?_) ?_
    · unfold raddleref13_Spelled_l2
      simp only [dT (show (k : Int) < (us.length : Int) by omega), if_true, idxO_nat hk, getD_0 [] (show 0 < us.length by omega), Option.bind_some, lne, w64_succ (show k < 9223372036854775807 by omega)]
      by_cases c1 : us[k].length = 0
      · simp only [bT (show (us[k].length : Int) = 0 by omega), if_true, Option.bind_some, dF (show ¬ (us[k].length ≠ 0 ∧ us[k].length = (us.getD 0 []).length) from fun h => h.1 c1), Bool.false_eq_true, if_false]
      · by_cases c2 : us[k].length = (us.getD 0 []).length
        · simp only [bF (show ¬ (us[k].length : Int) = 0 by omega), Bool.false_eq_true, if_false, Option.bind_some, dT c2, Bool.not_true, dT (show (us[k].length ≠ 0 ∧ us[k].length = (us.getD 0 []).length) from ⟨c1, c2⟩), if_true]
        · simp only [bF (show ¬ (us[k].length : Int) = 0 by omega), Bool.false_eq_true, if_false, Option.bind_some, dF c2, Bool.not_false, dF (show ¬ (us[k].length ≠ 0 ∧ us[k].length = (us.getD 0 []).length) from fun h => c2 h.2), if_true]
    · unfold raddleref13_Spelled_l2
      simp only [dF (show ¬ (us.length : Int) < (us.length : Int) by omega), Bool.false_eq_true, if_false]
  simp only [Option.bind_some, hw2]
  by_cases h3 : sameL us = true
  · rw [if_pos h3, if_pos h3]; rfl
  · rw [if_neg h3, if_neg h3]; rfl
/-- what units that are spelled have -/
theorem sp_ok {us : List (List Int)} (h : sperr us = 0) : 0 < us.length ∧ us.length ≤ 400 ∧ 1 ≤ (us.getD 0 []).length ∧ (us.getD 0 []).length ≤ 400 ∧ ∀ u, u ∈ us → u.length = (us.getD 0 []).length := by
  unfold sperr at h
  by_cases h0 : us.length = 0 ∨ 400 < us.length
  · rw [if_pos h0] at h; cases h
  rw [if_neg h0] at h
  by_cases h1 : eL us = 0
  case neg => rw [if_neg h1] at h; exact absurd h h1
  rw [if_pos h1] at h
  by_cases h2 : sameL us = true
  case neg => rw [if_neg h2] at h; cases h
  have hm := getD0_mem [] (show 0 < us.length by omega)
  have ha := fun u hu => of_decide_eq_true (List.all_eq_true.1 h2 u hu)
  refine ⟨by omega, by omega, ?_, (lerr_zero (eL_all h1 _ hm)).1, fun u hu => (ha u hu).2⟩
  have := (ha _ hm).1
  omega
/-- the unit of a block -/
def su (us : List (List Int)) (l : List Int) (k : Nat) : List Int := us.getD (l.getD k 0).toNat []
theorem su_ok {us : List (List Int)} {l : List Int} (hr : inRg l us.length = true) {k : Nat} (hk : k < l.length) : idxO us l[k] = some (su us l k) ∧ su us l k ∈ us := by
  have h : 0 ≤ l[k] ∧ l[k] < (us.length : Int) := of_decide_eq_true (List.all_eq_true.1 hr _ (List.getElem_mem hk))
  have hj : l[k].toNat < us.length := by omega
  have e : su us l k = us[l[k].toNat] := by
    unfold su
    rw [List.getD_eq_getElem?_getD (l := l), List.getElem?_eq_getElem hk, Option.getD_some, List.getD_eq_getElem?_getD, List.getElem?_eq_getElem hj, Option.getD_some]
  rw [e]
  exact ⟨idxO_of (by omega) hj, List.getElem_mem _⟩
def spellS (l : List Int) (us : List (List Int)) : List Int × Int :=
  if lerr l = 0 then (if sperr us = 0 then (if inRg l us.length = true then (if 400 < l.length * (us.getD 0 []).length then ([], 4) else (gl (fun x y => (su us l y).getD x 0) (us.getD 0 []).length l.length, 0)) else ([], 8)) else ([], sperr us)) else ([], lerr l)
theorem map_getD {α : Type} (u : List α) (d : α) {n : Nat} (h : u.length = n) : (List.range n).map (fun x => u.getD x d) = u := by
  subst h
  apply List.ext_getElem
  · simp
  · intro i h1 h2
    simp [List.getD_eq_getElem?_getD, h2]
theorem glf_row {α : Type} (f : Nat → Nat → α) (n k : Nat) (u : List α) (d : α) (hu : u.length = n) (h : ∀ x, x < n → f x k = u.getD x d) : glf f n ((k + 1) * n) = glf f n (k * n) ++ u := by
  rw [Nat.add_mul, Nat.one_mul]
  unfold glf
  rw [List.range_add, List.map_append]
  congr 1
  rw [List.map_map]
  refine Eq.trans (map_cong fun x hx => ?_) (map_getD u d hu)
  simp only [Function.comp, pl_mod hx, pl_div hx]
  exact h x hx
theorem spell_eq (l : List Int) (us : List (List Int)) : F_block_Spell l us = some (spellS l us) := by
  unfold F_block_Spell spellS
  rw [tcheck_eq]
  by_cases h0 : lerr l = 0
  case neg => rw [if_neg h0]; simp only [Option.bind_some, nT h0, if_true]
  rw [if_pos h0]
  simp only [Option.bind_some, nF h0, Bool.false_eq_true, if_false, spelled_eq]
  by_cases h1 : sperr us = 0
  case neg => rw [if_neg h1]; simp only [nT h1, if_true]
  rw [if_pos h1]
  obtain ⟨u0, u1, n0, n1, hn⟩ := sp_ok h1
  have hl := (lerr_zero h0).1
  simp only [nF h1, Bool.false_eq_true, if_false, index_eq l us.length (by omega), Option.bind_some]
  by_cases h2 : inRg l us.length = true
  case neg => rw [if_neg h2]; simp only [h2, Bool.not_false, if_true]
  rw [if_pos h2]
  simp only [h2, Bool.not_true, Bool.false_eq_true, if_false, getD_0 [] u0, Option.bind_some]
  generalize (us.getD 0 []).length = n at *
  have hp : l.length * n ≤ 400 * 400 := Nat.mul_le_mul hl n1
  rw [wmul (by omega)]
  by_cases h3 : 400 < l.length * n
  · rw [if_pos h3]; simp only [dT (show (400 : Int) < ((l.length * n : Nat) : Int) by omega), if_true]
  rw [if_neg h3]
  have hb := loop_seq (B := block_Spell_l1 l us) (fun k => (glf (fun x y => (su us l y).getD x 0) n (k * n), (k : Int))) l.length (t := glf (fun x y => (su us l y).getD x 0) n (l.length * n))
    (fun k hk => by
      obtain ⟨e1, e2⟩ := su_ok h2 hk
      have e3 := hn _ e2
      have e4 : k * n + n ≤ l.length * n := by
        have := Nat.mul_le_mul_right n (show k + 1 ≤ l.length by omega)
        rw [Nat.add_mul, Nat.one_mul] at this
        exact this
      unfold block_Spell_l1
      simp only [dT (show (k : Int) < (l.length : Int) by omega), if_true, idxO_nat hk, e1, Option.bind_some]
      rw [appO_of (by simp [glf]; omega), Option.bind_some, w64_succ (by omega), glf_row _ n k (su us l k) 0 e3 (fun x _ => rfl)])
    (by
      unfold block_Spell_l1
      simp only [dF (show ¬ (l.length : Int) < (l.length : Int) by omega), Bool.false_eq_true, if_false])
  have e0 : (glf (fun x y => (su us l y).getD x 0) n (0 * n), (((0 : Nat) : Int))) = (([] : List Int), (0 : Int)) := by simp [glf]
  simp only [e0] at hb
  simp only [dF (show ¬ (400 : Int) < ((l.length * n : Nat) : Int) by omega), Bool.false_eq_true, if_false, hb, Option.bind_some]
  unfold gl
  rw [Nat.mul_comm n l.length]
theorem rspell_eq (l : List Int) (us : List (List Int)) : F_raddleref13_Spell l us = some (spellS l us) := by
  unfold F_raddleref13_Spell spellS
  rw [rcheck2_eq]
  by_cases h0 : lerr l = 0
  case neg => rw [if_neg h0]; simp only [Option.bind_some, nT h0, if_true]
  rw [if_pos h0]
  simp only [Option.bind_some, nF h0, Bool.false_eq_true, if_false, rspelled_eq]
  by_cases h1 : sperr us = 0
  case neg => rw [if_neg h1]; simp only [nT h1, if_true]
  rw [if_pos h1]
  obtain ⟨u0, u1, n0, n1, hn⟩ := sp_ok h1
  obtain ⟨hl, hx⟩ := lerr_zero h0
  have hw : whileO (raddleref13_Spell_l1 l us) 0 = some (if inRg l us.length = true then .inr () else .inl ([], 8)) := by
    refine loop_allL l _ _ _ (fun k hk => ?_) ?_
    · have := hx _ (List.getElem_mem hk)
      unfold raddleref13_Spell_l1
      simp only [dT (show (k : Int) < (l.length : Int) by omega), if_true, idxO_nat hk, Option.bind_some, w64_succ (show k < 9223372036854775807 by omega)]
      by_cases c : (us.length : Int) ≤ l[k]
      · simp only [dT c, if_true, dF (show ¬ (0 ≤ l[k] ∧ l[k] < (us.length : Int)) by omega), Bool.false_eq_true, if_false]
      · simp only [dF c, Bool.false_eq_true, if_false, dT (show 0 ≤ l[k] ∧ l[k] < (us.length : Int) by omega), if_true]
    · unfold raddleref13_Spell_l1
      simp only [dF (show ¬ (l.length : Int) < (l.length : Int) by omega), Bool.false_eq_true, if_false]
  simp only [nF h1, Bool.false_eq_true, if_false, hw, Option.bind_some]
  by_cases h2 : inRg l us.length = true
  case neg => rw [if_neg h2, if_neg h2]; rfl
  rw [if_pos h2, if_pos h2]
  simp only [Option.bind_some, getD_0 [] u0]
  generalize hU : us.getD 0 [] = U at *
  generalize hN : U.length = n at *
  have hp : l.length * n ≤ 400 * 400 := Nat.mul_le_mul hl n1
  rw [wmul (by omega)]
  by_cases h3 : 400 < l.length * n
  · rw [if_pos h3]; simp only [dT (show (400 : Int) < ((l.length * n : Nat) : Int) by omega), if_true]
  rw [if_neg h3]
  have hb := loop_seq (B := raddleref13_Spell_l2 U l us) (fun k => (gst (fun x y => (su us l y).getD x 0) 0 n l.length k, (k : Int))) (l.length * n) (t := gst (fun x y => (su us l y).getD x 0) 0 n l.length (l.length * n))
    (fun k hk => by
      have c1 : k / n < l.length := pl_divlt (by rw [Nat.mul_comm]; exact hk)
      have c2 : k % n < n := pl_modlt (by omega)
      obtain ⟨e1, e2⟩ := su_ok h2 c1
      have e3 := hn _ e2
      have hg := gst_len (fun x y => (su us l y).getD x 0) 0 n l.length k
      have hg2 : n * l.length = l.length * n := Nat.mul_comm _ _
      unfold raddleref13_Spell_l2
      simp only [hN, dT (show (k : Int) < ((gst (fun x y => (su us l y).getD x 0) 0 n l.length k).length : Int) by omega), if_true, quo_nat (show 0 < n by omega) (show k ≤ 9223372036854775807 by omega), rem_nat (show 0 < n by omega), idxO_nat c1, e1, idxO_D (xs := su us l (k / n)) (k := k % n) 0 (by omega), idxO_nat (xs := gst (fun x y => (su us l y).getD x 0) 0 n l.length k) (k := k) (by omega), setO_nat (xs := gst (fun x y => (su us l y).getD x 0) 0 n l.length k) (k := k) (by omega), Option.bind_some, w64_succ (show k < 9223372036854775807 by omega)]
      rw [gst_set (fun x y => (su us l y).getD x 0) 0 n l.length k])
    (by
      have hg := gst_len (fun x y => (su us l y).getD x 0) 0 n l.length (l.length * n)
      have hg2 : n * l.length = l.length * n := Nat.mul_comm _ _
      unfold raddleref13_Spell_l2
      simp only [dF (show ¬ ((l.length * n : Nat) : Int) < ((gst (fun x y => (su us l y).getD x 0) 0 n l.length (l.length * n)).length : Int) by omega), Bool.false_eq_true, if_false])
  have e0 : (gst (fun x y => (su us l y).getD x 0) 0 n l.length 0, (((0 : Nat) : Int))) = (List.replicate (l.length * n) (0 : Int), (0 : Int)) := by rw [gst_zero, Nat.mul_comm]; rfl
  simp only [e0, gst_full] at hb
  simp only [dF (show ¬ (400 : Int) < ((l.length * n : Nat) : Int) by omega), Bool.false_eq_true, if_false]
  rw [makeO_of (k := l.length * n) rfl (by omega)]
  simp only [Option.bind_some, hb]

end Go.Proofs.Ythfifeabomdlpaa
namespace Go.Proofs.Ythfifeabomdlpaa
open Go.RowKit
set_option linter.unusedVariables false

theorem rsame_il (a b : List Int) (hl : a.length ≤ 9223372036854775807) : F_raddleref02_Same a b = some (decide (a = b)) := by
  by_cases h3 : (a.length : Int) = (b.length : Int)
  case neg => unfold F_raddleref02_Same; simp only [nT h3, if_true]; rw [decide_eq_false]; rintro rfl; exact h3 rfl
  have hw : whileO (raddleref02_Same_l1 a b) 0 = some (if a = b then .inr () else .inl false) := by
    refine loop_eql a b (by omega) _ _ (fun k hk => ?_) ?_
    · unfold raddleref02_Same_l1
      simp only [dT (show (k : Int) < (a.length : Int) by omega), if_true, idxO_nat hk, idxO_nat (xs := b) (k := k) (by omega), Option.bind_some, w64_succ (show k < 9223372036854775807 by omega)]
      by_cases e : a[k] = b[k]'(by omega)
      · rw [if_pos e, e]; simp
      · rw [if_neg e, if_pos (by simpa using e)]
    · unfold raddleref02_Same_l1; simp
  unfold F_raddleref02_Same
  simp only [nF h3, Bool.false_eq_true, if_false, Option.bind_some, hw]
  by_cases e : a = b
  · rw [if_pos e]; simp [e]
  · rw [if_neg e]; simp [e]
theorem equal_il (a b : List Int) (hl : a.length ≤ 9223372036854775807) : F_slices_Equal___int_int_ a b = some (decide (a = b)) := by
  by_cases h3 : (a.length : Int) = (b.length : Int)
  case neg => unfold F_slices_Equal___int_int_; simp only [nT h3, if_true]; rw [decide_eq_false]; rintro rfl; exact h3 rfl
  have hw : whileO (slices_Equal___int_int__l1 a b) 0 = some (if a = b then .inr () else .inl false) := by
    refine loop_eql a b (by omega) _ _ (fun k hk => ?_) ?_
    · unfold slices_Equal___int_int__l1
      simp only [dT (show (k : Int) < (a.length : Int) by omega), if_true, idxO_nat hk, idxO_nat (xs := b) (k := k) (by omega), Option.bind_some, w64_succ (show k < 9223372036854775807 by omega)]
      by_cases e : a[k] = b[k]'(by omega)
      · rw [if_pos e, e]; simp
      · rw [if_neg e, if_pos (by simpa using e)]
    · unfold slices_Equal___int_int__l1; simp
  unfold F_slices_Equal___int_int_
  simp only [nF h3, Bool.false_eq_true, if_false, Option.bind_some, hw]
  by_cases e : a = b
  · rw [if_pos e]; simp [e]
  · rw [if_neg e]; simp [e]
def twR (us : List (List Int)) (i : Nat) : Bool := (List.range i).all fun k => !decide (us.getD i [] = us.getD k [])
/-- two units are equal -/
def twS (us : List (List Int)) : Bool := !(List.range us.length).all (twR us)
theorem getD_memL {us : List (List Int)} {i : Nat} (h : i < us.length) : us.getD i [] ∈ us := by
  rw [List.getD_eq_getElem?_getD, List.getElem?_eq_getElem h]
  exact List.getElem_mem _
theorem two_loop (us : List (List Int)) (hl : us.length ≤ 1000000) (hb : ∀ u, u ∈ us → u.length ≤ 1000000) : whileO (block_Blocks_l2 us) 0 = some (if twS us = true then .inl ([], 14) else .inr ()) := by
  have h := loop_all (B := block_Blocks_l2 us) us.length (twR us) (.inr ()) (.inl ([], 14)) (fun i hi => by
    have hs := sliceO_of (xs := us) (lo := 0) (hi := (i : Int)) (l := 0) (k := i) rfl rfl (Nat.zero_le _) (by omega)
    have hA : ((us.take i).drop 0).length = i := by simp; omega
    have hix : ∀ k, k < i → idxO ((us.take i).drop 0) (k : Int) = some (us.getD k []) := by
      intro k hk
      rw [idxO_D [] (by omega)]
      congr 1
      simp [List.getD_eq_getElem?_getD, List.getElem?_take, hk]
    have hw : whileO (block_Blocks_l1 ((us.take i).drop 0) (us.getD i [])) 0 = some (if twR us i = true then .inr () else .inl ([], 14)) := by
      unfold twR
      refine loop_all i _ _ _ (fun k hk => ?_) ?_
      · unfold block_Blocks_l1
        simp only [hA, dT (show (k : Int) < (i : Int) by omega), if_true, hix k hk, Option.bind_some, equal_il _ _ (Nat.le_trans (hb _ (getD_memL hi)) (by decide)), w64_succ (show k < 9223372036854775807 by omega)]
        by_cases e : us.getD i [] = us.getD k []
        · simp only [dT e, if_true, Bool.not_true, Bool.false_eq_true, if_false]
        · simp only [dF e, if_true, Bool.not_false, Bool.false_eq_true, if_false]
      · unfold block_Blocks_l1
        simp only [hA, dF (show ¬ (i : Int) < (i : Int) by omega), Bool.false_eq_true, if_false]
    unfold block_Blocks_l2
    simp only [dT (show (i : Int) < (us.length : Int) by omega), if_true, idxO_D [] hi, hs, Option.bind_some, hw, w64_succ (show i < 9223372036854775807 by omega)]
    cases twR us i <;> rfl) (by
    unfold block_Blocks_l2
    simp only [dF (show ¬ (us.length : Int) < (us.length : Int) by omega), Bool.false_eq_true, if_false])
  rw [h]
  unfold twS
  cases (List.range us.length).all (twR us) <;> rfl
theorem rtwice_eq (us : List (List Int)) (hl : us.length ≤ 1000000) (hb : ∀ u, u ∈ us → u.length ≤ 1000000) : F_raddleref13_Twice us = some (twS us) := by
  have h := loop_all (B := raddleref13_Twice_l2 us) us.length (twR us) (.inr ()) (.inl true) (fun i hi => by
    have hw : whileO (raddleref13_Twice_l1 (i : Int) us) 0 = some (if twR us i = true then .inr () else .inl true) := by
      unfold twR
      refine loop_all i _ _ _ (fun k hk => ?_) ?_
      · unfold raddleref13_Twice_l1
        simp only [dT (show (k : Int) < (i : Int) by omega), if_true, idxO_D [] hi, idxO_D (xs := us) [] (show k < us.length by omega), Option.bind_some, rsame_il _ _ (Nat.le_trans (hb _ (getD_memL hi)) (by decide)), w64_succ (show k < 9223372036854775807 by omega)]
        by_cases e : us.getD i [] = us.getD k []
        · simp only [dT e, if_true, Bool.not_true, Bool.false_eq_true, if_false]
        · simp only [dF e, if_true, Bool.not_false, Bool.false_eq_true, if_false]
      · unfold raddleref13_Twice_l1
        simp only [dF (show ¬ (i : Int) < (i : Int) by omega), Bool.false_eq_true, if_false]
    unfold raddleref13_Twice_l2
    simp only [dT (show (i : Int) < (us.length : Int) by omega), if_true, Option.bind_some, hw, w64_succ (show i < 9223372036854775807 by omega)]
    cases twR us i <;> rfl) (by
    unfold raddleref13_Twice_l2
    simp only [dF (show ¬ (us.length : Int) < (us.length : Int) by omega), Bool.false_eq_true, if_false])
  unfold F_raddleref13_Twice
  rw [h]
  unfold twS
  cases (List.range us.length).all (twR us) <;> rfl
def chk (l : List Int) (n k : Nat) : List Int := (l.take (k * n + n)).drop (k * n)
def bkI (l : List Int) (us : List (List Int)) (n k : Nat) : Nat := us.findIdx fun u => decide (u = chk l n k)
def bkG (l : List Int) (us : List (List Int)) (n k : Nat) : Bool := decide (bkI l us n k < us.length)
def bkL (l : List Int) (us : List (List Int)) (n k : Nat) : List Int := (List.range k).map fun t => ((bkI l us n t : Nat) : Int)
theorem bkL_succ (l : List Int) (us : List (List Int)) (n k : Nat) : bkL l us n (k + 1) = bkL l us n k ++ [((bkI l us n k : Nat) : Int)] := by simp [bkL, List.range_succ]
theorem bkL_len (l : List Int) (us : List (List Int)) (n k : Nat) : (bkL l us n k).length = k := by simp [bkL]
def blocksS (l : List Int) (us : List (List Int)) : List Int × Int :=
  if lerr l = 0 then (if sperr us = 0 then (if twS us = true then ([], 14) else if l.length % (us.getD 0 []).length = 0 then
    (if (List.range (l.length / (us.getD 0 []).length)).all (bkG l us (us.getD 0 []).length) = true then (bkL l us (us.getD 0 []).length (l.length / (us.getD 0 []).length), 0) else ([], 6)) else ([], 26)) else ([], sperr us)) else ([], lerr l)
theorem chunk_idx (us : List (List Int)) (c : List Int) (hl : us.length ≤ 1000000) (hb : ∀ u, u ∈ us → u.length ≤ 1000000) : F_slices_IndexFunc_____int___int__s1 us c = some (idxF us fun u => decide (u = c)) := by
  have hw := loop_idx (B := slices_IndexFunc_____int___int__s1_l1 us c) us (fun u => decide (u = c)) (fun k => .inl (k : Int)) (.inr ()) (fun k hk => by
    have := hb _ (List.getElem_mem hk)
    unfold slices_IndexFunc_____int___int__s1_l1 F_block_Blocks_1_s0
    simp only [dT (show (k : Int) < (us.length : Int) by omega), if_true, idxO_nat hk, Option.bind_some, equal_il _ _ (show us[k].length ≤ 9223372036854775807 by omega), w64_succ (show k < 9223372036854775807 by omega)]
    split <;> rfl) (by
    unfold slices_IndexFunc_____int___int__s1_l1
    simp only [dF (show ¬ (us.length : Int) < (us.length : Int) by omega), Bool.false_eq_true, if_false])
  unfold F_slices_IndexFunc_____int___int__s1 idxF
  rw [hw]
  by_cases h : us.findIdx (fun u => decide (u = c)) < us.length
  · rw [if_pos h, if_pos h]; rfl
  · rw [if_neg h, if_neg h]; rfl
theorem chunks_eq (l : List Int) (us : List (List Int)) {n m : Nat} (n0 : 1 ≤ n) (hm : l.length = m * n) (hl : l.length ≤ 1000000) (hu : us.length ≤ 1000000) (hb : ∀ u, u ∈ us → u.length ≤ 1000000) :
    I_slices_Chunk___int_int__1 l (n : Int) _ _ (block_Blocks_l4 us) ([] : List Int) = some (if (List.range m).all (bkG l us n) = true then .inl (bkL l us n m) else .inr ()) := by
  have hmle : m ≤ m * n := Nat.le_mul_of_pos_right m n0
  have h := loop_seqf (B := slices_Chunk___int_int__1_l1 l (n : Int) (block_Blocks_l4 us)) (fun k => (((k * n : Nat) : Int), bkL l us n k)) m (bkG l us n) (bad := .inl (.inr ())) (t := .inr (bkL l us n m))
    (fun k hk _ => by
      have e4 : k * n + n ≤ m * n := by
        have := Nat.mul_le_mul_right n (show k + 1 ≤ m by omega)
        rw [Nat.add_mul, Nat.one_mul] at this
        exact this
      have hbl := bkL_len l us n k
      have hs := sliceO_all (xs := l) (k := k * n) (by omega)
      have h3 : slice3O l ((k * n : Nat) : Int) ((k * n + n : Nat) : Int) ((k * n + n : Nat) : Int) = some (chk l n k) := by
        unfold slice3O
        rw [if_pos ⟨by omega, by omega, by omega, by omega⟩, Int.toNat_natCast, Int.toNat_natCast]
        rfl
      have hd : ¬ ((l.drop (k * n)).length : Int) < (n : Int) := by rw [List.length_drop]; omega
      unfold slices_Chunk___int_int__1_l1
      simp only [dT (show ((k * n : Nat) : Int) < (l.length : Int) by omega), if_true, hs, Option.bind_some]
      simp only [if_neg hd, wadd (a := k * n) (b := n) (by omega), h3, Option.bind_some]
      unfold block_Blocks_l4
      simp only [chunk_idx us (chk l n k) hu hb, Option.bind_some]
      unfold bkG idxF
      by_cases hc : bkI l us n k < us.length
      · rw [dT hc]
        unfold bkI at hc
        rw [if_pos hc]
        simp only [dF (show ¬ ((us.findIdx (fun u => decide (u = chk l n k)) : Nat) : Int) < 0 by omega), Bool.false_eq_true, if_false, if_true]
        rw [appO_of (by simp [hbl]; omega), bkL_succ, show (k + 1) * n = k * n + n by rw [Nat.add_mul, Nat.one_mul]]
        rfl
      · rw [dF hc]
        unfold bkI at hc
        rw [if_neg hc]
        rfl)
    (fun _ => by
      unfold slices_Chunk___int_int__1_l1
      simp only [dF (show ¬ ((m * n : Nat) : Int) < (l.length : Int) by omega), Bool.false_eq_true, if_false])
  have e0 : (((0 * n : Nat) : Int), bkL l us n 0) = ((0 : Int), ([] : List Int)) := by simp [bkL]
  simp only [e0] at h
  unfold I_slices_Chunk___int_int__1
  rw [h]
  by_cases hc : (List.range m).all (bkG l us n) = true
  · rw [if_pos hc, if_pos hc]; rfl
  · rw [if_neg hc, if_neg hc]; rfl
theorem len_dvd {a n : Nat} (h : a % n = 0) : a = a / n * n := by
  have := pl_of a n
  rw [h, Nat.add_zero] at this
  exact this.symm
theorem blocks_eq (l : List Int) (us : List (List Int)) : F_block_Blocks l us = some (blocksS l us) := by
  unfold F_block_Blocks blocksS
  rw [tcheck_eq]
  by_cases h0 : lerr l = 0
  case neg => rw [if_neg h0]; simp only [Option.bind_some, nT h0, if_true]
  rw [if_pos h0]
  simp only [Option.bind_some, nF h0, Bool.false_eq_true, if_false, spelled_eq]
  by_cases h1 : sperr us = 0
  case neg => rw [if_neg h1]; simp only [nT h1, if_true]
  rw [if_pos h1]
  obtain ⟨u0, u1, n0, n1, hn⟩ := sp_ok h1
  have hl := (lerr_zero h0).1
  have hb : ∀ u, u ∈ us → u.length ≤ 1000000 := fun u hu => by rw [hn u hu]; omega
  simp only [nF h1, Bool.false_eq_true, if_false, two_loop us (by omega) hb, Option.bind_some]
  by_cases h2 : twS us = true
  · rw [if_pos h2, if_pos h2]; rfl
  rw [if_neg h2, if_neg h2]
  simp only [Option.bind_some, getD_0 [] u0]
  generalize (us.getD 0 []).length = n at *
  rw [rem_nat (show 0 < n by omega), Option.bind_some]
  by_cases h3 : l.length % n = 0
  case neg => rw [if_neg h3]; simp only [nT (show ¬ ((l.length % n : Nat) : Int) = 0 by omega), if_true]
  rw [if_pos h3]
  have hd := len_dvd h3
  have hck : F_slices_Chunk___int_int_ l (n : Int) = some (l, (n : Int)) := by
    unfold F_slices_Chunk___int_int_
    simp only [dF (show ¬ (n : Int) < 1 by omega), Bool.false_eq_true, if_false]
  simp only [nF (show ((l.length % n : Nat) : Int) = 0 by omega), Bool.false_eq_true, if_false, hck, Option.bind_some]
  rw [chunks_eq l us n0 hd (by omega) (by omega) hb]
  by_cases hc : (List.range (l.length / n)).all (bkG l us n) = true
  · rw [if_pos hc, if_pos hc]; rfl
  · rw [if_neg hc, if_neg hc]; rfl
theorem rblocks_eq (l : List Int) (us : List (List Int)) : F_raddleref13_Blocks l us = some (blocksS l us) := by
  unfold F_raddleref13_Blocks blocksS
  rw [rcheck2_eq]
  by_cases h0 : lerr l = 0
  case neg => rw [if_neg h0]; simp only [Option.bind_some, nT h0, if_true]
  rw [if_pos h0]
  simp only [Option.bind_some, nF h0, Bool.false_eq_true, if_false, rspelled_eq]
  by_cases h1 : sperr us = 0
  case neg => rw [if_neg h1]; simp only [nT h1, if_true]
  rw [if_pos h1]
  obtain ⟨u0, u1, n0, n1, hn⟩ := sp_ok h1
  have hl := (lerr_zero h0).1
  have hb : ∀ u, u ∈ us → u.length ≤ 1000000 := fun u hu => by rw [hn u hu]; omega
  simp only [nF h1, Bool.false_eq_true, if_false, rtwice_eq us (by omega) hb, Option.bind_some]
  by_cases h2 : twS us = true
  · rw [if_pos h2]; simp only [h2, if_true]
  rw [if_neg h2]
  simp only [h2, Bool.false_eq_true, if_false, Option.bind_some, getD_0 [] u0]
  generalize hU : us.getD 0 [] = U at *
  generalize hN : U.length = n at *
  rw [rem_nat (show 0 < n by omega), Option.bind_some]
  by_cases h3 : l.length % n = 0
  case neg => rw [if_neg h3]; simp only [nT (show ¬ ((l.length % n : Nat) : Int) = 0 by omega), if_true]
  rw [if_pos h3]
  have hd := len_dvd h3
  generalize l.length / n = m at *
  have hmle : m ≤ m * n := Nat.le_mul_of_pos_right m n0
  have h := loop_seqf (B := raddleref13_Blocks_l2 l us U) (fun k => (bkL l us n k, ((k * n : Nat) : Int))) m (bkG l us n) (bad := .inl ([], 6)) (t := .inr (bkL l us n m))
    (fun k hk _ => by
      have e4 : k * n + n ≤ m * n := by
        have := Nat.mul_le_mul_right n (show k + 1 ≤ m by omega)
        rw [Nat.add_mul, Nat.one_mul] at this
        exact this
      have hbl := bkL_len l us n k
      have hs : sliceO l ((k * n : Nat) : Int) ((k * n + n : Nat) : Int) = some (chk l n k) := sliceO_of rfl rfl (by omega) (by omega)
      have hin := loop_idxW (B := raddleref13_Blocks_l1 us l ((k * n : Nat) : Int) U) us (fun u => decide (u = chk l n k))
        (fun j hj => by
          have := hb _ (List.getElem_mem hj)
          unfold raddleref13_Blocks_l1
          simp only [hN, dT (show (j : Int) < (us.length : Int) by omega), if_true, idxO_nat hj, Option.bind_some, wadd (a := k * n) (b := n) (by omega), hs, rsame_il _ _ (show us[j].length ≤ 9223372036854775807 by omega), w64_succ (show j < 9223372036854775807 by omega)]
          by_cases e : us[j] = chk l n k
          · rw [dT e]; rfl
          · rw [dF e]; rfl)
        (by
          unfold raddleref13_Blocks_l1
          simp only [dF (show ¬ (us.length : Int) < (us.length : Int) by omega), Bool.false_eq_true, if_false, Option.bind_some])
      have hle := findIdx_le us (fun u => decide (u = chk l n k))
      unfold raddleref13_Blocks_l2
      simp only [hN, dT (show ((k * n : Nat) : Int) < (l.length : Int) by omega), if_true, hin, Option.bind_some, wadd (a := k * n) (b := n) (by omega)]
      unfold bkG
      by_cases hc : bkI l us n k < us.length
      · rw [dT hc]
        unfold bkI at hc
        simp only [bF (show ¬ ((us.findIdx (fun u => decide (u = chk l n k)) : Nat) : Int) = (us.length : Int) by omega), Bool.false_eq_true, if_false, if_true]
        rw [appO_of (by simp [hbl]; omega), bkL_succ, show (k + 1) * n = k * n + n by rw [Nat.add_mul, Nat.one_mul]]
        rfl
      · rw [dF hc]
        unfold bkI at hc
        simp only [bT (show ((us.findIdx (fun u => decide (u = chk l n k)) : Nat) : Int) = (us.length : Int) by omega), if_true]
        rfl)
    (fun _ => by
      unfold raddleref13_Blocks_l2
      simp only [dF (show ¬ ((m * n : Nat) : Int) < (l.length : Int) by omega), Bool.false_eq_true, if_false])
  have e0 : (bkL l us n 0, ((0 * n : Nat) : Int)) = (([] : List Int), (0 : Int)) := by simp [bkL]
  simp only [e0] at h
  simp only [nF (show ((l.length % n : Nat) : Int) = 0 by omega), Bool.false_eq_true, if_false, h, Option.bind_some]
  by_cases hc : (List.range m).all (bkG l us n) = true
  · rw [if_pos hc, if_pos hc]; rfl
  · rw [if_neg hc, if_neg hc]; rfl
/-- great lists -/
theorem rgreat2_eq (l : List Int) : F_raddleref02_Great l = some (decide (60 < l.length ∧ l.length ≤ 400 ∨ 420 < l.length)) := by
  unfold F_raddleref02_Great
  by_cases h1 : 60 < l.length
  · by_cases h2 : l.length ≤ 400
    · simp only [dT (show (60 : Int) < (l.length : Int) by omega), dT (show (l.length : Int) ≤ 400 by omega), if_true, Option.bind_some, dT (show 60 < l.length ∧ l.length ≤ 400 ∨ 420 < l.length by omega)]
    · simp only [dT (show (60 : Int) < (l.length : Int) by omega), dF (show ¬ (l.length : Int) ≤ 400 by omega), if_true, Bool.false_eq_true, if_false, Option.bind_some]
      congr 1
      exact decide_eq_decide.2 (by omega)
  · simp only [dF (show ¬ (60 : Int) < (l.length : Int) by omega), Bool.false_eq_true, if_false, Option.bind_some]
    congr 1
    exact decide_eq_decide.2 (by omega)
theorem rgreatL (us : List (List Int)) (hl : us.length ≤ 9223372036854775807) : ∃ b, F_raddleref13_Great us = some b := by
  have hw : whileO (raddleref13_Great_l1 us) 0 = some (if us.all (fun l => !decide (60 < l.length ∧ l.length ≤ 400 ∨ 420 < l.length)) = true then .inr () else .inl true) := by
    refine loop_allL us _ _ _ (fun k hk => ?_) ?_
    · unfold raddleref13_Great_l1
      simp only [dT (show (k : Int) < (us.length : Int) by omega), if_true, idxO_nat hk, Option.bind_some, rgreat2_eq, w64_succ (show k < 9223372036854775807 by omega)]
      by_cases h : 60 < us[k].length ∧ us[k].length ≤ 400 ∨ 420 < us[k].length
      · simp only [dT h, if_true, Bool.not_true, Bool.false_eq_true, if_false]
      · simp only [dF h, Bool.false_eq_true, if_false, Bool.not_false, if_true]
    · unfold raddleref13_Great_l1
      simp only [dF (show ¬ (us.length : Int) < (us.length : Int) by omega), Bool.false_eq_true, if_false]
  unfold F_raddleref13_Great
  rw [hw]
  by_cases h : us.all (fun l => !decide (60 < l.length ∧ l.length ≤ 400 ∨ 420 < l.length)) = true
  · rw [if_pos h]
    simp only [Option.bind_some]
    by_cases h1 : (20 : Int) < (us.length : Int)
    · by_cases h2 : (us.length : Int) ≤ 400
      · simp only [dT h1, dT h2, if_true, Option.bind_some]; exact ⟨_, rfl⟩
      · simp only [dT h1, dF h2, if_true, Bool.false_eq_true, if_false, Option.bind_some]; exact ⟨_, rfl⟩
    · simp only [dF h1, Bool.false_eq_true, if_false, Option.bind_some]; exact ⟨_, rfl⟩
  · rw [if_neg h]; exact ⟨_, rfl⟩
theorem spellS_bd (l : List Int) (us : List (List Int)) : (spellS l us).1.length ≤ 9223372036854775807 := by
  unfold spellS
  by_cases h0 : lerr l = 0
  case neg => rw [if_neg h0]; simp
  rw [if_pos h0]
  by_cases h1 : sperr us = 0
  case neg => rw [if_neg h1]; simp
  rw [if_pos h1]
  have hl := (lerr_zero h0).1
  obtain ⟨u0, u1, n0, n1, hn⟩ := sp_ok h1
  have := Nat.mul_le_mul n1 hl
  split
  · split
    · simp
    · simp only [gl_len]; omega
  · simp
theorem blocksS_bd (l : List Int) (us : List (List Int)) : (blocksS l us).1.length ≤ 9223372036854775807 := by
  unfold blocksS
  by_cases h0 : lerr l = 0
  case neg => rw [if_neg h0]; simp
  rw [if_pos h0]
  have hl := (lerr_zero h0).1
  have : l.length / (us.getD 0 []).length ≤ l.length := Nat.div_le_self _ _
  split
  · split
    · simp
    · split
      · split
        · simp only [bkL_len]; omega
        · simp
      · simp
  · simp

end Go.Proofs.Ythfifeabomdlpaa
namespace Go.Proofs.Ythfifeabomdlpaa
open Go.RowKit
set_option linter.unusedVariables false

theorem law_BlockSpells (l : List Int) (us : List (List Int)) (wl : Wl (InK .i64) l) (wu : Wl (Wl (InK .i64)) us) : F_raddlelaw13_BlockSpells l us = some true := by
  unfold F_raddlelaw13_BlockSpells
  obtain ⟨b, hb⟩ := rgreatL us wu.1
  rw [rgreat2_eq, hb]
  by_cases h1 : 60 < l.length ∧ l.length ≤ 400 ∨ 420 < l.length
  · simp only [dT h1, if_true, Option.bind_some]
  cases b with
  | true => simp only [dF h1, Bool.false_eq_true, if_false, if_true, Option.bind_some]
  | false =>
    simp only [dF h1, Bool.false_eq_true, if_false, Option.bind_some, spell_eq, rspell_eq, blocks_eq, rblocks_eq, rsame_il _ _ (spellS_bd l us), rsame_il _ _ (blocksS_bd l us), decide_true, if_true, beq_self_eq_true]

end Go.Proofs.Ythfifeabomdlpaa
namespace Go.Proofs.Ythfifeabomdlpaa
open Go.RowKit
set_option linter.unusedVariables false

namespace frameBlockSpells
open Go.ChangeShapes Go.WideShapes Go.ChangeAt Go.Joins
theorem own : ownKnob Try.prog.godebug = none := by kernel_rfl
theorem laidOut : laidOutB Try.prog = true := by kernel_rfl
set_option maxRecDepth 100000 in
theorem lifted (os : Os) (started : os.Started) (H : Type) (enc : TypeId × Value → H) :
    ReturnsInHanded {} Try.checked os 5 .any (Rows.blockSpellsSpec.pre6 enc Try.prog Try.f5 Rows.blockSpellsRow.domain false) (Rows.blockSpellsSpec.post enc Try.prog Try.f5 false true false false) := by
  refine returnsInHanded_of_change (C := Try.checked) own started (by kernel_rfl) Try.func5
    (ChangeSpec.witness6 (enc := enc) (C := Try.checked) false ⟨#[], #[.slice none 0 0, .slice none 0 0], []⟩ 8 (by kernel_rfl) (by kernel_rfl) (by kernel_rfl) (by kernel_rfl)) ?_
  intro W base args ds gs before hval0 hW hcnd _
  have hval : ∀ (j : Nat) t v, Try.f5.params[j]? = some t → args[j]? = some v → Value.okWide Try.prog W .any base t v := hval0
  have hW' := hW
  obtain ⟨p, q, hA0, hV, rfl, hfz, hnd⟩ := hW
  have hA : DataW.TrodAll enc Try.prog W 0 (fun _ => true) true Try.f5.params.toList args.toList ds p := hA0
  rw [Try.params5] at hA hval
  obtain ⟨v0, vs0, d0, ds0, p0, q0, hargs, rfl, rfl, h0, r0⟩ := trodAll_cons hA
  obtain ⟨v1, vs1, d1, ds1, p1, q1, rfl, rfl, rfl, h1, r1⟩ := trodAll_cons r0
  obtain ⟨rfl, rfl, rfl⟩ := trodAll_nil r1
  obtain rfl : args = #[v0, v1] := by cases args; simp_all
  obtain ⟨rfl, rfl⟩ := trodVars_none hV
  have k0 := h0
  have lt0 : ∀ x ∈ p0, x.block < W.heap.size := by obtain ⟨m, hm⟩ := k0; exact DataW.trod_lt m _ _ _ hm
  have k1 := h1
  have lt1 : ∀ x ∈ p1, x.block < W.heap.size := by obtain ⟨m, hm⟩ := k1; exact DataW.trod_lt m _ _ _ hm
  obtain ⟨x0, rep0, wf0⟩ := top_slice Try.underlying35 (op_slice (r := (rI .i64)) Try.underlying35 (by kernel_rfl) (op_int .i64 Try.underlying3)) (hval 0 _ v0 rfl rfl) h0
  obtain ⟨x1, rep1, wf1⟩ := top_slice Try.underlying46 (op_slice (r := (rL (rI .i64))) Try.underlying46 (by kernel_rfl) (op_slice (r := (rI .i64)) Try.underlying35 (by kernel_rfl) (op_int .i64 Try.underlying3))) (hval 1 _ v1 rfl rfl) h1
  clear hA0 hval0
  refine (c_raddlelaw13_BlockSpells (fun _ => False) W x0 v0 x1 v1 true (law_BlockSpells x0 x1 wf0 wf1) (St0.start (by intro d hd; simp only [List.mem_cons, List.not_mem_nil, or_false] at hd; rcases hd with rfl | rfl; exact rep0; exact rep1))).mono fun e W' hr => ?_
  obtain ⟨_, he, hS⟩ := hr
  have bel := hS.chg.below
  subst he
  exact ⟨_, rfl, _, _, _, [], _, [], hW', trodAll_mk1 (shut_bool Try.underlying4 _), (trodAll_cons_mk (Below.trod laidOut (by kernel_rfl) (of_decide_eq_true (by kernel_rfl)) k0 bel lt0) (trodAll_cons_mk (Below.trod laidOut (by kernel_rfl) (of_decide_eq_true (by kernel_rfl)) k1 bel lt1) trodAll_mk0)), rfl, bel.frame _, fun h => by cases h⟩
theorem over : Rows.blockSpellsRow.holds Try.pinned (OpenSpec.ofChange Rows.blockSpellsSpec) :=
  OpenClaim.holds_of_wide 5 Try.f5 rfl rfl rfl rfl rfl rfl rfl ⟨rfl, rfl, rfl, rfl, rfl⟩ rfl rfl rfl rfl rfl (by kernel_rfl) Try.func5 (by kernel_rfl)
    (of_decide_eq_true (by kernel_rfl)) (by unfold Func.isWrapper; first | (rw [if_pos (by decide +kernel)]; kernel_rfl) | (rw [if_neg (by decide +kernel)]; exact ⟨rfl, rfl⟩))
    (fun os started H enc _ => lifted os started H enc)
end frameBlockSpells
theorem blockSpells_holds : Rows.BlockSpellsSaid := frameBlockSpells.over

end Go.Proofs.Ythfifeabomdlpaa
