/- Several texts in one: G29 G39 G40 KeAlive G31 KvAlive KeBlockNames -/
import Derived.WalkKit
import Derived.Maps.AppendAt
import Derived.Deep.AppendLies
import Derived.KernelRfl
import Derived.Laws.OwnMore
import Derived.Great.BuildSlice
import Derived.Orders
import Derived.Laws.StructEq
import Derived.ChangeKeysEq
import Derived.Defers
import Derived.Laws.BytesString
import Derived.RangeFuncNested
import Derived.RangeFuncBound
import Derived.RangeFuncCalls
import Derived.RangeFuncLeaves
import Derived.OrdersIn
import Derived.LoopNIn
import Derived.ArgAppend
import Derived.Test.YthfifeabomdlpaaProg
import Derived.ProofKit
import Derived.OpenShut
import Derived.ChangeOld
import Derived.Deep.Slices
import Derived.Lib.SmallJoins
import Derived.JoinedOf
import Derived.JoinedAt
import Derived.Below
import Derived.Test.YthfifeabomdlpaaRows
import Derived.Test.YthfifeabomdlpaaMBlockNames3
namespace Go.Proofs.Ythfifeabomdlpaa
open Go.RowKit
set_option linter.unusedVariables false

noncomputable def block_Blocks_l1 (y44 : List (List Int)) (x36 : (List Int)) : Int → Option (Int ⊕ (((List Int) × Int) ⊕ Unit)) := fun s0 => match s0 with
  | s48 =>
    if decide (s48 < (y44.length : Int)) then
      Option.bind (idxO y44 s48) fun x57 =>
      Option.bind (F_slices_Equal___int_int_ x36 x57) fun r65 =>
      if r65 then
        some (.inr (.inl (([] : (List Int)), 14)))
      else
        some (.inl (w64 (s48 + 1)))
    else
      some (.inr (.inr ()))
noncomputable def block_Blocks_l2 (p1 : (List (List Int))) : Int → Option (Int ⊕ (((List Int) × Int) ⊕ Unit)) := fun s0 => match s0 with
  | s26 =>
    if decide (s26 < (p1.length : Int)) then
      Option.bind (α := Unit ⊕ ((List Int) × Int)) (
        Option.bind (idxO p1 s26) fun x36 =>
        Option.bind (sliceO p1 0 s26) fun y44 =>
        Option.bind (whileO (block_Blocks_l1 y44 x36) 0) fun z0 => match z0 with
          | .inl z =>
            some (.inr z)
          | .inr _ =>
            some (.inl ())) fun z0 => match z0 with
        | .inl _ =>
          some (.inl (w64 (s26 + 1)))
        | .inr z =>
          some (.inr (.inl z))
    else
      some (.inr (.inr ()))
noncomputable def block_Blocks_l4 (p1 : (List (List Int))) : List Int → (List Int) → Option (List Int ⊕ Unit) := fun s0 x0 => match s0, x0 with
  | s91, x94 =>
    Option.bind (F_slices_IndexFunc_____int___int__s1 p1 x94) fun r100 =>
    if decide (r100 < 0) then
      some (.inr ())
    else
      Option.bind (appO s91 ([r100] : List Int)) fun l108 =>
      some (.inl l108)
noncomputable def F_block_Blocks (p0 : (List Int)) (p1 : (List (List Int))) : Option ((List Int) × Int) :=
  Option.bind (F_thread_Check p0) fun r11 =>
  if r11 != 0 then
    some (([] : (List Int)), r11)
  else
    Option.bind (F_block_spelled p1) fun r18 =>
    if r18 != 0 then
      some (([] : (List Int)), r18)
    else
      Option.bind (α := Unit ⊕ ((List Int) × Int)) (
        Option.bind (whileO (block_Blocks_l2 p1) 0) fun z0 => match z0 with
          | .inl z =>
            some (.inr z)
          | .inr _ =>
            some (.inl ())) fun z0 => match z0 with
        | .inl _ =>
          Option.bind (idxO p1 0) fun x70 =>
          Option.bind (remI (p0.length : Int) (x70.length : Int)) fun z79 =>
          if z79 != 0 then
            some (([] : (List Int)), 26)
          else
            Option.bind (F_slices_Chunk___int_int_ p0 (x70.length : Int)) fun r87 =>
            Option.bind (I_slices_Chunk___int_int__1 r87.1 r87.2 _ _ (block_Blocks_l4 p1) ([] : List Int)) fun z0 => match z0 with
              | .inl s91 =>
                some (s91, 0)
              | .inr _ =>
                some (([] : (List Int)), 6)
        | .inr z =>
          some z
def c_block_Blocks_val (r : ((List Int) × Int)) (x : Value) : Value := .tuple #[x, .int .i64 r.2]
def c_block_Blocks_D (r : ((List Int) × Int)) (x : Value) : List Fact := [fRep (rL (rI .i64)) x r.1]
set_option maxHeartbeats 4000000 in
set_option maxRecDepth 100000 in
theorem c_block_Blocks (E : Nat → Prop) (w0 : World) (p0 : (List Int)) (v0 : Value) (p1 : (List (List Int))) (v1 : Value) (r : ((List Int) × Int)) (h : F_block_Blocks p0 p1 = some r) (S : St0 E [] w0 w0 [] [fRep (rL (rI .i64)) (v0) p0, fRep (rL (rL (rI .i64))) (v1) p1]) :
    Calls Try.prog 29 #[v0, v1] w0 (Ret (X := Value) E [] w0 (c_block_Blocks_val r) (fun _ => []) (c_block_Blocks_D r)) := by
  unfold F_block_Blocks at h
  obtain ⟨ad1, cp2, _, rfl, _⟩ := S.know (i := 0) (e := fRep (rL (rI .i64)) (v0) p0) rfl
  obtain ⟨ad3, cp4, _, rfl, _⟩ := S.know (i := 1) (e := fRep (rL (rL (rI .i64))) (v1) p1) rfl
  refine sEnterM (args := [.slice ad1 p0.length cp2, .slice ad3 p1.length cp4]) 69 Try.func29 rfl rfl (by simp) S (fun a S => ?_)
  refine sSeq (fun K5 hK5 => ?_)
  refine sRegion ?_
  refine sBox (v := .slice ad3 p1.length cp4) S (wN rfl) rfl rfl [.slice ad3 p1.length cp4] rfl rfl (lb rfl) fun a b6 w S => ?_
  refine sAlloc (.slice none 0 0) S (wN rfl) rfl rfl [.slice none 0 0] rfl rfl (lb rfl) fun a b7 w S => ?_
  refine sAlloc (iv 0) S (wN rfl) rfl rfl [iv 0] rfl rfl (lb rfl) fun a b8 w S => ?_
  refine leafL (leafT (hK5 _ _ ?_))
  refine sSeq (fun K9 hK9 => ?_)
  refine sSeq (fun K10 hK10 => ?_)
  refine sRegion ?_
  refine sMove (.slice ad1 p0.length cp2) S (wN rfl) (.inl rfl) rfl rfl (lb rfl) fun a S => ?_
  obtain ⟨r11, hx12, h⟩ := bindSome h
  have S1 := S.mem
  refine sCallQ (X := Unit) (f := 57) (vs := [.slice ad1 p0.length cp2]) (val := fun _ => iv r11) S (wN rfl) rfl callee57 rfl (S1.quiet [0] rfl) (fun E1 w1 S1 => c_thread_Check E1 w1 p0 (.slice ad1 p0.length cp2) r11 hx12 S1) rfl (lb rfl) fun _ a w S => ?_
  refine sMove (iv r11) S (wN rfl) (.inr rfl) rfl rfl (lb rfl) fun a S => ?_
  refine leafL (leafT (hK10 _ _ ?_))
  refine sSeq (fun K13 hK13 => ?_)
  refine sRegion ?_
  refine sMove (iv r11) S (wN rfl) (.inl rfl) rfl rfl (lb rfl) fun a S => ?_
  refine sBin (.bool (r11 != 0)) S (wN rfl) rfl rfl rfl (bNe _ _ _ _ .i64 r11 0) rfl (lb rfl) fun a S => ?_
  refine leafL (leafT (hK13 _ _ ?_))
  rcases iteSome h with ⟨hc14, h⟩ | ⟨hc14, h⟩
  · refine sCondT S rfl hc14 ?_
    refine sSeq (fun K15 hK15 => ?_)
    refine sRegion ?_
    refine sMove (iv r11) S (wN rfl) (.inl rfl) rfl rfl (lb rfl) fun a S => ?_
    refine sStore (p := b7) (off := 0) (T := 35) (vs := [.slice none 0 0]) (v := .slice none 0 0) 1 [.slice none 0 0] S (wN rfl) rfl rfl rfl rfl rfl rfl rfl (by simp) rfl fun a w S => ?_
    refine sStore (p := b8) (off := 0) (T := 27) (vs := [iv 0]) (v := iv r11) 1 [iv r11] S (wN rfl) rfl rfl rfl rfl rfl rfl rfl (by simp) rfl fun a w S => ?_
    refine leafL (leafT (hK15 _ _ ?_))
    obtain rfl := Option.some.inj h
    have S := S.learn (fRep (rL (rI .i64)) (.slice none 0 0) ([] : (List Int))) (rL_nil _ _ _)
    exact wp_ret (rThen (sRetM0 (.tuple #[.slice none 0 0, iv r11]) S (rsl2 rfl (rv1 (c := 4) (t := 35) (T := 35) (p := b7) 1 (.slice none 0 0) S rfl rfl rfl) (rv1 (c := 5) (t := 27) (T := 27) (p := b8) 0 (iv r11) S rfl rfl rfl)) ⟨(.slice none 0 0), rfl, S.mem.sel [] [0] (by decide) rfl rfl⟩))
  refine sCondF S rfl hc14 ?_
  refine wp_skip (leafT (hK9 _ _ ?_))
  refine sSeq (fun K16 hK16 => ?_)
  refine sSeq (fun K17 hK17 => ?_)
  refine sRegion ?_
  refine sLoad1 (p := b6) (off := 0) (T := 46) (vs := [.slice ad3 p1.length cp4]) 2 (.slice ad3 p1.length cp4) S (wN rfl) rfl rfl rfl rfl rfl rfl (lb rfl) fun a S => ?_
  obtain ⟨r18, hx19, h⟩ := bindSome h
  have S1 := S.mem
  refine sCallQ (X := Unit) (f := 58) (vs := [.slice ad3 p1.length cp4]) (val := fun _ => iv r18) S (wN rfl) rfl callee58 rfl (S1.quiet [1] rfl) (fun E1 w1 S1 => c_block_spelled E1 w1 p1 (.slice ad3 p1.length cp4) r18 hx19 S1) rfl (lb rfl) fun _ a w S => ?_
  refine sMove (iv r18) S (wN rfl) (.inr rfl) rfl rfl (lb rfl) fun a S => ?_
  refine leafL (leafT (hK17 _ _ ?_))
  refine sSeq (fun K20 hK20 => ?_)
  refine sRegion ?_
  refine sMove (iv r18) S (wN rfl) (.inl rfl) rfl rfl (lb rfl) fun a S => ?_
  refine sBin (.bool (r18 != 0)) S (wN rfl) rfl rfl rfl (bNe _ _ _ _ .i64 r18 0) rfl (lb rfl) fun a S => ?_
  refine leafL (leafT (hK20 _ _ ?_))
  rcases iteSome h with ⟨hc21, h⟩ | ⟨hc21, h⟩
  · refine sCondT S rfl hc21 ?_
    refine sSeq (fun K22 hK22 => ?_)
    refine sRegion ?_
    refine sMove (iv r18) S (wN rfl) (.inl rfl) rfl rfl (lb rfl) fun a S => ?_
    refine sStore (p := b7) (off := 0) (T := 35) (vs := [.slice none 0 0]) (v := .slice none 0 0) 1 [.slice none 0 0] S (wN rfl) rfl rfl rfl rfl rfl rfl rfl (by simp) rfl fun a w S => ?_
    refine sStore (p := b8) (off := 0) (T := 27) (vs := [iv 0]) (v := iv r18) 1 [iv r18] S (wN rfl) rfl rfl rfl rfl rfl rfl rfl (by simp) rfl fun a w S => ?_
    refine leafL (leafT (hK22 _ _ ?_))
    obtain rfl := Option.some.inj h
    have S := S.learn (fRep (rL (rI .i64)) (.slice none 0 0) ([] : (List Int))) (rL_nil _ _ _)
    exact wp_ret (rThen (sRetM0 (.tuple #[.slice none 0 0, iv r18]) S (rsl2 rfl (rv1 (c := 4) (t := 35) (T := 35) (p := b7) 1 (.slice none 0 0) S rfl rfl rfl) (rv1 (c := 5) (t := 27) (T := 27) (p := b8) 0 (iv r18) S rfl rfl rfl)) ⟨(.slice none 0 0), rfl, S.mem.sel [] [0] (by decide) rfl rfl⟩))
  refine sCondF S rfl hc21 ?_
  refine wp_skip (leafT (hK16 _ _ ?_))
  obtain ⟨t23, h, g24⟩ := bindSome h
  refine sCut (fun a w => .inl () = t23 ∧ St [] E [] w0 69 a w [(0, .slice ad1 p0.length cp2), (3, .pointer (some ⟨b6, 0, none⟩)), (4, .pointer (some ⟨b7, 0, none⟩)), (5, .pointer (some ⟨b8, 0, none⟩))] [eBox b6 46 [.slice ad3 p1.length cp4], eBox b7 35 [.slice none 0 0], eBox b8 27 [iv 0]] [fRep (rL (rI .i64)) (.slice ad1 p0.length cp2) p0, fRep (rL (rL (rI .i64))) (.slice ad3 p1.length cp4) p1]) ?_ (fun a w hI => ?_)
  · refine sSeq (fun K25 hK25 => ?_)
    refine sRegion ?_
    refine sLoad1 (p := b6) (off := 0) (T := 46) (vs := [.slice ad3 p1.length cp4]) 2 (.slice ad3 p1.length cp4) S (wN rfl) rfl rfl rfl rfl rfl rfl (lb rfl) fun a S => ?_
    refine sLen (ad := ad3) (m := p1.length) (c := cp4) S (wN rfl) rfl Try.underlying46 rfl rfl (lb rfl) fun a S => ?_
    refine sMove (iv 0) S (wN rfl) (.inl rfl) rfl rfl (lb rfl) fun a S => ?_
    refine leafL (leafT (hK25 _ _ ?_))
    refine wp_block ?_
    obtain ⟨t29, hl, g28⟩ := bindSome h
    refine sLoop hl (fun s0 a w => match s0 with | s26 => St [] E [] w0 69 a w [(0, .slice ad1 p0.length cp2), (3, .pointer (some ⟨b6, 0, none⟩)), (4, .pointer (some ⟨b7, 0, none⟩)), (5, .pointer (some ⟨b8, 0, none⟩)), (26, .slice ad3 p1.length cp4), (27, iv (p1.length : Int)), (28, iv s26)] [eBox b6 46 [.slice ad3 p1.length cp4], eBox b7 35 [.slice none 0 0], eBox b8 27 [iv 0]] [fRep (rL (rI .i64)) (.slice ad1 p0.length cp2) p0, fRep (rL (rL (rI .i64))) (.slice ad3 p1.length cp4) p1]) (S.fix [2, 1, 0] [0, 1] (by decide) rfl rfl rfl) ?_
    clear hl h
    intro s26 a w c0 hI h hu27
    unfold block_Blocks_l2 at h
    dsimp only at h hI
    have S := hI
    refine sSeq (fun K30 hK30 => ?_)
    refine sRegion ?_
    refine sBin (.bool (decide (s26 < (p1.length : Int)))) S (wN rfl) rfl rfl rfl (bLt _ _ _ _ .i64 s26 (p1.length : Int)) rfl (lb rfl) fun a S => ?_
    refine leafL (leafT (hK30 _ _ ?_))
    refine sSeq (fun K31 hK31 => ?_)
    rcases iteSome h with ⟨hc32, h⟩ | ⟨hc32, h⟩
    rotate_left
    · refine sCondF S rfl hc32 ?_
      obtain rfl := Option.some.inj h
      obtain rfl := hu27 _ rfl
      have h := g28
      clear g28
      try dsimp only at h
      exact wp_exit (xThen (xThen (xHit (leafT (⟨Option.some.inj h, S.fix [0, 1, 2] [0, 1] (by decide) rfl rfl rfl⟩)))))
    refine sCondT S rfl hc32 ?_
    refine wp_skip (leafT (hK31 _ _ ?_))
    obtain ⟨t33, h, g34⟩ := bindSome h
    refine sCut (fun a w => .inl () = t33 ∧ St [] E [] w0 69 a w [(0, .slice ad1 p0.length cp2), (3, .pointer (some ⟨b6, 0, none⟩)), (4, .pointer (some ⟨b7, 0, none⟩)), (5, .pointer (some ⟨b8, 0, none⟩)), (26, .slice ad3 p1.length cp4), (27, iv (p1.length : Int)), (28, iv s26)] [eBox b6 46 [.slice ad3 p1.length cp4], eBox b7 35 [.slice none 0 0], eBox b8 27 [iv 0]] [fRep (rL (rI .i64)) (.slice ad1 p0.length cp2) p0, fRep (rL (rL (rI .i64))) (.slice ad3 p1.length cp4) p1]) ?_ (fun a w hI => ?_)
    rotate_left
    · obtain ⟨rfl, S⟩ := hI
      have h := g34
      clear g34
      try dsimp only at h
      refine sRegion ?_
      refine sBin (iv (w64 (s26 + 1))) S (wN rfl) rfl rfl rfl (bAdd _ _ _ _ s26 1) rfl (lb rfl) fun a S => ?_
      refine sMove (iv (w64 (s26 + 1))) S (wN rfl) (.inl rfl) rfl rfl (lb rfl) fun a S => ?_
      exact leafL (leafT (⟨w64 (s26 + 1), (Option.some.inj h).symm, (S.fix [0, 1, 2] [0, 1] (by decide) rfl rfl rfl)⟩))
    refine wp_block ?_
    refine sSeq (fun K35 hK35 => ?_)
    refine sRegion ?_
    refine sMove (iv s26) S (wN rfl) (.inl rfl) rfl rfl (lb rfl) fun a S => ?_
    obtain ⟨x36, hx37, h⟩ := bindSome h
    obtain ⟨q38, hq39, S⟩ := pIdx (P := Try.prog) (r := (rL (rI .i64))) (v := .slice ad3 p1.length cp4) (xs := p1) (j := s26) 46 35 1 S Try.underlying46 rfl rfl hx37
    refine sIdxV (v := .slice ad3 p1.length cp4) (k := .i64) (j := s26) S (wN rfl) rfl rfl rfl hq39 rfl (lb rfl) fun a S => ?_
    obtain ⟨u40, S⟩ := pLoad (r := (rL (rI .i64))) (q := q38) (x := x36) 0 S rfl
    obtain ⟨ad41, cp42, _, rfl, _⟩ := S.mem.know (i := 1) (e := fRep (rL (rI .i64)) (u40) x36) rfl
    refine sLoadV1 (vq := q38) 0 (.slice ad41 x36.length cp42) S (wN rfl) rfl rfl rfl rfl rfl (lb rfl) fun a S => ?_
    refine sMove (iv s26) S (wN rfl) (.inr rfl) rfl rfl (lb rfl) fun a S => ?_
    refine sMove (.slice ad41 x36.length cp42) S (wN rfl) (.inr rfl) rfl rfl (lb rfl) fun a S => ?_
    refine leafL (leafT (hK35 _ _ ?_))
    refine sSeq (fun K43 hK43 => ?_)
    refine sRegion ?_
    refine sLoad1 (p := b6) (off := 0) (T := 46) (vs := [.slice ad3 p1.length cp4]) 0 (.slice ad3 p1.length cp4) S (wN rfl) rfl rfl rfl rfl rfl rfl (lb rfl) fun a S => ?_
    refine sMove (iv s26) S (wN rfl) (.inl rfl) rfl rfl (lb rfl) fun a S => ?_
    obtain ⟨y44, hx45, h⟩ := bindSome h
    refine sSlice (r := (rL (rI .i64))) (v := .slice ad3 p1.length cp4) (xs := p1) (vlo := none) (vhi := (some (.int .i64 s26))) (lo' := 0) (hi' := s26) 4 S (wN rfl) rfl Try.underlying46 rfl rfl rfl rfl rfl (.inr ⟨rfl, rfl⟩) (.inl rfl) hx45 rfl (lb rfl) fun a ad46 cp47 S => ?_
    refine sLen (ad := ad46) (m := y44.length) (c := cp47) S (wN rfl) rfl Try.underlying46 rfl rfl (lb rfl) fun a S => ?_
    refine sMove (iv 0) S (wN rfl) (.inl rfl) rfl rfl (lb rfl) fun a S => ?_
    refine leafL (leafT (hK43 _ _ ?_))
    refine wp_block ?_
    obtain ⟨t51, hl, g50⟩ := bindSome h
    refine sLoop hl (fun s0 a w => match s0 with | s48 => St [] E [] w0 69 a w [(0, .slice ad1 p0.length cp2), (3, .pointer (some ⟨b6, 0, none⟩)), (4, .pointer (some ⟨b7, 0, none⟩)), (5, .pointer (some ⟨b8, 0, none⟩)), (9, .slice ad41 x36.length cp42), (26, .slice ad3 p1.length cp4), (27, iv (p1.length : Int)), (28, iv s26), (35, .slice ad46 y44.length cp47), (36, iv (y44.length : Int)), (37, iv s48)] [eBox b6 46 [.slice ad3 p1.length cp4], eBox b7 35 [.slice none 0 0], eBox b8 27 [iv 0]] [fRep (rL (rI .i64)) (.slice ad1 p0.length cp2) p0, fRep (rL (rI .i64)) (.slice ad41 x36.length cp42) x36, fRep (rL (rL (rI .i64))) (.slice ad3 p1.length cp4) p1, fRep (rL (rL (rI .i64))) (.slice ad46 y44.length cp47) y44]) (S.fix [0, 1, 2] [4, 2, 5, 0] (by decide) rfl rfl rfl) ?_
    clear hl h
    intro s48 a w c0 hI h hu49
    unfold block_Blocks_l1 at h
    dsimp only at h hI
    have S := hI
    refine sSeq (fun K52 hK52 => ?_)
    refine sRegion ?_
    refine sBin (.bool (decide (s48 < (y44.length : Int)))) S (wN rfl) rfl rfl rfl (bLt _ _ _ _ .i64 s48 (y44.length : Int)) rfl (lb rfl) fun a S => ?_
    refine leafL (leafT (hK52 _ _ ?_))
    refine sSeq (fun K53 hK53 => ?_)
    rcases iteSome h with ⟨hc54, h⟩ | ⟨hc54, h⟩
    rotate_left
    · refine sCondF S rfl hc54 ?_
      obtain rfl := Option.some.inj h
      obtain rfl := hu49 _ rfl
      have h := g50
      clear g50
      try dsimp only at h
      exact wp_exit (xThen (xThen (xHit (leafB (leafT (⟨Option.some.inj h, S.fix [0, 1, 2] [0, 2] (by decide) rfl rfl rfl⟩))))))
    refine sCondT S rfl hc54 ?_
    refine wp_skip (leafT (hK53 _ _ ?_))
    refine sSeq (fun K55 hK55 => ?_)
    refine wp_block ?_
    refine sSeq (fun K56 hK56 => ?_)
    refine sRegion ?_
    obtain ⟨x57, hx58, h⟩ := bindSome h
    obtain ⟨q59, hq60, S⟩ := pIdx (P := Try.prog) (r := (rL (rI .i64))) (v := .slice ad46 y44.length cp47) (xs := y44) (j := s48) 46 35 3 S Try.underlying46 rfl rfl hx58
    refine sIdxV (v := .slice ad46 y44.length cp47) (k := .i64) (j := s48) S (wN rfl) rfl rfl rfl hq60 rfl (lb rfl) fun a S => ?_
    obtain ⟨u61, S⟩ := pLoad (r := (rL (rI .i64))) (q := q59) (x := x57) 0 S rfl
    obtain ⟨ad62, cp63, _, rfl, _⟩ := S.mem.know (i := 1) (e := fRep (rL (rI .i64)) (u61) x57) rfl
    refine sLoadV1 (vq := q59) 0 (.slice ad62 x57.length cp63) S (wN rfl) rfl rfl rfl rfl rfl (lb rfl) fun a S => ?_
    refine sMove (.slice ad62 x57.length cp63) S (wN rfl) (.inr rfl) rfl rfl (lb rfl) fun a S => ?_
    refine leafL (leafT (hK56 _ _ ?_))
    refine sSeq (fun K64 hK64 => ?_)
    refine sRegion ?_
    refine sMove (.slice ad41 x36.length cp42) S (wN rfl) (.inl rfl) rfl rfl (lb rfl) fun a S => ?_
    refine sMove (.slice ad62 x57.length cp63) S (wN rfl) (.inl rfl) rfl rfl (lb rfl) fun a S => ?_
    obtain ⟨r65, hx66, h⟩ := bindSome h
    have S1 := S.mem
    refine sCallQ (X := Unit) (f := 59) (vs := [.slice ad41 x36.length cp42, .slice ad62 x57.length cp63]) (val := fun _ => .bool r65) S (wN rfl) rfl callee59 rfl (S1.quiet [4, 1] rfl) (fun E1 w1 S1 => c_slices_Equal___int_int_ E1 w1 x36 (.slice ad41 x36.length cp42) x57 (.slice ad62 x57.length cp63) r65 hx66 S1) rfl (lb rfl) fun _ a w S => ?_
    refine leafL (leafT (hK64 _ _ ?_))
    rcases iteSome h with ⟨hc67, h⟩ | ⟨hc67, h⟩
    rotate_left
    · refine sCondF S rfl hc67 ?_
      refine wp_skip (leafB (leafT (hK55 _ _ ?_)))
      refine sRegion ?_
      refine sBin (iv (w64 (s48 + 1))) S (wN rfl) rfl rfl rfl (bAdd _ _ _ _ s48 1) rfl (lb rfl) fun a S => ?_
      refine sMove (iv (w64 (s48 + 1))) S (wN rfl) (.inl rfl) rfl rfl (lb rfl) fun a S => ?_
      exact leafL (leafT (⟨w64 (s48 + 1), (Option.some.inj h).symm, (S.fix [0, 1, 2] [3, 4, 5, 6] (by decide) rfl rfl rfl)⟩))
    refine sCondT S rfl hc67 ?_
    refine sSeq (fun K68 hK68 => ?_)
    refine sRegion ?_
    refine sStore (p := b7) (off := 0) (T := 35) (vs := [.slice none 0 0]) (v := .slice none 0 0) 1 [.slice none 0 0] S (wN rfl) rfl rfl rfl rfl rfl rfl rfl (by simp) rfl fun a w S => ?_
    refine sStore (p := b8) (off := 0) (T := 27) (vs := [iv 0]) (v := iv 14) 2 [iv 14] S (wN rfl) rfl rfl rfl rfl rfl rfl rfl (by simp) rfl fun a w S => ?_
    refine leafL (leafT (hK68 _ _ ?_))
    obtain rfl := Option.some.inj h
    obtain rfl := hu49 _ rfl
    have h := g50
    clear g50
    try dsimp only at h
    obtain rfl := Option.some.inj h
    have h := g34
    clear g34
    try dsimp only at h
    obtain rfl := Option.some.inj h
    obtain rfl := hu27 _ rfl
    have h := g28
    clear g28
    try dsimp only at h
    obtain rfl := Option.some.inj h
    have h := g24
    clear g24
    try dsimp only at h
    obtain rfl := Option.some.inj h
    have S := S.learn (fRep (rL (rI .i64)) (.slice none 0 0) ([] : (List Int))) (rL_nil _ _ _)
    exact wp_ret (rBlock (rThen (rThen (rBlock (rBlock (rThen (rThen (rBlock (rThen (sRetM0 (.tuple #[.slice none 0 0, iv 14]) S (rsl2 rfl (rv1 (c := 4) (t := 35) (T := 35) (p := b7) 1 (.slice none 0 0) S rfl rfl rfl) (rv1 (c := 5) (t := 27) (T := 27) (p := b8) 0 (iv 14) S rfl rfl rfl)) ⟨(.slice none 0 0), rfl, S.mem.sel [] [0] (by decide) rfl rfl⟩))))))))))
  obtain ⟨rfl, S⟩ := hI
  have h := g24
  clear g24
  try dsimp only at h
  refine sSeq (fun K69 hK69 => ?_)
  refine sRegion ?_
  refine sLoad1 (p := b6) (off := 0) (T := 46) (vs := [.slice ad3 p1.length cp4]) 0 (.slice ad3 p1.length cp4) S (wN rfl) rfl rfl rfl rfl rfl rfl (lb rfl) fun a S => ?_
  obtain ⟨x70, hx71, h⟩ := bindSome h
  obtain ⟨q72, hq73, S⟩ := pIdx (P := Try.prog) (r := (rL (rI .i64))) (v := .slice ad3 p1.length cp4) (xs := p1) (j := 0) 46 35 1 S Try.underlying46 rfl rfl hx71
  refine sIdxV (v := .slice ad3 p1.length cp4) (k := .i64) (j := 0) S (wN rfl) rfl rfl rfl hq73 rfl (lb rfl) fun a S => ?_
  obtain ⟨u74, S⟩ := pLoad (r := (rL (rI .i64))) (q := q72) (x := x70) 0 S rfl
  obtain ⟨ad75, cp76, _, rfl, _⟩ := S.mem.know (i := 1) (e := fRep (rL (rI .i64)) (u74) x70) rfl
  refine sLoadV1 (vq := q72) 0 (.slice ad75 x70.length cp76) S (wN rfl) rfl rfl rfl rfl rfl (lb rfl) fun a S => ?_
  refine sLen (ad := ad75) (m := x70.length) (c := cp76) S (wN rfl) rfl Try.underlying35 rfl rfl (lb rfl) fun a S => ?_
  refine sMove (iv (x70.length : Int)) S (wN rfl) (.inr rfl) rfl rfl (lb rfl) fun a S => ?_
  refine leafL (leafT (hK69 _ _ ?_))
  refine sSeq (fun K77 hK77 => ?_)
  refine sSeq (fun K78 hK78 => ?_)
  refine sRegion ?_
  refine sMove (.slice ad1 p0.length cp2) S (wN rfl) (.inl rfl) rfl rfl (lb rfl) fun a S => ?_
  refine sLen (ad := ad1) (m := p0.length) (c := cp2) S (wN rfl) rfl Try.underlying35 rfl rfl (lb rfl) fun a S => ?_
  refine sMove (iv (x70.length : Int)) S (wN rfl) (.inl rfl) rfl rfl (lb rfl) fun a S => ?_
  obtain ⟨z79, hx80, h⟩ := bindSome h
  refine sBin (iv z79) S (wN rfl) rfl rfl rfl (bRem _ _ _ _ (x := (p0.length : Int)) (y := (x70.length : Int)) hx80) rfl (lb rfl) fun a S => ?_
  refine sBin (.bool (z79 != 0)) S (wN rfl) rfl rfl rfl (bNe _ _ _ _ .i64 z79 0) rfl (lb rfl) fun a S => ?_
  refine leafL (leafT (hK78 _ _ ?_))
  rcases iteSome h with ⟨hc81, h⟩ | ⟨hc81, h⟩
  · refine sCondT S rfl hc81 ?_
    refine sSeq (fun K82 hK82 => ?_)
    refine sRegion ?_
    refine sStore (p := b7) (off := 0) (T := 35) (vs := [.slice none 0 0]) (v := .slice none 0 0) 1 [.slice none 0 0] S (wN rfl) rfl rfl rfl rfl rfl rfl rfl (by simp) rfl fun a w S => ?_
    refine sStore (p := b8) (off := 0) (T := 27) (vs := [iv 0]) (v := iv 26) 2 [iv 26] S (wN rfl) rfl rfl rfl rfl rfl rfl rfl (by simp) rfl fun a w S => ?_
    refine leafL (leafT (hK82 _ _ ?_))
    obtain rfl := Option.some.inj h
    have S := S.learn (fRep (rL (rI .i64)) (.slice none 0 0) ([] : (List Int))) (rL_nil _ _ _)
    exact wp_ret (rThen (sRetM0 (.tuple #[.slice none 0 0, iv 26]) S (rsl2 rfl (rv1 (c := 4) (t := 35) (T := 35) (p := b7) 1 (.slice none 0 0) S rfl rfl rfl) (rv1 (c := 5) (t := 27) (T := 27) (p := b8) 0 (iv 26) S rfl rfl rfl)) ⟨(.slice none 0 0), rfl, S.mem.sel [] [0] (by decide) rfl rfl⟩))
  refine sCondF S rfl hc81 ?_
  refine wp_skip (leafT (hK77 _ _ ?_))
  refine sSeq (fun K83 hK83 => ?_)
  refine sRegion ?_
  refine sAlloc (.slice none 0 0) S (wN rfl) rfl rfl [.slice none 0 0] rfl rfl (lb rfl) fun a b84 w S => ?_
  refine leafL (leafT (hK83 _ _ ?_))
  refine sSeq (fun K85 hK85 => ?_)
  refine sSeq (fun K86 hK86 => ?_)
  refine sRegion ?_
  refine sMove (.slice ad1 p0.length cp2) S (wN rfl) (.inl rfl) rfl rfl (lb rfl) fun a S => ?_
  refine sMove (iv (x70.length : Int)) S (wN rfl) (.inl rfl) rfl rfl (lb rfl) fun a S => ?_
  obtain ⟨r87, hx88, h⟩ := bindSome h
  refine sCall (X := Value × Value) (f := 60) (vs := [.slice ad1 p0.length cp2, iv (x70.length : Int)]) (val := c_slices_Chunk___int_int__val r87) (B' := fun _ => []) (D' := c_slices_Chunk___int_int__D r87) [] [eBox b84 35 [.slice none 0 0], eBox b6 46 [.slice ad3 p1.length cp4], eBox b7 35 [.slice none 0 0], eBox b8 27 [iv 0]] [fRep (rL (rI .i64)) (.slice ad1 p0.length cp2) p0] [0, 1, 2, 3] [3] S (wN rfl) rfl callee60 rfl (by decide) rfl rfl (fun E1 w1 S1 => c_slices_Chunk___int_int_ E1 w1 p0 (.slice ad1 p0.length cp2) (x70.length : Int) r87 hx88 S1) rfl (lb rfl) fun xx a w S => ?_
  obtain ⟨u89, u90⟩ := xx
  refine leafL (leafT (hK86 _ _ ?_))
  refine wp_block ?_
  have S := S.nilRow (rI .i64) 3 (α := Int)
  obtain ⟨t114, hl115, g113⟩ := bindSome h
  replace S : St [] E [] w0 69 a w [(3, .pointer (some ⟨b6, 0, none⟩)), (4, .pointer (some ⟨b7, 0, none⟩)), (5, .pointer (some ⟨b8, 0, none⟩)), (13, .pointer (some ⟨b84, 0, none⟩)), (57, .func (.func 76) #[] #[u89, u90])] [eBox b6 46 [.slice ad3 p1.length cp4], eBox b7 35 [.slice none 0 0], eBox b8 27 [iv 0], eBox b84 35 [.slice none ([] : List Int).length 0], eRow (rI .i64) 3 (.slice none ([] : List Int).length 0) ([] : List Int)] [fPtr (rL (rI .i64)) (u89) r87.1, fPtr (rI .i64) (u90) r87.2, fRep (rL (rL (rI .i64))) (.slice ad3 p1.length cp4) p1] := S.fix [2, 3, 4, 1, 0] [0, 1, 6] (by decide) rfl rfl rfl
  refine sRange1 (B := block_Blocks_l4 p1) (fun s0 L D => match s0 with | s91 => ∃ ad92, ∃ cp93, L = [eBox b6 46 [.slice ad3 p1.length cp4], eBox b7 35 [.slice none 0 0], eBox b8 27 [iv 0], eBox b84 35 [.slice ad92 s91.length cp93], eRow (rI .i64) 3 (.slice ad92 s91.length cp93) s91] ∧ D = [fPtr (rL (rI .i64)) (u89) r87.1, fPtr (rI .i64) (u90) r87.2, fRep (rL (rL (rI .i64))) (.slice ad3 p1.length cp4) p1]) (fun t0 c L D => match t0 with | _ => c = .ret ∧ L = [eBox b7 35 [.slice none 0 0], eBox b8 27 [iv 6]] ∧ D = []) [0, 1] S hl115 rfl callee76 (it_slices_Chunk___int_int__1 r87.1 u89 r87.2 u90) rfl (by decide) ⟨none, 0, rfl, rfl⟩ ?_ ?_ ?_
  · intro E l0 s91 x94 u95 b L D K a w0 hK hIL hB S
    clear hl115 g113 h hK
    unfold block_Blocks_l4 at hB
    dsimp only at hB hIL
    obtain ⟨ad92, cp93, rfl, rfl⟩ := hIL
    have h := hB
    clear hB
    obtain ⟨ad96, cp97, _, rfl, _⟩ := S.mem.know (i := 0) (e := fRep (rL (rI .i64)) (u95) x94) rfl
    refine sRegionR (by repeat (first | exact roundU_out | exact it_out | exact lo_false | refine lo_then ?_ | refine lo_block ?_)) rfl ?_
    refine sAlloc (.slice none 0 0) S (wN rfl) rfl rfl [.slice none 0 0] rfl rfl (lb rfl) fun a b98 w S => ?_
    refine sStore (p := b98) (off := 0) (T := 35) (vs := [.slice none 0 0]) (v := .slice ad96 x94.length cp97) 0 [.slice ad96 x94.length cp97] S (wN rfl) rfl rfl rfl rfl rfl rfl rfl (by simp) rfl fun a w S => ?_
    refine leafL (leafT (⟨_, _, _, S, fun K a w0 hK S => ?_⟩))
    refine wpIn_block ?_
    refine sSeqR (fun K99 hK99 => ?_)
    refine sRegionR (by repeat (first | exact roundU_out | exact it_out | exact lo_false | refine lo_then ?_ | refine lo_block ?_)) rfl ?_
    refine sLoad1 (p := b6) (off := 0) (T := 46) (vs := [.slice ad3 p1.length cp4]) 1 (.slice ad3 p1.length cp4) S (wN rfl) rfl rfl rfl rfl rfl rfl (lb rfl) fun a S => ?_
    refine sFunc (g := 62) (vs := [.pointer (some ⟨b98, 0, none⟩)]) S (wN rfl) rfl rfl rfl (lb rfl) fun a S => ?_
    obtain ⟨r100, hx101, h⟩ := bindSome h
    have S1 := S.mem
    have S1 := S1.shutB (r := (rL (rI .i64))) (T := 35) (b := b98) (cs := [.slice ad96 x94.length cp97]) 0 (.slice ad96 x94.length cp97) x94 rfl rfl (S1.know (i := 0) (e := fRep (rL (rI .i64)) (.slice ad96 x94.length cp97) x94) rfl)
    refine sCallQ (X := Unit) (f := 61) (vs := [.slice ad3 p1.length cp4, .func (.func 62) #[] #[.pointer (some ⟨b98, 0, none⟩)]]) (val := fun _ => iv r100) S (wN rfl) rfl callee61 rfl (S1.quiet [4, 0] rfl) (fun E1 w1 S1 => c_slices_IndexFunc_____int___int__s1 E1 w1 p1 (.slice ad3 p1.length cp4) x94 (.pointer (some ⟨b98, 0, none⟩)) r100 hx101 S1) rfl (lb rfl) fun _ a w S => ?_
    refine sMove (iv r100) S (wN rfl) (.inr rfl) rfl rfl (lb rfl) fun a S => ?_
    refine leafL (leafT (hK99 _ _ ?_))
    refine sSeqR (fun K102 hK102 => ?_)
    refine sSeqR (fun K103 hK103 => ?_)
    refine sRegionR (by repeat (first | exact roundU_out | exact it_out | exact lo_false | refine lo_then ?_ | refine lo_block ?_)) rfl ?_
    refine sMove (iv r100) S (wN rfl) (.inl rfl) rfl rfl (lb rfl) fun a S => ?_
    refine sBin (.bool (decide (r100 < 0))) S (wN rfl) rfl rfl rfl (bLt _ _ _ _ .i64 r100 0) rfl (lb rfl) fun a S => ?_
    refine leafL (leafT (hK103 _ _ ?_))
    rcases iteSome h with ⟨hc104, h⟩ | ⟨hc104, h⟩
    · refine sCondTR S rfl hc104 ?_
      refine sSeqR (fun K105 hK105 => ?_)
      refine sRegionR (by repeat (first | exact roundU_out | exact it_out | exact lo_false | refine lo_then ?_ | refine lo_block ?_)) rfl ?_
      refine sStore (p := b7) (off := 0) (T := 35) (vs := [.slice none 0 0]) (v := .slice none 0 0) 2 [.slice none 0 0] S (wN rfl) rfl rfl rfl rfl rfl rfl rfl (by simp) rfl fun a w S => ?_
      refine sStore (p := b8) (off := 0) (T := 27) (vs := [iv 0]) (v := iv 6) 3 [iv 6] S (wN rfl) rfl rfl rfl rfl rfl rfl rfl (by simp) rfl fun a w S => ?_
      refine leafL (leafT (hK105 _ _ ?_))
      exact wpIn_ret (rThen (rBlock (rnR () _ _ [] (Option.some.inj h) ⟨rfl, rfl, rfl⟩ (S.fix [1, 0] [] (by decide) rfl rfl rfl))))
    refine sCondFR S rfl hc104 ?_
    refine wpIn_skip (leafT (hK102 _ _ ?_))
    refine sRegionR (by repeat (first | exact roundU_out | exact it_out | exact lo_false | refine lo_then ?_ | refine lo_block ?_)) rfl ?_
    refine sLoad1 (p := b84) (off := 0) (T := 35) (vs := [.slice ad92 s91.length cp93]) 4 (.slice ad92 s91.length cp93) S (wN rfl) rfl rfl rfl rfl rfl rfl (lb rfl) fun a S => ?_
    refine sMove (iv r100) S (wN rfl) (.inl rfl) rfl rfl (lb rfl) fun a S => ?_
    refine sLit (r := (rI .i64)) (T := 3) (xs := ([r100] : List Int)) [(0, iv r100)] 1 [iv r100] [iv r100] (iv 0) 8 S (wN rfl) rfl rfl Try.underlying35 rfl (by decide) (by decide) (by kernel_rfl) rfl (fun E1 w1 hE => All.cons rfl (All.nil _ _ _)) rfl rfl (lb rfl) fun a w ad106 cp107 S => ?_
    obtain ⟨l108, hx109, h⟩ := bindSome h
    refine sApp (r := (rI .i64)) (T := 3) (xs := s91) (ys := ([r100] : List Int)) (v := .slice ad92 s91.length cp93) (u := .slice ad106 ([r100] : List Int).length cp107) 6 (iv 0) 8 S (wN rfl) rfl Try.underlying35 rfl rfl (by decide) rfl rfl rfl (src_R (T := 3) 0 S.mem rfl) hx109 rfl (lb rfl) fun a w ad110 cp111 S => ?_
    refine sStore (p := b84) (off := 0) (T := 35) (vs := [.slice ad92 s91.length cp93]) (v := .slice ad110 l108.length cp111) 6 [.slice ad110 l108.length cp111] S (wN rfl) rfl rfl rfl rfl rfl rfl rfl (by simp) rfl fun a w S => ?_
    exact leafL (leafB (rnN l108 _ _ [] (Option.some.inj h) ⟨ad110, cp111, rfl, rfl⟩ (S.fix [4, 5, 6, 0, 1] [1, 2, 3] (by decide) rfl rfl rfl)))
  · intro dk112 s91 L D a w hr hIL S
    clear h
    obtain rfl := hr
    dsimp only at g113 hIL
    obtain ⟨ad92, cp93, rfl, rfl⟩ := hIL
    have h := g113
    clear g113 hl115
    replace S : St [mark dk112] E [] w0 69 a w [(3, .pointer (some ⟨b6, 0, none⟩)), (4, .pointer (some ⟨b7, 0, none⟩)), (5, .pointer (some ⟨b8, 0, none⟩)), (13, .pointer (some ⟨b84, 0, none⟩)), (57, .func (.func 76) #[] #[u89, u90])] [eBox b6 46 [.slice ad3 p1.length cp4], eBox b7 35 [.slice none 0 0], eBox b8 27 [iv 0], eBox b84 35 [.slice ad92 s91.length cp93], eRow (rI .i64) 3 (.slice ad92 s91.length cp93) s91, eDef dk112] [fPtr (rL (rI .i64)) (u89) r87.1, fPtr (rI .i64) (u90) r87.2, fRep (rL (rL (rI .i64))) (.slice ad3 p1.length cp4) p1] := S
    refine leafB (leafT (hK85 _ _ ?_))
    refine sSeq (fun K116 hK116 => ?_)
    refine sRegion ?_
    refine sLoad1 (p := b84) (off := 0) (T := 35) (vs := [.slice ad92 s91.length cp93]) 3 (.slice ad92 s91.length cp93) S (wN rfl) rfl rfl rfl rfl rfl rfl (lb rfl) fun a S => ?_
    refine sStore (p := b7) (off := 0) (T := 35) (vs := [.slice none 0 0]) (v := .slice ad92 s91.length cp93) 1 [.slice ad92 s91.length cp93] S (wN rfl) rfl rfl rfl rfl rfl rfl rfl (by simp) rfl fun a w S => ?_
    refine sStore (p := b8) (off := 0) (T := 27) (vs := [iv 0]) (v := iv 0) 2 [iv 0] S (wN rfl) rfl rfl rfl rfl rfl rfl rfl (by simp) rfl fun a w S => ?_
    refine leafL (leafT (hK116 _ _ ?_))
    refine wp_ret (sRetM1 5 S rfl (fun a w S => ?_))
    obtain rfl := Option.some.inj h
    have S := S.shutR (r := (rI .i64)) (T := 3) (v := .slice ad92 s91.length cp93) (xs := s91) 4 rfl
    exact sFin (.tuple #[.slice ad92 s91.length cp93, iv 0]) S (rsl2 rfl (rv1 (c := 4) (t := 35) (T := 35) (p := b7) 1 (.slice ad92 s91.length cp93) S rfl rfl rfl) (rv1 (c := 5) (t := 27) (T := 27) (p := b8) 0 (iv 0) S rfl rfl rfl)) ⟨(.slice ad92 s91.length cp93), rfl, S.mem.sel [] [0] (by decide) rfl rfl⟩
  · intro dk112 c0 t0 L D a w hr hIX S
    clear h
    obtain rfl := hr
    dsimp only at g113 hIX
    obtain ⟨rfl, rfl, rfl⟩ := hIX
    have h := g113
    clear g113 hl115
    replace S : St [mark dk112] E [] w0 69 a w [(3, .pointer (some ⟨b6, 0, none⟩)), (4, .pointer (some ⟨b7, 0, none⟩)), (5, .pointer (some ⟨b8, 0, none⟩)), (13, .pointer (some ⟨b84, 0, none⟩)), (57, .func (.func 76) #[] #[u89, u90])] [eBox b7 35 [.slice none 0 0], eBox b8 27 [iv 6], eDef dk112] [] := S
    refine wp_ret (rBlock (rThen (sRetM1 2 S rfl (fun a w S => ?_))))
    obtain rfl := Option.some.inj h
    have S := S.learn (fRep (rL (rI .i64)) (.slice none 0 0) ([] : (List Int))) (rL_nil _ _ _)
    exact sFin (.tuple #[.slice none 0 0, iv 6]) S (rsl2 rfl (rv1 (c := 4) (t := 35) (T := 35) (p := b7) 0 (.slice none 0 0) S rfl rfl rfl) (rv1 (c := 5) (t := 27) (T := 27) (p := b8) 1 (iv 6) S rfl rfl rfl)) ⟨(.slice none 0 0), rfl, S.mem.sel [] [0] (by decide) rfl rfl⟩

end Go.Proofs.Ythfifeabomdlpaa
namespace Go.Proofs.Ythfifeabomdlpaa
open Go.RowKit
set_option linter.unusedVariables false

noncomputable def F_raddlelaw13_row (p0 : (List Bool)) : Option api_Grid :=
  some (api_Grid.mk (p0.length : Int) 1 p0)
def c_raddlelaw13_row_val (r : api_Grid) (x : Value) : Value := x
def c_raddlelaw13_row_D (r : api_Grid) (x : Value) : List Fact := [fRep r_api_Grid x r]
set_option maxHeartbeats 4000000 in
set_option maxRecDepth 100000 in
theorem c_raddlelaw13_row (E : Nat → Prop) (w0 : World) (p0 : (List Bool)) (v0 : Value) (r : api_Grid) (h : F_raddlelaw13_row p0 = some r) (S : St0 E [] w0 w0 [] [fRep (rL rB) (v0) p0]) :
    Calls Try.prog 39 #[v0] w0 (Ret (X := Value) E [] w0 (c_raddlelaw13_row_val r) (fun _ => []) (c_raddlelaw13_row_D r)) := by
  unfold F_raddlelaw13_row at h
  obtain ⟨ad1, cp2, _, rfl, _⟩ := S.know (i := 0) (e := fRep (rL rB) (v0) p0) rfl
  refine sEnter (args := [.slice ad1 p0.length cp2]) 7 Try.func39 rfl rfl (by simp) S (fun a S => ?_)
  refine sSeq (fun K3 hK3 => ?_)
  refine sRegion ?_
  refine sAlloc (.agg #[iv 0, iv 0, .slice none 0 0]) S (wN rfl) rfl rfl [iv 0, iv 0, .slice none 0 0] rfl rfl (lb rfl) fun a b4 w S => ?_
  refine leafL (leafT (hK3 _ _ ?_))
  refine sSeq (fun K5 hK5 => ?_)
  refine sRegion ?_
  refine sMove (.slice ad1 p0.length cp2) S (wN rfl) (.inl rfl) rfl rfl (lb rfl) fun a S => ?_
  refine sLen (ad := ad1) (m := p0.length) (c := cp2) S (wN rfl) rfl Try.underlying22 rfl rfl (lb rfl) fun a S => ?_
  refine sMove (.slice ad1 p0.length cp2) S (wN rfl) (.inl rfl) rfl rfl (lb rfl) fun a S => ?_
  refine sBuild [(0, iv (p0.length : Int)), (1, iv 1), (2, .slice ad1 p0.length cp2)] [iv (p0.length : Int), iv 1, .slice ad1 p0.length cp2] S (wN rfl) rfl rfl rfl rfl (lb rfl) fun a S => ?_
  refine sStore (p := b4) (off := 0) (T := 24) (vs := [iv 0, iv 0, .slice none 0 0]) (v := .agg #[iv (p0.length : Int), iv 1, .slice ad1 p0.length cp2]) 0 [iv (p0.length : Int), iv 1, .slice ad1 p0.length cp2] S (wN rfl) rfl rfl rfl rfl rfl rfl rfl (by simp) rfl fun a w S => ?_
  refine leafL (leafT (hK5 _ _ ?_))
  obtain rfl := Option.some.inj h
  have S := S.learn (fRep r_api_Grid (.agg #[iv (p0.length : Int), iv 1, .slice ad1 p0.length cp2]) (api_Grid.mk (p0.length : Int) 1 p0)) ⟨_, rfl, S.mem.know (i := 0) (e := fRep (rL rB) (.slice ad1 p0.length cp2) p0) rfl⟩
  exact wp_ret (sRet (.agg #[iv (p0.length : Int), iv 1, .slice ad1 p0.length cp2]) S (rsl1 rfl (rvN (c := 2) (t := 24) (T := 24) (p := b4) 0 [iv (p0.length : Int), iv 1, .slice ad1 p0.length cp2] S rfl rfl rfl rfl)) ⟨(.agg #[iv (p0.length : Int), iv 1, .slice ad1 p0.length cp2]), rfl, S.mem.sel [] [0] (by decide) rfl rfl⟩)

end Go.Proofs.Ythfifeabomdlpaa
namespace Go.Proofs.Ythfifeabomdlpaa
open Go.RowKit
set_option linter.unusedVariables false

noncomputable def F_raddleref01_Zero (p0 : Int) (p1 : Int) : Option api_Grid :=
  Option.bind (makeO (w64 (p0 * p1)) false) fun m6 =>
  some (api_Grid.mk p0 p1 m6)
def c_raddleref01_Zero_val (r : api_Grid) (x : Value) : Value := x
def c_raddleref01_Zero_D (r : api_Grid) (x : Value) : List Fact := [fRep r_api_Grid x r]
set_option maxHeartbeats 4000000 in
set_option maxRecDepth 100000 in
theorem c_raddleref01_Zero (E : Nat → Prop) (w0 : World) (p0 : Int) (p1 : Int) (r : api_Grid) (h : F_raddleref01_Zero p0 p1 = some r) (S : St0 E [] w0 w0 [] []) :
    Calls Try.prog 40 #[iv p0, iv p1] w0 (Ret (X := Value) E [] w0 (c_raddleref01_Zero_val r) (fun _ => []) (c_raddleref01_Zero_D r)) := by
  unfold F_raddleref01_Zero at h
  refine sEnter (args := [iv p0, iv p1]) 12 Try.func40 rfl rfl (by simp) S (fun a S => ?_)
  refine sSeq (fun K1 hK1 => ?_)
  refine sRegion ?_
  refine sAlloc (.agg #[iv 0, iv 0, .slice none 0 0]) S (wN rfl) rfl rfl [iv 0, iv 0, .slice none 0 0] rfl rfl (lb rfl) fun a b2 w S => ?_
  refine leafL (leafT (hK1 _ _ ?_))
  refine sSeq (fun K3 hK3 => ?_)
  refine sRegion ?_
  refine sMove (iv p0) S (wN rfl) (.inl rfl) rfl rfl (lb rfl) fun a S => ?_
  refine sMove (iv p1) S (wN rfl) (.inl rfl) rfl rfl (lb rfl) fun a S => ?_
  refine sMove (iv p0) S (wN rfl) (.inl rfl) rfl rfl (lb rfl) fun a S => ?_
  refine sMove (iv p1) S (wN rfl) (.inl rfl) rfl rfl (lb rfl) fun a S => ?_
  refine sBin (iv (w64 (p0 * p1))) S (wN rfl) rfl rfl rfl (bMul _ _ _ _ p0 p1) rfl (lb rfl) fun a S => ?_
  obtain ⟨m6, hx7, h⟩ := bindSome h
  refine sMake (r := rB) (m := w64 (p0 * p1)) (xs := m6) (.bool false) false 1 S (wN rfl) rfl Try.underlying22 rfl rfl (by decide) (fun _ _ => rfl) rfl rfl hx7 rfl (lb rfl) fun a w ad4 cp5 S => ?_
  refine sBuild [(0, iv p0), (1, iv p1), (2, .slice ad4 m6.length cp5)] [iv p0, iv p1, .slice ad4 m6.length cp5] S (wN rfl) rfl rfl rfl rfl (lb rfl) fun a S => ?_
  refine sStore (p := b2) (off := 0) (T := 24) (vs := [iv 0, iv 0, .slice none 0 0]) (v := .agg #[iv p0, iv p1, .slice ad4 m6.length cp5]) 1 [iv p0, iv p1, .slice ad4 m6.length cp5] S (wN rfl) rfl rfl rfl rfl rfl rfl rfl (by simp) rfl fun a w S => ?_
  refine leafL (leafT (hK3 _ _ ?_))
  obtain rfl := Option.some.inj h
  have S := S.shutR (r := rB) (T := 4) (v := .slice ad4 m6.length cp5) (xs := m6) 1 rfl
  have S := S.learn (fRep r_api_Grid (.agg #[iv p0, iv p1, .slice ad4 m6.length cp5]) (api_Grid.mk p0 p1 m6)) ⟨_, rfl, S.mem.know (i := 0) (e := fRep (rL rB) (.slice ad4 m6.length cp5) m6) rfl⟩
  exact wp_ret (sRet (.agg #[iv p0, iv p1, .slice ad4 m6.length cp5]) S (rsl1 rfl (rvN (c := 4) (t := 24) (T := 24) (p := b2) 0 [iv p0, iv p1, .slice ad4 m6.length cp5] S rfl rfl rfl rfl)) ⟨(.agg #[iv p0, iv p1, .slice ad4 m6.length cp5]), rfl, S.mem.sel [] [0] (by decide) rfl rfl⟩)

end Go.Proofs.Ythfifeabomdlpaa
namespace Go.Proofs.Ythfifeabomdlpaa
open Go.RowKit
set_option linter.unusedVariables false

def K_raddlelaw13_row (p0 : (List Bool)) : Option api_Grid :=
  some (api_Grid.mk (p0.length : Int) 1 p0)
def K_grid_Check (p0 : api_Grid) : Option Int :=
  if decide (64 < (if p0.W < p0.H then p0.H else p0.W)) then
    some 4
  else
    Option.bind (α := Bool) (
      if decide ((if p0.H < p0.W then p0.H else p0.W) < 1) then
        some true
      else
        some ((p0.Bits.length : Int) != (w64 (p0.W * p0.H)))) fun o11 =>
    if o11 then
      some 8
    else
      some 0
def K_block_checked_l1 (p0 : (List api_Grid)) : Int → Option (Int ⊕ (Int ⊕ Unit)) := fun s0 => match s0 with
  | s7 =>
    if decide (s7 < (p0.length : Int)) then
      Option.bind (idxO p0 s7) fun x16 =>
      Option.bind (K_grid_Check x16) fun r27 =>
      if r27 != 0 then
        some (.inr (.inl r27))
      else
        some (.inl (w64 (s7 + 1)))
    else
      some (.inr (.inr ()))
def K_block_checked (p0 : (List api_Grid)) : Option Int :=
  Option.bind (α := Unit ⊕ Int) (
    Option.bind (whileK (K_block_checked_l1 p0) 0) fun z0 => match z0 with
      | .inl z =>
        some (.inr z)
      | .inr _ =>
        some (.inl ())) fun z0 => match z0 with
    | .inl _ =>
      some 0
    | .inr z =>
      some z
def K_block_alike (p0 : api_Grid) (p1 : api_Grid) : Option Bool :=
  Option.bind (α := Bool) (
    if p0.W == p1.W then
      some (p0.H == p1.H)
    else
      some false) fun o12 =>
  some o12
def K_block_zero_s0 (p0 : Int) (p1 : Int) : Option (api_Grid × Int) :=
  Option.bind (α := Bool) (
    if decide (64 < p0) then
      some true
    else
      some (decide (64 < p1))) fun o4 =>
  if o4 then
    some ((api_Grid.mk 0 0 ([] : (List Bool))), 4)
  else
    Option.bind (makeO (w64 (p0 * p1)) false) fun m13 =>
    some ((api_Grid.mk p0 p1 m13), 0)
def K_block_put_s0_l1 (p3 : api_Grid) (p5 : Int) (p0 : Int) (p4 : Int) : (Int × List Bool) → Option ((Int × List Bool) ⊕ List Bool) := fun s0 => match s0 with
  | (s9, s10) =>
    if decide (s9 < p3.H) then
      Option.bind (α := List Bool) (
        Option.bind (sliceO s10 (w64 ((w64 ((w64 ((w64 (p5 * p3.H)) + s9)) * p0)) + (w64 (p4 * p3.W)))) (s10.length : Int)) fun y22 =>
        Option.bind (sliceO p3.Bits (w64 (s9 * p3.W)) (w64 ((w64 (s9 + 1)) * p3.W))) fun y26 =>
        some (cpA s10 (w64 ((w64 ((w64 ((w64 (p5 * p3.H)) + s9)) * p0)) + (w64 (p4 * p3.W)))).toNat ((s10.length : Int)).toNat y26)) fun o18 =>
      some (.inl (w64 (s9 + 1), o18))
    else
      some (.inr s10)
def K_block_put_s0 (p0 : Int) (p1 : Int) (p2 : (List Bool)) (p3 : api_Grid) (p4 : Int) (p5 : Int) : Option (List Bool) :=
  Option.bind (whileK (K_block_put_s0_l1 p3 p5 p0 p4) (0, p2)) fun e14 =>
    (keepO p2 e14).bind fun _ =>
    some e14
def K_block_Fill_l1 (p0 : api_Grid) (p1 : api_Grid) (p2 : api_Grid) (r34 : (api_Grid × Int)) : (Int × List Bool) → Option ((Int × List Bool) ⊕ List Bool) := fun s0 => match s0 with
  | (s47, s48) =>
    if decide (s47 < (p0.Bits.length : Int)) then
      Option.bind (idxO p0.Bits s47) fun x58 =>
      Option.bind (α := (Int × Int × List Bool)) (
        if x58 then
          some (p1.W, p1.H, p1.Bits)
        else
          some (p2.W, p2.H, p2.Bits)) fun (o65, o66, o67) =>
      Option.bind (remI s47 p0.W) fun z74 =>
      Option.bind (quoI s47 p0.W) fun z76 =>
      Option.bind (K_block_put_s0 r34.1.W r34.1.H s48 (api_Grid.mk o65 o66 o67) z74 z76) fun r78 =>
      some (.inl (w64 (s47 + 1), r78))
    else
      some (.inr s48)
def K_block_Fill (p0 : api_Grid) (p1 : api_Grid) (p2 : api_Grid) : Option (api_Grid × Int) :=
  Option.bind (K_block_checked [p0, p1, p2]) fun r22 =>
  if r22 != 0 then
    some ((api_Grid.mk 0 0 ([] : (List Bool))), r22)
  else
    Option.bind (K_block_alike p1 p2) fun r29 =>
    if !r29 then
      some ((api_Grid.mk 0 0 ([] : (List Bool))), 26)
    else
      Option.bind (K_block_zero_s0 (w64 (p0.W * p1.W)) (w64 (p0.H * p1.H))) fun r34 =>
      if r34.2 != 0 then
        some ((api_Grid.mk 0 0 ([] : (List Bool))), r34.2)
      else
        Option.bind (α := List Bool) (
          Option.bind (whileK (K_block_Fill_l1 p0 p1 p2 r34) (0, r34.1.Bits)) fun e52 =>
            some e52) fun o43 =>
        some ((api_Grid.mk r34.1.W r34.1.H o43), 0)
def K_raddleref01_Zero (p0 : Int) (p1 : Int) : Option api_Grid :=
  Option.bind (makeO (w64 (p0 * p1)) false) fun m6 =>
  some (api_Grid.mk p0 p1 m6)
def K_block_part_l1 (p2 : Int) (p0 : api_Grid) (p4 : Int) (p3 : Int) (p1 : Int) : (Int × List Bool) → Option ((Int × List Bool) ⊕ List Bool) := fun s0 => match s0 with
  | (s16, s17) =>
    if decide (s16 < p2) then
      Option.bind (sliceO p0.Bits (w64 ((w64 ((w64 ((w64 (p4 * p2)) + s16)) * p0.W)) + (w64 (p3 * p1)))) (w64 ((w64 ((w64 ((w64 ((w64 (p4 * p2)) + s16)) * p0.W)) + (w64 (p3 * p1)))) + p1))) fun y32 =>
      Option.bind (appO s17 y32) fun l36 =>
      some (.inl (w64 (s16 + 1), l36))
    else
      some (.inr s17)
def K_block_part (p0 : api_Grid) (p1 : Int) (p2 : Int) (p3 : Int) (p4 : Int) : Option api_Grid :=
  Option.bind (α := List Bool) (
    Option.bind (whileK (K_block_part_l1 p2 p0 p4 p3 p1) (0, ([] : List Bool))) fun e23 =>
      some e23) fun o10 =>
  some (api_Grid.mk p1 p2 o10)
def K_slices_Equal___bool_bool__l1 (p0 : (List Bool)) (p1 : (List Bool)) : Int → Option (Int ⊕ (Bool ⊕ Unit)) := fun s0 => match s0 with
  | s13 =>
    if decide (s13 < (p0.length : Int)) then
      Option.bind (idxO p0 s13) fun x23 =>
      Option.bind (idxO p1 s13) fun x28 =>
      if x23 != x28 then
        some (.inr (.inl false))
      else
        some (.inl (w64 (s13 + 1)))
    else
      some (.inr (.inr ()))
def K_slices_Equal___bool_bool_ (p0 : (List Bool)) (p1 : (List Bool)) : Option Bool :=
  if (p0.length : Int) != (p1.length : Int) then
    some false
  else
    Option.bind (α := Unit ⊕ Bool) (
      Option.bind (whileK (K_slices_Equal___bool_bool__l1 p0 p1) 0) fun z0 => match z0 with
        | .inl z =>
          some (.inr z)
        | .inr _ =>
          some (.inl ())) fun z0 => match z0 with
      | .inl _ =>
        some true
      | .inr z =>
        some z
def K_grid_Same (p0 : api_Grid) (p1 : api_Grid) : Option Bool :=
  Option.bind (α := Bool) (
    if p0.W == p1.W then
      if p0.H == p1.H then
        Option.bind (K_slices_Equal___bool_bool_ p0.Bits p1.Bits) fun r17 =>
        some r17
      else
        some false
    else
      some false) fun o12 =>
  some o12
def K_block_Units_1_s0 (p0 : api_Grid) (p1 : api_Grid) : Option Bool :=
  Option.bind (K_grid_Same p0 p1) fun r13 =>
  some r13
def K_slices_IndexFunc___api_Grid_api_Grid__s0_l1 (p0 : (List api_Grid)) (p1 : api_Grid) : Int → Option (Int ⊕ (Int ⊕ Unit)) := fun s0 => match s0 with
  | s7 =>
    if decide (s7 < (p0.length : Int)) then
      Option.bind (idxO p0 s7) fun x17 =>
      Option.bind (K_block_Units_1_s0 x17 p1) fun r26 =>
      if r26 then
        some (.inr (.inl s7))
      else
        some (.inl (w64 (s7 + 1)))
    else
      some (.inr (.inr ()))
def K_slices_IndexFunc___api_Grid_api_Grid__s0 (p0 : (List api_Grid)) (p1 : api_Grid) : Option Int :=
  Option.bind (α := Unit ⊕ Int) (
    Option.bind (whileK (K_slices_IndexFunc___api_Grid_api_Grid__s0_l1 p0 p1) 0) fun z0 => match z0 with
      | .inl z =>
        some (.inr z)
      | .inr _ =>
        some (.inl ())) fun z0 => match z0 with
    | .inl _ =>
      some (-1)
    | .inr z =>
      some z
def K_block_Units_l1 (z69 : Int) (p0 : api_Grid) (p1 : Int) (p2 : Int) (s46 : Int) : (List api_Grid × List Int × Int) → Option ((List api_Grid × List Int × Int) ⊕ (List api_Grid × List Int)) := fun s0 => match s0 with
  | (s71, s74, s77) =>
    if decide (s77 < z69) then
      Option.bind (K_block_part p0 p1 p2 s77 s46) fun r93 =>
      Option.bind (K_slices_IndexFunc___api_Grid_api_Grid__s0 s71 r93) fun r102 =>
      Option.bind (α := (List api_Grid × Int)) (
        if decide (r102 < 0) then
          Option.bind (appO s71 [r93]) fun l115 =>
          some (l115, (s71.length : Int))
        else
          some (s71, r102)) fun (o104, o107) =>
      Option.bind (appO s74 ([o107] : List Int)) fun l121 =>
      some (.inl (o104, l121, w64 (s77 + 1)))
    else
      some (.inr (s71, s74))
def K_block_Units_l2 (z38 : Int) (p0 : api_Grid) (p1 : Int) (p2 : Int) : (List api_Grid × List Int × Int) → Option ((List api_Grid × List Int × Int) ⊕ (List api_Grid × List Int)) := fun s0 => match s0 with
  | (s40, s43, s46) =>
    if decide (s46 < z38) then
      Option.bind (α := (List api_Grid × List Int)) (
        Option.bind (quoI p0.W p1) fun z69 =>
        Option.bind (whileK (K_block_Units_l1 z69 p0 p1 p2 s46) (s40, s43, 0)) fun (e81, e84) =>
          some (e81, e84)) fun (o59, o62) =>
      some (.inl (o59, o62, w64 (s46 + 1)))
    else
      some (.inr (s40, s43))
def K_block_Units (p0 : api_Grid) (p1 : Int) (p2 : Int) : Option ((List api_Grid) × (List Int) × Int) :=
  Option.bind (K_block_checked [p0]) fun r11 =>
  if r11 != 0 then
    some (([] : (List api_Grid)), ([] : (List Int)), r11)
  else
    Option.bind (α := Bool) (
      if decide (p1 < 1) then
        some true
      else
        if decide (p2 < 1) then
          some true
        else
          Option.bind (remI p0.W p1) fun z22 =>
          if z22 != 0 then
            some true
          else
            Option.bind (remI p0.H p2) fun z25 =>
            some (z25 != 0)) fun o17 =>
    if o17 then
      some (([] : (List api_Grid)), ([] : (List Int)), 26)
    else
      Option.bind (α := (List api_Grid × List Int)) (
        Option.bind (quoI p0.H p2) fun z38 =>
        Option.bind (whileK (K_block_Units_l2 z38 p0 p1 p2) (([] : List api_Grid), ([] : List Int), 0)) fun (e50, e53) =>
          some (e50, e53)) fun (o29, o32) =>
      some (o29, o32, 0)
def K_thread_check_l1 (x17 : (List Int)) : Int → Option (Int ⊕ (Int ⊕ Unit)) := fun s0 => match s0 with
  | s29 =>
    if decide (s29 < (x17.length : Int)) then
      Option.bind (idxO x17 s29) fun x38 =>
      Option.bind (α := Bool) (
        if decide (x38 < 0) then
          some true
        else
          some (decide (400 ≤ x38))) fun o43 =>
      if o43 then
        some (.inr (.inl 8))
      else
        some (.inl (w64 (s29 + 1)))
    else
      some (.inr (.inr ()))
def K_thread_check_l2 (p0 : (List (List Int))) : Int → Option (Int ⊕ (Int ⊕ Unit)) := fun s0 => match s0 with
  | s7 =>
    if decide (s7 < (p0.length : Int)) then
      Option.bind (α := Unit ⊕ Int) (
        Option.bind (idxO p0 s7) fun x17 =>
        if decide (400 < (x17.length : Int)) then
          some (.inr 4)
        else
          Option.bind (whileK (K_thread_check_l1 x17) 0) fun z0 => match z0 with
            | .inl z =>
              some (.inr z)
            | .inr _ =>
              some (.inl ())) fun z0 => match z0 with
        | .inl _ =>
          some (.inl (w64 (s7 + 1)))
        | .inr z =>
          some (.inr (.inl z))
    else
      some (.inr (.inr ()))
def K_thread_check (p0 : (List (List Int))) : Option Int :=
  Option.bind (α := Unit ⊕ Int) (
    Option.bind (whileK (K_thread_check_l2 p0) 0) fun z0 => match z0 with
      | .inl z =>
        some (.inr z)
      | .inr _ =>
        some (.inl ())) fun z0 => match z0 with
    | .inl _ =>
      some 0
    | .inr z =>
      some z
def K_thread_Check (p0 : (List Int)) : Option Int :=
  Option.bind (K_thread_check [p0]) fun r7 =>
  some r7
def K_block_spelled_l1 (p0 : (List (List Int))) : Int → Option (Int ⊕ (Int ⊕ Unit)) := fun s0 => match s0 with
  | s15 =>
    if decide (s15 < (p0.length : Int)) then
      Option.bind (idxO p0 s15) fun x24 =>
      Option.bind (K_thread_Check x24) fun r32 =>
      if r32 != 0 then
        some (.inr (.inl r32))
      else
        some (.inl (w64 (s15 + 1)))
    else
      some (.inr (.inr ()))
def K_block_spelled_1_s0 (p0 : (List Int)) (p1 : (List (List Int))) : Option Bool :=
  Option.bind (idxO p1 0) fun x8 =>
  some ((p0.length : Int) != (x8.length : Int))
def K_slices_IndexFunc_____int___int__s0_l1 (p0 : (List (List Int))) (p1 : (List (List Int))) : Int → Option (Int ⊕ (Int ⊕ Unit)) := fun s0 => match s0 with
  | s7 =>
    if decide (s7 < (p0.length : Int)) then
      Option.bind (idxO p0 s7) fun x17 =>
      Option.bind (K_block_spelled_1_s0 x17 p1) fun r24 =>
      if r24 then
        some (.inr (.inl s7))
      else
        some (.inl (w64 (s7 + 1)))
    else
      some (.inr (.inr ()))
def K_slices_IndexFunc_____int___int__s0 (p0 : (List (List Int))) (p1 : (List (List Int))) : Option Int :=
  Option.bind (α := Unit ⊕ Int) (
    Option.bind (whileK (K_slices_IndexFunc_____int___int__s0_l1 p0 p1) 0) fun z0 => match z0 with
      | .inl z =>
        some (.inr z)
      | .inr _ =>
        some (.inl ())) fun z0 => match z0 with
    | .inl _ =>
      some (-1)
    | .inr z =>
      some z
def K_slices_ContainsFunc_____int___int__s0 (p0 : (List (List Int))) (p1 : (List (List Int))) : Option Bool :=
  Option.bind (K_slices_IndexFunc_____int___int__s0 p0 p1) fun r5 =>
  some (decide (0 ≤ r5))
def K_block_spelled (p0 : (List (List Int))) : Option Int :=
  Option.bind (α := Bool) (
    if (p0.length : Int) == 0 then
      some true
    else
      some (decide (400 < (p0.length : Int)))) fun o6 =>
  if o6 then
    some 2
  else
    Option.bind (α := Unit ⊕ Int) (
      Option.bind (whileK (K_block_spelled_l1 p0) 0) fun z0 => match z0 with
        | .inl z =>
          some (.inr z)
        | .inr _ =>
          some (.inl ())) fun z0 => match z0 with
      | .inl _ =>
        Option.bind (α := Bool) (
          Option.bind (idxO p0 0) fun x41 =>
          if (x41.length : Int) == 0 then
            some true
          else
            Option.bind (K_slices_ContainsFunc_____int___int__s0 p0 p0) fun r49 =>
            some r49) fun o38 =>
        if o38 then
          some 26
        else
          some 0
      | .inr z =>
        some z
def K_block_index_1_s0 (p0 : Int) (p1 : Int) : Option Bool :=
  Option.bind (α := Bool) (
    if decide (p0 < 0) then
      some true
    else
      some (decide (p1 ≤ p0))) fun o2 =>
  some o2
def K_slices_IndexFunc___int_int__s0_l1 (p0 : (List Int)) (p1 : Int) : Int → Option (Int ⊕ (Int ⊕ Unit)) := fun s0 => match s0 with
  | s7 =>
    if decide (s7 < (p0.length : Int)) then
      Option.bind (idxO p0 s7) fun x17 =>
      Option.bind (K_block_index_1_s0 x17 p1) fun r22 =>
      if r22 then
        some (.inr (.inl s7))
      else
        some (.inl (w64 (s7 + 1)))
    else
      some (.inr (.inr ()))
def K_slices_IndexFunc___int_int__s0 (p0 : (List Int)) (p1 : Int) : Option Int :=
  Option.bind (α := Unit ⊕ Int) (
    Option.bind (whileK (K_slices_IndexFunc___int_int__s0_l1 p0 p1) 0) fun z0 => match z0 with
      | .inl z =>
        some (.inr z)
      | .inr _ =>
        some (.inl ())) fun z0 => match z0 with
    | .inl _ =>
      some (-1)
    | .inr z =>
      some z
def K_slices_ContainsFunc___int_int__s0 (p0 : (List Int)) (p1 : Int) : Option Bool :=
  Option.bind (K_slices_IndexFunc___int_int__s0 p0 p1) fun r5 =>
  some (decide (0 ≤ r5))
def K_block_index (p0 : (List Int)) (p1 : Int) : Option Bool :=
  Option.bind (K_slices_ContainsFunc___int_int__s0 p0 p1) fun r6 =>
  some (!r6)
def K_block_Spell_l1 (p0 : (List Int)) (p1 : (List (List Int))) : (List Int × Int) → Option ((List Int × Int) ⊕ List Int) := fun s0 => match s0 with
  | (s44, s47) =>
    if decide (s47 < (p0.length : Int)) then
      Option.bind (idxO p0 s47) fun x59 =>
      Option.bind (idxO p1 x59) fun x64 =>
      Option.bind (appO s44 x64) fun l71 =>
      some (.inl (l71, w64 (s47 + 1)))
    else
      some (.inr s44)
def K_block_Spell (p0 : (List Int)) (p1 : (List (List Int))) : Option ((List Int) × Int) :=
  Option.bind (K_thread_Check p0) fun r8 =>
  if r8 != 0 then
    some (([] : (List Int)), r8)
  else
    Option.bind (K_block_spelled p1) fun r15 =>
    if r15 != 0 then
      some (([] : (List Int)), r15)
    else
      Option.bind (K_block_index p0 (p1.length : Int)) fun r22 =>
      if !r22 then
        some (([] : (List Int)), 8)
      else
        Option.bind (idxO p1 0) fun x28 =>
        if decide (400 < (w64 ((p0.length : Int) * (x28.length : Int)))) then
          some (([] : (List Int)), 4)
        else
          Option.bind (α := List Int) (
            Option.bind (whileK (K_block_Spell_l1 p0 p1) (([] : List Int), 0)) fun e51 =>
              some e51) fun o38 =>
          some (o38, 0)
def K_raddleref01_Same_l1 (p0 : api_Grid) (p1 : api_Grid) : Int → Option (Int ⊕ (Bool ⊕ Unit)) := fun s0 => match s0 with
  | s23 =>
    if decide (s23 < (p0.Bits.length : Int)) then
      Option.bind (idxO p0.Bits s23) fun x32 =>
      Option.bind (idxO p1.Bits s23) fun x37 =>
      if x32 != x37 then
        some (.inr (.inl false))
      else
        some (.inl (w64 (s23 + 1)))
    else
      some (.inr (.inr ()))
def K_raddleref01_Same (p0 : api_Grid) (p1 : api_Grid) : Option Bool :=
  Option.bind (α := Bool) (
    if p0.W != p1.W then
      some true
    else
      if p0.H != p1.H then
        some true
      else
        some ((p0.Bits.length : Int) != (p1.Bits.length : Int))) fun o13 =>
  if o13 then
    some false
  else
    Option.bind (α := Unit ⊕ Bool) (
      Option.bind (whileK (K_raddleref01_Same_l1 p0 p1) 0) fun z0 => match z0 with
        | .inl z =>
          some (.inr z)
        | .inr _ =>
          some (.inl ())) fun z0 => match z0 with
      | .inl _ =>
        some true
      | .inr z =>
        some z
def K_raddleref02_Same_l1 (p0 : (List Int)) (p1 : (List Int)) : Int → Option (Int ⊕ (Bool ⊕ Unit)) := fun s0 => match s0 with
  | s13 =>
    if decide (s13 < (p0.length : Int)) then
      Option.bind (idxO p0 s13) fun x22 =>
      Option.bind (idxO p1 s13) fun x27 =>
      if x22 != x27 then
        some (.inr (.inl false))
      else
        some (.inl (w64 (s13 + 1)))
    else
      some (.inr (.inr ()))
def K_raddleref02_Same (p0 : (List Int)) (p1 : (List Int)) : Option Bool :=
  if (p0.length : Int) != (p1.length : Int) then
    some false
  else
    Option.bind (α := Unit ⊕ Bool) (
      Option.bind (whileK (K_raddleref02_Same_l1 p0 p1) 0) fun z0 => match z0 with
        | .inl z =>
          some (.inr z)
        | .inr _ =>
          some (.inl ())) fun z0 => match z0 with
      | .inl _ =>
        some true
      | .inr z =>
        some z
theorem m_F_raddlelaw13_row (p0 : (List Bool)) : Le (K_raddlelaw13_row p0) (F_raddlelaw13_row p0) := by
  unfold K_raddlelaw13_row F_raddlelaw13_row
  with_reducible repeat' (first | exact Le.rfl _ | refine Le.loop _ ?_ | refine Le.bind ?_ ?_ | refine Le.ite ?_ ?_ | refine Le.sum ?_ ?_ | refine Le.prod ?_ | intro _ | exact Empty.elim (by assumption) | dsimp only)
theorem m_F_grid_Check (p0 : api_Grid) : Le (K_grid_Check p0) (F_grid_Check p0) := by
  unfold K_grid_Check F_grid_Check
  with_reducible repeat' (first | exact Le.rfl _ | refine Le.loop _ ?_ | refine Le.bind ?_ ?_ | refine Le.ite ?_ ?_ | refine Le.sum ?_ ?_ | refine Le.prod ?_ | intro _ | exact Empty.elim (by assumption) | dsimp only)
theorem m_block_checked_l1 (p0 : (List api_Grid)) : ∀ s, Le (K_block_checked_l1 p0 s) (block_checked_l1 p0 s) := by
  unfold K_block_checked_l1 block_checked_l1
  with_reducible repeat' (first | exact m_F_grid_Check _ | exact Le.rfl _ | refine Le.loop _ ?_ | refine Le.bind ?_ ?_ | refine Le.ite ?_ ?_ | refine Le.sum ?_ ?_ | refine Le.prod ?_ | intro _ | exact Empty.elim (by assumption) | dsimp only)
theorem m_F_block_checked (p0 : (List api_Grid)) : Le (K_block_checked p0) (F_block_checked p0) := by
  unfold K_block_checked F_block_checked
  with_reducible repeat' (first | exact m_block_checked_l1 _ | exact Le.rfl _ | refine Le.loop _ ?_ | refine Le.bind ?_ ?_ | refine Le.ite ?_ ?_ | refine Le.sum ?_ ?_ | refine Le.prod ?_ | intro _ | exact Empty.elim (by assumption) | dsimp only)
theorem m_F_block_alike (p0 : api_Grid) (p1 : api_Grid) : Le (K_block_alike p0 p1) (F_block_alike p0 p1) := by
  unfold K_block_alike F_block_alike
  with_reducible repeat' (first | exact Le.rfl _ | refine Le.loop _ ?_ | refine Le.bind ?_ ?_ | refine Le.ite ?_ ?_ | refine Le.sum ?_ ?_ | refine Le.prod ?_ | intro _ | exact Empty.elim (by assumption) | dsimp only)
theorem m_F_block_zero_s0 (p0 : Int) (p1 : Int) : Le (K_block_zero_s0 p0 p1) (F_block_zero_s0 p0 p1) := by
  unfold K_block_zero_s0 F_block_zero_s0
  with_reducible repeat' (first | exact Le.rfl _ | refine Le.loop _ ?_ | refine Le.bind ?_ ?_ | refine Le.ite ?_ ?_ | refine Le.sum ?_ ?_ | refine Le.prod ?_ | intro _ | exact Empty.elim (by assumption) | dsimp only)
theorem m_block_put_s0_l1 (p3 : api_Grid) (p5 : Int) (p0 : Int) (p4 : Int) : ∀ s, Le (K_block_put_s0_l1 p3 p5 p0 p4 s) (block_put_s0_l1 p3 p5 p0 p4 s) := by
  unfold K_block_put_s0_l1 block_put_s0_l1
  with_reducible repeat' (first | exact Le.rfl _ | refine Le.loop _ ?_ | refine Le.bind ?_ ?_ | refine Le.ite ?_ ?_ | refine Le.sum ?_ ?_ | refine Le.prod ?_ | intro _ | exact Empty.elim (by assumption) | dsimp only)
theorem m_F_block_put_s0 (p0 : Int) (p1 : Int) (p2 : (List Bool)) (p3 : api_Grid) (p4 : Int) (p5 : Int) : Le (K_block_put_s0 p0 p1 p2 p3 p4 p5) (F_block_put_s0 p0 p1 p2 p3 p4 p5) := by
  unfold K_block_put_s0 F_block_put_s0
  with_reducible repeat' (first | exact m_block_put_s0_l1 _ _ _ _ | exact Le.rfl _ | refine Le.loop _ ?_ | refine Le.bind ?_ ?_ | refine Le.ite ?_ ?_ | refine Le.sum ?_ ?_ | refine Le.prod ?_ | intro _ | exact Empty.elim (by assumption) | dsimp only)
theorem m_block_Fill_l1 (p0 : api_Grid) (p1 : api_Grid) (p2 : api_Grid) (r34 : (api_Grid × Int)) : ∀ s, Le (K_block_Fill_l1 p0 p1 p2 r34 s) (block_Fill_l1 p0 p1 p2 r34 s) := by
  unfold K_block_Fill_l1 block_Fill_l1
  with_reducible repeat' (first | exact m_F_block_put_s0 _ _ _ _ _ _ | exact Le.rfl _ | refine Le.loop _ ?_ | refine Le.bind ?_ ?_ | refine Le.ite ?_ ?_ | refine Le.sum ?_ ?_ | refine Le.prod ?_ | intro _ | exact Empty.elim (by assumption) | dsimp only)
theorem m_F_block_Fill (p0 : api_Grid) (p1 : api_Grid) (p2 : api_Grid) : Le (K_block_Fill p0 p1 p2) (F_block_Fill p0 p1 p2) := by
  unfold K_block_Fill F_block_Fill
  with_reducible repeat' (first | exact m_F_block_checked _ | exact m_F_block_alike _ _ | exact m_F_block_zero_s0 _ _ | exact m_block_Fill_l1 _ _ _ _ | exact Le.rfl _ | refine Le.loop _ ?_ | refine Le.bind ?_ ?_ | refine Le.ite ?_ ?_ | refine Le.sum ?_ ?_ | refine Le.prod ?_ | intro _ | exact Empty.elim (by assumption) | dsimp only)
theorem m_F_raddleref01_Zero (p0 : Int) (p1 : Int) : Le (K_raddleref01_Zero p0 p1) (F_raddleref01_Zero p0 p1) := by
  unfold K_raddleref01_Zero F_raddleref01_Zero
  with_reducible repeat' (first | exact Le.rfl _ | refine Le.loop _ ?_ | refine Le.bind ?_ ?_ | refine Le.ite ?_ ?_ | refine Le.sum ?_ ?_ | refine Le.prod ?_ | intro _ | exact Empty.elim (by assumption) | dsimp only)
theorem m_block_part_l1 (p2 : Int) (p0 : api_Grid) (p4 : Int) (p3 : Int) (p1 : Int) : ∀ s, Le (K_block_part_l1 p2 p0 p4 p3 p1 s) (block_part_l1 p2 p0 p4 p3 p1 s) := by
  unfold K_block_part_l1 block_part_l1
  with_reducible repeat' (first | exact Le.rfl _ | refine Le.loop _ ?_ | refine Le.bind ?_ ?_ | refine Le.ite ?_ ?_ | refine Le.sum ?_ ?_ | refine Le.prod ?_ | intro _ | exact Empty.elim (by assumption) | dsimp only)
theorem m_F_block_part (p0 : api_Grid) (p1 : Int) (p2 : Int) (p3 : Int) (p4 : Int) : Le (K_block_part p0 p1 p2 p3 p4) (F_block_part p0 p1 p2 p3 p4) := by
  unfold K_block_part F_block_part
  with_reducible repeat' (first | exact m_block_part_l1 _ _ _ _ _ | exact Le.rfl _ | refine Le.loop _ ?_ | refine Le.bind ?_ ?_ | refine Le.ite ?_ ?_ | refine Le.sum ?_ ?_ | refine Le.prod ?_ | intro _ | exact Empty.elim (by assumption) | dsimp only)
theorem m_slices_Equal___bool_bool__l1 (p0 : (List Bool)) (p1 : (List Bool)) : ∀ s, Le (K_slices_Equal___bool_bool__l1 p0 p1 s) (slices_Equal___bool_bool__l1 p0 p1 s) := by
  unfold K_slices_Equal___bool_bool__l1 slices_Equal___bool_bool__l1
  with_reducible repeat' (first | exact Le.rfl _ | refine Le.loop _ ?_ | refine Le.bind ?_ ?_ | refine Le.ite ?_ ?_ | refine Le.sum ?_ ?_ | refine Le.prod ?_ | intro _ | exact Empty.elim (by assumption) | dsimp only)
theorem m_F_slices_Equal___bool_bool_ (p0 : (List Bool)) (p1 : (List Bool)) : Le (K_slices_Equal___bool_bool_ p0 p1) (F_slices_Equal___bool_bool_ p0 p1) := by
  unfold K_slices_Equal___bool_bool_ F_slices_Equal___bool_bool_
  with_reducible repeat' (first | exact m_slices_Equal___bool_bool__l1 _ _ | exact Le.rfl _ | refine Le.loop _ ?_ | refine Le.bind ?_ ?_ | refine Le.ite ?_ ?_ | refine Le.sum ?_ ?_ | refine Le.prod ?_ | intro _ | exact Empty.elim (by assumption) | dsimp only)
theorem m_F_grid_Same (p0 : api_Grid) (p1 : api_Grid) : Le (K_grid_Same p0 p1) (F_grid_Same p0 p1) := by
  unfold K_grid_Same F_grid_Same
  with_reducible repeat' (first | exact m_F_slices_Equal___bool_bool_ _ _ | exact Le.rfl _ | refine Le.loop _ ?_ | refine Le.bind ?_ ?_ | refine Le.ite ?_ ?_ | refine Le.sum ?_ ?_ | refine Le.prod ?_ | intro _ | exact Empty.elim (by assumption) | dsimp only)
theorem m_F_block_Units_1_s0 (p0 : api_Grid) (p1 : api_Grid) : Le (K_block_Units_1_s0 p0 p1) (F_block_Units_1_s0 p0 p1) := by
  unfold K_block_Units_1_s0 F_block_Units_1_s0
  with_reducible repeat' (first | exact m_F_grid_Same _ _ | exact Le.rfl _ | refine Le.loop _ ?_ | refine Le.bind ?_ ?_ | refine Le.ite ?_ ?_ | refine Le.sum ?_ ?_ | refine Le.prod ?_ | intro _ | exact Empty.elim (by assumption) | dsimp only)
theorem m_slices_IndexFunc___api_Grid_api_Grid__s0_l1 (p0 : (List api_Grid)) (p1 : api_Grid) : ∀ s, Le (K_slices_IndexFunc___api_Grid_api_Grid__s0_l1 p0 p1 s) (slices_IndexFunc___api_Grid_api_Grid__s0_l1 p0 p1 s) := by
  unfold K_slices_IndexFunc___api_Grid_api_Grid__s0_l1 slices_IndexFunc___api_Grid_api_Grid__s0_l1
  with_reducible repeat' (first | exact m_F_block_Units_1_s0 _ _ | exact Le.rfl _ | refine Le.loop _ ?_ | refine Le.bind ?_ ?_ | refine Le.ite ?_ ?_ | refine Le.sum ?_ ?_ | refine Le.prod ?_ | intro _ | exact Empty.elim (by assumption) | dsimp only)
theorem m_F_slices_IndexFunc___api_Grid_api_Grid__s0 (p0 : (List api_Grid)) (p1 : api_Grid) : Le (K_slices_IndexFunc___api_Grid_api_Grid__s0 p0 p1) (F_slices_IndexFunc___api_Grid_api_Grid__s0 p0 p1) := by
  unfold K_slices_IndexFunc___api_Grid_api_Grid__s0 F_slices_IndexFunc___api_Grid_api_Grid__s0
  with_reducible repeat' (first | exact m_slices_IndexFunc___api_Grid_api_Grid__s0_l1 _ _ | exact Le.rfl _ | refine Le.loop _ ?_ | refine Le.bind ?_ ?_ | refine Le.ite ?_ ?_ | refine Le.sum ?_ ?_ | refine Le.prod ?_ | intro _ | exact Empty.elim (by assumption) | dsimp only)
theorem m_block_Units_l1 (z69 : Int) (p0 : api_Grid) (p1 : Int) (p2 : Int) (s46 : Int) : ∀ s, Le (K_block_Units_l1 z69 p0 p1 p2 s46 s) (block_Units_l1 z69 p0 p1 p2 s46 s) := by
  unfold K_block_Units_l1 block_Units_l1
  with_reducible repeat' (first | exact m_F_block_part _ _ _ _ _ | exact m_F_slices_IndexFunc___api_Grid_api_Grid__s0 _ _ | exact Le.rfl _ | refine Le.loop _ ?_ | refine Le.bind ?_ ?_ | refine Le.ite ?_ ?_ | refine Le.sum ?_ ?_ | refine Le.prod ?_ | intro _ | exact Empty.elim (by assumption) | dsimp only)
theorem m_block_Units_l2 (z38 : Int) (p0 : api_Grid) (p1 : Int) (p2 : Int) : ∀ s, Le (K_block_Units_l2 z38 p0 p1 p2 s) (block_Units_l2 z38 p0 p1 p2 s) := by
  unfold K_block_Units_l2 block_Units_l2
  with_reducible repeat' (first | exact m_block_Units_l1 _ _ _ _ _ | exact Le.rfl _ | refine Le.loop _ ?_ | refine Le.bind ?_ ?_ | refine Le.ite ?_ ?_ | refine Le.sum ?_ ?_ | refine Le.prod ?_ | intro _ | exact Empty.elim (by assumption) | dsimp only)
theorem m_F_block_Units (p0 : api_Grid) (p1 : Int) (p2 : Int) : Le (K_block_Units p0 p1 p2) (F_block_Units p0 p1 p2) := by
  unfold K_block_Units F_block_Units
  with_reducible repeat' (first | exact m_F_block_checked _ | exact m_block_Units_l2 _ _ _ _ | exact Le.rfl _ | refine Le.loop _ ?_ | refine Le.bind ?_ ?_ | refine Le.ite ?_ ?_ | refine Le.sum ?_ ?_ | refine Le.prod ?_ | intro _ | exact Empty.elim (by assumption) | dsimp only)
theorem m_thread_check_l1 (x17 : (List Int)) : ∀ s, Le (K_thread_check_l1 x17 s) (thread_check_l1 x17 s) := by
  unfold K_thread_check_l1 thread_check_l1
  with_reducible repeat' (first | exact Le.rfl _ | refine Le.loop _ ?_ | refine Le.bind ?_ ?_ | refine Le.ite ?_ ?_ | refine Le.sum ?_ ?_ | refine Le.prod ?_ | intro _ | exact Empty.elim (by assumption) | dsimp only)
theorem m_thread_check_l2 (p0 : (List (List Int))) : ∀ s, Le (K_thread_check_l2 p0 s) (thread_check_l2 p0 s) := by
  unfold K_thread_check_l2 thread_check_l2
  with_reducible repeat' (first | exact m_thread_check_l1 _ | exact Le.rfl _ | refine Le.loop _ ?_ | refine Le.bind ?_ ?_ | refine Le.ite ?_ ?_ | refine Le.sum ?_ ?_ | refine Le.prod ?_ | intro _ | exact Empty.elim (by assumption) | dsimp only)
theorem m_F_thread_check (p0 : (List (List Int))) : Le (K_thread_check p0) (F_thread_check p0) := by
  unfold K_thread_check F_thread_check
  with_reducible repeat' (first | exact m_thread_check_l2 _ | exact Le.rfl _ | refine Le.loop _ ?_ | refine Le.bind ?_ ?_ | refine Le.ite ?_ ?_ | refine Le.sum ?_ ?_ | refine Le.prod ?_ | intro _ | exact Empty.elim (by assumption) | dsimp only)
theorem m_F_thread_Check (p0 : (List Int)) : Le (K_thread_Check p0) (F_thread_Check p0) := by
  unfold K_thread_Check F_thread_Check
  with_reducible repeat' (first | exact m_F_thread_check _ | exact Le.rfl _ | refine Le.loop _ ?_ | refine Le.bind ?_ ?_ | refine Le.ite ?_ ?_ | refine Le.sum ?_ ?_ | refine Le.prod ?_ | intro _ | exact Empty.elim (by assumption) | dsimp only)
theorem m_block_spelled_l1 (p0 : (List (List Int))) : ∀ s, Le (K_block_spelled_l1 p0 s) (block_spelled_l1 p0 s) := by
  unfold K_block_spelled_l1 block_spelled_l1
  with_reducible repeat' (first | exact m_F_thread_Check _ | exact Le.rfl _ | refine Le.loop _ ?_ | refine Le.bind ?_ ?_ | refine Le.ite ?_ ?_ | refine Le.sum ?_ ?_ | refine Le.prod ?_ | intro _ | exact Empty.elim (by assumption) | dsimp only)
theorem m_F_block_spelled_1_s0 (p0 : (List Int)) (p1 : (List (List Int))) : Le (K_block_spelled_1_s0 p0 p1) (F_block_spelled_1_s0 p0 p1) := by
  unfold K_block_spelled_1_s0 F_block_spelled_1_s0
  with_reducible repeat' (first | exact Le.rfl _ | refine Le.loop _ ?_ | refine Le.bind ?_ ?_ | refine Le.ite ?_ ?_ | refine Le.sum ?_ ?_ | refine Le.prod ?_ | intro _ | exact Empty.elim (by assumption) | dsimp only)
theorem m_slices_IndexFunc_____int___int__s0_l1 (p0 : (List (List Int))) (p1 : (List (List Int))) : ∀ s, Le (K_slices_IndexFunc_____int___int__s0_l1 p0 p1 s) (slices_IndexFunc_____int___int__s0_l1 p0 p1 s) := by
  unfold K_slices_IndexFunc_____int___int__s0_l1 slices_IndexFunc_____int___int__s0_l1
  with_reducible repeat' (first | exact m_F_block_spelled_1_s0 _ _ | exact Le.rfl _ | refine Le.loop _ ?_ | refine Le.bind ?_ ?_ | refine Le.ite ?_ ?_ | refine Le.sum ?_ ?_ | refine Le.prod ?_ | intro _ | exact Empty.elim (by assumption) | dsimp only)
theorem m_F_slices_IndexFunc_____int___int__s0 (p0 : (List (List Int))) (p1 : (List (List Int))) : Le (K_slices_IndexFunc_____int___int__s0 p0 p1) (F_slices_IndexFunc_____int___int__s0 p0 p1) := by
  unfold K_slices_IndexFunc_____int___int__s0 F_slices_IndexFunc_____int___int__s0
  with_reducible repeat' (first | exact m_slices_IndexFunc_____int___int__s0_l1 _ _ | exact Le.rfl _ | refine Le.loop _ ?_ | refine Le.bind ?_ ?_ | refine Le.ite ?_ ?_ | refine Le.sum ?_ ?_ | refine Le.prod ?_ | intro _ | exact Empty.elim (by assumption) | dsimp only)
theorem m_F_slices_ContainsFunc_____int___int__s0 (p0 : (List (List Int))) (p1 : (List (List Int))) : Le (K_slices_ContainsFunc_____int___int__s0 p0 p1) (F_slices_ContainsFunc_____int___int__s0 p0 p1) := by
  unfold K_slices_ContainsFunc_____int___int__s0 F_slices_ContainsFunc_____int___int__s0
  with_reducible repeat' (first | exact m_F_slices_IndexFunc_____int___int__s0 _ _ | exact Le.rfl _ | refine Le.loop _ ?_ | refine Le.bind ?_ ?_ | refine Le.ite ?_ ?_ | refine Le.sum ?_ ?_ | refine Le.prod ?_ | intro _ | exact Empty.elim (by assumption) | dsimp only)
theorem m_F_block_spelled (p0 : (List (List Int))) : Le (K_block_spelled p0) (F_block_spelled p0) := by
  unfold K_block_spelled F_block_spelled
  with_reducible repeat' (first | exact m_block_spelled_l1 _ | exact m_F_slices_ContainsFunc_____int___int__s0 _ _ | exact Le.rfl _ | refine Le.loop _ ?_ | refine Le.bind ?_ ?_ | refine Le.ite ?_ ?_ | refine Le.sum ?_ ?_ | refine Le.prod ?_ | intro _ | exact Empty.elim (by assumption) | dsimp only)
theorem m_F_block_index_1_s0 (p0 : Int) (p1 : Int) : Le (K_block_index_1_s0 p0 p1) (F_block_index_1_s0 p0 p1) := by
  unfold K_block_index_1_s0 F_block_index_1_s0
  with_reducible repeat' (first | exact Le.rfl _ | refine Le.loop _ ?_ | refine Le.bind ?_ ?_ | refine Le.ite ?_ ?_ | refine Le.sum ?_ ?_ | refine Le.prod ?_ | intro _ | exact Empty.elim (by assumption) | dsimp only)
theorem m_slices_IndexFunc___int_int__s0_l1 (p0 : (List Int)) (p1 : Int) : ∀ s, Le (K_slices_IndexFunc___int_int__s0_l1 p0 p1 s) (slices_IndexFunc___int_int__s0_l1 p0 p1 s) := by
  unfold K_slices_IndexFunc___int_int__s0_l1 slices_IndexFunc___int_int__s0_l1
  with_reducible repeat' (first | exact m_F_block_index_1_s0 _ _ | exact Le.rfl _ | refine Le.loop _ ?_ | refine Le.bind ?_ ?_ | refine Le.ite ?_ ?_ | refine Le.sum ?_ ?_ | refine Le.prod ?_ | intro _ | exact Empty.elim (by assumption) | dsimp only)
theorem m_F_slices_IndexFunc___int_int__s0 (p0 : (List Int)) (p1 : Int) : Le (K_slices_IndexFunc___int_int__s0 p0 p1) (F_slices_IndexFunc___int_int__s0 p0 p1) := by
  unfold K_slices_IndexFunc___int_int__s0 F_slices_IndexFunc___int_int__s0
  with_reducible repeat' (first | exact m_slices_IndexFunc___int_int__s0_l1 _ _ | exact Le.rfl _ | refine Le.loop _ ?_ | refine Le.bind ?_ ?_ | refine Le.ite ?_ ?_ | refine Le.sum ?_ ?_ | refine Le.prod ?_ | intro _ | exact Empty.elim (by assumption) | dsimp only)
theorem m_F_slices_ContainsFunc___int_int__s0 (p0 : (List Int)) (p1 : Int) : Le (K_slices_ContainsFunc___int_int__s0 p0 p1) (F_slices_ContainsFunc___int_int__s0 p0 p1) := by
  unfold K_slices_ContainsFunc___int_int__s0 F_slices_ContainsFunc___int_int__s0
  with_reducible repeat' (first | exact m_F_slices_IndexFunc___int_int__s0 _ _ | exact Le.rfl _ | refine Le.loop _ ?_ | refine Le.bind ?_ ?_ | refine Le.ite ?_ ?_ | refine Le.sum ?_ ?_ | refine Le.prod ?_ | intro _ | exact Empty.elim (by assumption) | dsimp only)
theorem m_F_block_index (p0 : (List Int)) (p1 : Int) : Le (K_block_index p0 p1) (F_block_index p0 p1) := by
  unfold K_block_index F_block_index
  with_reducible repeat' (first | exact m_F_slices_ContainsFunc___int_int__s0 _ _ | exact Le.rfl _ | refine Le.loop _ ?_ | refine Le.bind ?_ ?_ | refine Le.ite ?_ ?_ | refine Le.sum ?_ ?_ | refine Le.prod ?_ | intro _ | exact Empty.elim (by assumption) | dsimp only)
theorem m_block_Spell_l1 (p0 : (List Int)) (p1 : (List (List Int))) : ∀ s, Le (K_block_Spell_l1 p0 p1 s) (block_Spell_l1 p0 p1 s) := by
  unfold K_block_Spell_l1 block_Spell_l1
  with_reducible repeat' (first | exact Le.rfl _ | refine Le.loop _ ?_ | refine Le.bind ?_ ?_ | refine Le.ite ?_ ?_ | refine Le.sum ?_ ?_ | refine Le.prod ?_ | intro _ | exact Empty.elim (by assumption) | dsimp only)
theorem m_F_block_Spell (p0 : (List Int)) (p1 : (List (List Int))) : Le (K_block_Spell p0 p1) (F_block_Spell p0 p1) := by
  unfold K_block_Spell F_block_Spell
  with_reducible repeat' (first | exact m_F_thread_Check _ | exact m_F_block_spelled _ | exact m_F_block_index _ _ | exact m_block_Spell_l1 _ _ | exact Le.rfl _ | refine Le.loop _ ?_ | refine Le.bind ?_ ?_ | refine Le.ite ?_ ?_ | refine Le.sum ?_ ?_ | refine Le.prod ?_ | intro _ | exact Empty.elim (by assumption) | dsimp only)
theorem m_raddleref01_Same_l1 (p0 : api_Grid) (p1 : api_Grid) : ∀ s, Le (K_raddleref01_Same_l1 p0 p1 s) (raddleref01_Same_l1 p0 p1 s) := by
  unfold K_raddleref01_Same_l1 raddleref01_Same_l1
  with_reducible repeat' (first | exact Le.rfl _ | refine Le.loop _ ?_ | refine Le.bind ?_ ?_ | refine Le.ite ?_ ?_ | refine Le.sum ?_ ?_ | refine Le.prod ?_ | intro _ | exact Empty.elim (by assumption) | dsimp only)
theorem m_F_raddleref01_Same (p0 : api_Grid) (p1 : api_Grid) : Le (K_raddleref01_Same p0 p1) (F_raddleref01_Same p0 p1) := by
  unfold K_raddleref01_Same F_raddleref01_Same
  with_reducible repeat' (first | exact m_raddleref01_Same_l1 _ _ | exact Le.rfl _ | refine Le.loop _ ?_ | refine Le.bind ?_ ?_ | refine Le.ite ?_ ?_ | refine Le.sum ?_ ?_ | refine Le.prod ?_ | intro _ | exact Empty.elim (by assumption) | dsimp only)
theorem m_raddleref02_Same_l1 (p0 : (List Int)) (p1 : (List Int)) : ∀ s, Le (K_raddleref02_Same_l1 p0 p1 s) (raddleref02_Same_l1 p0 p1 s) := by
  unfold K_raddleref02_Same_l1 raddleref02_Same_l1
  with_reducible repeat' (first | exact Le.rfl _ | refine Le.loop _ ?_ | refine Le.bind ?_ ?_ | refine Le.ite ?_ ?_ | refine Le.sum ?_ ?_ | refine Le.prod ?_ | intro _ | exact Empty.elim (by assumption) | dsimp only)
theorem m_F_raddleref02_Same (p0 : (List Int)) (p1 : (List Int)) : Le (K_raddleref02_Same p0 p1) (F_raddleref02_Same p0 p1) := by
  unfold K_raddleref02_Same F_raddleref02_Same
  with_reducible repeat' (first | exact m_raddleref02_Same_l1 _ _ | exact Le.rfl _ | refine Le.loop _ ?_ | refine Le.bind ?_ ?_ | refine Le.ite ?_ ?_ | refine Le.sum ?_ ?_ | refine Le.prod ?_ | intro _ | exact Empty.elim (by assumption) | dsimp only)
set_option maxRecDepth 1000000 in
theorem kc_raddlelaw13_alive_0 : F_raddlelaw13_row [true, false] = some (api_Grid.mk 2 1 [true, false]) := m_F_raddlelaw13_row _ _ (by kernel_rfl)
set_option maxRecDepth 1000000 in
theorem kc_raddlelaw13_alive_1 : F_raddlelaw13_row [true] = some (api_Grid.mk 1 1 [true]) := m_F_raddlelaw13_row _ _ (by kernel_rfl)
set_option maxRecDepth 1000000 in
theorem kc_raddlelaw13_alive_2 : F_raddlelaw13_row [false] = some (api_Grid.mk 1 1 [false]) := m_F_raddlelaw13_row _ _ (by kernel_rfl)
set_option maxRecDepth 1000000 in
theorem kc_raddlelaw13_alive_3 : F_block_Fill ((api_Grid.mk 2 1 [true, false])) ((api_Grid.mk 1 1 [true])) ((api_Grid.mk 1 1 [false])) = some ((api_Grid.mk 2 1 [true, false]), 0) := m_F_block_Fill _ _ _ _ (by kernel_rfl)
set_option maxRecDepth 1000000 in
theorem kc_raddlelaw13_alive_4 : F_raddleref01_Zero 2 2 = some (api_Grid.mk 2 2 [false, false, false, false]) := m_F_raddleref01_Zero _ _ _ (by kernel_rfl)
set_option maxRecDepth 1000000 in
theorem kc_raddlelaw13_alive_5 : F_block_Fill ((api_Grid.mk 2 1 [true, false])) ((api_Grid.mk 2 2 [false, false, false, false])) ((api_Grid.mk 2 2 [false, false, false, false])) = some ((api_Grid.mk 4 2 [false, false, false, false, false, false, false, false]), 0) := m_F_block_Fill _ _ _ _ (by kernel_rfl)
set_option maxRecDepth 1000000 in
theorem kc_raddlelaw13_alive_6 : F_block_Units (api_Grid.mk 4 2 [true, true, false, false, true, true, false, false]) 2 2 = some ([(api_Grid.mk 2 2 [true, true, true, true]), (api_Grid.mk 2 2 [false, false, false, false])], ([0, 1], 0)) := m_F_block_Units _ _ _ _ (by kernel_rfl)
set_option maxRecDepth 1000000 in
theorem kc_raddlelaw13_alive_7 : F_block_Spell ([0, 1, 0] : List Int) [([0, 1] : List Int), ([2, 3] : List Int)] = some ([0, 1, 2, 3, 0, 1], 0) := m_F_block_Spell _ _ _ (by kernel_rfl)
set_option maxRecDepth 1000000 in
theorem kc_raddlelaw13_alive_8 : F_raddleref01_Same (((api_Grid.mk 2 1 [true, false]), 0)).1 ((api_Grid.mk 2 1 [true, false])) = some true := m_F_raddleref01_Same _ _ _ (by kernel_rfl)
set_option maxRecDepth 1000000 in
theorem kc_raddlelaw13_alive_9 : F_raddleref02_Same (([(api_Grid.mk 2 2 [true, true, true, true]), (api_Grid.mk 2 2 [false, false, false, false])], ([0, 1], 0))).2.1 ([0, 1] : List Int) = some true := m_F_raddleref02_Same _ _ _ (by kernel_rfl)
set_option maxRecDepth 1000000 in
theorem kc_raddlelaw13_alive_10 : F_raddleref02_Same (([0, 1, 2, 3, 0, 1], 0)).1 ([0, 1, 2, 3, 0, 1] : List Int) = some true := m_F_raddleref02_Same _ _ _ (by kernel_rfl)
end Go.Proofs.Ythfifeabomdlpaa
namespace Go.Proofs.Ythfifeabomdlpaa
open Go.RowKit
set_option linter.unusedVariables false

def anc_raddlelaw13_alive_0 : List (List Nat) := [[], [], [1], [], [1, 2, 3], [0, 1, 2, 3, 4], [0, 1, 2, 3, 4, 5], [0, 1, 2, 3, 4, 5, 6], [0, 1, 2, 3, 4, 5, 6], [], [0, 1, 2, 3, 4, 5, 6, 7, 9], [0, 1, 2, 3, 4, 5, 6, 7, 8, 9, 10]]
def anc_raddlelaw13_alive_1 : List (List Nat) := [[], [], [1], [0, 1, 2], [0, 1, 2, 3], [0, 1, 2, 3, 4], [0, 1, 2, 3, 4], [], [0, 1, 2, 3, 4, 5, 7], [0, 1, 2, 3, 4, 5, 6, 7, 8]]
noncomputable def F_raddlelaw13_alive  : Option Bool :=
  Option.bind (F_raddlelaw13_row [true, false]) fun r5 =>
  Option.bind (F_raddlelaw13_row [true]) fun r16 =>
  Option.bind (F_raddlelaw13_row [false]) fun r25 =>
  Option.bind (F_block_Fill r5 r16 r25) fun r32 =>
  Option.bind (F_raddleref01_Zero 2 2) fun r61 =>
  Option.bind (F_block_Fill r5 r61 r61) fun r73 =>
  Option.bind (F_block_Units (api_Grid.mk 4 2 [true, true, false, false, true, true, false, false]) 2 2) fun r102 =>
  Option.bind (F_block_Spell ([0, 1, 0] : List Int) [([0, 1] : List Int), ([2, 3] : List Int)]) fun r119 =>
  if r32.2 == 0 then
    Option.bind (F_raddleref01_Same r32.1 r5) fun r126 =>
    if r126 then
      if r73.2 == 0 then
        if r73.1.W == 4 then
          if r73.1.H == 2 then
            if r102.2.2 == 0 then
              if (r102.1.length : Int) == 2 then
                Option.bind (F_raddleref02_Same r102.2.1 ([0, 1] : List Int)) fun r136 =>
                if r136 then
                  if r119.2 == 0 then
                    Option.bind (F_raddleref02_Same r119.1 ([0, 1, 2, 3, 0, 1] : List Int)) fun r142 =>
                    some r142
                  else
                    none
                else
                  none
              else
                none
            else
              none
          else
            none
        else
          none
      else
        none
    else
      none
  else
    none
set_option maxHeartbeats 4000000 in
set_option maxRecDepth 100000 in
theorem c_raddlelaw13_alive (E : Nat → Prop) (w0 : World)  (r : Bool) (h : F_raddlelaw13_alive  = some r) (S : St0 E [] w0 w0 [] []) :
    Calls Try.prog 31 #[] w0 (Ret (X := Unit) E [] w0 (fun _ => .bool r) (fun _ => []) (fun _ => [])) := by
  unfold F_raddlelaw13_alive at h
  refine sEnter (args := []) 90 Try.func31 rfl rfl (by simp) S (fun a S => ?_)
  refine sSeq (fun K1 hK1 => ?_)
  refine sRegion ?_
  refine sMove (.bool false) S (wN rfl) (.inr rfl) rfl rfl (lb rfl) fun a S => ?_
  refine leafL (leafT (hK1 _ _ ?_))
  refine sSeq (fun K2 hK2 => ?_)
  refine sRegion ?_
  refine sLit (r := rB) (T := 4) (xs := [true, false]) [(0, .bool true), (1, .bool false)] 2 [.bool true, .bool false] [.bool true, .bool false] (.bool false) 1 S (wN rfl) rfl rfl Try.underlying22 rfl (by decide) (by decide) (by kernel_rfl) rfl (fun E1 w1 hE => All.cons rfl (All.cons rfl (All.nil _ _ _))) rfl rfl (lb rfl) fun a w ad3 cp4 S => ?_
  obtain ⟨r5, hx6, h⟩ := bindSome h
  have hv_r5 : r5 = (api_Grid.mk 2 1 [true, false]) := Option.some.inj (hx6.symm.trans (by exact kc_raddlelaw13_alive_0))
  have S := S.shutR (r := rB) (T := 4) (v := .slice ad3 [true, false].length cp4) (xs := [true, false]) 0 rfl
  refine sCall (X := Value) (f := 39) (vs := [.slice ad3 [true, false].length cp4]) (val := c_raddlelaw13_row_val r5) (B' := fun _ => []) (D' := c_raddlelaw13_row_D r5) [] [] [fRep (rL rB) (.slice ad3 [true, false].length cp4) [true, false]] [] [0] S (wN rfl) rfl callee39 rfl (by decide) rfl rfl (fun E1 w1 S1 => c_raddlelaw13_row E1 w1 [true, false] (.slice ad3 [true, false].length cp4) r5 hx6 S1) rfl (lb rfl) fun u7 a w S => ?_
  obtain ⟨u8, rfl, hu9⟩ := S.mem.know (i := 0) (e := fRep r_api_Grid (u7) r5) rfl
  have S := S.learn (fRep (rL rB) u8 r5.Bits) hu9
  obtain ⟨ad10, cp11, _, rfl, _⟩ := hu9
  refine sAlloc (.agg #[iv 0, iv 0, .slice none 0 0]) S (wN rfl) rfl rfl [iv 0, iv 0, .slice none 0 0] rfl rfl (lb rfl) fun a b12 w S => ?_
  refine sStore (p := b12) (off := 0) (T := 24) (vs := [iv 0, iv 0, .slice none 0 0]) (v := .agg #[iv r5.W, iv r5.H, .slice ad10 r5.Bits.length cp11]) 0 [iv r5.W, iv r5.H, .slice ad10 r5.Bits.length cp11] S (wN rfl) rfl rfl rfl rfl rfl rfl rfl (by simp) rfl fun a w S => ?_
  refine leafL (leafT (hK2 _ _ ?_))
  refine sSeq (fun K13 hK13 => ?_)
  obtain ⟨r16, hx17, h⟩ := bindSome h
  have hv_r16 : r16 = (api_Grid.mk 1 1 [true]) := Option.some.inj (hx17.symm.trans (by exact kc_raddlelaw13_alive_1))
  obtain ⟨r25, hx26, h⟩ := bindSome h
  have hv_r25 : r25 = (api_Grid.mk 1 1 [false]) := Option.some.inj (hx26.symm.trans (by exact kc_raddlelaw13_alive_2))
  obtain ⟨r32, hx33, h⟩ := bindSome h
  have hv_r32 : r32 = ((api_Grid.mk 2 1 [true, false]), 0) := Option.some.inj (hx33.symm.trans (by rw [hv_r5, hv_r16, hv_r25]; exact kc_raddlelaw13_alive_3))
  refine sDraw (nf := [1, 2, 3, 4, 5, 9, 10]) (W := [(0, 15, .agg #[iv r5.W, iv r5.H, .slice ad10 r5.Bits.length cp11])]) rfl S ?_
  refine nodeCut (fun N W L D => ∀ b59 ad57 cp58 ad52 cp53 ad47 cp48 ad45 cp46 ad40 cp41, N [9, 5, 4, 3, 2, 1] ((9, 2, .pointer (some ⟨b59, 0, none⟩)) :: (6, 14, .tuple #[.agg #[iv r32.1.W, iv r32.1.H, .slice ad57 r32.1.Bits.length cp58], iv r32.2]) :: (7, 21, .agg #[iv r32.1.W, iv r32.1.H, .slice ad57 r32.1.Bits.length cp58]) :: (8, 22, iv r32.2) :: (5, 20, .tuple #[.agg #[iv r32.1.W, iv r32.1.H, .slice ad57 r32.1.Bits.length cp58], iv r32.2]) :: (4, 19, .agg #[iv r25.W, iv r25.H, .slice ad52 r25.Bits.length cp53]) :: (3, 18, .slice ad47 [false].length cp48) :: (2, 17, .agg #[iv r16.W, iv r16.H, .slice ad45 r16.Bits.length cp46]) :: (1, 16, .slice ad40 [true].length cp41) :: W) ((eBox b59 24 [iv 0, iv 0, .slice none 0 0]) :: L) ((fRep (rL rB) (.slice ad57 r32.1.Bits.length cp58) r32.1.Bits) :: (fRep r_api_Grid (.agg #[iv r32.1.W, iv r32.1.H, .slice ad57 r32.1.Bits.length cp58]) r32.1) :: (fRep (rL rB) (.slice ad52 r25.Bits.length cp53) r25.Bits) :: (fRep r_api_Grid (.agg #[iv r25.W, iv r25.H, .slice ad52 r25.Bits.length cp53]) r25) :: (fRep (rL rB) (.slice ad47 [false].length cp48) [false]) :: (fRep (rL rB) (.slice ad45 r16.Bits.length cp46) r16.Bits) :: (fRep r_api_Grid (.agg #[iv r16.W, iv r16.H, .slice ad45 r16.Bits.length cp46]) r16) :: (fRep (rL rB) (.slice ad40 [true].length cp41) [true]) :: D)) (fun b59 ad57 cp58 ad52 cp53 ad47 cp48 ad45 cp46 ad40 cp41 => ?_) fun nd2 => ?_
  · refine node_by (A := anc_raddlelaw13_alive_0) (nf := [1, 2, 3, 4, 5, 9, 10]) (Y := [9, 5, 4, 3, 2, 1]) 12 (by kernel_rfl) (by kernel_rfl) (by kernel_rfl) (by kernel_rfl) (by kernel_rfl) [9, 6, 7, 8, 5, 4, 3, 2, 1, 0] (by kernel_rfl) (by decide) (by decide) (aD 0 11 5 (by decide) (aY 1 10 (by decide) (aY 2 9 (by decide) (aY 3 8 (by decide) (aY 4 7 (by decide) (aY 5 6 (by decide) (aF 6 5 (by decide) ?_ (aF 7 4 (by decide) ?_ (aF 8 3 (by decide) ?_ (aY 9 2 (by decide) (aN 10 1 (by decide) ?_ (aE 11 0 10 (by decide) (trivial))))))))))))) [] (fun q hq => by cases hq) (fun hY => absurd (hY 10 (by decide)) (by decide))
    · refine fI 14 (.tuple #[.agg #[iv r32.1.W, iv r32.1.H, .slice ad57 r32.1.Bits.length cp58], iv r32.2]) [(20, .tuple #[.agg #[iv r32.1.W, iv r32.1.H, .slice ad57 r32.1.Bits.length cp58], iv r32.2])] 1 [some 4] rfl rfl rfl rfl rfl rfl fun G a w S => ?_
      refine sMove (.tuple #[.agg #[iv r32.1.W, iv r32.1.H, .slice ad57 r32.1.Bits.length cp58], iv r32.2]) S (wN rfl) (.inl rfl) rfl rfl (lb rfl) fun a S => ?_
      exact leafL ⟨rfl, S⟩
    · refine fI 21 (.agg #[iv r32.1.W, iv r32.1.H, .slice ad57 r32.1.Bits.length cp58]) [(14, .tuple #[.agg #[iv r32.1.W, iv r32.1.H, .slice ad57 r32.1.Bits.length cp58], iv r32.2])] 2 [some 1] rfl rfl rfl rfl rfl rfl fun G a w S => ?_
      refine sExtract (vs := [.agg #[iv r32.1.W, iv r32.1.H, .slice ad57 r32.1.Bits.length cp58], iv r32.2]) (.agg #[iv r32.1.W, iv r32.1.H, .slice ad57 r32.1.Bits.length cp58]) S (wN rfl) rfl rfl rfl rfl (lb rfl) fun a S => ?_
      exact leafL ⟨rfl, S⟩
    · refine fI 22 (iv r32.2) [(14, .tuple #[.agg #[iv r32.1.W, iv r32.1.H, .slice ad57 r32.1.Bits.length cp58], iv r32.2])] 3 [some 1] rfl rfl rfl rfl rfl rfl fun G a w S => ?_
      refine sExtract (vs := [.agg #[iv r32.1.W, iv r32.1.H, .slice ad57 r32.1.Bits.length cp58], iv r32.2]) (iv r32.2) S (wN rfl) rfl rfl rfl rfl (lb rfl) fun a S => ?_
      exact leafL ⟨rfl, S⟩
    refine ⟨_, [(2, .pointer (some ⟨b59, 0, none⟩)), (21, .agg #[iv r32.1.W, iv r32.1.H, .slice ad57 r32.1.Bits.length cp58])], rfl, (srcs_of [some 0, some 2] rfl rfl rfl), fun G a w S => ?_⟩
    refine sStore (p := b59) (off := 0) (T := 24) (vs := [iv 0, iv 0, .slice none 0 0]) (v := .agg #[iv r32.1.W, iv r32.1.H, .slice ad57 r32.1.Bits.length cp58]) 0 [iv r32.1.W, iv r32.1.H, .slice ad57 r32.1.Bits.length cp58] S (wN rfl) rfl rfl rfl rfl rfl rfl rfl (by simp) rfl fun a w S => ?_
    refine leafL ⟨rfl, _, _, .inr ⟨[(11, 3, iv r32.2)], rfl, S, hz_of rfl, ?_⟩⟩
    refine node_by (A := anc_raddlelaw13_alive_0) (nf := [1, 2, 3, 4, 5, 9, 10]) (Y := [10, 9, 5, 4, 3, 2, 1]) 12 (by kernel_rfl) (by kernel_rfl) (by kernel_rfl) (by kernel_rfl) (by kernel_rfl) [11, 9, 6, 7, 8, 5, 4, 3, 2, 1, 0] (by kernel_rfl) (by decide) (by decide) (aD 0 11 10 (by decide) (aY 1 10 (by decide) (aY 2 9 (by decide) (aY 3 8 (by decide) (aY 4 7 (by decide) (aY 5 6 (by decide) (aD 6 5 10 (by decide) (aD 7 4 10 (by decide) (aF 8 3 (by decide) ?_ (aY 9 2 (by decide) (aY 10 1 (by decide) (aF 11 0 (by decide) ?_ (trivial))))))))))))) [(1, .pointer (some ⟨b12, 0, none⟩)), (2, .pointer (some ⟨b59, 0, none⟩)), (3, iv r32.2)] (fin_of [none, some 1, some 0] rfl (by kernel_rfl) (by kernel_rfl)) (fun _ a w S => ?_)
    · refine fI 22 (iv r32.2) [(14, .tuple #[.agg #[iv r32.1.W, iv r32.1.H, .slice ad57 r32.1.Bits.length cp58], iv r32.2])] 4 [some 2] rfl rfl rfl rfl rfl rfl fun G a w S => ?_
      refine sExtract (vs := [.agg #[iv r32.1.W, iv r32.1.H, .slice ad57 r32.1.Bits.length cp58], iv r32.2]) (iv r32.2) S (wN rfl) rfl rfl rfl rfl (lb rfl) fun a S => ?_
      exact leafL ⟨rfl, S⟩
    · refine fI 3 (iv r32.2) [(22, iv r32.2)] 0 [some 4] rfl rfl rfl rfl rfl rfl fun G a w S => ?_
      refine sMove (iv r32.2) S (wN rfl) (.inr rfl) rfl rfl (lb rfl) fun a S => ?_
      exact leafL ⟨rfl, S⟩
    refine leafT (hK13 _ _ ?_)
    refine sSeq (fun K60 hK60 => ?_)
    obtain ⟨r61, hx62, h⟩ := bindSome h
    have hv_r61 : r61 = (api_Grid.mk 2 2 [false, false, false, false]) := Option.some.inj (hx62.symm.trans (by exact kc_raddlelaw13_alive_4))
    obtain ⟨r73, hx74, h⟩ := bindSome h
    have hv_r73 : r73 = ((api_Grid.mk 4 2 [false, false, false, false, false, false, false, false]), 0) := Option.some.inj (hx74.symm.trans (by rw [hv_r5, hv_r61]; exact kc_raddlelaw13_alive_5))
    refine sDraw (nf := [1, 2, 3, 7, 8]) (W := [(0, 24, .agg #[iv r5.W, iv r5.H, .slice ad10 r5.Bits.length cp11])]) rfl S ?_
    refine nodeCut (fun N W L D => ∀ b96 ad94 cp95 ad89 cp90 ad84 cp85, N [7, 3, 2, 1] ((7, 4, .pointer (some ⟨b96, 0, none⟩)) :: (4, 23, .tuple #[.agg #[iv r73.1.W, iv r73.1.H, .slice ad94 r73.1.Bits.length cp95], iv r73.2]) :: (5, 28, .agg #[iv r73.1.W, iv r73.1.H, .slice ad94 r73.1.Bits.length cp95]) :: (6, 29, iv r73.2) :: (3, 27, .tuple #[.agg #[iv r73.1.W, iv r73.1.H, .slice ad94 r73.1.Bits.length cp95], iv r73.2]) :: (2, 26, .agg #[iv r61.W, iv r61.H, .slice ad89 r61.Bits.length cp90]) :: (1, 25, .agg #[iv r61.W, iv r61.H, .slice ad84 r61.Bits.length cp85]) :: W) ((eBox b96 24 [iv 0, iv 0, .slice none 0 0]) :: L) ((fRep (rL rB) (.slice ad94 r73.1.Bits.length cp95) r73.1.Bits) :: (fRep r_api_Grid (.agg #[iv r73.1.W, iv r73.1.H, .slice ad94 r73.1.Bits.length cp95]) r73.1) :: (fRep (rL rB) (.slice ad89 r61.Bits.length cp90) r61.Bits) :: (fRep r_api_Grid (.agg #[iv r61.W, iv r61.H, .slice ad89 r61.Bits.length cp90]) r61) :: (fRep (rL rB) (.slice ad84 r61.Bits.length cp85) r61.Bits) :: (fRep r_api_Grid (.agg #[iv r61.W, iv r61.H, .slice ad84 r61.Bits.length cp85]) r61) :: D)) (fun b96 ad94 cp95 ad89 cp90 ad84 cp85 => ?_) fun nd1 => ?_
    · refine node_by (A := anc_raddlelaw13_alive_1) (nf := [1, 2, 3, 7, 8]) (Y := [7, 3, 2, 1]) 10 (by kernel_rfl) (by kernel_rfl) (by kernel_rfl) (by kernel_rfl) (by kernel_rfl) [7, 4, 5, 6, 3, 2, 1, 0] (by kernel_rfl) (by decide) (by decide) (aD 0 9 3 (by decide) (aY 1 8 (by decide) (aY 2 7 (by decide) (aY 3 6 (by decide) (aF 4 5 (by decide) ?_ (aF 5 4 (by decide) ?_ (aF 6 3 (by decide) ?_ (aY 7 2 (by decide) (aN 8 1 (by decide) ?_ (aE 9 0 8 (by decide) (trivial))))))))))) [] (fun q hq => by cases hq) (fun hY => absurd (hY 8 (by decide)) (by decide))
      · refine fI 23 (.tuple #[.agg #[iv r73.1.W, iv r73.1.H, .slice ad94 r73.1.Bits.length cp95], iv r73.2]) [(27, .tuple #[.agg #[iv r73.1.W, iv r73.1.H, .slice ad94 r73.1.Bits.length cp95], iv r73.2])] 1 [some 4] rfl rfl rfl rfl rfl rfl fun G a w S => ?_
        refine sMove (.tuple #[.agg #[iv r73.1.W, iv r73.1.H, .slice ad94 r73.1.Bits.length cp95], iv r73.2]) S (wN rfl) (.inl rfl) rfl rfl (lb rfl) fun a S => ?_
        exact leafL ⟨rfl, S⟩
      · refine fI 28 (.agg #[iv r73.1.W, iv r73.1.H, .slice ad94 r73.1.Bits.length cp95]) [(23, .tuple #[.agg #[iv r73.1.W, iv r73.1.H, .slice ad94 r73.1.Bits.length cp95], iv r73.2])] 2 [some 1] rfl rfl rfl rfl rfl rfl fun G a w S => ?_
        refine sExtract (vs := [.agg #[iv r73.1.W, iv r73.1.H, .slice ad94 r73.1.Bits.length cp95], iv r73.2]) (.agg #[iv r73.1.W, iv r73.1.H, .slice ad94 r73.1.Bits.length cp95]) S (wN rfl) rfl rfl rfl rfl (lb rfl) fun a S => ?_
        exact leafL ⟨rfl, S⟩
      · refine fI 29 (iv r73.2) [(23, .tuple #[.agg #[iv r73.1.W, iv r73.1.H, .slice ad94 r73.1.Bits.length cp95], iv r73.2])] 3 [some 1] rfl rfl rfl rfl rfl rfl fun G a w S => ?_
        refine sExtract (vs := [.agg #[iv r73.1.W, iv r73.1.H, .slice ad94 r73.1.Bits.length cp95], iv r73.2]) (iv r73.2) S (wN rfl) rfl rfl rfl rfl (lb rfl) fun a S => ?_
        exact leafL ⟨rfl, S⟩
      refine ⟨_, [(4, .pointer (some ⟨b96, 0, none⟩)), (28, .agg #[iv r73.1.W, iv r73.1.H, .slice ad94 r73.1.Bits.length cp95])], rfl, (srcs_of [some 0, some 2] rfl rfl rfl), fun G a w S => ?_⟩
      refine sStore (p := b96) (off := 0) (T := 24) (vs := [iv 0, iv 0, .slice none 0 0]) (v := .agg #[iv r73.1.W, iv r73.1.H, .slice ad94 r73.1.Bits.length cp95]) 0 [iv r73.1.W, iv r73.1.H, .slice ad94 r73.1.Bits.length cp95] S (wN rfl) rfl rfl rfl rfl rfl rfl rfl (by simp) rfl fun a w S => ?_
      refine leafL ⟨rfl, _, _, .inr ⟨[(9, 5, iv r73.2)], rfl, S, hz_of rfl, ?_⟩⟩
      refine node_by (A := anc_raddlelaw13_alive_1) (nf := [1, 2, 3, 7, 8]) (Y := [8, 7, 3, 2, 1]) 10 (by kernel_rfl) (by kernel_rfl) (by kernel_rfl) (by kernel_rfl) (by kernel_rfl) [9, 7, 4, 5, 6, 3, 2, 1, 0] (by kernel_rfl) (by decide) (by decide) (aD 0 9 8 (by decide) (aY 1 8 (by decide) (aY 2 7 (by decide) (aY 3 6 (by decide) (aD 4 5 8 (by decide) (aD 5 4 8 (by decide) (aF 6 3 (by decide) ?_ (aY 7 2 (by decide) (aY 8 1 (by decide) (aF 9 0 (by decide) ?_ (trivial))))))))))) [(1, .pointer (some ⟨b12, 0, none⟩)), (2, .pointer (some ⟨b59, 0, none⟩)), (3, iv r32.2), (4, .pointer (some ⟨b96, 0, none⟩)), (5, iv r73.2)] (fin_of [none, none, none, some 1, some 0] rfl (by kernel_rfl) (by kernel_rfl)) (fun _ a w S => ?_)
      · refine fI 29 (iv r73.2) [(23, .tuple #[.agg #[iv r73.1.W, iv r73.1.H, .slice ad94 r73.1.Bits.length cp95], iv r73.2])] 4 [some 2] rfl rfl rfl rfl rfl rfl fun G a w S => ?_
        refine sExtract (vs := [.agg #[iv r73.1.W, iv r73.1.H, .slice ad94 r73.1.Bits.length cp95], iv r73.2]) (iv r73.2) S (wN rfl) rfl rfl rfl rfl (lb rfl) fun a S => ?_
        exact leafL ⟨rfl, S⟩
      · refine fI 5 (iv r73.2) [(29, iv r73.2)] 0 [some 4] rfl rfl rfl rfl rfl rfl fun G a w S => ?_
        refine sMove (iv r73.2) S (wN rfl) (.inr rfl) rfl rfl (lb rfl) fun a S => ?_
        exact leafL ⟨rfl, S⟩
      refine leafT (hK60 _ _ ?_)
      refine sSeq (fun K97 hK97 => ?_)
      refine sRegion ?_
      refine sLit (r := rB) (T := 4) (xs := [true, true, false, false, true, true, false, false]) [(0, .bool true), (1, .bool true), (2, .bool false), (3, .bool false), (4, .bool true), (5, .bool true), (6, .bool false), (7, .bool false)] 8 [.bool true, .bool true, .bool false, .bool false, .bool true, .bool true, .bool false, .bool false] [.bool true, .bool true, .bool false, .bool false, .bool true, .bool true, .bool false, .bool false] (.bool false) 1 S (wN rfl) rfl rfl Try.underlying22 rfl (by decide) (by decide) (by kernel_rfl) rfl (fun E1 w1 hE => All.cons rfl (All.cons rfl (All.cons rfl (All.cons rfl (All.cons rfl (All.cons rfl (All.cons rfl (All.cons rfl (All.nil _ _ _))))))))) rfl rfl (lb rfl) fun a w ad98 cp99 S => ?_
      refine sBuild [(0, iv 4), (1, iv 2), (2, .slice ad98 [true, true, false, false, true, true, false, false].length cp99)] [iv 4, iv 2, .slice ad98 [true, true, false, false, true, true, false, false].length cp99] S (wN rfl) rfl rfl rfl rfl (lb rfl) fun a S => ?_
      refine sAlloc (.agg #[iv 0, iv 0, .slice none 0 0]) S (wN rfl) rfl rfl [iv 0, iv 0, .slice none 0 0] rfl rfl (lb rfl) fun a b100 w S => ?_
      refine sStore (p := b100) (off := 0) (T := 24) (vs := [iv 0, iv 0, .slice none 0 0]) (v := .agg #[iv 4, iv 2, .slice ad98 [true, true, false, false, true, true, false, false].length cp99]) 0 [iv 4, iv 2, .slice ad98 [true, true, false, false, true, true, false, false].length cp99] S (wN rfl) rfl rfl rfl rfl rfl rfl rfl (by simp) rfl fun a w S => ?_
      refine leafL (leafT (hK97 _ _ ?_))
      refine sSeq (fun K101 hK101 => ?_)
      refine sRegion ?_
      refine sLoadN (p := b100) (off := 0) (T := 24) (vs := [iv 4, iv 2, .slice ad98 [true, true, false, false, true, true, false, false].length cp99]) 0 [iv 4, iv 2, .slice ad98 [true, true, false, false, true, true, false, false].length cp99] S (wN rfl) rfl rfl rfl rfl rfl rfl rfl (lb rfl) fun a S => ?_
      obtain ⟨r102, hx103, h⟩ := bindSome h
      have hv_r102 : r102 = ([(api_Grid.mk 2 2 [true, true, true, true]), (api_Grid.mk 2 2 [false, false, false, false])], ([0, 1], 0)) := Option.some.inj (hx103.symm.trans (by exact kc_raddlelaw13_alive_6))
      have S := S.shutR (r := rB) (T := 4) (v := .slice ad98 [true, true, false, false, true, true, false, false].length cp99) (xs := [true, true, false, false, true, true, false, false]) 1 rfl
      have S := S.learn (fRep r_api_Grid (.agg #[iv 4, iv 2, .slice ad98 [true, true, false, false, true, true, false, false].length cp99]) (api_Grid.mk 4 2 [true, true, false, false, true, true, false, false])) ⟨_, rfl, S.mem.know (i := 0) (e := fRep (rL rB) (.slice ad98 [true, true, false, false, true, true, false, false].length cp99) [true, true, false, false, true, true, false, false]) rfl⟩
      refine sCall (X := Value × Value) (f := 19) (vs := [.agg #[iv 4, iv 2, .slice ad98 [true, true, false, false, true, true, false, false].length cp99], iv 2, iv 2]) (val := c_block_Units_val r102) (B' := fun _ => []) (D' := c_block_Units_D r102) [] [eBox b100 24 [iv 4, iv 2, .slice ad98 [true, true, false, false, true, true, false, false].length cp99], eBox b96 24 [iv r73.1.W, iv r73.1.H, .slice ad94 r73.1.Bits.length cp95], eBox b59 24 [iv r32.1.W, iv r32.1.H, .slice ad57 r32.1.Bits.length cp58], eBox b12 24 [iv r5.W, iv r5.H, .slice ad10 r5.Bits.length cp11]] [fRep r_api_Grid (.agg #[iv 4, iv 2, .slice ad98 [true, true, false, false, true, true, false, false].length cp99]) (api_Grid.mk 4 2 [true, true, false, false, true, true, false, false])] [0, 1, 2, 3] [0] S (wN rfl) rfl callee19 rfl (by decide) rfl rfl (fun E1 w1 S1 => c_block_Units E1 w1 (api_Grid.mk 4 2 [true, true, false, false, true, true, false, false]) (.agg #[iv 4, iv 2, .slice ad98 [true, true, false, false, true, true, false, false].length cp99]) 2 2 r102 hx103 S1) rfl (lb rfl) fun xx a w S => ?_
      obtain ⟨u104, u105⟩ := xx
      obtain ⟨ad106, cp107, _, rfl, _⟩ := S.mem.know (i := 0) (e := fRep (rL r_api_Grid) (u104) r102.1) rfl
      obtain ⟨ad108, cp109, _, rfl, _⟩ := S.mem.know (i := 1) (e := fRep (rL (rI .i64)) (u105) r102.2.1) rfl
      refine sMove (.tuple #[.slice ad106 r102.1.length cp107, .slice ad108 r102.2.1.length cp109, iv r102.2.2]) S (wN rfl) (.inl rfl) rfl rfl (lb rfl) fun a S => ?_
      refine sExtract (vs := [.slice ad106 r102.1.length cp107, .slice ad108 r102.2.1.length cp109, iv r102.2.2]) (.slice ad106 r102.1.length cp107) S (wN rfl) rfl rfl rfl rfl (lb rfl) fun a S => ?_
      refine sExtract (vs := [.slice ad106 r102.1.length cp107, .slice ad108 r102.2.1.length cp109, iv r102.2.2]) (.slice ad108 r102.2.1.length cp109) S (wN rfl) rfl rfl rfl rfl (lb rfl) fun a S => ?_
      refine sExtract (vs := [.slice ad106 r102.1.length cp107, .slice ad108 r102.2.1.length cp109, iv r102.2.2]) (iv r102.2.2) S (wN rfl) rfl rfl rfl rfl (lb rfl) fun a S => ?_
      refine sMove (.slice ad106 r102.1.length cp107) S (wN rfl) (.inr rfl) rfl rfl (lb rfl) fun a S => ?_
      refine sMove (.slice ad108 r102.2.1.length cp109) S (wN rfl) (.inr rfl) rfl rfl (lb rfl) fun a S => ?_
      refine sMove (iv r102.2.2) S (wN rfl) (.inr rfl) rfl rfl (lb rfl) fun a S => ?_
      refine leafL (leafT (hK101 _ _ ?_))
      refine sSeq (fun K110 hK110 => ?_)
      refine sRegion ?_
      refine sLit (r := (rI .i64)) (T := 3) (xs := ([0, 1, 0] : List Int)) [(0, iv 0), (1, iv 1), (2, iv 0)] 3 [iv 0, iv 1, iv 0] [iv 0, iv 1, iv 0] (iv 0) 8 S (wN rfl) rfl rfl Try.underlying35 rfl (by decide) (by decide) (by kernel_rfl) rfl (fun E1 w1 hE => All.cons rfl (All.cons rfl (All.cons rfl (All.nil _ _ _)))) rfl rfl (lb rfl) fun a w ad111 cp112 S => ?_
      refine sLit (r := (rI .i64)) (T := 3) (xs := ([0, 1] : List Int)) [(0, iv 0), (1, iv 1)] 2 [iv 0, iv 1] [iv 0, iv 1] (iv 0) 8 S (wN rfl) rfl rfl Try.underlying35 rfl (by decide) (by decide) (by kernel_rfl) rfl (fun E1 w1 hE => All.cons rfl (All.cons rfl (All.nil _ _ _))) rfl rfl (lb rfl) fun a w ad113 cp114 S => ?_
      refine sLit (r := (rI .i64)) (T := 3) (xs := ([2, 3] : List Int)) [(0, iv 2), (1, iv 3)] 2 [iv 2, iv 3] [iv 2, iv 3] (iv 0) 8 S (wN rfl) rfl rfl Try.underlying35 rfl (by decide) (by decide) (by kernel_rfl) rfl (fun E1 w1 hE => All.cons rfl (All.cons rfl (All.nil _ _ _))) rfl rfl (lb rfl) fun a w ad115 cp116 S => ?_
      have S := S.shutR (r := (rI .i64)) (T := 3) (v := .slice ad113 ([0, 1] : List Int).length cp114) (xs := ([0, 1] : List Int)) 1 rfl
      have S := S.shutR (r := (rI .i64)) (T := 3) (v := .slice ad115 ([2, 3] : List Int).length cp116) (xs := ([2, 3] : List Int)) 0 rfl
      refine sLit (r := (rL (rI .i64))) (T := 35) (xs := [([0, 1] : List Int), ([2, 3] : List Int)]) [(0, .slice ad113 ([0, 1] : List Int).length cp114), (1, .slice ad115 ([2, 3] : List Int).length cp116)] 2 [.slice ad113 ([0, 1] : List Int).length cp114, .slice ad115 ([2, 3] : List Int).length cp116] [.slice ad113 ([0, 1] : List Int).length cp114, .slice ad115 ([2, 3] : List Int).length cp116] (.slice none 0 0) 24 S (wN rfl) rfl rfl Try.underlying46 rfl (by decide) (by decide) (by kernel_rfl) rfl (fun E1 w1 hE => All.cons ((rL (rI .i64)).mono hE (S.mem.know (i := 1) (e := fRep (rL (rI .i64)) (.slice ad113 ([0, 1] : List Int).length cp114) ([0, 1] : List Int)) rfl)) (All.cons ((rL (rI .i64)).mono hE (S.mem.know (i := 0) (e := fRep (rL (rI .i64)) (.slice ad115 ([2, 3] : List Int).length cp116) ([2, 3] : List Int)) rfl)) (All.nil _ _ _))) rfl rfl (lb rfl) fun a w ad117 cp118 S => ?_
      obtain ⟨r119, hx120, h⟩ := bindSome h
      have hv_r119 : r119 = ([0, 1, 2, 3, 0, 1], 0) := Option.some.inj (hx120.symm.trans (by exact kc_raddlelaw13_alive_7))
      have S := S.shutR (r := (rI .i64)) (T := 3) (v := .slice ad111 ([0, 1, 0] : List Int).length cp112) (xs := ([0, 1, 0] : List Int)) 1 rfl
      have S := S.shutR (r := (rL (rI .i64))) (T := 35) (v := .slice ad117 [([0, 1] : List Int), ([2, 3] : List Int)].length cp118) (xs := [([0, 1] : List Int), ([2, 3] : List Int)]) 0 rfl
      refine sCall (X := Value) (f := 27) (vs := [.slice ad111 ([0, 1, 0] : List Int).length cp112, .slice ad117 [([0, 1] : List Int), ([2, 3] : List Int)].length cp118]) (val := c_block_Spell_val r119) (B' := fun _ => []) (D' := c_block_Spell_D r119) [] [eBox b100 24 [iv 4, iv 2, .slice ad98 [true, true, false, false, true, true, false, false].length cp99], eBox b96 24 [iv r73.1.W, iv r73.1.H, .slice ad94 r73.1.Bits.length cp95], eBox b59 24 [iv r32.1.W, iv r32.1.H, .slice ad57 r32.1.Bits.length cp58], eBox b12 24 [iv r5.W, iv r5.H, .slice ad10 r5.Bits.length cp11]] [fRep (rL (rI .i64)) (.slice ad111 ([0, 1, 0] : List Int).length cp112) ([0, 1, 0] : List Int), fRep (rL (rL (rI .i64))) (.slice ad117 [([0, 1] : List Int), ([2, 3] : List Int)].length cp118) [([0, 1] : List Int), ([2, 3] : List Int)]] [0, 1, 2, 3] [1, 0] S (wN rfl) rfl callee27 rfl (by decide) rfl rfl (fun E1 w1 S1 => c_block_Spell E1 w1 ([0, 1, 0] : List Int) (.slice ad111 ([0, 1, 0] : List Int).length cp112) [([0, 1] : List Int), ([2, 3] : List Int)] (.slice ad117 [([0, 1] : List Int), ([2, 3] : List Int)].length cp118) r119 hx120 S1) rfl (lb rfl) fun u121 a w S => ?_
      obtain ⟨ad122, cp123, _, rfl, _⟩ := S.mem.know (i := 0) (e := fRep (rL (rI .i64)) (u121) r119.1) rfl
      refine sMove (.tuple #[.slice ad122 r119.1.length cp123, iv r119.2]) S (wN rfl) (.inl rfl) rfl rfl (lb rfl) fun a S => ?_
      refine sExtract (vs := [.slice ad122 r119.1.length cp123, iv r119.2]) (.slice ad122 r119.1.length cp123) S (wN rfl) rfl rfl rfl rfl (lb rfl) fun a S => ?_
      refine sExtract (vs := [.slice ad122 r119.1.length cp123, iv r119.2]) (iv r119.2) S (wN rfl) rfl rfl rfl rfl (lb rfl) fun a S => ?_
      refine sMove (.slice ad122 r119.1.length cp123) S (wN rfl) (.inr rfl) rfl rfl (lb rfl) fun a S => ?_
      refine sMove (iv r119.2) S (wN rfl) (.inr rfl) rfl rfl (lb rfl) fun a S => ?_
      refine leafL (leafT (hK110 _ _ ?_))
      refine sSeq (fun K124 hK124 => ?_)
      refine sRegion ?_
      refine sMove (iv r32.2) S (wN rfl) (.inl rfl) rfl rfl (lb rfl) fun a S => ?_
      refine sBin (.bool (r32.2 == 0)) S (wN rfl) rfl rfl rfl (bEq _ _ _ _ .i64 r32.2 0) rfl (lb rfl) fun a S => ?_
      refine sMove (.bool (r32.2 == 0)) S (wN rfl) (.inl rfl) rfl rfl (lb rfl) fun a S => ?_
      rcases iteSome h with ⟨hc125, h⟩ | ⟨hc125, h⟩
      rotate_left
      · exact absurd hc125 (by rw [hv_r32]; decide)
      refine sLoadN (p := b59) (off := 0) (T := 24) (vs := [iv r32.1.W, iv r32.1.H, .slice ad57 r32.1.Bits.length cp58]) 2 [iv r32.1.W, iv r32.1.H, .slice ad57 r32.1.Bits.length cp58] S (wG 2 true 48 rfl rfl rfl hc125) rfl rfl rfl rfl rfl rfl rfl (lb rfl) fun a S => ?_
      refine sLoadN (p := b12) (off := 0) (T := 24) (vs := [iv r5.W, iv r5.H, .slice ad10 r5.Bits.length cp11]) 3 [iv r5.W, iv r5.H, .slice ad10 r5.Bits.length cp11] S (wG 2 true 48 rfl rfl rfl hc125) rfl rfl rfl rfl rfl rfl rfl (lb rfl) fun a S => ?_
      obtain ⟨r126, hx127, h⟩ := bindSome h
      have hv_r126 : r126 = true := Option.some.inj (hx127.symm.trans (by rw [hv_r32, hv_r5]; exact kc_raddlelaw13_alive_8))
      have S1 := S.mem
      refine sCallQ (X := Unit) (f := 17) (vs := [.agg #[iv r32.1.W, iv r32.1.H, .slice ad57 r32.1.Bits.length cp58], .agg #[iv r5.W, iv r5.H, .slice ad10 r5.Bits.length cp11]]) (val := fun _ => .bool r126) S (wG 2 true 48 rfl rfl rfl hc125) rfl callee17 rfl (S1.quiet [16, 24] rfl) (fun E1 w1 S1 => c_raddleref01_Same E1 w1 r32.1 (.agg #[iv r32.1.W, iv r32.1.H, .slice ad57 r32.1.Bits.length cp58]) r5 (.agg #[iv r5.W, iv r5.H, .slice ad10 r5.Bits.length cp11]) r126 hx127 S1) rfl (lb rfl) fun _ a w S => ?_
      refine sPickT (.bool r126) S (wN rfl) rfl rfl hc125 rfl rfl (lb rfl) fun a S => ?_
      refine sMove (.bool r126) S (wN rfl) (.inl rfl) rfl rfl (lb rfl) fun a S => ?_
      rcases iteSome h with ⟨hc128, h⟩ | ⟨hc128, h⟩
      rotate_left
      · exact absurd hc128 (by rw [hv_r126]; decide)
      refine sMove (iv r73.2) S (wG 7 true 53 rfl rfl rfl hc128) (.inl rfl) rfl rfl (lb rfl) fun a S => ?_
      refine sBin (.bool (r73.2 == 0)) S (wG 7 true 53 rfl rfl rfl hc128) rfl rfl rfl (bEq _ _ _ _ .i64 r73.2 0) rfl (lb rfl) fun a S => ?_
      refine sPickT (.bool (r73.2 == 0)) S (wN rfl) rfl rfl hc128 rfl rfl (lb rfl) fun a S => ?_
      refine sMove (.bool (r73.2 == 0)) S (wN rfl) (.inl rfl) rfl rfl (lb rfl) fun a S => ?_
      rcases iteSome h with ⟨hc129, h⟩ | ⟨hc129, h⟩
      rotate_left
      · exact absurd hc129 (by rw [hv_r73]; decide)
      refine sField (b := b96) (off := 0) 0 0 S (wG 11 true 57 rfl rfl rfl hc129) rfl rfl rfl rfl rfl (lb rfl) fun a S => ?_
      refine sLoad1 (p := b96) (off := 0) (T := 24) (vs := [iv r73.1.W, iv r73.1.H, .slice ad94 r73.1.Bits.length cp95]) 1 (iv r73.1.W) S (wG 11 true 57 rfl rfl rfl hc129) rfl rfl rfl rfl rfl rfl (lb rfl) fun a S => ?_
      refine sBin (.bool (r73.1.W == 4)) S (wG 11 true 57 rfl rfl rfl hc129) rfl rfl rfl (bEq _ _ _ _ .i64 r73.1.W 4) rfl (lb rfl) fun a S => ?_
      refine sPickT (.bool (r73.1.W == 4)) S (wN rfl) rfl rfl hc129 rfl rfl (lb rfl) fun a S => ?_
      refine sMove (.bool (r73.1.W == 4)) S (wN rfl) (.inl rfl) rfl rfl (lb rfl) fun a S => ?_
      rcases iteSome h with ⟨hc130, h⟩ | ⟨hc130, h⟩
      rotate_left
      · exact absurd hc130 (by rw [hv_r73]; decide)
      refine sField (b := b96) (off := 0) 1 1 S (wG 16 true 62 rfl rfl rfl hc130) rfl rfl rfl rfl rfl (lb rfl) fun a S => ?_
      refine sLoad1 (p := b96) (off := 1) (T := 24) (vs := [iv r73.1.W, iv r73.1.H, .slice ad94 r73.1.Bits.length cp95]) 1 (iv r73.1.H) S (wG 16 true 62 rfl rfl rfl hc130) rfl rfl rfl rfl rfl rfl (lb rfl) fun a S => ?_
      refine sBin (.bool (r73.1.H == 2)) S (wG 16 true 62 rfl rfl rfl hc130) rfl rfl rfl (bEq _ _ _ _ .i64 r73.1.H 2) rfl (lb rfl) fun a S => ?_
      refine sPickT (.bool (r73.1.H == 2)) S (wN rfl) rfl rfl hc130 rfl rfl (lb rfl) fun a S => ?_
      refine sMove (.bool (r73.1.H == 2)) S (wN rfl) (.inl rfl) rfl rfl (lb rfl) fun a S => ?_
      rcases iteSome h with ⟨hc131, h⟩ | ⟨hc131, h⟩
      rotate_left
      · exact absurd hc131 (by rw [hv_r73]; decide)
      refine sMove (iv r102.2.2) S (wG 21 true 67 rfl rfl rfl hc131) (.inl rfl) rfl rfl (lb rfl) fun a S => ?_
      refine sBin (.bool (r102.2.2 == 0)) S (wG 21 true 67 rfl rfl rfl hc131) rfl rfl rfl (bEq _ _ _ _ .i64 r102.2.2 0) rfl (lb rfl) fun a S => ?_
      refine sPickT (.bool (r102.2.2 == 0)) S (wN rfl) rfl rfl hc131 rfl rfl (lb rfl) fun a S => ?_
      refine sMove (.bool (r102.2.2 == 0)) S (wN rfl) (.inl rfl) rfl rfl (lb rfl) fun a S => ?_
      rcases iteSome h with ⟨hc132, h⟩ | ⟨hc132, h⟩
      rotate_left
      · exact absurd hc132 (by rw [hv_r102]; decide)
      refine sMove (.slice ad106 r102.1.length cp107) S (wG 25 true 71 rfl rfl rfl hc132) (.inl rfl) rfl rfl (lb rfl) fun a S => ?_
      refine sLen (ad := ad106) (m := r102.1.length) (c := cp107) S (wG 25 true 71 rfl rfl rfl hc132) rfl Try.underlying34 rfl rfl (lb rfl) fun a S => ?_
      refine sBin (.bool ((r102.1.length : Int) == 2)) S (wG 25 true 71 rfl rfl rfl hc132) rfl rfl rfl (bEq _ _ _ _ .i64 (r102.1.length : Int) 2) rfl (lb rfl) fun a S => ?_
      refine sPickT (.bool ((r102.1.length : Int) == 2)) S (wN rfl) rfl rfl hc132 rfl rfl (lb rfl) fun a S => ?_
      refine sMove (.bool ((r102.1.length : Int) == 2)) S (wN rfl) (.inl rfl) rfl rfl (lb rfl) fun a S => ?_
      rcases iteSome h with ⟨hc133, h⟩ | ⟨hc133, h⟩
      rotate_left
      · exact absurd hc133 (by rw [hv_r102]; decide)
      refine sMove (.slice ad108 r102.2.1.length cp109) S (wG 30 true 76 rfl rfl rfl hc133) (.inl rfl) rfl rfl (lb rfl) fun a S => ?_
      refine sLit (r := (rI .i64)) (T := 3) (xs := ([0, 1] : List Int)) [(0, iv 0), (1, iv 1)] 2 [iv 0, iv 1] [iv 0, iv 1] (iv 0) 8 S (wG 30 true 76 rfl rfl rfl hc133) rfl rfl Try.underlying35 rfl (by decide) (by decide) (by kernel_rfl) rfl (fun E1 w1 hE => All.cons rfl (All.cons rfl (All.nil _ _ _))) rfl rfl (lb rfl) fun a w ad134 cp135 S => ?_
      obtain ⟨r136, hx137, h⟩ := bindSome h
      have hv_r136 : r136 = true := Option.some.inj (hx137.symm.trans (by rw [hv_r102]; exact kc_raddlelaw13_alive_9))
      have S1 := S.mem
      have S1 := S1.shutR (r := (rI .i64)) (T := 3) (v := .slice ad134 ([0, 1] : List Int).length cp135) (xs := ([0, 1] : List Int)) 0 rfl
      refine sCallQ (X := Unit) (f := 24) (vs := [.slice ad108 r102.2.1.length cp109, .slice ad134 ([0, 1] : List Int).length cp135]) (val := fun _ => .bool r136) S (wG 30 true 76 rfl rfl rfl hc133) rfl callee24 rfl (S1.quiet [7, 0] rfl) (fun E1 w1 S1 => c_raddleref02_Same E1 w1 r102.2.1 (.slice ad108 r102.2.1.length cp109) ([0, 1] : List Int) (.slice ad134 ([0, 1] : List Int).length cp135) r136 hx137 S1) rfl (lb rfl) fun _ a w S => ?_
      refine sPickT (.bool r136) S (wN rfl) rfl rfl hc133 rfl rfl (lb rfl) fun a S => ?_
      refine sMove (.bool r136) S (wN rfl) (.inl rfl) rfl rfl (lb rfl) fun a S => ?_
      rcases iteSome h with ⟨hc138, h⟩ | ⟨hc138, h⟩
      rotate_left
      · exact absurd hc138 (by rw [hv_r136]; decide)
      refine sMove (iv r119.2) S (wG 35 true 81 rfl rfl rfl hc138) (.inl rfl) rfl rfl (lb rfl) fun a S => ?_
      refine sBin (.bool (r119.2 == 0)) S (wG 35 true 81 rfl rfl rfl hc138) rfl rfl rfl (bEq _ _ _ _ .i64 r119.2 0) rfl (lb rfl) fun a S => ?_
      refine sPickT (.bool (r119.2 == 0)) S (wN rfl) rfl rfl hc138 rfl rfl (lb rfl) fun a S => ?_
      refine sMove (.bool (r119.2 == 0)) S (wN rfl) (.inl rfl) rfl rfl (lb rfl) fun a S => ?_
      rcases iteSome h with ⟨hc139, h⟩ | ⟨hc139, h⟩
      rotate_left
      · exact absurd hc139 (by rw [hv_r119]; decide)
      refine sMove (.slice ad122 r119.1.length cp123) S (wG 39 true 85 rfl rfl rfl hc139) (.inl rfl) rfl rfl (lb rfl) fun a S => ?_
      refine sLit (r := (rI .i64)) (T := 3) (xs := ([0, 1, 2, 3, 0, 1] : List Int)) [(0, iv 0), (1, iv 1), (2, iv 2), (3, iv 3), (4, iv 0), (5, iv 1)] 6 [iv 0, iv 1, iv 2, iv 3, iv 0, iv 1] [iv 0, iv 1, iv 2, iv 3, iv 0, iv 1] (iv 0) 8 S (wG 39 true 85 rfl rfl rfl hc139) rfl rfl Try.underlying35 rfl (by decide) (by decide) (by kernel_rfl) rfl (fun E1 w1 hE => All.cons rfl (All.cons rfl (All.cons rfl (All.cons rfl (All.cons rfl (All.cons rfl (All.nil _ _ _))))))) rfl rfl (lb rfl) fun a w ad140 cp141 S => ?_
      obtain ⟨r142, hx143, h⟩ := bindSome h
      have hv_r142 : r142 = true := Option.some.inj (hx143.symm.trans (by rw [hv_r119]; exact kc_raddlelaw13_alive_10))
      have S1 := S.mem
      have S1 := S1.shutR (r := (rI .i64)) (T := 3) (v := .slice ad140 ([0, 1, 2, 3, 0, 1] : List Int).length cp141) (xs := ([0, 1, 2, 3, 0, 1] : List Int)) 0 rfl
      refine sCallQ (X := Unit) (f := 24) (vs := [.slice ad122 r119.1.length cp123, .slice ad140 ([0, 1, 2, 3, 0, 1] : List Int).length cp141]) (val := fun _ => .bool r142) S (wG 39 true 85 rfl rfl rfl hc139) rfl callee24 rfl (S1.quiet [1, 0] rfl) (fun E1 w1 S1 => c_raddleref02_Same E1 w1 r119.1 (.slice ad122 r119.1.length cp123) ([0, 1, 2, 3, 0, 1] : List Int) (.slice ad140 ([0, 1, 2, 3, 0, 1] : List Int).length cp141) r142 hx143 S1) rfl (lb rfl) fun _ a w S => ?_
      refine sPickT (.bool r142) S (wN rfl) rfl rfl hc139 rfl rfl (lb rfl) fun a S => ?_
      refine sMove (.bool r142) S (wN rfl) (.inr rfl) rfl rfl (lb rfl) fun a S => ?_
      refine leafL (leafT (hK124 _ _ ?_))
      obtain rfl := Option.some.inj h
      exact wp_ret (sRet (.bool r142) S (rsl1 rfl (rvT (t := 0) (v := .bool r142) S rfl)) ⟨(), rfl, S.mem.sel [] [] (by decide) rfl rfl⟩)
    refine nodeCut (fun N W L D => ∀ b144 ad89 cp90 ad84 cp85, N [7, 2, 1] ((7, 4, .pointer (some ⟨b144, 0, none⟩)) :: (2, 26, .agg #[iv r61.W, iv r61.H, .slice ad89 r61.Bits.length cp90]) :: (1, 25, .agg #[iv r61.W, iv r61.H, .slice ad84 r61.Bits.length cp85]) :: W) ((eBox b144 24 [iv 0, iv 0, .slice none 0 0]) :: L) ((fRep (rL rB) (.slice ad89 r61.Bits.length cp90) r61.Bits) :: (fRep r_api_Grid (.agg #[iv r61.W, iv r61.H, .slice ad89 r61.Bits.length cp90]) r61) :: (fRep (rL rB) (.slice ad84 r61.Bits.length cp85) r61.Bits) :: (fRep r_api_Grid (.agg #[iv r61.W, iv r61.H, .slice ad84 r61.Bits.length cp85]) r61) :: D)) (fun b144 ad89 cp90 ad84 cp85 => ?_) fun nd2 => ?_
    · refine node_by (A := anc_raddlelaw13_alive_1) (nf := [1, 2, 3, 7, 8]) (Y := [7, 2, 1]) 10 (by kernel_rfl) (by kernel_rfl) (by kernel_rfl) (by kernel_rfl) (by kernel_rfl) [7, 2, 1, 0] (by kernel_rfl) (by decide) (by decide) (aF 0 9 (by decide) ?_ (aY 1 8 (by decide) (aY 2 7 (by decide) (aN 3 6 (by decide) ?_ (aE 4 5 3 (by decide) (aE 5 4 3 (by decide) (aE 6 3 3 (by decide) (aY 7 2 (by decide) (aB 8 1 3 (by decide) (aE 9 0 3 (by decide) (trivial))))))))))) [] (fun q hq => by cases hq) (fun hY => absurd (hY 3 (by decide)) (by decide))
      · refine fI 24 (.agg #[iv r5.W, iv r5.H, .slice ad10 r5.Bits.length cp11]) [(1, .pointer (some ⟨b12, 0, none⟩))] 3 [none] rfl rfl rfl rfl rfl rfl fun G a w S => ?_
        refine sLoadN (p := b12) (off := 0) (T := 24) (vs := [iv r5.W, iv r5.H, .slice ad10 r5.Bits.length cp11]) 2 [iv r5.W, iv r5.H, .slice ad10 r5.Bits.length cp11] S (wN rfl) rfl rfl rfl rfl rfl rfl rfl (lb rfl) fun a S => ?_
        exact leafL ⟨rfl, S⟩
      refine ⟨_, [(24, .agg #[iv r5.W, iv r5.H, .slice ad10 r5.Bits.length cp11]), (25, .agg #[iv r61.W, iv r61.H, .slice ad84 r61.Bits.length cp85]), (26, .agg #[iv r61.W, iv r61.H, .slice ad89 r61.Bits.length cp90])], rfl, (srcs_of [some 3, some 2, some 1] rfl rfl rfl), fun G a w S => ?_⟩
      refine sCall (X := Value) (f := 13) (vs := [.agg #[iv r5.W, iv r5.H, .slice ad10 r5.Bits.length cp11], .agg #[iv r61.W, iv r61.H, .slice ad84 r61.Bits.length cp85], .agg #[iv r61.W, iv r61.H, .slice ad89 r61.Bits.length cp90]]) (val := c_block_Fill_val r73) (B' := fun _ => []) (D' := c_block_Fill_D r73) [] [eBox b144 24 [iv 0, iv 0, .slice none 0 0], eBox b59 24 [iv r32.1.W, iv r32.1.H, .slice ad57 r32.1.Bits.length cp58], eBox b12 24 [iv r5.W, iv r5.H, .slice ad10 r5.Bits.length cp11]] [fRep r_api_Grid (.agg #[iv r5.W, iv r5.H, .slice ad10 r5.Bits.length cp11]) r5, fRep r_api_Grid (.agg #[iv r61.W, iv r61.H, .slice ad84 r61.Bits.length cp85]) r61, fRep r_api_Grid (.agg #[iv r61.W, iv r61.H, .slice ad89 r61.Bits.length cp90]) r61] [0, 1, 2] [13, 3, 1] S (wN rfl) rfl callee13 rfl (by decide) rfl rfl (fun E1 w1 S1 => c_block_Fill E1 w1 r5 (.agg #[iv r5.W, iv r5.H, .slice ad10 r5.Bits.length cp11]) r61 (.agg #[iv r61.W, iv r61.H, .slice ad84 r61.Bits.length cp85]) r61 (.agg #[iv r61.W, iv r61.H, .slice ad89 r61.Bits.length cp90]) r73 hx74 S1) rfl (lb rfl) fun u145 a w S => ?_
      obtain ⟨u146, rfl, hu147⟩ := S.mem.know (i := 0) (e := fRep r_api_Grid (u145) r73.1) rfl
      have S := S.learn (fRep (rL rB) u146 r73.1.Bits) hu147
      obtain ⟨ad148, cp149, _, rfl, _⟩ := hu147
      refine leafL ⟨rfl, _, _, .inl ⟨27, (.tuple #[.agg #[iv r73.1.W, iv r73.1.H, .slice ad148 r73.1.Bits.length cp149], iv r73.2]), [(4, 23, .tuple #[.agg #[iv r73.1.W, iv r73.1.H, .slice ad148 r73.1.Bits.length cp149], iv r73.2]), (5, 28, .agg #[iv r73.1.W, iv r73.1.H, .slice ad148 r73.1.Bits.length cp149]), (6, 29, iv r73.2)], rfl, S, hz_of rfl, ?_⟩⟩
      exact nodePerm (nd1 b144 ad148 cp149 ad89 cp90 ad84 cp85) [4, 0, 1, 2, 3, 5, 6, 7] [0, 1, 2] [0, 1, 2, 3, 4, 5, 6, 7, 8, 9, 10, 11, 12, 13, 14, 15, 16] (by decide) (by decide) rfl rfl rfl
    refine nodeCut (fun N W L D => ∀ b150 ad84 cp85, N [7, 1] ((7, 4, .pointer (some ⟨b150, 0, none⟩)) :: (1, 25, .agg #[iv r61.W, iv r61.H, .slice ad84 r61.Bits.length cp85]) :: W) ((eBox b150 24 [iv 0, iv 0, .slice none 0 0]) :: L) ((fRep (rL rB) (.slice ad84 r61.Bits.length cp85) r61.Bits) :: (fRep r_api_Grid (.agg #[iv r61.W, iv r61.H, .slice ad84 r61.Bits.length cp85]) r61) :: D)) (fun b150 ad84 cp85 => ?_) fun nd3 => ?_
    · refine node_by (A := anc_raddlelaw13_alive_1) (nf := [1, 2, 3, 7, 8]) (Y := [7, 1]) 10 (by kernel_rfl) (by kernel_rfl) (by kernel_rfl) (by kernel_rfl) (by kernel_rfl) [7, 1, 0] (by kernel_rfl) (by decide) (by decide) (aF 0 9 (by decide) ?_ (aY 1 8 (by decide) (aN 2 7 (by decide) ?_ (aB 3 6 2 (by decide) (aE 4 5 2 (by decide) (aE 5 4 2 (by decide) (aE 6 3 2 (by decide) (aY 7 2 (by decide) (aB 8 1 2 (by decide) (aE 9 0 2 (by decide) (trivial))))))))))) [] (fun q hq => by cases hq) (fun hY => absurd (hY 2 (by decide)) (by decide))
      · refine fI 24 (.agg #[iv r5.W, iv r5.H, .slice ad10 r5.Bits.length cp11]) [(1, .pointer (some ⟨b12, 0, none⟩))] 2 [none] rfl rfl rfl rfl rfl rfl fun G a w S => ?_
        refine sLoadN (p := b12) (off := 0) (T := 24) (vs := [iv r5.W, iv r5.H, .slice ad10 r5.Bits.length cp11]) 2 [iv r5.W, iv r5.H, .slice ad10 r5.Bits.length cp11] S (wN rfl) rfl rfl rfl rfl rfl rfl rfl (lb rfl) fun a S => ?_
        exact leafL ⟨rfl, S⟩
      refine ⟨_, [], rfl, (srcs_of [] rfl rfl rfl), fun G a w S => ?_⟩
      refine sCall (X := Value) (f := 40) (vs := [iv 2, iv 2]) (val := c_raddleref01_Zero_val r61) (B' := fun _ => []) (D' := c_raddleref01_Zero_D r61) [] [eBox b150 24 [iv 0, iv 0, .slice none 0 0], eBox b59 24 [iv r32.1.W, iv r32.1.H, .slice ad57 r32.1.Bits.length cp58], eBox b12 24 [iv r5.W, iv r5.H, .slice ad10 r5.Bits.length cp11]] [] [0, 1, 2] [] S (wN rfl) rfl callee40 rfl (by decide) rfl rfl (fun E1 w1 S1 => c_raddleref01_Zero E1 w1 2 2 r61 hx62 S1) rfl (lb rfl) fun u151 a w S => ?_
      obtain ⟨u152, rfl, hu153⟩ := S.mem.know (i := 0) (e := fRep r_api_Grid (u151) r61) rfl
      have S := S.learn (fRep (rL rB) u152 r61.Bits) hu153
      obtain ⟨ad154, cp155, _, rfl, _⟩ := hu153
      refine leafL ⟨rfl, _, _, .inl ⟨26, (.agg #[iv r61.W, iv r61.H, .slice ad154 r61.Bits.length cp155]), [], rfl, S, hz_of rfl, ?_⟩⟩
      exact nodePerm (nd2 b150 ad154 cp155 ad84 cp85) [1, 0, 2, 3] [0, 1, 2] [0, 1, 2, 3, 4, 5, 6, 7, 8, 9, 10, 11, 12, 13, 14] (by decide) (by decide) rfl rfl rfl
    refine node_by (A := anc_raddlelaw13_alive_1) (nf := [1, 2, 3, 7, 8]) (Y := []) (W := [(0, 24, .agg #[iv r5.W, iv r5.H, .slice ad10 r5.Bits.length cp11])]) 10 (by kernel_rfl) (by kernel_rfl) (by kernel_rfl) (by kernel_rfl) (by kernel_rfl) [0] (by kernel_rfl) (by decide) (by decide) (aF 0 9 (by decide) ?_ (aN 1 8 (by decide) ?_ (aB 2 7 1 (by decide) (aB 3 6 1 (by decide) (aE 4 5 1 (by decide) (aE 5 4 1 (by decide) (aE 6 3 1 (by decide) (aN 7 2 (by decide) ?_ (aB 8 1 1 (by decide) (aE 9 0 1 (by decide) (trivial))))))))))) [] (fun q hq => by cases hq) (fun hY => absurd (hY 1 (by decide)) (by decide))
    · refine fI 24 (.agg #[iv r5.W, iv r5.H, .slice ad10 r5.Bits.length cp11]) [(1, .pointer (some ⟨b12, 0, none⟩))] 0 [none] rfl rfl rfl rfl rfl rfl fun G a w S => ?_
      refine sLoadN (p := b12) (off := 0) (T := 24) (vs := [iv r5.W, iv r5.H, .slice ad10 r5.Bits.length cp11]) 1 [iv r5.W, iv r5.H, .slice ad10 r5.Bits.length cp11] S (wN rfl) rfl rfl rfl rfl rfl rfl rfl (lb rfl) fun a S => ?_
      exact leafL ⟨rfl, S⟩
    · refine ⟨_, [], rfl, (srcs_of [] rfl rfl rfl), fun G a w S => ?_⟩
      refine sCall (X := Value) (f := 40) (vs := [iv 2, iv 2]) (val := c_raddleref01_Zero_val r61) (B' := fun _ => []) (D' := c_raddleref01_Zero_D r61) [] [eBox b59 24 [iv r32.1.W, iv r32.1.H, .slice ad57 r32.1.Bits.length cp58], eBox b12 24 [iv r5.W, iv r5.H, .slice ad10 r5.Bits.length cp11]] [] [0, 1] [] S (wN rfl) rfl callee40 rfl (by decide) rfl rfl (fun E1 w1 S1 => c_raddleref01_Zero E1 w1 2 2 r61 hx62 S1) rfl (lb rfl) fun u81 a w S => ?_
      obtain ⟨u82, rfl, hu83⟩ := S.mem.know (i := 0) (e := fRep r_api_Grid (u81) r61) rfl
      have S := S.learn (fRep (rL rB) u82 r61.Bits) hu83
      obtain ⟨ad84, cp85, _, rfl, _⟩ := hu83
      refine leafL ⟨rfl, _, _, .inl ⟨25, (.agg #[iv r61.W, iv r61.H, .slice ad84 r61.Bits.length cp85]), [], rfl, S, hz_of rfl, ?_⟩⟩
      refine node_by (A := anc_raddlelaw13_alive_1) (nf := [1, 2, 3, 7, 8]) (Y := [1]) 10 (by kernel_rfl) (by kernel_rfl) (by kernel_rfl) (by kernel_rfl) (by kernel_rfl) [1, 0] (by kernel_rfl) (by decide) (by decide) (aF 0 9 (by decide) ?_ (aY 1 8 (by decide) (aN 2 7 (by decide) ?_ (aB 3 6 2 (by decide) (aE 4 5 2 (by decide) (aE 5 4 2 (by decide) (aE 6 3 2 (by decide) (aN 7 2 (by decide) ?_ (aB 8 1 2 (by decide) (aE 9 0 2 (by decide) (trivial))))))))))) [] (fun q hq => by cases hq) (fun hY => absurd (hY 2 (by decide)) (by decide))
      · refine fI 24 (.agg #[iv r5.W, iv r5.H, .slice ad10 r5.Bits.length cp11]) [(1, .pointer (some ⟨b12, 0, none⟩))] 1 [none] rfl rfl rfl rfl rfl rfl fun G a w S => ?_
        refine sLoadN (p := b12) (off := 0) (T := 24) (vs := [iv r5.W, iv r5.H, .slice ad10 r5.Bits.length cp11]) 1 [iv r5.W, iv r5.H, .slice ad10 r5.Bits.length cp11] S (wN rfl) rfl rfl rfl rfl rfl rfl rfl (lb rfl) fun a S => ?_
        exact leafL ⟨rfl, S⟩
      · refine ⟨_, [], rfl, (srcs_of [] rfl rfl rfl), fun G a w S => ?_⟩
        refine sCall (X := Value) (f := 40) (vs := [iv 2, iv 2]) (val := c_raddleref01_Zero_val r61) (B' := fun _ => []) (D' := c_raddleref01_Zero_D r61) [] [eBox b59 24 [iv r32.1.W, iv r32.1.H, .slice ad57 r32.1.Bits.length cp58], eBox b12 24 [iv r5.W, iv r5.H, .slice ad10 r5.Bits.length cp11]] [] [0, 1] [] S (wN rfl) rfl callee40 rfl (by decide) rfl rfl (fun E1 w1 S1 => c_raddleref01_Zero E1 w1 2 2 r61 hx62 S1) rfl (lb rfl) fun u86 a w S => ?_
        obtain ⟨u87, rfl, hu88⟩ := S.mem.know (i := 0) (e := fRep r_api_Grid (u86) r61) rfl
        have S := S.learn (fRep (rL rB) u87 r61.Bits) hu88
        obtain ⟨ad89, cp90, _, rfl, _⟩ := hu88
        refine leafL ⟨rfl, _, _, .inl ⟨26, (.agg #[iv r61.W, iv r61.H, .slice ad89 r61.Bits.length cp90]), [], rfl, S, hz_of rfl, ?_⟩⟩
        refine node_by (A := anc_raddlelaw13_alive_1) (nf := [1, 2, 3, 7, 8]) (Y := [2, 1]) 10 (by kernel_rfl) (by kernel_rfl) (by kernel_rfl) (by kernel_rfl) (by kernel_rfl) [2, 1, 0] (by kernel_rfl) (by decide) (by decide) (aF 0 9 (by decide) ?_ (aY 1 8 (by decide) (aY 2 7 (by decide) (aN 3 6 (by decide) ?_ (aE 4 5 3 (by decide) (aE 5 4 3 (by decide) (aE 6 3 3 (by decide) (aN 7 2 (by decide) ?_ (aB 8 1 3 (by decide) (aE 9 0 3 (by decide) (trivial))))))))))) [] (fun q hq => by cases hq) (fun hY => absurd (hY 3 (by decide)) (by decide))
        · refine fI 24 (.agg #[iv r5.W, iv r5.H, .slice ad10 r5.Bits.length cp11]) [(1, .pointer (some ⟨b12, 0, none⟩))] 2 [none] rfl rfl rfl rfl rfl rfl fun G a w S => ?_
          refine sLoadN (p := b12) (off := 0) (T := 24) (vs := [iv r5.W, iv r5.H, .slice ad10 r5.Bits.length cp11]) 1 [iv r5.W, iv r5.H, .slice ad10 r5.Bits.length cp11] S (wN rfl) rfl rfl rfl rfl rfl rfl rfl (lb rfl) fun a S => ?_
          exact leafL ⟨rfl, S⟩
        · refine ⟨_, [(24, .agg #[iv r5.W, iv r5.H, .slice ad10 r5.Bits.length cp11]), (25, .agg #[iv r61.W, iv r61.H, .slice ad84 r61.Bits.length cp85]), (26, .agg #[iv r61.W, iv r61.H, .slice ad89 r61.Bits.length cp90])], rfl, (srcs_of [some 2, some 1, some 0] rfl rfl rfl), fun G a w S => ?_⟩
          refine sCall (X := Value) (f := 13) (vs := [.agg #[iv r5.W, iv r5.H, .slice ad10 r5.Bits.length cp11], .agg #[iv r61.W, iv r61.H, .slice ad84 r61.Bits.length cp85], .agg #[iv r61.W, iv r61.H, .slice ad89 r61.Bits.length cp90]]) (val := c_block_Fill_val r73) (B' := fun _ => []) (D' := c_block_Fill_D r73) [] [eBox b59 24 [iv r32.1.W, iv r32.1.H, .slice ad57 r32.1.Bits.length cp58], eBox b12 24 [iv r5.W, iv r5.H, .slice ad10 r5.Bits.length cp11]] [fRep r_api_Grid (.agg #[iv r5.W, iv r5.H, .slice ad10 r5.Bits.length cp11]) r5, fRep r_api_Grid (.agg #[iv r61.W, iv r61.H, .slice ad84 r61.Bits.length cp85]) r61, fRep r_api_Grid (.agg #[iv r61.W, iv r61.H, .slice ad89 r61.Bits.length cp90]) r61] [0, 1] [13, 3, 1] S (wN rfl) rfl callee13 rfl (by decide) rfl rfl (fun E1 w1 S1 => c_block_Fill E1 w1 r5 (.agg #[iv r5.W, iv r5.H, .slice ad10 r5.Bits.length cp11]) r61 (.agg #[iv r61.W, iv r61.H, .slice ad84 r61.Bits.length cp85]) r61 (.agg #[iv r61.W, iv r61.H, .slice ad89 r61.Bits.length cp90]) r73 hx74 S1) rfl (lb rfl) fun u91 a w S => ?_
          obtain ⟨u92, rfl, hu93⟩ := S.mem.know (i := 0) (e := fRep r_api_Grid (u91) r73.1) rfl
          have S := S.learn (fRep (rL rB) u92 r73.1.Bits) hu93
          obtain ⟨ad94, cp95, _, rfl, _⟩ := hu93
          refine leafL ⟨rfl, _, _, .inl ⟨27, (.tuple #[.agg #[iv r73.1.W, iv r73.1.H, .slice ad94 r73.1.Bits.length cp95], iv r73.2]), [(4, 23, .tuple #[.agg #[iv r73.1.W, iv r73.1.H, .slice ad94 r73.1.Bits.length cp95], iv r73.2]), (5, 28, .agg #[iv r73.1.W, iv r73.1.H, .slice ad94 r73.1.Bits.length cp95]), (6, 29, iv r73.2)], rfl, S, hz_of rfl, ?_⟩⟩
          refine node_by (A := anc_raddlelaw13_alive_1) (nf := [1, 2, 3, 7, 8]) (Y := [3, 2, 1]) 10 (by kernel_rfl) (by kernel_rfl) (by kernel_rfl) (by kernel_rfl) (by kernel_rfl) [4, 5, 6, 3, 2, 1, 0] (by kernel_rfl) (by decide) (by decide) (aD 0 9 3 (by decide) (aY 1 8 (by decide) (aY 2 7 (by decide) (aY 3 6 (by decide) (aF 4 5 (by decide) ?_ (aF 5 4 (by decide) ?_ (aF 6 3 (by decide) ?_ (aN 7 2 (by decide) ?_ (aB 8 1 7 (by decide) (aE 9 0 7 (by decide) (trivial))))))))))) [] (fun q hq => by cases hq) (fun hY => absurd (hY 7 (by decide)) (by decide))
          · refine fI 23 (.tuple #[.agg #[iv r73.1.W, iv r73.1.H, .slice ad94 r73.1.Bits.length cp95], iv r73.2]) [(27, .tuple #[.agg #[iv r73.1.W, iv r73.1.H, .slice ad94 r73.1.Bits.length cp95], iv r73.2])] 0 [some 3] rfl rfl rfl rfl rfl rfl fun G a w S => ?_
            refine sMove (.tuple #[.agg #[iv r73.1.W, iv r73.1.H, .slice ad94 r73.1.Bits.length cp95], iv r73.2]) S (wN rfl) (.inl rfl) rfl rfl (lb rfl) fun a S => ?_
            exact leafL ⟨rfl, S⟩
          · refine fI 28 (.agg #[iv r73.1.W, iv r73.1.H, .slice ad94 r73.1.Bits.length cp95]) [(23, .tuple #[.agg #[iv r73.1.W, iv r73.1.H, .slice ad94 r73.1.Bits.length cp95], iv r73.2])] 1 [some 0] rfl rfl rfl rfl rfl rfl fun G a w S => ?_
            refine sExtract (vs := [.agg #[iv r73.1.W, iv r73.1.H, .slice ad94 r73.1.Bits.length cp95], iv r73.2]) (.agg #[iv r73.1.W, iv r73.1.H, .slice ad94 r73.1.Bits.length cp95]) S (wN rfl) rfl rfl rfl rfl (lb rfl) fun a S => ?_
            exact leafL ⟨rfl, S⟩
          · refine fI 29 (iv r73.2) [(23, .tuple #[.agg #[iv r73.1.W, iv r73.1.H, .slice ad94 r73.1.Bits.length cp95], iv r73.2])] 2 [some 0] rfl rfl rfl rfl rfl rfl fun G a w S => ?_
            refine sExtract (vs := [.agg #[iv r73.1.W, iv r73.1.H, .slice ad94 r73.1.Bits.length cp95], iv r73.2]) (iv r73.2) S (wN rfl) rfl rfl rfl rfl (lb rfl) fun a S => ?_
            exact leafL ⟨rfl, S⟩
          refine ⟨_, [], rfl, (srcs_of [] rfl rfl rfl), fun G a w S => ?_⟩
          refine sAlloc (.agg #[iv 0, iv 0, .slice none 0 0]) S (wN rfl) rfl rfl [iv 0, iv 0, .slice none 0 0] rfl rfl (lb rfl) fun a b96 w S => ?_
          refine leafL ⟨rfl, _, _, .inl ⟨4, (.pointer (some ⟨b96, 0, none⟩)), [], rfl, S, hz_of rfl, ?_⟩⟩
          exact nd1 b96 ad94 cp95 ad89 cp90 ad84 cp85
        refine ⟨_, [], rfl, (srcs_of [] rfl rfl rfl), fun G a w S => ?_⟩
        refine sAlloc (.agg #[iv 0, iv 0, .slice none 0 0]) S (wN rfl) rfl rfl [iv 0, iv 0, .slice none 0 0] rfl rfl (lb rfl) fun a b144 w S => ?_
        refine leafL ⟨rfl, _, _, .inl ⟨4, (.pointer (some ⟨b144, 0, none⟩)), [], rfl, S, hz_of rfl, ?_⟩⟩
        exact nd2 b144 ad89 cp90 ad84 cp85
      refine ⟨_, [], rfl, (srcs_of [] rfl rfl rfl), fun G a w S => ?_⟩
      refine sAlloc (.agg #[iv 0, iv 0, .slice none 0 0]) S (wN rfl) rfl rfl [iv 0, iv 0, .slice none 0 0] rfl rfl (lb rfl) fun a b150 w S => ?_
      refine leafL ⟨rfl, _, _, .inl ⟨4, (.pointer (some ⟨b150, 0, none⟩)), [], rfl, S, hz_of rfl, ?_⟩⟩
      exact nd3 b150 ad84 cp85
    refine ⟨_, [], rfl, (srcs_of [] rfl rfl rfl), fun G a w S => ?_⟩
    refine sAlloc (.agg #[iv 0, iv 0, .slice none 0 0]) S (wN rfl) rfl rfl [iv 0, iv 0, .slice none 0 0] rfl rfl (lb rfl) fun a b156 w S => ?_
    refine leafL ⟨rfl, _, _, .inl ⟨4, (.pointer (some ⟨b156, 0, none⟩)), [], rfl, S, hz_of rfl, ?_⟩⟩
    refine node_by (A := anc_raddlelaw13_alive_1) (nf := [1, 2, 3, 7, 8]) (Y := [7]) 10 (by kernel_rfl) (by kernel_rfl) (by kernel_rfl) (by kernel_rfl) (by kernel_rfl) [7, 0] (by kernel_rfl) (by decide) (by decide) (aF 0 9 (by decide) ?_ (aN 1 8 (by decide) ?_ (aB 2 7 1 (by decide) (aB 3 6 1 (by decide) (aE 4 5 1 (by decide) (aE 5 4 1 (by decide) (aE 6 3 1 (by decide) (aY 7 2 (by decide) (aB 8 1 1 (by decide) (aE 9 0 1 (by decide) (trivial))))))))))) [] (fun q hq => by cases hq) (fun hY => absurd (hY 1 (by decide)) (by decide))
    · refine fI 24 (.agg #[iv r5.W, iv r5.H, .slice ad10 r5.Bits.length cp11]) [(1, .pointer (some ⟨b12, 0, none⟩))] 1 [none] rfl rfl rfl rfl rfl rfl fun G a w S => ?_
      refine sLoadN (p := b12) (off := 0) (T := 24) (vs := [iv r5.W, iv r5.H, .slice ad10 r5.Bits.length cp11]) 2 [iv r5.W, iv r5.H, .slice ad10 r5.Bits.length cp11] S (wN rfl) rfl rfl rfl rfl rfl rfl rfl (lb rfl) fun a S => ?_
      exact leafL ⟨rfl, S⟩
    refine ⟨_, [], rfl, (srcs_of [] rfl rfl rfl), fun G a w S => ?_⟩
    refine sCall (X := Value) (f := 40) (vs := [iv 2, iv 2]) (val := c_raddleref01_Zero_val r61) (B' := fun _ => []) (D' := c_raddleref01_Zero_D r61) [] [eBox b156 24 [iv 0, iv 0, .slice none 0 0], eBox b59 24 [iv r32.1.W, iv r32.1.H, .slice ad57 r32.1.Bits.length cp58], eBox b12 24 [iv r5.W, iv r5.H, .slice ad10 r5.Bits.length cp11]] [] [0, 1, 2] [] S (wN rfl) rfl callee40 rfl (by decide) rfl rfl (fun E1 w1 S1 => c_raddleref01_Zero E1 w1 2 2 r61 hx62 S1) rfl (lb rfl) fun u157 a w S => ?_
    obtain ⟨u158, rfl, hu159⟩ := S.mem.know (i := 0) (e := fRep r_api_Grid (u157) r61) rfl
    have S := S.learn (fRep (rL rB) u158 r61.Bits) hu159
    obtain ⟨ad160, cp161, _, rfl, _⟩ := hu159
    refine leafL ⟨rfl, _, _, .inl ⟨25, (.agg #[iv r61.W, iv r61.H, .slice ad160 r61.Bits.length cp161]), [], rfl, S, hz_of rfl, ?_⟩⟩
    exact nodePerm (nd3 b156 ad160 cp161) [1, 0, 2] [0, 1, 2] [0, 1, 2, 3, 4, 5, 6, 7, 8, 9, 10, 11, 12] (by decide) (by decide) rfl rfl rfl
  refine nodeCut (fun N W L D => ∀ b162 ad52 cp53 ad47 cp48 ad45 cp46 ad40 cp41, N [9, 4, 3, 2, 1] ((9, 2, .pointer (some ⟨b162, 0, none⟩)) :: (4, 19, .agg #[iv r25.W, iv r25.H, .slice ad52 r25.Bits.length cp53]) :: (3, 18, .slice ad47 [false].length cp48) :: (2, 17, .agg #[iv r16.W, iv r16.H, .slice ad45 r16.Bits.length cp46]) :: (1, 16, .slice ad40 [true].length cp41) :: W) ((eBox b162 24 [iv 0, iv 0, .slice none 0 0]) :: L) ((fRep (rL rB) (.slice ad52 r25.Bits.length cp53) r25.Bits) :: (fRep r_api_Grid (.agg #[iv r25.W, iv r25.H, .slice ad52 r25.Bits.length cp53]) r25) :: (fRep (rL rB) (.slice ad47 [false].length cp48) [false]) :: (fRep (rL rB) (.slice ad45 r16.Bits.length cp46) r16.Bits) :: (fRep r_api_Grid (.agg #[iv r16.W, iv r16.H, .slice ad45 r16.Bits.length cp46]) r16) :: (fRep (rL rB) (.slice ad40 [true].length cp41) [true]) :: D)) (fun b162 ad52 cp53 ad47 cp48 ad45 cp46 ad40 cp41 => ?_) fun nd3 => ?_
  · refine node_by (A := anc_raddlelaw13_alive_0) (nf := [1, 2, 3, 4, 5, 9, 10]) (Y := [9, 4, 3, 2, 1]) 12 (by kernel_rfl) (by kernel_rfl) (by kernel_rfl) (by kernel_rfl) (by kernel_rfl) [9, 4, 3, 2, 1, 0] (by kernel_rfl) (by decide) (by decide) (aF 0 11 (by decide) ?_ (aY 1 10 (by decide) (aY 2 9 (by decide) (aY 3 8 (by decide) (aY 4 7 (by decide) (aN 5 6 (by decide) ?_ (aE 6 5 5 (by decide) (aE 7 4 5 (by decide) (aE 8 3 5 (by decide) (aY 9 2 (by decide) (aB 10 1 5 (by decide) (aE 11 0 5 (by decide) (trivial))))))))))))) [] (fun q hq => by cases hq) (fun hY => absurd (hY 5 (by decide)) (by decide))
    · refine fI 15 (.agg #[iv r5.W, iv r5.H, .slice ad10 r5.Bits.length cp11]) [(1, .pointer (some ⟨b12, 0, none⟩))] 5 [none] rfl rfl rfl rfl rfl rfl fun G a w S => ?_
      refine sLoadN (p := b12) (off := 0) (T := 24) (vs := [iv r5.W, iv r5.H, .slice ad10 r5.Bits.length cp11]) 1 [iv r5.W, iv r5.H, .slice ad10 r5.Bits.length cp11] S (wN rfl) rfl rfl rfl rfl rfl rfl rfl (lb rfl) fun a S => ?_
      exact leafL ⟨rfl, S⟩
    refine ⟨_, [(15, .agg #[iv r5.W, iv r5.H, .slice ad10 r5.Bits.length cp11]), (17, .agg #[iv r16.W, iv r16.H, .slice ad45 r16.Bits.length cp46]), (19, .agg #[iv r25.W, iv r25.H, .slice ad52 r25.Bits.length cp53])], rfl, (srcs_of [some 5, some 3, some 1] rfl rfl rfl), fun G a w S => ?_⟩
    refine sCall (X := Value) (f := 13) (vs := [.agg #[iv r5.W, iv r5.H, .slice ad10 r5.Bits.length cp11], .agg #[iv r16.W, iv r16.H, .slice ad45 r16.Bits.length cp46], .agg #[iv r25.W, iv r25.H, .slice ad52 r25.Bits.length cp53]]) (val := c_block_Fill_val r32) (B' := fun _ => []) (D' := c_block_Fill_D r32) [] [eBox b162 24 [iv 0, iv 0, .slice none 0 0], eBox b12 24 [iv r5.W, iv r5.H, .slice ad10 r5.Bits.length cp11]] [fRep r_api_Grid (.agg #[iv r5.W, iv r5.H, .slice ad10 r5.Bits.length cp11]) r5, fRep r_api_Grid (.agg #[iv r16.W, iv r16.H, .slice ad45 r16.Bits.length cp46]) r16, fRep r_api_Grid (.agg #[iv r25.W, iv r25.H, .slice ad52 r25.Bits.length cp53]) r25] [0, 1] [7, 4, 1] S (wN rfl) rfl callee13 rfl (by decide) rfl rfl (fun E1 w1 S1 => c_block_Fill E1 w1 r5 (.agg #[iv r5.W, iv r5.H, .slice ad10 r5.Bits.length cp11]) r16 (.agg #[iv r16.W, iv r16.H, .slice ad45 r16.Bits.length cp46]) r25 (.agg #[iv r25.W, iv r25.H, .slice ad52 r25.Bits.length cp53]) r32 hx33 S1) rfl (lb rfl) fun u163 a w S => ?_
    obtain ⟨u164, rfl, hu165⟩ := S.mem.know (i := 0) (e := fRep r_api_Grid (u163) r32.1) rfl
    have S := S.learn (fRep (rL rB) u164 r32.1.Bits) hu165
    obtain ⟨ad166, cp167, _, rfl, _⟩ := hu165
    refine leafL ⟨rfl, _, _, .inl ⟨20, (.tuple #[.agg #[iv r32.1.W, iv r32.1.H, .slice ad166 r32.1.Bits.length cp167], iv r32.2]), [(6, 14, .tuple #[.agg #[iv r32.1.W, iv r32.1.H, .slice ad166 r32.1.Bits.length cp167], iv r32.2]), (7, 21, .agg #[iv r32.1.W, iv r32.1.H, .slice ad166 r32.1.Bits.length cp167]), (8, 22, iv r32.2)], rfl, S, hz_of rfl, ?_⟩⟩
    exact nodePerm (nd2 b162 ad166 cp167 ad52 cp53 ad47 cp48 ad45 cp46 ad40 cp41) [4, 0, 1, 2, 3, 5, 6, 7, 8, 9] [0, 1] [0, 1, 2, 3, 4, 5, 6, 7, 8, 9, 10] (by decide) (by decide) rfl rfl rfl
  refine nodeCut (fun N W L D => ∀ b168 ad47 cp48 ad45 cp46 ad40 cp41, N [9, 3, 2, 1] ((9, 2, .pointer (some ⟨b168, 0, none⟩)) :: (3, 18, .slice ad47 [false].length cp48) :: (2, 17, .agg #[iv r16.W, iv r16.H, .slice ad45 r16.Bits.length cp46]) :: (1, 16, .slice ad40 [true].length cp41) :: W) ((eBox b168 24 [iv 0, iv 0, .slice none 0 0]) :: (eRow rB 4 (.slice ad47 [false].length cp48) [false]) :: L) ((fRep (rL rB) (.slice ad45 r16.Bits.length cp46) r16.Bits) :: (fRep r_api_Grid (.agg #[iv r16.W, iv r16.H, .slice ad45 r16.Bits.length cp46]) r16) :: (fRep (rL rB) (.slice ad40 [true].length cp41) [true]) :: D)) (fun b168 ad47 cp48 ad45 cp46 ad40 cp41 => ?_) fun nd4 => ?_
  · refine node_by (A := anc_raddlelaw13_alive_0) (nf := [1, 2, 3, 4, 5, 9, 10]) (Y := [9, 3, 2, 1]) 12 (by kernel_rfl) (by kernel_rfl) (by kernel_rfl) (by kernel_rfl) (by kernel_rfl) [9, 3, 2, 1, 0] (by kernel_rfl) (by decide) (by decide) (aF 0 11 (by decide) ?_ (aY 1 10 (by decide) (aY 2 9 (by decide) (aY 3 8 (by decide) (aN 4 7 (by decide) ?_ (aB 5 6 4 (by decide) (aE 6 5 4 (by decide) (aE 7 4 4 (by decide) (aE 8 3 4 (by decide) (aY 9 2 (by decide) (aB 10 1 4 (by decide) (aE 11 0 4 (by decide) (trivial))))))))))))) [] (fun q hq => by cases hq) (fun hY => absurd (hY 4 (by decide)) (by decide))
    · refine fI 15 (.agg #[iv r5.W, iv r5.H, .slice ad10 r5.Bits.length cp11]) [(1, .pointer (some ⟨b12, 0, none⟩))] 4 [none] rfl rfl rfl rfl rfl rfl fun G a w S => ?_
      refine sLoadN (p := b12) (off := 0) (T := 24) (vs := [iv r5.W, iv r5.H, .slice ad10 r5.Bits.length cp11]) 2 [iv r5.W, iv r5.H, .slice ad10 r5.Bits.length cp11] S (wN rfl) rfl rfl rfl rfl rfl rfl rfl (lb rfl) fun a S => ?_
      exact leafL ⟨rfl, S⟩
    refine ⟨_, [(18, .slice ad47 [false].length cp48)], rfl, (srcs_of [some 1] rfl rfl rfl), fun G a w S => ?_⟩
    have S := S.shutR (r := rB) (T := 4) (v := .slice ad47 [false].length cp48) (xs := [false]) 1 rfl
    refine sCall (X := Value) (f := 39) (vs := [.slice ad47 [false].length cp48]) (val := c_raddlelaw13_row_val r25) (B' := fun _ => []) (D' := c_raddlelaw13_row_D r25) [] [eBox b168 24 [iv 0, iv 0, .slice none 0 0], eBox b12 24 [iv r5.W, iv r5.H, .slice ad10 r5.Bits.length cp11]] [fRep (rL rB) (.slice ad47 [false].length cp48) [false]] [0, 1] [0] S (wN rfl) rfl callee39 rfl (by decide) rfl rfl (fun E1 w1 S1 => c_raddlelaw13_row E1 w1 [false] (.slice ad47 [false].length cp48) r25 hx26 S1) rfl (lb rfl) fun u169 a w S => ?_
    obtain ⟨u170, rfl, hu171⟩ := S.mem.know (i := 0) (e := fRep r_api_Grid (u169) r25) rfl
    have S := S.learn (fRep (rL rB) u170 r25.Bits) hu171
    obtain ⟨ad172, cp173, _, rfl, _⟩ := hu171
    refine leafL ⟨rfl, _, _, .inl ⟨19, (.agg #[iv r25.W, iv r25.H, .slice ad172 r25.Bits.length cp173]), [], rfl, S, hz_of rfl, ?_⟩⟩
    exact nodePerm (nd3 b168 ad172 cp173 ad47 cp48 ad45 cp46 ad40 cp41) [1, 0, 2, 3, 4, 5] [0, 1] [0, 1, 2, 3, 4, 5, 6, 7, 8] (by decide) (by decide) rfl rfl rfl
  refine nodeCut (fun N W L D => ∀ ad47 cp48 ad45 cp46 ad40 cp41, N [3, 2, 1] ((3, 18, .slice ad47 [false].length cp48) :: (2, 17, .agg #[iv r16.W, iv r16.H, .slice ad45 r16.Bits.length cp46]) :: (1, 16, .slice ad40 [true].length cp41) :: W) ((eRow rB 4 (.slice ad47 [false].length cp48) [false]) :: L) ((fRep (rL rB) (.slice ad45 r16.Bits.length cp46) r16.Bits) :: (fRep r_api_Grid (.agg #[iv r16.W, iv r16.H, .slice ad45 r16.Bits.length cp46]) r16) :: (fRep (rL rB) (.slice ad40 [true].length cp41) [true]) :: D)) (fun ad47 cp48 ad45 cp46 ad40 cp41 => ?_) fun nd1 => ?_
  · refine node_by (A := anc_raddlelaw13_alive_0) (nf := [1, 2, 3, 4, 5, 9, 10]) (Y := [3, 2, 1]) 12 (by kernel_rfl) (by kernel_rfl) (by kernel_rfl) (by kernel_rfl) (by kernel_rfl) [3, 2, 1, 0] (by kernel_rfl) (by decide) (by decide) (aF 0 11 (by decide) ?_ (aY 1 10 (by decide) (aY 2 9 (by decide) (aY 3 8 (by decide) (aN 4 7 (by decide) ?_ (aB 5 6 4 (by decide) (aE 6 5 4 (by decide) (aE 7 4 4 (by decide) (aE 8 3 4 (by decide) (aN 9 2 (by decide) ?_ (aB 10 1 4 (by decide) (aE 11 0 4 (by decide) (trivial))))))))))))) [] (fun q hq => by cases hq) (fun hY => absurd (hY 4 (by decide)) (by decide))
    · refine fI 15 (.agg #[iv r5.W, iv r5.H, .slice ad10 r5.Bits.length cp11]) [(1, .pointer (some ⟨b12, 0, none⟩))] 3 [none] rfl rfl rfl rfl rfl rfl fun G a w S => ?_
      refine sLoadN (p := b12) (off := 0) (T := 24) (vs := [iv r5.W, iv r5.H, .slice ad10 r5.Bits.length cp11]) 1 [iv r5.W, iv r5.H, .slice ad10 r5.Bits.length cp11] S (wN rfl) rfl rfl rfl rfl rfl rfl rfl (lb rfl) fun a S => ?_
      exact leafL ⟨rfl, S⟩
    · refine ⟨_, [(18, .slice ad47 [false].length cp48)], rfl, (srcs_of [some 0] rfl rfl rfl), fun G a w S => ?_⟩
      have S := S.shutR (r := rB) (T := 4) (v := .slice ad47 [false].length cp48) (xs := [false]) 0 rfl
      refine sCall (X := Value) (f := 39) (vs := [.slice ad47 [false].length cp48]) (val := c_raddlelaw13_row_val r25) (B' := fun _ => []) (D' := c_raddlelaw13_row_D r25) [] [eBox b12 24 [iv r5.W, iv r5.H, .slice ad10 r5.Bits.length cp11]] [fRep (rL rB) (.slice ad47 [false].length cp48) [false]] [0] [0] S (wN rfl) rfl callee39 rfl (by decide) rfl rfl (fun E1 w1 S1 => c_raddlelaw13_row E1 w1 [false] (.slice ad47 [false].length cp48) r25 hx26 S1) rfl (lb rfl) fun u49 a w S => ?_
      obtain ⟨u50, rfl, hu51⟩ := S.mem.know (i := 0) (e := fRep r_api_Grid (u49) r25) rfl
      have S := S.learn (fRep (rL rB) u50 r25.Bits) hu51
      obtain ⟨ad52, cp53, _, rfl, _⟩ := hu51
      refine leafL ⟨rfl, _, _, .inl ⟨19, (.agg #[iv r25.W, iv r25.H, .slice ad52 r25.Bits.length cp53]), [], rfl, S, hz_of rfl, ?_⟩⟩
      refine node_by (A := anc_raddlelaw13_alive_0) (nf := [1, 2, 3, 4, 5, 9, 10]) (Y := [4, 3, 2, 1]) 12 (by kernel_rfl) (by kernel_rfl) (by kernel_rfl) (by kernel_rfl) (by kernel_rfl) [4, 3, 2, 1, 0] (by kernel_rfl) (by decide) (by decide) (aF 0 11 (by decide) ?_ (aY 1 10 (by decide) (aY 2 9 (by decide) (aY 3 8 (by decide) (aY 4 7 (by decide) (aN 5 6 (by decide) ?_ (aE 6 5 5 (by decide) (aE 7 4 5 (by decide) (aE 8 3 5 (by decide) (aN 9 2 (by decide) ?_ (aB 10 1 5 (by decide) (aE 11 0 5 (by decide) (trivial))))))))))))) [] (fun q hq => by cases hq) (fun hY => absurd (hY 5 (by decide)) (by decide))
      · refine fI 15 (.agg #[iv r5.W, iv r5.H, .slice ad10 r5.Bits.length cp11]) [(1, .pointer (some ⟨b12, 0, none⟩))] 4 [none] rfl rfl rfl rfl rfl rfl fun G a w S => ?_
        refine sLoadN (p := b12) (off := 0) (T := 24) (vs := [iv r5.W, iv r5.H, .slice ad10 r5.Bits.length cp11]) 0 [iv r5.W, iv r5.H, .slice ad10 r5.Bits.length cp11] S (wN rfl) rfl rfl rfl rfl rfl rfl rfl (lb rfl) fun a S => ?_
        exact leafL ⟨rfl, S⟩
      · refine ⟨_, [(15, .agg #[iv r5.W, iv r5.H, .slice ad10 r5.Bits.length cp11]), (17, .agg #[iv r16.W, iv r16.H, .slice ad45 r16.Bits.length cp46]), (19, .agg #[iv r25.W, iv r25.H, .slice ad52 r25.Bits.length cp53])], rfl, (srcs_of [some 4, some 2, some 0] rfl rfl rfl), fun G a w S => ?_⟩
        refine sCall (X := Value) (f := 13) (vs := [.agg #[iv r5.W, iv r5.H, .slice ad10 r5.Bits.length cp11], .agg #[iv r16.W, iv r16.H, .slice ad45 r16.Bits.length cp46], .agg #[iv r25.W, iv r25.H, .slice ad52 r25.Bits.length cp53]]) (val := c_block_Fill_val r32) (B' := fun _ => []) (D' := c_block_Fill_D r32) [] [eBox b12 24 [iv r5.W, iv r5.H, .slice ad10 r5.Bits.length cp11]] [fRep r_api_Grid (.agg #[iv r5.W, iv r5.H, .slice ad10 r5.Bits.length cp11]) r5, fRep r_api_Grid (.agg #[iv r16.W, iv r16.H, .slice ad45 r16.Bits.length cp46]) r16, fRep r_api_Grid (.agg #[iv r25.W, iv r25.H, .slice ad52 r25.Bits.length cp53]) r25] [0] [7, 4, 1] S (wN rfl) rfl callee13 rfl (by decide) rfl rfl (fun E1 w1 S1 => c_block_Fill E1 w1 r5 (.agg #[iv r5.W, iv r5.H, .slice ad10 r5.Bits.length cp11]) r16 (.agg #[iv r16.W, iv r16.H, .slice ad45 r16.Bits.length cp46]) r25 (.agg #[iv r25.W, iv r25.H, .slice ad52 r25.Bits.length cp53]) r32 hx33 S1) rfl (lb rfl) fun u54 a w S => ?_
        obtain ⟨u55, rfl, hu56⟩ := S.mem.know (i := 0) (e := fRep r_api_Grid (u54) r32.1) rfl
        have S := S.learn (fRep (rL rB) u55 r32.1.Bits) hu56
        obtain ⟨ad57, cp58, _, rfl, _⟩ := hu56
        refine leafL ⟨rfl, _, _, .inl ⟨20, (.tuple #[.agg #[iv r32.1.W, iv r32.1.H, .slice ad57 r32.1.Bits.length cp58], iv r32.2]), [(6, 14, .tuple #[.agg #[iv r32.1.W, iv r32.1.H, .slice ad57 r32.1.Bits.length cp58], iv r32.2]), (7, 21, .agg #[iv r32.1.W, iv r32.1.H, .slice ad57 r32.1.Bits.length cp58]), (8, 22, iv r32.2)], rfl, S, hz_of rfl, ?_⟩⟩
        refine node_by (A := anc_raddlelaw13_alive_0) (nf := [1, 2, 3, 4, 5, 9, 10]) (Y := [5, 4, 3, 2, 1]) 12 (by kernel_rfl) (by kernel_rfl) (by kernel_rfl) (by kernel_rfl) (by kernel_rfl) [6, 7, 8, 5, 4, 3, 2, 1, 0] (by kernel_rfl) (by decide) (by decide) (aD 0 11 5 (by decide) (aY 1 10 (by decide) (aY 2 9 (by decide) (aY 3 8 (by decide) (aY 4 7 (by decide) (aY 5 6 (by decide) (aF 6 5 (by decide) ?_ (aF 7 4 (by decide) ?_ (aF 8 3 (by decide) ?_ (aN 9 2 (by decide) ?_ (aB 10 1 9 (by decide) (aE 11 0 9 (by decide) (trivial))))))))))))) [] (fun q hq => by cases hq) (fun hY => absurd (hY 9 (by decide)) (by decide))
        · refine fI 14 (.tuple #[.agg #[iv r32.1.W, iv r32.1.H, .slice ad57 r32.1.Bits.length cp58], iv r32.2]) [(20, .tuple #[.agg #[iv r32.1.W, iv r32.1.H, .slice ad57 r32.1.Bits.length cp58], iv r32.2])] 0 [some 3] rfl rfl rfl rfl rfl rfl fun G a w S => ?_
          refine sMove (.tuple #[.agg #[iv r32.1.W, iv r32.1.H, .slice ad57 r32.1.Bits.length cp58], iv r32.2]) S (wN rfl) (.inl rfl) rfl rfl (lb rfl) fun a S => ?_
          exact leafL ⟨rfl, S⟩
        · refine fI 21 (.agg #[iv r32.1.W, iv r32.1.H, .slice ad57 r32.1.Bits.length cp58]) [(14, .tuple #[.agg #[iv r32.1.W, iv r32.1.H, .slice ad57 r32.1.Bits.length cp58], iv r32.2])] 1 [some 0] rfl rfl rfl rfl rfl rfl fun G a w S => ?_
          refine sExtract (vs := [.agg #[iv r32.1.W, iv r32.1.H, .slice ad57 r32.1.Bits.length cp58], iv r32.2]) (.agg #[iv r32.1.W, iv r32.1.H, .slice ad57 r32.1.Bits.length cp58]) S (wN rfl) rfl rfl rfl rfl (lb rfl) fun a S => ?_
          exact leafL ⟨rfl, S⟩
        · refine fI 22 (iv r32.2) [(14, .tuple #[.agg #[iv r32.1.W, iv r32.1.H, .slice ad57 r32.1.Bits.length cp58], iv r32.2])] 2 [some 0] rfl rfl rfl rfl rfl rfl fun G a w S => ?_
          refine sExtract (vs := [.agg #[iv r32.1.W, iv r32.1.H, .slice ad57 r32.1.Bits.length cp58], iv r32.2]) (iv r32.2) S (wN rfl) rfl rfl rfl rfl (lb rfl) fun a S => ?_
          exact leafL ⟨rfl, S⟩
        refine ⟨_, [], rfl, (srcs_of [] rfl rfl rfl), fun G a w S => ?_⟩
        refine sAlloc (.agg #[iv 0, iv 0, .slice none 0 0]) S (wN rfl) rfl rfl [iv 0, iv 0, .slice none 0 0] rfl rfl (lb rfl) fun a b59 w S => ?_
        refine leafL ⟨rfl, _, _, .inl ⟨2, (.pointer (some ⟨b59, 0, none⟩)), [], rfl, S, hz_of rfl, ?_⟩⟩
        exact nd2 b59 ad57 cp58 ad52 cp53 ad47 cp48 ad45 cp46 ad40 cp41
      refine ⟨_, [], rfl, (srcs_of [] rfl rfl rfl), fun G a w S => ?_⟩
      refine sAlloc (.agg #[iv 0, iv 0, .slice none 0 0]) S (wN rfl) rfl rfl [iv 0, iv 0, .slice none 0 0] rfl rfl (lb rfl) fun a b162 w S => ?_
      refine leafL ⟨rfl, _, _, .inl ⟨2, (.pointer (some ⟨b162, 0, none⟩)), [], rfl, S, hz_of rfl, ?_⟩⟩
      exact nd3 b162 ad52 cp53 ad47 cp48 ad45 cp46 ad40 cp41
    refine ⟨_, [], rfl, (srcs_of [] rfl rfl rfl), fun G a w S => ?_⟩
    refine sAlloc (.agg #[iv 0, iv 0, .slice none 0 0]) S (wN rfl) rfl rfl [iv 0, iv 0, .slice none 0 0] rfl rfl (lb rfl) fun a b168 w S => ?_
    refine leafL ⟨rfl, _, _, .inl ⟨2, (.pointer (some ⟨b168, 0, none⟩)), [], rfl, S, hz_of rfl, ?_⟩⟩
    exact nd4 b168 ad47 cp48 ad45 cp46 ad40 cp41
  refine nodeCut (fun N W L D => ∀ b174 ad45 cp46 ad40 cp41, N [9, 2, 1] ((9, 2, .pointer (some ⟨b174, 0, none⟩)) :: (2, 17, .agg #[iv r16.W, iv r16.H, .slice ad45 r16.Bits.length cp46]) :: (1, 16, .slice ad40 [true].length cp41) :: W) ((eBox b174 24 [iv 0, iv 0, .slice none 0 0]) :: L) ((fRep (rL rB) (.slice ad45 r16.Bits.length cp46) r16.Bits) :: (fRep r_api_Grid (.agg #[iv r16.W, iv r16.H, .slice ad45 r16.Bits.length cp46]) r16) :: (fRep (rL rB) (.slice ad40 [true].length cp41) [true]) :: D)) (fun b174 ad45 cp46 ad40 cp41 => ?_) fun nd5 => ?_
  · refine node_by (A := anc_raddlelaw13_alive_0) (nf := [1, 2, 3, 4, 5, 9, 10]) (Y := [9, 2, 1]) 12 (by kernel_rfl) (by kernel_rfl) (by kernel_rfl) (by kernel_rfl) (by kernel_rfl) [9, 2, 1, 0] (by kernel_rfl) (by decide) (by decide) (aF 0 11 (by decide) ?_ (aY 1 10 (by decide) (aY 2 9 (by decide) (aN 3 8 (by decide) ?_ (aB 4 7 3 (by decide) (aB 5 6 3 (by decide) (aE 6 5 3 (by decide) (aE 7 4 3 (by decide) (aE 8 3 3 (by decide) (aY 9 2 (by decide) (aB 10 1 3 (by decide) (aE 11 0 3 (by decide) (trivial))))))))))))) [] (fun q hq => by cases hq) (fun hY => absurd (hY 3 (by decide)) (by decide))
    · refine fI 15 (.agg #[iv r5.W, iv r5.H, .slice ad10 r5.Bits.length cp11]) [(1, .pointer (some ⟨b12, 0, none⟩))] 3 [none] rfl rfl rfl rfl rfl rfl fun G a w S => ?_
      refine sLoadN (p := b12) (off := 0) (T := 24) (vs := [iv r5.W, iv r5.H, .slice ad10 r5.Bits.length cp11]) 1 [iv r5.W, iv r5.H, .slice ad10 r5.Bits.length cp11] S (wN rfl) rfl rfl rfl rfl rfl rfl rfl (lb rfl) fun a S => ?_
      exact leafL ⟨rfl, S⟩
    refine ⟨_, [], rfl, (srcs_of [] rfl rfl rfl), fun G a w S => ?_⟩
    refine sLit (r := rB) (T := 4) (xs := [false]) [(0, .bool false)] 1 [.bool false] [.bool false] (.bool false) 1 S (wN rfl) rfl rfl Try.underlying22 rfl (by decide) (by decide) (by kernel_rfl) rfl (fun E1 w1 hE => All.cons rfl (All.nil _ _ _)) rfl rfl (lb rfl) fun a w ad175 cp176 S => ?_
    refine leafL ⟨rfl, _, _, .inl ⟨18, (.slice ad175 [false].length cp176), [], rfl, S, hz_of rfl, ?_⟩⟩
    exact nodePerm (nd4 b174 ad175 cp176 ad45 cp46 ad40 cp41) [1, 0, 2, 3, 4] [1, 0, 2] [0, 1, 2, 3, 4, 5] (by decide) (by decide) rfl rfl rfl
  refine nodeCut (fun N W L D => ∀ b184 ad177 cp178 ad40 cp41, N [9, 3, 1] ((9, 2, .pointer (some ⟨b184, 0, none⟩)) :: (3, 18, .slice ad177 [false].length cp178) :: (1, 16, .slice ad40 [true].length cp41) :: W) ((eBox b184 24 [iv 0, iv 0, .slice none 0 0]) :: (eRow rB 4 (.slice ad177 [false].length cp178) [false]) :: (eRow rB 4 (.slice ad40 [true].length cp41) [true]) :: L) (D)) (fun b184 ad177 cp178 ad40 cp41 => ?_) fun nd7 => ?_
  · refine node_by (A := anc_raddlelaw13_alive_0) (nf := [1, 2, 3, 4, 5, 9, 10]) (Y := [9, 3, 1]) 12 (by kernel_rfl) (by kernel_rfl) (by kernel_rfl) (by kernel_rfl) (by kernel_rfl) [9, 3, 1, 0] (by kernel_rfl) (by decide) (by decide) (aF 0 11 (by decide) ?_ (aY 1 10 (by decide) (aN 2 9 (by decide) ?_ (aY 3 8 (by decide) (aB 4 7 2 (by decide) (aB 5 6 2 (by decide) (aE 6 5 2 (by decide) (aE 7 4 2 (by decide) (aE 8 3 2 (by decide) (aY 9 2 (by decide) (aB 10 1 2 (by decide) (aE 11 0 2 (by decide) (trivial))))))))))))) [] (fun q hq => by cases hq) (fun hY => absurd (hY 2 (by decide)) (by decide))
    · refine fI 15 (.agg #[iv r5.W, iv r5.H, .slice ad10 r5.Bits.length cp11]) [(1, .pointer (some ⟨b12, 0, none⟩))] 3 [none] rfl rfl rfl rfl rfl rfl fun G a w S => ?_
      refine sLoadN (p := b12) (off := 0) (T := 24) (vs := [iv r5.W, iv r5.H, .slice ad10 r5.Bits.length cp11]) 3 [iv r5.W, iv r5.H, .slice ad10 r5.Bits.length cp11] S (wN rfl) rfl rfl rfl rfl rfl rfl rfl (lb rfl) fun a S => ?_
      exact leafL ⟨rfl, S⟩
    refine ⟨_, [(16, .slice ad40 [true].length cp41)], rfl, (srcs_of [some 2] rfl rfl rfl), fun G a w S => ?_⟩
    have S := S.shutR (r := rB) (T := 4) (v := .slice ad40 [true].length cp41) (xs := [true]) 2 rfl
    refine sCall (X := Value) (f := 39) (vs := [.slice ad40 [true].length cp41]) (val := c_raddlelaw13_row_val r16) (B' := fun _ => []) (D' := c_raddlelaw13_row_D r16) [] [eBox b184 24 [iv 0, iv 0, .slice none 0 0], eRow rB 4 (.slice ad177 [false].length cp178) [false], eBox b12 24 [iv r5.W, iv r5.H, .slice ad10 r5.Bits.length cp11]] [fRep (rL rB) (.slice ad40 [true].length cp41) [true]] [0, 1, 2] [0] S (wN rfl) rfl callee39 rfl (by decide) rfl rfl (fun E1 w1 S1 => c_raddlelaw13_row E1 w1 [true] (.slice ad40 [true].length cp41) r16 hx17 S1) rfl (lb rfl) fun u185 a w S => ?_
    obtain ⟨u186, rfl, hu187⟩ := S.mem.know (i := 0) (e := fRep r_api_Grid (u185) r16) rfl
    have S := S.learn (fRep (rL rB) u186 r16.Bits) hu187
    obtain ⟨ad188, cp189, _, rfl, _⟩ := hu187
    refine leafL ⟨rfl, _, _, .inl ⟨17, (.agg #[iv r16.W, iv r16.H, .slice ad188 r16.Bits.length cp189]), [], rfl, S, hz_of rfl, ?_⟩⟩
    exact nodePerm (nd4 b184 ad177 cp178 ad188 cp189 ad40 cp41) [1, 2, 0, 3, 4] [0, 1, 2] [0, 1, 2, 3, 4, 5] (by decide) (by decide) rfl rfl rfl
  refine nodeCut (fun N W L D => ∀ ad177 cp178 ad40 cp41, N [3, 1] ((3, 18, .slice ad177 [false].length cp178) :: (1, 16, .slice ad40 [true].length cp41) :: W) ((eRow rB 4 (.slice ad177 [false].length cp178) [false]) :: (eRow rB 4 (.slice ad40 [true].length cp41) [true]) :: L) (D)) (fun ad177 cp178 ad40 cp41 => ?_) fun nd6 => ?_
  · refine node_by (A := anc_raddlelaw13_alive_0) (nf := [1, 2, 3, 4, 5, 9, 10]) (Y := [3, 1]) 12 (by kernel_rfl) (by kernel_rfl) (by kernel_rfl) (by kernel_rfl) (by kernel_rfl) [3, 1, 0] (by kernel_rfl) (by decide) (by decide) (aF 0 11 (by decide) ?_ (aY 1 10 (by decide) (aN 2 9 (by decide) ?_ (aY 3 8 (by decide) (aB 4 7 2 (by decide) (aB 5 6 2 (by decide) (aE 6 5 2 (by decide) (aE 7 4 2 (by decide) (aE 8 3 2 (by decide) (aN 9 2 (by decide) ?_ (aB 10 1 2 (by decide) (aE 11 0 2 (by decide) (trivial))))))))))))) [] (fun q hq => by cases hq) (fun hY => absurd (hY 2 (by decide)) (by decide))
    · refine fI 15 (.agg #[iv r5.W, iv r5.H, .slice ad10 r5.Bits.length cp11]) [(1, .pointer (some ⟨b12, 0, none⟩))] 2 [none] rfl rfl rfl rfl rfl rfl fun G a w S => ?_
      refine sLoadN (p := b12) (off := 0) (T := 24) (vs := [iv r5.W, iv r5.H, .slice ad10 r5.Bits.length cp11]) 2 [iv r5.W, iv r5.H, .slice ad10 r5.Bits.length cp11] S (wN rfl) rfl rfl rfl rfl rfl rfl rfl (lb rfl) fun a S => ?_
      exact leafL ⟨rfl, S⟩
    · refine ⟨_, [(16, .slice ad40 [true].length cp41)], rfl, (srcs_of [some 1] rfl rfl rfl), fun G a w S => ?_⟩
      have S := S.shutR (r := rB) (T := 4) (v := .slice ad40 [true].length cp41) (xs := [true]) 1 rfl
      refine sCall (X := Value) (f := 39) (vs := [.slice ad40 [true].length cp41]) (val := c_raddlelaw13_row_val r16) (B' := fun _ => []) (D' := c_raddlelaw13_row_D r16) [] [eRow rB 4 (.slice ad177 [false].length cp178) [false], eBox b12 24 [iv r5.W, iv r5.H, .slice ad10 r5.Bits.length cp11]] [fRep (rL rB) (.slice ad40 [true].length cp41) [true]] [0, 1] [0] S (wN rfl) rfl callee39 rfl (by decide) rfl rfl (fun E1 w1 S1 => c_raddlelaw13_row E1 w1 [true] (.slice ad40 [true].length cp41) r16 hx17 S1) rfl (lb rfl) fun u179 a w S => ?_
      obtain ⟨u180, rfl, hu181⟩ := S.mem.know (i := 0) (e := fRep r_api_Grid (u179) r16) rfl
      have S := S.learn (fRep (rL rB) u180 r16.Bits) hu181
      obtain ⟨ad182, cp183, _, rfl, _⟩ := hu181
      refine leafL ⟨rfl, _, _, .inl ⟨17, (.agg #[iv r16.W, iv r16.H, .slice ad182 r16.Bits.length cp183]), [], rfl, S, hz_of rfl, ?_⟩⟩
      exact nodePerm (nd1 ad177 cp178 ad182 cp183 ad40 cp41) [1, 0, 2, 3] [0, 1] [0, 1, 2, 3, 4, 5] (by decide) (by decide) rfl rfl rfl
    refine ⟨_, [], rfl, (srcs_of [] rfl rfl rfl), fun G a w S => ?_⟩
    refine sAlloc (.agg #[iv 0, iv 0, .slice none 0 0]) S (wN rfl) rfl rfl [iv 0, iv 0, .slice none 0 0] rfl rfl (lb rfl) fun a b184 w S => ?_
    refine leafL ⟨rfl, _, _, .inl ⟨2, (.pointer (some ⟨b184, 0, none⟩)), [], rfl, S, hz_of rfl, ?_⟩⟩
    exact nd7 b184 ad177 cp178 ad40 cp41
  refine nodeCut (fun N W L D => ∀ b190 ad40 cp41, N [9, 1] ((9, 2, .pointer (some ⟨b190, 0, none⟩)) :: (1, 16, .slice ad40 [true].length cp41) :: W) ((eBox b190 24 [iv 0, iv 0, .slice none 0 0]) :: (eRow rB 4 (.slice ad40 [true].length cp41) [true]) :: L) (D)) (fun b190 ad40 cp41 => ?_) fun nd8 => ?_
  · refine node_by (A := anc_raddlelaw13_alive_0) (nf := [1, 2, 3, 4, 5, 9, 10]) (Y := [9, 1]) 12 (by kernel_rfl) (by kernel_rfl) (by kernel_rfl) (by kernel_rfl) (by kernel_rfl) [9, 1, 0] (by kernel_rfl) (by decide) (by decide) (aF 0 11 (by decide) ?_ (aY 1 10 (by decide) (aN 2 9 (by decide) ?_ (aN 3 8 (by decide) ?_ (aB 4 7 2 (by decide) (aB 5 6 2 (by decide) (aE 6 5 2 (by decide) (aE 7 4 2 (by decide) (aE 8 3 2 (by decide) (aY 9 2 (by decide) (aB 10 1 2 (by decide) (aE 11 0 2 (by decide) (trivial))))))))))))) [] (fun q hq => by cases hq) (fun hY => absurd (hY 2 (by decide)) (by decide))
    · refine fI 15 (.agg #[iv r5.W, iv r5.H, .slice ad10 r5.Bits.length cp11]) [(1, .pointer (some ⟨b12, 0, none⟩))] 2 [none] rfl rfl rfl rfl rfl rfl fun G a w S => ?_
      refine sLoadN (p := b12) (off := 0) (T := 24) (vs := [iv r5.W, iv r5.H, .slice ad10 r5.Bits.length cp11]) 2 [iv r5.W, iv r5.H, .slice ad10 r5.Bits.length cp11] S (wN rfl) rfl rfl rfl rfl rfl rfl rfl (lb rfl) fun a S => ?_
      exact leafL ⟨rfl, S⟩
    · refine ⟨_, [(16, .slice ad40 [true].length cp41)], rfl, (srcs_of [some 1] rfl rfl rfl), fun G a w S => ?_⟩
      have S := S.shutR (r := rB) (T := 4) (v := .slice ad40 [true].length cp41) (xs := [true]) 1 rfl
      refine sCall (X := Value) (f := 39) (vs := [.slice ad40 [true].length cp41]) (val := c_raddlelaw13_row_val r16) (B' := fun _ => []) (D' := c_raddlelaw13_row_D r16) [] [eBox b190 24 [iv 0, iv 0, .slice none 0 0], eBox b12 24 [iv r5.W, iv r5.H, .slice ad10 r5.Bits.length cp11]] [fRep (rL rB) (.slice ad40 [true].length cp41) [true]] [0, 1] [0] S (wN rfl) rfl callee39 rfl (by decide) rfl rfl (fun E1 w1 S1 => c_raddlelaw13_row E1 w1 [true] (.slice ad40 [true].length cp41) r16 hx17 S1) rfl (lb rfl) fun u191 a w S => ?_
      obtain ⟨u192, rfl, hu193⟩ := S.mem.know (i := 0) (e := fRep r_api_Grid (u191) r16) rfl
      have S := S.learn (fRep (rL rB) u192 r16.Bits) hu193
      obtain ⟨ad194, cp195, _, rfl, _⟩ := hu193
      refine leafL ⟨rfl, _, _, .inl ⟨17, (.agg #[iv r16.W, iv r16.H, .slice ad194 r16.Bits.length cp195]), [], rfl, S, hz_of rfl, ?_⟩⟩
      exact nodePerm (nd5 b190 ad194 cp195 ad40 cp41) [1, 0, 2, 3] [0, 1] [0, 1, 2, 3, 4, 5] (by decide) (by decide) rfl rfl rfl
    refine ⟨_, [], rfl, (srcs_of [] rfl rfl rfl), fun G a w S => ?_⟩
    refine sLit (r := rB) (T := 4) (xs := [false]) [(0, .bool false)] 1 [.bool false] [.bool false] (.bool false) 1 S (wN rfl) rfl rfl Try.underlying22 rfl (by decide) (by decide) (by kernel_rfl) rfl (fun E1 w1 hE => All.cons rfl (All.nil _ _ _)) rfl rfl (lb rfl) fun a w ad196 cp197 S => ?_
    refine leafL ⟨rfl, _, _, .inl ⟨18, (.slice ad196 [false].length cp197), [], rfl, S, hz_of rfl, ?_⟩⟩
    exact nodePerm (nd7 b190 ad196 cp197 ad40 cp41) [1, 0, 2, 3] [1, 0, 2, 3] [0, 1, 2] (by decide) (by decide) rfl rfl rfl
  refine nodeCut (fun N W L D => ∀ b202 ad198 cp199, N [9, 3] ((9, 2, .pointer (some ⟨b202, 0, none⟩)) :: (3, 18, .slice ad198 [false].length cp199) :: W) ((eBox b202 24 [iv 0, iv 0, .slice none 0 0]) :: (eRow rB 4 (.slice ad198 [false].length cp199) [false]) :: L) (D)) (fun b202 ad198 cp199 => ?_) fun nd9 => ?_
  · refine node_by (A := anc_raddlelaw13_alive_0) (nf := [1, 2, 3, 4, 5, 9, 10]) (Y := [9, 3]) 12 (by kernel_rfl) (by kernel_rfl) (by kernel_rfl) (by kernel_rfl) (by kernel_rfl) [9, 3, 0] (by kernel_rfl) (by decide) (by decide) (aF 0 11 (by decide) ?_ (aN 1 10 (by decide) ?_ (aB 2 9 1 (by decide) (aY 3 8 (by decide) (aB 4 7 1 (by decide) (aB 5 6 1 (by decide) (aE 6 5 1 (by decide) (aE 7 4 1 (by decide) (aE 8 3 1 (by decide) (aY 9 2 (by decide) (aB 10 1 1 (by decide) (aE 11 0 1 (by decide) (trivial))))))))))))) [] (fun q hq => by cases hq) (fun hY => absurd (hY 1 (by decide)) (by decide))
    · refine fI 15 (.agg #[iv r5.W, iv r5.H, .slice ad10 r5.Bits.length cp11]) [(1, .pointer (some ⟨b12, 0, none⟩))] 2 [none] rfl rfl rfl rfl rfl rfl fun G a w S => ?_
      refine sLoadN (p := b12) (off := 0) (T := 24) (vs := [iv r5.W, iv r5.H, .slice ad10 r5.Bits.length cp11]) 2 [iv r5.W, iv r5.H, .slice ad10 r5.Bits.length cp11] S (wN rfl) rfl rfl rfl rfl rfl rfl rfl (lb rfl) fun a S => ?_
      exact leafL ⟨rfl, S⟩
    refine ⟨_, [], rfl, (srcs_of [] rfl rfl rfl), fun G a w S => ?_⟩
    refine sLit (r := rB) (T := 4) (xs := [true]) [(0, .bool true)] 1 [.bool true] [.bool true] (.bool false) 1 S (wN rfl) rfl rfl Try.underlying22 rfl (by decide) (by decide) (by kernel_rfl) rfl (fun E1 w1 hE => All.cons rfl (All.nil _ _ _)) rfl rfl (lb rfl) fun a w ad203 cp204 S => ?_
    refine leafL ⟨rfl, _, _, .inl ⟨16, (.slice ad203 [true].length cp204), [], rfl, S, hz_of rfl, ?_⟩⟩
    exact nodePerm (nd7 b202 ad198 cp199 ad203 cp204) [1, 2, 0, 3] [1, 2, 0, 3] [0, 1, 2] (by decide) (by decide) rfl rfl rfl
  refine node_by (A := anc_raddlelaw13_alive_0) (nf := [1, 2, 3, 4, 5, 9, 10]) (Y := []) (W := [(0, 15, .agg #[iv r5.W, iv r5.H, .slice ad10 r5.Bits.length cp11])]) 12 (by kernel_rfl) (by kernel_rfl) (by kernel_rfl) (by kernel_rfl) (by kernel_rfl) [0] (by kernel_rfl) (by decide) (by decide) (aF 0 11 (by decide) ?_ (aN 1 10 (by decide) ?_ (aB 2 9 1 (by decide) (aN 3 8 (by decide) ?_ (aB 4 7 1 (by decide) (aB 5 6 1 (by decide) (aE 6 5 1 (by decide) (aE 7 4 1 (by decide) (aE 8 3 1 (by decide) (aN 9 2 (by decide) ?_ (aB 10 1 1 (by decide) (aE 11 0 1 (by decide) (trivial))))))))))))) [] (fun q hq => by cases hq) (fun hY => absurd (hY 1 (by decide)) (by decide))
  · refine fI 15 (.agg #[iv r5.W, iv r5.H, .slice ad10 r5.Bits.length cp11]) [(1, .pointer (some ⟨b12, 0, none⟩))] 0 [none] rfl rfl rfl rfl rfl rfl fun G a w S => ?_
    refine sLoadN (p := b12) (off := 0) (T := 24) (vs := [iv r5.W, iv r5.H, .slice ad10 r5.Bits.length cp11]) 0 [iv r5.W, iv r5.H, .slice ad10 r5.Bits.length cp11] S (wN rfl) rfl rfl rfl rfl rfl rfl rfl (lb rfl) fun a S => ?_
    exact leafL ⟨rfl, S⟩
  · refine ⟨_, [], rfl, (srcs_of [] rfl rfl rfl), fun G a w S => ?_⟩
    refine sLit (r := rB) (T := 4) (xs := [true]) [(0, .bool true)] 1 [.bool true] [.bool true] (.bool false) 1 S (wN rfl) rfl rfl Try.underlying22 rfl (by decide) (by decide) (by kernel_rfl) rfl (fun E1 w1 hE => All.cons rfl (All.nil _ _ _)) rfl rfl (lb rfl) fun a w ad40 cp41 S => ?_
    refine leafL ⟨rfl, _, _, .inl ⟨16, (.slice ad40 [true].length cp41), [], rfl, S, hz_of rfl, ?_⟩⟩
    refine node_by (A := anc_raddlelaw13_alive_0) (nf := [1, 2, 3, 4, 5, 9, 10]) (Y := [1]) 12 (by kernel_rfl) (by kernel_rfl) (by kernel_rfl) (by kernel_rfl) (by kernel_rfl) [1, 0] (by kernel_rfl) (by decide) (by decide) (aF 0 11 (by decide) ?_ (aY 1 10 (by decide) (aN 2 9 (by decide) ?_ (aN 3 8 (by decide) ?_ (aB 4 7 2 (by decide) (aB 5 6 2 (by decide) (aE 6 5 2 (by decide) (aE 7 4 2 (by decide) (aE 8 3 2 (by decide) (aN 9 2 (by decide) ?_ (aB 10 1 2 (by decide) (aE 11 0 2 (by decide) (trivial))))))))))))) [] (fun q hq => by cases hq) (fun hY => absurd (hY 2 (by decide)) (by decide))
    · refine fI 15 (.agg #[iv r5.W, iv r5.H, .slice ad10 r5.Bits.length cp11]) [(1, .pointer (some ⟨b12, 0, none⟩))] 1 [none] rfl rfl rfl rfl rfl rfl fun G a w S => ?_
      refine sLoadN (p := b12) (off := 0) (T := 24) (vs := [iv r5.W, iv r5.H, .slice ad10 r5.Bits.length cp11]) 1 [iv r5.W, iv r5.H, .slice ad10 r5.Bits.length cp11] S (wN rfl) rfl rfl rfl rfl rfl rfl rfl (lb rfl) fun a S => ?_
      exact leafL ⟨rfl, S⟩
    · refine ⟨_, [(16, .slice ad40 [true].length cp41)], rfl, (srcs_of [some 0] rfl rfl rfl), fun G a w S => ?_⟩
      have S := S.shutR (r := rB) (T := 4) (v := .slice ad40 [true].length cp41) (xs := [true]) 0 rfl
      refine sCall (X := Value) (f := 39) (vs := [.slice ad40 [true].length cp41]) (val := c_raddlelaw13_row_val r16) (B' := fun _ => []) (D' := c_raddlelaw13_row_D r16) [] [eBox b12 24 [iv r5.W, iv r5.H, .slice ad10 r5.Bits.length cp11]] [fRep (rL rB) (.slice ad40 [true].length cp41) [true]] [0] [0] S (wN rfl) rfl callee39 rfl (by decide) rfl rfl (fun E1 w1 S1 => c_raddlelaw13_row E1 w1 [true] (.slice ad40 [true].length cp41) r16 hx17 S1) rfl (lb rfl) fun u42 a w S => ?_
      obtain ⟨u43, rfl, hu44⟩ := S.mem.know (i := 0) (e := fRep r_api_Grid (u42) r16) rfl
      have S := S.learn (fRep (rL rB) u43 r16.Bits) hu44
      obtain ⟨ad45, cp46, _, rfl, _⟩ := hu44
      refine leafL ⟨rfl, _, _, .inl ⟨17, (.agg #[iv r16.W, iv r16.H, .slice ad45 r16.Bits.length cp46]), [], rfl, S, hz_of rfl, ?_⟩⟩
      refine node_by (A := anc_raddlelaw13_alive_0) (nf := [1, 2, 3, 4, 5, 9, 10]) (Y := [2, 1]) 12 (by kernel_rfl) (by kernel_rfl) (by kernel_rfl) (by kernel_rfl) (by kernel_rfl) [2, 1, 0] (by kernel_rfl) (by decide) (by decide) (aF 0 11 (by decide) ?_ (aY 1 10 (by decide) (aY 2 9 (by decide) (aN 3 8 (by decide) ?_ (aB 4 7 3 (by decide) (aB 5 6 3 (by decide) (aE 6 5 3 (by decide) (aE 7 4 3 (by decide) (aE 8 3 3 (by decide) (aN 9 2 (by decide) ?_ (aB 10 1 3 (by decide) (aE 11 0 3 (by decide) (trivial))))))))))))) [] (fun q hq => by cases hq) (fun hY => absurd (hY 3 (by decide)) (by decide))
      · refine fI 15 (.agg #[iv r5.W, iv r5.H, .slice ad10 r5.Bits.length cp11]) [(1, .pointer (some ⟨b12, 0, none⟩))] 2 [none] rfl rfl rfl rfl rfl rfl fun G a w S => ?_
        refine sLoadN (p := b12) (off := 0) (T := 24) (vs := [iv r5.W, iv r5.H, .slice ad10 r5.Bits.length cp11]) 0 [iv r5.W, iv r5.H, .slice ad10 r5.Bits.length cp11] S (wN rfl) rfl rfl rfl rfl rfl rfl rfl (lb rfl) fun a S => ?_
        exact leafL ⟨rfl, S⟩
      · refine ⟨_, [], rfl, (srcs_of [] rfl rfl rfl), fun G a w S => ?_⟩
        refine sLit (r := rB) (T := 4) (xs := [false]) [(0, .bool false)] 1 [.bool false] [.bool false] (.bool false) 1 S (wN rfl) rfl rfl Try.underlying22 rfl (by decide) (by decide) (by kernel_rfl) rfl (fun E1 w1 hE => All.cons rfl (All.nil _ _ _)) rfl rfl (lb rfl) fun a w ad47 cp48 S => ?_
        refine leafL ⟨rfl, _, _, .inl ⟨18, (.slice ad47 [false].length cp48), [], rfl, S, hz_of rfl, ?_⟩⟩
        exact nd1 ad47 cp48 ad45 cp46 ad40 cp41
      refine ⟨_, [], rfl, (srcs_of [] rfl rfl rfl), fun G a w S => ?_⟩
      refine sAlloc (.agg #[iv 0, iv 0, .slice none 0 0]) S (wN rfl) rfl rfl [iv 0, iv 0, .slice none 0 0] rfl rfl (lb rfl) fun a b174 w S => ?_
      refine leafL ⟨rfl, _, _, .inl ⟨2, (.pointer (some ⟨b174, 0, none⟩)), [], rfl, S, hz_of rfl, ?_⟩⟩
      exact nd5 b174 ad45 cp46 ad40 cp41
    · refine ⟨_, [], rfl, (srcs_of [] rfl rfl rfl), fun G a w S => ?_⟩
      refine sLit (r := rB) (T := 4) (xs := [false]) [(0, .bool false)] 1 [.bool false] [.bool false] (.bool false) 1 S (wN rfl) rfl rfl Try.underlying22 rfl (by decide) (by decide) (by kernel_rfl) rfl (fun E1 w1 hE => All.cons rfl (All.nil _ _ _)) rfl rfl (lb rfl) fun a w ad177 cp178 S => ?_
      refine leafL ⟨rfl, _, _, .inl ⟨18, (.slice ad177 [false].length cp178), [], rfl, S, hz_of rfl, ?_⟩⟩
      exact nd6 ad177 cp178 ad40 cp41
    refine ⟨_, [], rfl, (srcs_of [] rfl rfl rfl), fun G a w S => ?_⟩
    refine sAlloc (.agg #[iv 0, iv 0, .slice none 0 0]) S (wN rfl) rfl rfl [iv 0, iv 0, .slice none 0 0] rfl rfl (lb rfl) fun a b190 w S => ?_
    refine leafL ⟨rfl, _, _, .inl ⟨2, (.pointer (some ⟨b190, 0, none⟩)), [], rfl, S, hz_of rfl, ?_⟩⟩
    exact nd8 b190 ad40 cp41
  · refine ⟨_, [], rfl, (srcs_of [] rfl rfl rfl), fun G a w S => ?_⟩
    refine sLit (r := rB) (T := 4) (xs := [false]) [(0, .bool false)] 1 [.bool false] [.bool false] (.bool false) 1 S (wN rfl) rfl rfl Try.underlying22 rfl (by decide) (by decide) (by kernel_rfl) rfl (fun E1 w1 hE => All.cons rfl (All.nil _ _ _)) rfl rfl (lb rfl) fun a w ad198 cp199 S => ?_
    refine leafL ⟨rfl, _, _, .inl ⟨18, (.slice ad198 [false].length cp199), [], rfl, S, hz_of rfl, ?_⟩⟩
    refine node_by (A := anc_raddlelaw13_alive_0) (nf := [1, 2, 3, 4, 5, 9, 10]) (Y := [3]) 12 (by kernel_rfl) (by kernel_rfl) (by kernel_rfl) (by kernel_rfl) (by kernel_rfl) [3, 0] (by kernel_rfl) (by decide) (by decide) (aF 0 11 (by decide) ?_ (aN 1 10 (by decide) ?_ (aB 2 9 1 (by decide) (aY 3 8 (by decide) (aB 4 7 1 (by decide) (aB 5 6 1 (by decide) (aE 6 5 1 (by decide) (aE 7 4 1 (by decide) (aE 8 3 1 (by decide) (aN 9 2 (by decide) ?_ (aB 10 1 1 (by decide) (aE 11 0 1 (by decide) (trivial))))))))))))) [] (fun q hq => by cases hq) (fun hY => absurd (hY 1 (by decide)) (by decide))
    · refine fI 15 (.agg #[iv r5.W, iv r5.H, .slice ad10 r5.Bits.length cp11]) [(1, .pointer (some ⟨b12, 0, none⟩))] 1 [none] rfl rfl rfl rfl rfl rfl fun G a w S => ?_
      refine sLoadN (p := b12) (off := 0) (T := 24) (vs := [iv r5.W, iv r5.H, .slice ad10 r5.Bits.length cp11]) 1 [iv r5.W, iv r5.H, .slice ad10 r5.Bits.length cp11] S (wN rfl) rfl rfl rfl rfl rfl rfl rfl (lb rfl) fun a S => ?_
      exact leafL ⟨rfl, S⟩
    · refine ⟨_, [], rfl, (srcs_of [] rfl rfl rfl), fun G a w S => ?_⟩
      refine sLit (r := rB) (T := 4) (xs := [true]) [(0, .bool true)] 1 [.bool true] [.bool true] (.bool false) 1 S (wN rfl) rfl rfl Try.underlying22 rfl (by decide) (by decide) (by kernel_rfl) rfl (fun E1 w1 hE => All.cons rfl (All.nil _ _ _)) rfl rfl (lb rfl) fun a w ad200 cp201 S => ?_
      refine leafL ⟨rfl, _, _, .inl ⟨16, (.slice ad200 [true].length cp201), [], rfl, S, hz_of rfl, ?_⟩⟩
      exact nodePerm (nd6 ad198 cp199 ad200 cp201) [1, 0, 2] [1, 0, 2] [0, 1, 2] (by decide) (by decide) rfl rfl rfl
    refine ⟨_, [], rfl, (srcs_of [] rfl rfl rfl), fun G a w S => ?_⟩
    refine sAlloc (.agg #[iv 0, iv 0, .slice none 0 0]) S (wN rfl) rfl rfl [iv 0, iv 0, .slice none 0 0] rfl rfl (lb rfl) fun a b202 w S => ?_
    refine leafL ⟨rfl, _, _, .inl ⟨2, (.pointer (some ⟨b202, 0, none⟩)), [], rfl, S, hz_of rfl, ?_⟩⟩
    exact nd9 b202 ad198 cp199
  refine ⟨_, [], rfl, (srcs_of [] rfl rfl rfl), fun G a w S => ?_⟩
  refine sAlloc (.agg #[iv 0, iv 0, .slice none 0 0]) S (wN rfl) rfl rfl [iv 0, iv 0, .slice none 0 0] rfl rfl (lb rfl) fun a b205 w S => ?_
  refine leafL ⟨rfl, _, _, .inl ⟨2, (.pointer (some ⟨b205, 0, none⟩)), [], rfl, S, hz_of rfl, ?_⟩⟩
  refine node_by (A := anc_raddlelaw13_alive_0) (nf := [1, 2, 3, 4, 5, 9, 10]) (Y := [9]) 12 (by kernel_rfl) (by kernel_rfl) (by kernel_rfl) (by kernel_rfl) (by kernel_rfl) [9, 0] (by kernel_rfl) (by decide) (by decide) (aF 0 11 (by decide) ?_ (aN 1 10 (by decide) ?_ (aB 2 9 1 (by decide) (aN 3 8 (by decide) ?_ (aB 4 7 1 (by decide) (aB 5 6 1 (by decide) (aE 6 5 1 (by decide) (aE 7 4 1 (by decide) (aE 8 3 1 (by decide) (aY 9 2 (by decide) (aB 10 1 1 (by decide) (aE 11 0 1 (by decide) (trivial))))))))))))) [] (fun q hq => by cases hq) (fun hY => absurd (hY 1 (by decide)) (by decide))
  · refine fI 15 (.agg #[iv r5.W, iv r5.H, .slice ad10 r5.Bits.length cp11]) [(1, .pointer (some ⟨b12, 0, none⟩))] 1 [none] rfl rfl rfl rfl rfl rfl fun G a w S => ?_
    refine sLoadN (p := b12) (off := 0) (T := 24) (vs := [iv r5.W, iv r5.H, .slice ad10 r5.Bits.length cp11]) 1 [iv r5.W, iv r5.H, .slice ad10 r5.Bits.length cp11] S (wN rfl) rfl rfl rfl rfl rfl rfl rfl (lb rfl) fun a S => ?_
    exact leafL ⟨rfl, S⟩
  · refine ⟨_, [], rfl, (srcs_of [] rfl rfl rfl), fun G a w S => ?_⟩
    refine sLit (r := rB) (T := 4) (xs := [true]) [(0, .bool true)] 1 [.bool true] [.bool true] (.bool false) 1 S (wN rfl) rfl rfl Try.underlying22 rfl (by decide) (by decide) (by kernel_rfl) rfl (fun E1 w1 hE => All.cons rfl (All.nil _ _ _)) rfl rfl (lb rfl) fun a w ad206 cp207 S => ?_
    refine leafL ⟨rfl, _, _, .inl ⟨16, (.slice ad206 [true].length cp207), [], rfl, S, hz_of rfl, ?_⟩⟩
    exact nodePerm (nd8 b205 ad206 cp207) [1, 0, 2] [1, 0, 2] [0, 1, 2] (by decide) (by decide) rfl rfl rfl
  refine ⟨_, [], rfl, (srcs_of [] rfl rfl rfl), fun G a w S => ?_⟩
  refine sLit (r := rB) (T := 4) (xs := [false]) [(0, .bool false)] 1 [.bool false] [.bool false] (.bool false) 1 S (wN rfl) rfl rfl Try.underlying22 rfl (by decide) (by decide) (by kernel_rfl) rfl (fun E1 w1 hE => All.cons rfl (All.nil _ _ _)) rfl rfl (lb rfl) fun a w ad208 cp209 S => ?_
  refine leafL ⟨rfl, _, _, .inl ⟨18, (.slice ad208 [false].length cp209), [], rfl, S, hz_of rfl, ?_⟩⟩
  exact nodePerm (nd9 b205 ad208 cp209) [1, 0, 2] [1, 0, 2] [0, 1, 2] (by decide) (by decide) rfl rfl rfl

end Go.Proofs.Ythfifeabomdlpaa
namespace Go.Proofs.Ythfifeabomdlpaa
open Go.RowKit
set_option linter.unusedVariables false

def K_raddlelaw13_alive  : Option Bool :=
  Option.bind (K_raddlelaw13_row [true, false]) fun r5 =>
  Option.bind (K_raddlelaw13_row [true]) fun r16 =>
  Option.bind (K_raddlelaw13_row [false]) fun r25 =>
  Option.bind (K_block_Fill r5 r16 r25) fun r32 =>
  Option.bind (K_raddleref01_Zero 2 2) fun r61 =>
  Option.bind (K_block_Fill r5 r61 r61) fun r73 =>
  Option.bind (K_block_Units (api_Grid.mk 4 2 [true, true, false, false, true, true, false, false]) 2 2) fun r102 =>
  Option.bind (K_block_Spell ([0, 1, 0] : List Int) [([0, 1] : List Int), ([2, 3] : List Int)]) fun r119 =>
  if r32.2 == 0 then
    Option.bind (K_raddleref01_Same r32.1 r5) fun r126 =>
    if r126 then
      if r73.2 == 0 then
        if r73.1.W == 4 then
          if r73.1.H == 2 then
            if r102.2.2 == 0 then
              if (r102.1.length : Int) == 2 then
                Option.bind (K_raddleref02_Same r102.2.1 ([0, 1] : List Int)) fun r136 =>
                if r136 then
                  if r119.2 == 0 then
                    Option.bind (K_raddleref02_Same r119.1 ([0, 1, 2, 3, 0, 1] : List Int)) fun r142 =>
                    some r142
                  else
                    none
                else
                  none
              else
                none
            else
              none
          else
            none
        else
          none
      else
        none
    else
      none
  else
    none
theorem m_F_raddlelaw13_alive  : Le (K_raddlelaw13_alive) (F_raddlelaw13_alive) := by
  unfold K_raddlelaw13_alive F_raddlelaw13_alive
  with_reducible repeat' (first | exact m_F_raddlelaw13_row _ | exact m_F_block_Fill _ _ _ | exact m_F_raddleref01_Zero _ _ | exact m_F_block_Units _ _ _ | exact m_F_block_Spell _ _ | exact m_F_raddleref01_Same _ _ | exact m_F_raddleref02_Same _ _ | exact Le.rfl _ | refine Le.loop _ ?_ | refine Le.bind ?_ ?_ | refine Le.ite ?_ ?_ | refine Le.sum ?_ ?_ | refine Le.prod ?_ | intro _ | exact Empty.elim (by assumption) | dsimp only)
end Go.Proofs.Ythfifeabomdlpaa
namespace Go.Proofs.Ythfifeabomdlpaa
open Go.RowKit
set_option linter.unusedVariables false

def K_block_Profile_l1 (z49 : Int) (p0 : api_Grid) (p1 : api_Grid) (s61 : Int) (p2 : api_Grid) : (Int × List Bool) → Option ((Int × List Bool) ⊕ ((api_Grid × Int) ⊕ (List Bool))) := fun s0 => match s0 with
  | (s81, s82) =>
    if decide (s81 < z49) then
      Option.bind (K_block_part p0 p1.W p1.H s81 s61) fun r97 =>
      Option.bind (K_grid_Same r97 p1) fun r106 =>
      Option.bind (α := Bool) (
        if !r106 then
          Option.bind (K_grid_Same r97 p2) fun r113 =>
          some (!r113)
        else
          some false) fun o109 =>
      if o109 then
        some (.inr (.inl ((api_Grid.mk 0 0 ([] : (List Bool))), 6)))
      else
        Option.bind (appO s82 [r106]) fun l119 =>
        some (.inl (w64 (s81 + 1), l119))
    else
      some (.inr (.inr s82))
def K_block_Profile_l2 (z51 : Int) (z49 : Int) (p0 : api_Grid) (p1 : api_Grid) (p2 : api_Grid) : (Int × List Bool) → Option ((Int × List Bool) ⊕ ((api_Grid × Int) ⊕ (List Bool))) := fun s0 => match s0 with
  | (s61, s62) =>
    if decide (s61 < z51) then
      Option.bind (α := List Bool ⊕ (api_Grid × Int)) (
        Option.bind (whileK (K_block_Profile_l1 z49 p0 p1 s61 p2) (0, s62)) fun z0 => match z0 with
          | .inl z =>
            some (.inr z)
          | .inr e88 =>
            some (.inl e88)) fun z0 => match z0 with
        | .inl o74 =>
          some (.inl (w64 (s61 + 1), o74))
        | .inr z =>
          some (.inr (.inl z))
    else
      some (.inr (.inr s62))
def K_block_Profile (p0 : api_Grid) (p1 : api_Grid) (p2 : api_Grid) : Option (api_Grid × Int) :=
  Option.bind (K_block_checked [p0, p1, p2]) fun r22 =>
  if r22 != 0 then
    some ((api_Grid.mk 0 0 ([] : (List Bool))), r22)
  else
    Option.bind (α := Bool) (
      Option.bind (K_block_alike p1 p2) fun r32 =>
      if !r32 then
        some true
      else
        Option.bind (remI p0.W p1.W) fun z35 =>
        if z35 != 0 then
          some true
        else
          Option.bind (remI p0.H p1.H) fun z38 =>
          some (z38 != 0)) fun o29 =>
    if o29 then
      some ((api_Grid.mk 0 0 ([] : (List Bool))), 26)
    else
      Option.bind (K_grid_Same p1 p2) fun r44 =>
      if r44 then
        some ((api_Grid.mk 0 0 ([] : (List Bool))), 14)
      else
        Option.bind (quoI p0.W p1.W) fun z49 =>
        Option.bind (quoI p0.H p1.H) fun z51 =>
        Option.bind (α := List Bool ⊕ (api_Grid × Int)) (
          Option.bind (whileK (K_block_Profile_l2 z51 z49 p0 p1 p2) (0, ([] : List Bool))) fun z0 => match z0 with
            | .inl z =>
              some (.inr z)
            | .inr e68 =>
              some (.inl e68)) fun z0 => match z0 with
          | .inl o55 =>
            some ((api_Grid.mk z49 z51 o55), 0)
          | .inr z =>
            some z
def K_block_Join_1_s0 (p0 : api_Grid) (p1 : (List api_Grid)) : Option Bool :=
  Option.bind (idxO p1 0) fun x11 =>
  Option.bind (K_block_alike p0 x11) fun r20 =>
  some (!r20)
def K_slices_IndexFunc___api_Grid_api_Grid__s1_l1 (p0 : (List api_Grid)) (p1 : (List api_Grid)) : Int → Option (Int ⊕ (Int ⊕ Unit)) := fun s0 => match s0 with
  | s7 =>
    if decide (s7 < (p0.length : Int)) then
      Option.bind (idxO p0 s7) fun x17 =>
      Option.bind (K_block_Join_1_s0 x17 p1) fun r26 =>
      if r26 then
        some (.inr (.inl s7))
      else
        some (.inl (w64 (s7 + 1)))
    else
      some (.inr (.inr ()))
def K_slices_IndexFunc___api_Grid_api_Grid__s1 (p0 : (List api_Grid)) (p1 : (List api_Grid)) : Option Int :=
  Option.bind (α := Unit ⊕ Int) (
    Option.bind (whileK (K_slices_IndexFunc___api_Grid_api_Grid__s1_l1 p0 p1) 0) fun z0 => match z0 with
      | .inl z =>
        some (.inr z)
      | .inr _ =>
        some (.inl ())) fun z0 => match z0 with
    | .inl _ =>
      some (-1)
    | .inr z =>
      some z
def K_slices_ContainsFunc___api_Grid_api_Grid__s0 (p0 : (List api_Grid)) (p1 : (List api_Grid)) : Option Bool :=
  Option.bind (K_slices_IndexFunc___api_Grid_api_Grid__s1 p0 p1) fun r5 =>
  some (decide (0 ≤ r5))
def K_block_Join_l1 (p1 : (List Int)) (p0 : (List api_Grid)) (p2 : Int) (r63 : (api_Grid × Int)) : (Int × List Bool) → Option ((Int × List Bool) ⊕ List Bool) := fun s0 => match s0 with
  | (s89, s90) =>
    if decide (s89 < (p1.length : Int)) then
      Option.bind (idxO p1 s89) fun x100 =>
      Option.bind (idxO p0 x100) fun x105 =>
      Option.bind (remI s89 p2) fun z114 =>
      Option.bind (quoI s89 p2) fun z116 =>
      Option.bind (K_block_put_s0 r63.1.W r63.1.H s90 x105 z114 z116) fun r118 =>
      some (.inl (w64 (s89 + 1), r118))
    else
      some (.inr s90)
def K_block_Join (p0 : (List api_Grid)) (p1 : (List Int)) (p2 : Int) : Option (api_Grid × Int) :=
  if (p0.length : Int) == 0 then
    some ((api_Grid.mk 0 0 ([] : (List Bool))), 6)
  else
    Option.bind (K_block_checked p0) fun r14 =>
    if r14 != 0 then
      some ((api_Grid.mk 0 0 ([] : (List Bool))), r14)
    else
      Option.bind (α := Bool) (
        Option.bind (K_slices_ContainsFunc___api_Grid_api_Grid__s0 p0 p0) fun r24 =>
        if r24 then
          some true
        else
          if decide (p2 < 1) then
            some true
          else
            if (p1.length : Int) == 0 then
              some true
            else
              Option.bind (remI (p1.length : Int) p2) fun z29 =>
              some (z29 != 0)) fun o21 =>
      if o21 then
        some ((api_Grid.mk 0 0 ([] : (List Bool))), 26)
      else
        Option.bind (K_block_index p1 (p0.length : Int)) fun r35 =>
        if !r35 then
          some ((api_Grid.mk 0 0 ([] : (List Bool))), 8)
        else
          Option.bind (α := Bool) (
            if decide (64 < p2) then
              some true
            else
              Option.bind (quoI (p1.length : Int) p2) fun z44 =>
              some (decide (64 < z44))) fun o40 =>
          if o40 then
            some ((api_Grid.mk 0 0 ([] : (List Bool))), 4)
          else
            Option.bind (idxO p0 0) fun x49 =>
            Option.bind (quoI (p1.length : Int) p2) fun z56 =>
            Option.bind (K_block_zero_s0 (w64 (p2 * x49.W)) (w64 (z56 * x49.H))) fun r63 =>
            if r63.2 != 0 then
              some ((api_Grid.mk 0 0 ([] : (List Bool))), r63.2)
            else
              Option.bind (α := List Bool) (
                Option.bind (whileK (K_block_Join_l1 p1 p0 p2 r63) (0, r63.1.Bits)) fun e94 =>
                  some e94) fun o85 =>
              some ((api_Grid.mk r63.1.W r63.1.H o85), 0)
def K_slices_Equal___int_int__l1 (p0 : (List Int)) (p1 : (List Int)) : Int → Option (Int ⊕ (Bool ⊕ Unit)) := fun s0 => match s0 with
  | s13 =>
    if decide (s13 < (p0.length : Int)) then
      Option.bind (idxO p0 s13) fun x23 =>
      Option.bind (idxO p1 s13) fun x28 =>
      if x23 != x28 then
        some (.inr (.inl false))
      else
        some (.inl (w64 (s13 + 1)))
    else
      some (.inr (.inr ()))
def K_slices_Equal___int_int_ (p0 : (List Int)) (p1 : (List Int)) : Option Bool :=
  if (p0.length : Int) != (p1.length : Int) then
    some false
  else
    Option.bind (α := Unit ⊕ Bool) (
      Option.bind (whileK (K_slices_Equal___int_int__l1 p0 p1) 0) fun z0 => match z0 with
        | .inl z =>
          some (.inr z)
        | .inr _ =>
          some (.inl ())) fun z0 => match z0 with
      | .inl _ =>
        some true
      | .inr z =>
        some z
def K_block_Blocks_l1 (y44 : List (List Int)) (x36 : (List Int)) : Int → Option (Int ⊕ (((List Int) × Int) ⊕ Unit)) := fun s0 => match s0 with
  | s48 =>
    if decide (s48 < (y44.length : Int)) then
      Option.bind (idxO y44 s48) fun x57 =>
      Option.bind (K_slices_Equal___int_int_ x36 x57) fun r65 =>
      if r65 then
        some (.inr (.inl (([] : (List Int)), 14)))
      else
        some (.inl (w64 (s48 + 1)))
    else
      some (.inr (.inr ()))
def K_block_Blocks_l2 (p1 : (List (List Int))) : Int → Option (Int ⊕ (((List Int) × Int) ⊕ Unit)) := fun s0 => match s0 with
  | s26 =>
    if decide (s26 < (p1.length : Int)) then
      Option.bind (α := Unit ⊕ ((List Int) × Int)) (
        Option.bind (idxO p1 s26) fun x36 =>
        Option.bind (sliceO p1 0 s26) fun y44 =>
        Option.bind (whileK (K_block_Blocks_l1 y44 x36) 0) fun z0 => match z0 with
          | .inl z =>
            some (.inr z)
          | .inr _ =>
            some (.inl ())) fun z0 => match z0 with
        | .inl _ =>
          some (.inl (w64 (s26 + 1)))
        | .inr z =>
          some (.inr (.inl z))
    else
      some (.inr (.inr ()))
def K_slices_Chunk___int_int_ (p0 : (List Int)) (p1 : Int) : Option ((List Int) × Int) :=
  if decide (p1 < 1) then
    none
  else
    some (p0, p1)
def K_slices_Chunk___int_int__1_l1 {σ τ : Type} (p0 : (List Int)) (p1 : Int) (B : σ → (List Int) → Option (σ ⊕ τ)) : (Int × σ) → Option ((Int × σ) ⊕ ((σ ⊕ τ) ⊕ (σ))) := fun s0 => match s0 with
  | (s2, gz3) =>
    if decide (s2 < (p0.length : Int)) then
      Option.bind (sliceO p0 s2 (p0.length : Int)) fun y20 =>
      Option.bind (slice3O p0 s2 (w64 (s2 + (if (y20.length : Int) < p1 then (y20.length : Int) else p1))) (w64 (s2 + (if (y20.length : Int) < p1 then (y20.length : Int) else p1)))) fun y35 =>
      Option.bind (B gz3 y35) fun y38 =>
      match y38 with
      | .inl gz40 =>
        some (.inl (w64 (s2 + p1), gz40))
      | .inr tz41 =>
        some (.inr (.inl (.inr tz41)))
    else
      some (.inr (.inr gz3))
def K_I_slices_Chunk___int_int__1 (p0 : (List Int)) (p1 : Int) (σ τ : Type) (B : σ → (List Int) → Option (σ ⊕ τ)) (gz0 : σ) : Option (σ ⊕ τ) :=
  Option.bind (whileK (K_slices_Chunk___int_int__1_l1 p0 p1 B) (0, gz0)) fun z0 => match z0 with
    | .inl z =>
      some z
    | .inr gz7 =>
      some (.inl gz7)
def K_block_Blocks_1_s0 (p0 : (List Int)) (p1 : (List Int)) : Option Bool :=
  Option.bind (K_slices_Equal___int_int_ p0 p1) fun r8 =>
  some r8
def K_slices_IndexFunc_____int___int__s1_l1 (p0 : (List (List Int))) (p1 : (List Int)) : Int → Option (Int ⊕ (Int ⊕ Unit)) := fun s0 => match s0 with
  | s7 =>
    if decide (s7 < (p0.length : Int)) then
      Option.bind (idxO p0 s7) fun x17 =>
      Option.bind (K_block_Blocks_1_s0 x17 p1) fun r24 =>
      if r24 then
        some (.inr (.inl s7))
      else
        some (.inl (w64 (s7 + 1)))
    else
      some (.inr (.inr ()))
def K_slices_IndexFunc_____int___int__s1 (p0 : (List (List Int))) (p1 : (List Int)) : Option Int :=
  Option.bind (α := Unit ⊕ Int) (
    Option.bind (whileK (K_slices_IndexFunc_____int___int__s1_l1 p0 p1) 0) fun z0 => match z0 with
      | .inl z =>
        some (.inr z)
      | .inr _ =>
        some (.inl ())) fun z0 => match z0 with
    | .inl _ =>
      some (-1)
    | .inr z =>
      some z
def K_block_Blocks_l4 (p1 : (List (List Int))) : List Int → (List Int) → Option (List Int ⊕ Unit) := fun s0 x0 => match s0, x0 with
  | s91, x94 =>
    Option.bind (K_slices_IndexFunc_____int___int__s1 p1 x94) fun r100 =>
    if decide (r100 < 0) then
      some (.inr ())
    else
      Option.bind (appO s91 ([r100] : List Int)) fun l108 =>
      some (.inl l108)
def K_block_Blocks (p0 : (List Int)) (p1 : (List (List Int))) : Option ((List Int) × Int) :=
  Option.bind (K_thread_Check p0) fun r11 =>
  if r11 != 0 then
    some (([] : (List Int)), r11)
  else
    Option.bind (K_block_spelled p1) fun r18 =>
    if r18 != 0 then
      some (([] : (List Int)), r18)
    else
      Option.bind (α := Unit ⊕ ((List Int) × Int)) (
        Option.bind (whileK (K_block_Blocks_l2 p1) 0) fun z0 => match z0 with
          | .inl z =>
            some (.inr z)
          | .inr _ =>
            some (.inl ())) fun z0 => match z0 with
        | .inl _ =>
          Option.bind (idxO p1 0) fun x70 =>
          Option.bind (remI (p0.length : Int) (x70.length : Int)) fun z79 =>
          if z79 != 0 then
            some (([] : (List Int)), 26)
          else
            Option.bind (K_slices_Chunk___int_int_ p0 (x70.length : Int)) fun r87 =>
            Option.bind (K_I_slices_Chunk___int_int__1 r87.1 r87.2 _ _ (K_block_Blocks_l4 p1) ([] : List Int)) fun z0 => match z0 with
              | .inl s91 =>
                some (s91, 0)
              | .inr _ =>
                some (([] : (List Int)), 6)
        | .inr z =>
          some z
theorem m_block_Profile_l1 (z49 : Int) (p0 : api_Grid) (p1 : api_Grid) (s61 : Int) (p2 : api_Grid) : ∀ s, Le (K_block_Profile_l1 z49 p0 p1 s61 p2 s) (block_Profile_l1 z49 p0 p1 s61 p2 s) := by
  unfold K_block_Profile_l1 block_Profile_l1
  with_reducible repeat' (first | exact m_F_block_part _ _ _ _ _ | exact m_F_grid_Same _ _ | exact Le.rfl _ | refine Le.loop _ ?_ | refine Le.bind ?_ ?_ | refine Le.ite ?_ ?_ | refine Le.sum ?_ ?_ | refine Le.prod ?_ | intro _ | exact Empty.elim (by assumption) | dsimp only)
theorem m_block_Profile_l2 (z51 : Int) (z49 : Int) (p0 : api_Grid) (p1 : api_Grid) (p2 : api_Grid) : ∀ s, Le (K_block_Profile_l2 z51 z49 p0 p1 p2 s) (block_Profile_l2 z51 z49 p0 p1 p2 s) := by
  unfold K_block_Profile_l2 block_Profile_l2
  with_reducible repeat' (first | exact m_block_Profile_l1 _ _ _ _ _ | exact Le.rfl _ | refine Le.loop _ ?_ | refine Le.bind ?_ ?_ | refine Le.ite ?_ ?_ | refine Le.sum ?_ ?_ | refine Le.prod ?_ | intro _ | exact Empty.elim (by assumption) | dsimp only)
theorem m_F_block_Profile (p0 : api_Grid) (p1 : api_Grid) (p2 : api_Grid) : Le (K_block_Profile p0 p1 p2) (F_block_Profile p0 p1 p2) := by
  unfold K_block_Profile F_block_Profile
  with_reducible repeat' (first | exact m_F_block_checked _ | exact m_F_block_alike _ _ | exact m_F_grid_Same _ _ | exact m_block_Profile_l2 _ _ _ _ _ | exact Le.rfl _ | refine Le.loop _ ?_ | refine Le.bind ?_ ?_ | refine Le.ite ?_ ?_ | refine Le.sum ?_ ?_ | refine Le.prod ?_ | intro _ | exact Empty.elim (by assumption) | dsimp only)
theorem m_F_block_Join_1_s0 (p0 : api_Grid) (p1 : (List api_Grid)) : Le (K_block_Join_1_s0 p0 p1) (F_block_Join_1_s0 p0 p1) := by
  unfold K_block_Join_1_s0 F_block_Join_1_s0
  with_reducible repeat' (first | exact m_F_block_alike _ _ | exact Le.rfl _ | refine Le.loop _ ?_ | refine Le.bind ?_ ?_ | refine Le.ite ?_ ?_ | refine Le.sum ?_ ?_ | refine Le.prod ?_ | intro _ | exact Empty.elim (by assumption) | dsimp only)
theorem m_slices_IndexFunc___api_Grid_api_Grid__s1_l1 (p0 : (List api_Grid)) (p1 : (List api_Grid)) : ∀ s, Le (K_slices_IndexFunc___api_Grid_api_Grid__s1_l1 p0 p1 s) (slices_IndexFunc___api_Grid_api_Grid__s1_l1 p0 p1 s) := by
  unfold K_slices_IndexFunc___api_Grid_api_Grid__s1_l1 slices_IndexFunc___api_Grid_api_Grid__s1_l1
  with_reducible repeat' (first | exact m_F_block_Join_1_s0 _ _ | exact Le.rfl _ | refine Le.loop _ ?_ | refine Le.bind ?_ ?_ | refine Le.ite ?_ ?_ | refine Le.sum ?_ ?_ | refine Le.prod ?_ | intro _ | exact Empty.elim (by assumption) | dsimp only)
theorem m_F_slices_IndexFunc___api_Grid_api_Grid__s1 (p0 : (List api_Grid)) (p1 : (List api_Grid)) : Le (K_slices_IndexFunc___api_Grid_api_Grid__s1 p0 p1) (F_slices_IndexFunc___api_Grid_api_Grid__s1 p0 p1) := by
  unfold K_slices_IndexFunc___api_Grid_api_Grid__s1 F_slices_IndexFunc___api_Grid_api_Grid__s1
  with_reducible repeat' (first | exact m_slices_IndexFunc___api_Grid_api_Grid__s1_l1 _ _ | exact Le.rfl _ | refine Le.loop _ ?_ | refine Le.bind ?_ ?_ | refine Le.ite ?_ ?_ | refine Le.sum ?_ ?_ | refine Le.prod ?_ | intro _ | exact Empty.elim (by assumption) | dsimp only)
theorem m_F_slices_ContainsFunc___api_Grid_api_Grid__s0 (p0 : (List api_Grid)) (p1 : (List api_Grid)) : Le (K_slices_ContainsFunc___api_Grid_api_Grid__s0 p0 p1) (F_slices_ContainsFunc___api_Grid_api_Grid__s0 p0 p1) := by
  unfold K_slices_ContainsFunc___api_Grid_api_Grid__s0 F_slices_ContainsFunc___api_Grid_api_Grid__s0
  with_reducible repeat' (first | exact m_F_slices_IndexFunc___api_Grid_api_Grid__s1 _ _ | exact Le.rfl _ | refine Le.loop _ ?_ | refine Le.bind ?_ ?_ | refine Le.ite ?_ ?_ | refine Le.sum ?_ ?_ | refine Le.prod ?_ | intro _ | exact Empty.elim (by assumption) | dsimp only)
theorem m_block_Join_l1 (p1 : (List Int)) (p0 : (List api_Grid)) (p2 : Int) (r63 : (api_Grid × Int)) : ∀ s, Le (K_block_Join_l1 p1 p0 p2 r63 s) (block_Join_l1 p1 p0 p2 r63 s) := by
  unfold K_block_Join_l1 block_Join_l1
  with_reducible repeat' (first | exact m_F_block_put_s0 _ _ _ _ _ _ | exact Le.rfl _ | refine Le.loop _ ?_ | refine Le.bind ?_ ?_ | refine Le.ite ?_ ?_ | refine Le.sum ?_ ?_ | refine Le.prod ?_ | intro _ | exact Empty.elim (by assumption) | dsimp only)
theorem m_F_block_Join (p0 : (List api_Grid)) (p1 : (List Int)) (p2 : Int) : Le (K_block_Join p0 p1 p2) (F_block_Join p0 p1 p2) := by
  unfold K_block_Join F_block_Join
  with_reducible repeat' (first | exact m_F_block_checked _ | exact m_F_slices_ContainsFunc___api_Grid_api_Grid__s0 _ _ | exact m_F_block_index _ _ | exact m_F_block_zero_s0 _ _ | exact m_block_Join_l1 _ _ _ _ | exact Le.rfl _ | refine Le.loop _ ?_ | refine Le.bind ?_ ?_ | refine Le.ite ?_ ?_ | refine Le.sum ?_ ?_ | refine Le.prod ?_ | intro _ | exact Empty.elim (by assumption) | dsimp only)
theorem m_slices_Equal___int_int__l1 (p0 : (List Int)) (p1 : (List Int)) : ∀ s, Le (K_slices_Equal___int_int__l1 p0 p1 s) (slices_Equal___int_int__l1 p0 p1 s) := by
  unfold K_slices_Equal___int_int__l1 slices_Equal___int_int__l1
  with_reducible repeat' (first | exact Le.rfl _ | refine Le.loop _ ?_ | refine Le.bind ?_ ?_ | refine Le.ite ?_ ?_ | refine Le.sum ?_ ?_ | refine Le.prod ?_ | intro _ | exact Empty.elim (by assumption) | dsimp only)
theorem m_F_slices_Equal___int_int_ (p0 : (List Int)) (p1 : (List Int)) : Le (K_slices_Equal___int_int_ p0 p1) (F_slices_Equal___int_int_ p0 p1) := by
  unfold K_slices_Equal___int_int_ F_slices_Equal___int_int_
  with_reducible repeat' (first | exact m_slices_Equal___int_int__l1 _ _ | exact Le.rfl _ | refine Le.loop _ ?_ | refine Le.bind ?_ ?_ | refine Le.ite ?_ ?_ | refine Le.sum ?_ ?_ | refine Le.prod ?_ | intro _ | exact Empty.elim (by assumption) | dsimp only)
theorem m_block_Blocks_l1 (y44 : List (List Int)) (x36 : (List Int)) : ∀ s, Le (K_block_Blocks_l1 y44 x36 s) (block_Blocks_l1 y44 x36 s) := by
  unfold K_block_Blocks_l1 block_Blocks_l1
  with_reducible repeat' (first | exact m_F_slices_Equal___int_int_ _ _ | exact Le.rfl _ | refine Le.loop _ ?_ | refine Le.bind ?_ ?_ | refine Le.ite ?_ ?_ | refine Le.sum ?_ ?_ | refine Le.prod ?_ | intro _ | exact Empty.elim (by assumption) | dsimp only)
theorem m_block_Blocks_l2 (p1 : (List (List Int))) : ∀ s, Le (K_block_Blocks_l2 p1 s) (block_Blocks_l2 p1 s) := by
  unfold K_block_Blocks_l2 block_Blocks_l2
  with_reducible repeat' (first | exact m_block_Blocks_l1 _ _ | exact Le.rfl _ | refine Le.loop _ ?_ | refine Le.bind ?_ ?_ | refine Le.ite ?_ ?_ | refine Le.sum ?_ ?_ | refine Le.prod ?_ | intro _ | exact Empty.elim (by assumption) | dsimp only)
theorem m_F_slices_Chunk___int_int_ (p0 : (List Int)) (p1 : Int) : Le (K_slices_Chunk___int_int_ p0 p1) (F_slices_Chunk___int_int_ p0 p1) := by
  unfold K_slices_Chunk___int_int_ F_slices_Chunk___int_int_
  with_reducible repeat' (first | exact Le.rfl _ | refine Le.loop _ ?_ | refine Le.bind ?_ ?_ | refine Le.ite ?_ ?_ | refine Le.sum ?_ ?_ | refine Le.prod ?_ | intro _ | exact Empty.elim (by assumption) | dsimp only)
theorem m_slices_Chunk___int_int__1_l1 {σ τ : Type} (p0 : (List Int)) (p1 : Int) (B B' : σ → (List Int) → Option (σ ⊕ τ)) (hB : ∀ s x, Le (B s x) (B' s x)) : ∀ s, Le (K_slices_Chunk___int_int__1_l1 p0 p1 B s) (slices_Chunk___int_int__1_l1 p0 p1 B' s) := by
  unfold K_slices_Chunk___int_int__1_l1 slices_Chunk___int_int__1_l1
  with_reducible repeat' (first | exact hB _ _ | exact Le.rfl _ | refine Le.loop _ ?_ | refine Le.bind ?_ ?_ | refine Le.ite ?_ ?_ | refine Le.sum ?_ ?_ | refine Le.prod ?_ | intro _ | exact Empty.elim (by assumption) | dsimp only)
theorem m_I_slices_Chunk___int_int__1 (p0 : (List Int)) (p1 : Int) (σ τ : Type) (B B' : σ → (List Int) → Option (σ ⊕ τ)) (hB : ∀ s x, Le (B s x) (B' s x)) (gz0 : σ) : Le (K_I_slices_Chunk___int_int__1 p0 p1 σ τ B gz0) (I_slices_Chunk___int_int__1 p0 p1 σ τ B' gz0) := by
  unfold K_I_slices_Chunk___int_int__1 I_slices_Chunk___int_int__1
  with_reducible repeat' (first | exact hB _ _ | exact m_slices_Chunk___int_int__1_l1 _ _ _ _ hB | exact Le.rfl _ | refine Le.loop _ ?_ | refine Le.bind ?_ ?_ | refine Le.ite ?_ ?_ | refine Le.sum ?_ ?_ | refine Le.prod ?_ | intro _ | exact Empty.elim (by assumption) | dsimp only)
theorem m_F_block_Blocks_1_s0 (p0 : (List Int)) (p1 : (List Int)) : Le (K_block_Blocks_1_s0 p0 p1) (F_block_Blocks_1_s0 p0 p1) := by
  unfold K_block_Blocks_1_s0 F_block_Blocks_1_s0
  with_reducible repeat' (first | exact m_F_slices_Equal___int_int_ _ _ | exact Le.rfl _ | refine Le.loop _ ?_ | refine Le.bind ?_ ?_ | refine Le.ite ?_ ?_ | refine Le.sum ?_ ?_ | refine Le.prod ?_ | intro _ | exact Empty.elim (by assumption) | dsimp only)
theorem m_slices_IndexFunc_____int___int__s1_l1 (p0 : (List (List Int))) (p1 : (List Int)) : ∀ s, Le (K_slices_IndexFunc_____int___int__s1_l1 p0 p1 s) (slices_IndexFunc_____int___int__s1_l1 p0 p1 s) := by
  unfold K_slices_IndexFunc_____int___int__s1_l1 slices_IndexFunc_____int___int__s1_l1
  with_reducible repeat' (first | exact m_F_block_Blocks_1_s0 _ _ | exact Le.rfl _ | refine Le.loop _ ?_ | refine Le.bind ?_ ?_ | refine Le.ite ?_ ?_ | refine Le.sum ?_ ?_ | refine Le.prod ?_ | intro _ | exact Empty.elim (by assumption) | dsimp only)
theorem m_F_slices_IndexFunc_____int___int__s1 (p0 : (List (List Int))) (p1 : (List Int)) : Le (K_slices_IndexFunc_____int___int__s1 p0 p1) (F_slices_IndexFunc_____int___int__s1 p0 p1) := by
  unfold K_slices_IndexFunc_____int___int__s1 F_slices_IndexFunc_____int___int__s1
  with_reducible repeat' (first | exact m_slices_IndexFunc_____int___int__s1_l1 _ _ | exact Le.rfl _ | refine Le.loop _ ?_ | refine Le.bind ?_ ?_ | refine Le.ite ?_ ?_ | refine Le.sum ?_ ?_ | refine Le.prod ?_ | intro _ | exact Empty.elim (by assumption) | dsimp only)
theorem m_block_Blocks_l4 (p1 : (List (List Int))) : ∀ s x, Le (K_block_Blocks_l4 p1 s x) (block_Blocks_l4 p1 s x) := by
  unfold K_block_Blocks_l4 block_Blocks_l4
  with_reducible repeat' (first | exact m_F_slices_IndexFunc_____int___int__s1 _ _ | exact Le.rfl _ | refine Le.loop _ ?_ | refine Le.bind ?_ ?_ | refine Le.ite ?_ ?_ | refine Le.sum ?_ ?_ | refine Le.prod ?_ | intro _ | exact Empty.elim (by assumption) | dsimp only)
theorem m_F_block_Blocks (p0 : (List Int)) (p1 : (List (List Int))) : Le (K_block_Blocks p0 p1) (F_block_Blocks p0 p1) := by
  unfold K_block_Blocks F_block_Blocks
  with_reducible repeat' (first | exact m_F_thread_Check _ | exact m_F_block_spelled _ | exact m_block_Blocks_l2 _ | exact m_F_slices_Chunk___int_int_ _ _ | refine m_I_slices_Chunk___int_int__1 _ _ _ _ _ _ ?_ _ | exact m_block_Blocks_l4 _ | exact Le.rfl _ | refine Le.loop _ ?_ | refine Le.bind ?_ ?_ | refine Le.ite ?_ ?_ | refine Le.sum ?_ ?_ | refine Le.prod ?_ | intro _ | exact Empty.elim (by assumption) | dsimp only)
set_option maxRecDepth 1000000 in
theorem kc_raddlelaw13_BlockNames_0 : F_raddlelaw13_row [true, false] = some (api_Grid.mk 2 1 [true, false]) := m_F_raddlelaw13_row _ _ (by kernel_rfl)
set_option maxRecDepth 1000000 in
theorem kc_raddlelaw13_BlockNames_1 : F_raddlelaw13_row [true] = some (api_Grid.mk 1 1 [true]) := m_F_raddlelaw13_row _ _ (by kernel_rfl)
set_option maxRecDepth 1000000 in
theorem kc_raddlelaw13_BlockNames_2 : F_raddlelaw13_row [false] = some (api_Grid.mk 1 1 [false]) := m_F_raddlelaw13_row _ _ (by kernel_rfl)
set_option maxRecDepth 1000000 in
theorem kc_raddlelaw13_BlockNames_3 : F_block_Fill ((api_Grid.mk 2 1 [true, false])) ((api_Grid.mk 1 1 [true])) ((api_Grid.mk 2 1 [true, false])) = some ((api_Grid.mk 0 0 []), 26) := m_F_block_Fill _ _ _ _ (by kernel_rfl)
set_option maxRecDepth 1000000 in
theorem kc_raddlelaw13_BlockNames_4 : F_raddleref01_Zero 33 1 = some (api_Grid.mk 33 1 [false, false, false, false, false, false, false, false, false, false, false, false, false, false, false, false, false, false, false, false, false, false, false, false, false, false, false, false, false, false, false, false, false]) := m_F_raddleref01_Zero _ _ _ (by kernel_rfl)
set_option maxRecDepth 1000000 in
theorem kc_raddlelaw13_BlockNames_5 : F_raddleref01_Zero 2 1 = some (api_Grid.mk 2 1 [false, false]) := m_F_raddleref01_Zero _ _ _ (by kernel_rfl)
set_option maxRecDepth 1000000 in
theorem kc_raddlelaw13_BlockNames_6 : F_block_Fill ((api_Grid.mk 33 1 [false, false, false, false, false, false, false, false, false, false, false, false, false, false, false, false, false, false, false, false, false, false, false, false, false, false, false, false, false, false, false, false, false])) ((api_Grid.mk 2 1 [false, false])) ((api_Grid.mk 2 1 [false, false])) = some ((api_Grid.mk 0 0 []), 4) := m_F_block_Fill _ _ _ _ (by kernel_rfl)
set_option maxRecDepth 1000000 in
theorem kc_raddlelaw13_BlockNames_7 : F_block_Fill (api_Grid.mk 0 0 ([] : (List Bool))) ((api_Grid.mk 1 1 [true])) ((api_Grid.mk 2 1 [true, false])) = some ((api_Grid.mk 0 0 []), 8) := m_F_block_Fill _ _ _ _ (by kernel_rfl)
set_option maxRecDepth 1000000 in
theorem kc_raddlelaw13_BlockNames_8 : F_block_Profile ((api_Grid.mk 2 1 [true, false])) ((api_Grid.mk 1 1 [true])) ((api_Grid.mk 1 1 [true])) = some ((api_Grid.mk 0 0 []), 14) := m_F_block_Profile _ _ _ _ (by kernel_rfl)
set_option maxRecDepth 1000000 in
theorem kc_raddlelaw13_BlockNames_9 : F_raddlelaw13_row [true, false, true] = some (api_Grid.mk 3 1 [true, false, true]) := m_F_raddlelaw13_row _ _ (by kernel_rfl)
set_option maxRecDepth 1000000 in
theorem kc_raddlelaw13_BlockNames_10 : F_raddlelaw13_row [true, true] = some (api_Grid.mk 2 1 [true, true]) := m_F_raddlelaw13_row _ _ (by kernel_rfl)
set_option maxRecDepth 1000000 in
theorem kc_raddlelaw13_BlockNames_11 : F_block_Profile ((api_Grid.mk 3 1 [true, false, true])) ((api_Grid.mk 2 1 [false, false])) ((api_Grid.mk 2 1 [true, true])) = some ((api_Grid.mk 0 0 []), 26) := m_F_block_Profile _ _ _ _ (by kernel_rfl)
set_option maxRecDepth 1000000 in
theorem kc_raddlelaw13_BlockNames_12 : F_block_Profile ((api_Grid.mk 2 1 [true, false])) ((api_Grid.mk 2 1 [false, false])) ((api_Grid.mk 2 1 [true, true])) = some ((api_Grid.mk 0 0 []), 6) := m_F_block_Profile _ _ _ _ (by kernel_rfl)
set_option maxRecDepth 1000000 in
theorem kc_raddlelaw13_BlockNames_13 : F_block_Units ((api_Grid.mk 2 1 [true, false])) 0 1 = some ([], ([], 26)) := m_F_block_Units _ _ _ _ (by kernel_rfl)
set_option maxRecDepth 1000000 in
theorem kc_raddlelaw13_BlockNames_14 : F_block_Units ((api_Grid.mk 2 1 [true, false])) 2 2 = some ([], ([], 26)) := m_F_block_Units _ _ _ _ (by kernel_rfl)
set_option maxRecDepth 1000000 in
theorem kc_raddlelaw13_BlockNames_15 : F_block_Join ([] : (List api_Grid)) ([0] : List Int) 1 = some ((api_Grid.mk 0 0 []), 6) := m_F_block_Join _ _ _ _ (by kernel_rfl)
set_option maxRecDepth 1000000 in
theorem kc_raddlelaw13_BlockNames_16 : F_block_Join [((api_Grid.mk 1 1 [true])), ((api_Grid.mk 2 1 [true, false]))] ([0] : List Int) 1 = some ((api_Grid.mk 0 0 []), 26) := m_F_block_Join _ _ _ _ (by kernel_rfl)
set_option maxRecDepth 1000000 in
theorem kc_raddlelaw13_BlockNames_17 : F_block_Join [((api_Grid.mk 1 1 [true]))] ([] : (List Int)) 1 = some ((api_Grid.mk 0 0 []), 26) := m_F_block_Join _ _ _ _ (by kernel_rfl)
set_option maxRecDepth 1000000 in
theorem kc_raddlelaw13_BlockNames_18 : F_block_Join [((api_Grid.mk 1 1 [true]))] ([1] : List Int) 1 = some ((api_Grid.mk 0 0 []), 8) := m_F_block_Join _ _ _ _ (by kernel_rfl)
set_option maxRecDepth 1000000 in
theorem kc_raddlelaw13_BlockNames_19 : F_block_Join [((api_Grid.mk 1 1 [true]))] ([0, 0, 0, 0, 0, 0, 0, 0, 0, 0, 0, 0, 0, 0, 0, 0, 0, 0, 0, 0, 0, 0, 0, 0, 0, 0, 0, 0, 0, 0, 0, 0, 0, 0, 0, 0, 0, 0, 0, 0, 0, 0, 0, 0, 0, 0, 0, 0, 0, 0, 0, 0, 0, 0, 0, 0, 0, 0, 0, 0, 0, 0, 0, 0, 0]) 65 = some ((api_Grid.mk 0 0 []), 4) := m_F_block_Join _ _ _ _ (by kernel_rfl)
set_option maxRecDepth 1000000 in
theorem kc_raddlelaw13_BlockNames_20 : F_block_Join [((api_Grid.mk 1 1 [true]))] ([0] : List Int) 0 = some ((api_Grid.mk 0 0 []), 26) := m_F_block_Join _ _ _ _ (by kernel_rfl)
set_option maxRecDepth 1000000 in
theorem kc_raddlelaw13_BlockNames_21 : F_block_Spell ([0] : List Int) ([] : (List (List Int))) = some ([], 2) := m_F_block_Spell _ _ _ (by kernel_rfl)
set_option maxRecDepth 1000000 in
theorem kc_raddlelaw13_BlockNames_22 : F_block_Spell ([0] : List Int) [([] : List Int)] = some ([], 26) := m_F_block_Spell _ _ _ (by kernel_rfl)
set_option maxRecDepth 1000000 in
theorem kc_raddlelaw13_BlockNames_23 : F_block_Spell ([1] : List Int) [([1] : List Int)] = some ([], 8) := m_F_block_Spell _ _ _ (by kernel_rfl)
set_option maxRecDepth 1000000 in
theorem kc_raddlelaw13_BlockNames_24 : F_block_Spell ([0, 0, 0, 0, 0, 0, 0, 0, 0, 0, 0, 0, 0, 0, 0, 0, 0, 0, 0, 0, 0, 0, 0, 0, 0, 0, 0, 0, 0, 0, 0, 0, 0, 0, 0, 0, 0, 0, 0, 0, 0, 0, 0, 0, 0, 0, 0, 0, 0, 0, 0, 0, 0, 0, 0, 0, 0, 0, 0, 0, 0, 0, 0, 0, 0, 0, 0, 0, 0, 0, 0, 0, 0, 0, 0, 0, 0, 0, 0, 0, 0, 0, 0, 0, 0, 0, 0, 0, 0, 0, 0, 0, 0, 0, 0, 0, 0, 0, 0, 0, 0, 0, 0, 0, 0, 0, 0, 0, 0, 0, 0, 0, 0, 0, 0, 0, 0, 0, 0, 0, 0, 0, 0, 0, 0, 0, 0, 0, 0, 0, 0, 0, 0, 0, 0, 0, 0, 0, 0, 0, 0, 0, 0, 0, 0, 0, 0, 0, 0, 0, 0, 0, 0, 0, 0, 0, 0, 0, 0, 0, 0, 0, 0, 0, 0, 0, 0, 0, 0, 0, 0, 0, 0, 0, 0, 0, 0, 0, 0, 0, 0, 0, 0, 0, 0, 0, 0, 0, 0, 0, 0, 0, 0, 0, 0, 0, 0, 0, 0, 0, 0]) [([1, 2] : List Int)] = some ([], 4) := m_F_block_Spell _ _ _ (by kernel_rfl)
set_option maxRecDepth 1000000 in
theorem kc_raddlelaw13_BlockNames_25 : F_block_Blocks ([1] : List Int) [([1] : List Int), ([1] : List Int)] = some ([], 14) := m_F_block_Blocks _ _ _ (by kernel_rfl)
set_option maxRecDepth 1000000 in
theorem kc_raddlelaw13_BlockNames_26 : F_block_Blocks ([1, 2, 3] : List Int) [([1, 2] : List Int)] = some ([], 26) := m_F_block_Blocks _ _ _ (by kernel_rfl)
set_option maxRecDepth 1000000 in
theorem kc_raddlelaw13_BlockNames_27 : F_block_Blocks ([1, 3] : List Int) [([1, 2] : List Int)] = some ([], 6) := m_F_block_Blocks _ _ _ (by kernel_rfl)
set_option maxRecDepth 1000000 in
theorem kc_raddlelaw13_BlockNames_28 : F_block_Profile ((api_Grid.mk 2 1 [true, false])) ((api_Grid.mk 1 1 [true])) ((api_Grid.mk 1 1 [false])) = some ((api_Grid.mk 2 1 [true, false]), 0) := m_F_block_Profile _ _ _ _ (by kernel_rfl)
set_option maxRecDepth 1000000 in
theorem kc_raddlelaw13_BlockNames_29 : F_raddlelaw13_alive = some true := m_F_raddlelaw13_alive _ (by kernel_rfl)
set_option maxRecDepth 1000000 in
theorem kc_raddlelaw13_BlockNames_30 : F_raddleref01_Same (((api_Grid.mk 2 1 [true, false]), 0)).1 ((api_Grid.mk 2 1 [true, false])) = some true := m_F_raddleref01_Same _ _ _ (by kernel_rfl)
end Go.Proofs.Ythfifeabomdlpaa
