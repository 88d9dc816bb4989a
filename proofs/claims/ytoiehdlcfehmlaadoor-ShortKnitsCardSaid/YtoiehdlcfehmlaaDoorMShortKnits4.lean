/- Several texts in one: G30 G24 G8 G9 KeAlive G15 KvAlive PlA PlB PlS PlU -/
import Derived.WalkKit
import Derived.Maps.AppendAt
import Derived.Deep.AppendLies
import Derived.KernelRfl
import Derived.Laws.OwnMore
import Derived.Great.BuildSlice
import Derived.Orders
import Derived.Laws.StructEq
import Derived.ChangeKeysEq
import Derived.Defers
import Derived.Laws.BytesString
import Derived.RangeFuncNested
import Derived.RangeFuncBound
import Derived.RangeFuncCalls
import Derived.RangeFuncLeaves
import Derived.OrdersIn
import Derived.LoopNIn
import Derived.Test.YtoiehdlcfehmlaaDoorProg
import Derived.ProofKit
import Derived.OpenShut
import Derived.ChangeOld
import Derived.Deep.Slices
import Derived.Lib.SmallJoins
import Derived.JoinedOf
import Derived.JoinedAt
import Derived.Below
import Derived.Shelf.Strings.Builder1
import Derived.Shelf.Strings.Builder2
import Derived.Shelf.Strings.OnBuilder
import Derived.Test.YtoiehdlcfehmlaaDoorRows
import Derived.LaidMore
import Derived.SevenTiedAt
import Derived.Test.YtoiehdlcfehmlaaDoorCards
import Derived.Test.YtoiehdlcfehmlaaDoorTie
import Derived.Test.YtoiehdlcfehmlaaDoorMShortKnits3
namespace Go.Proofs.YtoiehdlcfehmlaaDoor
open Go.RowKit
set_option linter.unusedVariables false

def anc_stitch_text_0 : List (List Nat) := [[], [], [0, 1], [0, 1, 2], [0, 1, 2, 3], [0, 1, 2, 3, 4], [0, 1, 2, 3, 4, 5], [0, 1, 2, 3, 4, 5, 6], [0, 1, 2, 3, 4, 5, 6], [0, 1, 2, 3, 4, 5, 6, 7, 8], [0, 1, 2, 3, 4, 5, 6], [0, 1, 2, 3, 4, 5, 6, 10], [0, 1, 2, 3, 4, 5, 6, 7, 8, 9, 10, 11], [0, 1, 2, 3, 4, 5, 6, 7, 8, 9, 10, 11, 12], [0, 1, 2, 3, 4, 5, 6, 7, 8, 9, 10, 11, 12, 13], [0, 1, 2, 3, 4, 5, 6, 7, 8, 9, 10, 11, 12, 13, 14], [0, 1, 2, 3, 4, 5, 6, 7, 8, 9, 10, 11, 12, 13, 14], [0, 1, 2, 3, 4, 5, 6, 7, 8, 9, 10, 11, 12, 13, 14], [0, 1, 2, 3, 4, 5, 6, 7, 8, 9, 10, 11, 12, 13, 14, 16, 17], [0, 1, 2, 3, 4, 5, 6, 7, 8, 9, 10, 11, 12, 13, 14, 15, 16, 17, 18], [0, 1, 2, 3, 4, 5, 6, 7, 8, 9, 10, 11, 12, 13, 14, 15, 16, 17, 18, 19], [0, 1, 2, 3, 4, 5, 6, 7, 8, 9, 10, 11, 12, 13, 14], [0, 1, 2, 3, 4, 5, 6, 7, 8, 9, 10, 11, 12, 13, 14], [0, 1, 2, 3, 4, 5, 6, 7, 8, 9, 10, 11, 12, 13, 14, 21, 22], [0, 1, 2, 3, 4, 5, 6, 7, 8, 9, 10, 11, 12, 13, 14, 21, 22, 23], [0, 1, 2, 3, 4, 5, 6, 7, 8, 9, 10, 11, 12, 13, 14, 15, 16, 17, 18, 19, 20, 21, 22, 23, 24], [0, 1, 2, 3, 4, 5, 6, 7, 8, 9, 10, 11, 12, 13, 14, 15, 16, 17, 18, 19, 20, 21, 22, 23, 24, 25]]
noncomputable def stitch_text_l1 (p0 : (List api_Stitch)) (s14 : Int) : Int → Option (Int ⊕ Int) := fun s0 => match s0 with
  | s28 =>
    Option.bind (α := Bool) (
      Option.bind (idxO p0 s14) fun x37 =>
      if x37.Kind == 1 then
        if decide ((w64 (s14 + s28)) < (p0.length : Int)) then
          Option.bind (idxO p0 (w64 (s14 + s28))) fun x46 =>
          some ((x46.Kind == x37.Kind) && ((x46.Purl == x37.Purl) && ((x46.A == x37.A) && ((x46.B == x37.B) && true))))
        else
          some false
      else
        some false) fun o34 =>
    if o34 then
      some (.inl (w64 (s28 + 1)))
    else
      some (.inr s28)
noncomputable def stitch_text_l2 (p0 : (List api_Stitch)) : (List ByteArray × Int) → Option ((List ByteArray × Int) ⊕ List ByteArray) := fun s0 => match s0 with
  | (s11, s14) =>
    if decide (s14 < (p0.length : Int)) then
      Option.bind (α := Int) (
        Option.bind (whileO (stitch_text_l1 p0 s14) 1) fun e32 =>
          some e32) fun o25 =>
      Option.bind (idxO p0 s14) fun x77 =>
      Option.bind (F_stitch_word x77) fun r82 =>
      Option.bind (α := ByteArray) (
        if decide (1 < o25) then
          Option.bind (F_strconv_Itoa o25) fun r89 =>
          Option.bind (addS r82 r89) fun z91 =>
          some z91
        else
          some r82) fun o84 =>
      Option.bind (appO s11 [o84]) fun l96 =>
      some (.inl (l96, w64 (s14 + o25)))
    else
      some (.inr s11)
noncomputable def F_stitch_text (p0 : (List api_Stitch)) : Option ByteArray :=
  Option.bind (α := List ByteArray) (
    Option.bind (whileO (stitch_text_l2 p0) (([] : List ByteArray), 0)) fun e18 =>
      some e18) fun o5 =>
  Option.bind (F_strings_Join o5 (⟨#[32]⟩ : ByteArray)) fun r101 =>
  some r101
set_option maxHeartbeats 4000000 in
set_option maxRecDepth 100000 in
theorem c_stitch_text (E : Nat → Prop) (w0 : World) (p0 : (List api_Stitch)) (v0 : Value) (r : ByteArray) (h : F_stitch_text p0 = some r) (S : St0 E [] w0 w0 [] [fRep (rL r_api_Stitch) (v0) p0]) :
    Calls Tryd.prog 30 #[v0] w0 (Ret (X := Unit) E [] w0 (fun _ => .string r) (fun _ => []) (fun _ => [])) := by
  unfold F_stitch_text at h
  obtain ⟨ad1, cp2, _, rfl, _⟩ := S.know (i := 0) (e := fRep (rL r_api_Stitch) (v0) p0) rfl
  refine sEnter (args := [.slice ad1 p0.length cp2]) 60 Tryd.func30 rfl rfl (by simp) S (fun a S => ?_)
  refine sSeq (fun K3 hK3 => ?_)
  refine sRegion ?_
  refine sMove (.string (⟨#[]⟩ : ByteArray)) S (wN rfl) (.inr rfl) rfl rfl (lb rfl) fun a S => ?_
  refine leafL (leafT (hK3 _ _ ?_))
  refine sSeq (fun K4 hK4 => ?_)
  refine sRegion ?_
  refine sMove (.slice none 0 0) S (wN rfl) (.inr rfl) rfl rfl (lb rfl) fun a S => ?_
  refine leafL (leafT (hK4 _ _ ?_))
  obtain ⟨t8, h, g9⟩ := bindSome h
  refine sCut (fun a w => ∃ o5, o5 = t8 ∧ ∃ ad6, ∃ cp7, St [] E [] w0 60 a w [(3, .slice ad6 o5.length cp7)] [eRow rS 9 (.slice ad6 o5.length cp7) o5] []) ?_ (fun a w hI => ?_)
  rotate_left
  · obtain ⟨o5, rfl, ad6, cp7, S⟩ := hI
    have h := g9
    clear g9
    try dsimp only at h
    refine sSeq (fun K100 hK100 => ?_)
    refine sRegion ?_
    refine sMove (.slice ad6 o5.length cp7) S (wN rfl) (.inl rfl) rfl rfl (lb rfl) fun a S => ?_
    obtain ⟨r101, hx102, h⟩ := bindSome h
    have S1 := S.mem
    have S1 := S1.shutR (r := rS) (T := 9) (v := .slice ad6 o5.length cp7) (xs := o5) 0 rfl
    refine sCallQ (X := Unit) (f := 38) (vs := [.slice ad6 o5.length cp7, .string (⟨#[32]⟩ : ByteArray)]) (val := fun _ => .string r101) S (wN rfl) rfl callee38 rfl (S1.quiet [0] rfl) (fun E1 w1 S1 => c_strings_Join E1 w1 o5 (.slice ad6 o5.length cp7) (⟨#[32]⟩ : ByteArray) r101 hx102 S1) rfl (lb rfl) fun _ a w S => ?_
    refine sMove (.string r101) S (wN rfl) (.inr rfl) rfl rfl (lb rfl) fun a S => ?_
    refine leafL (leafT (hK100 _ _ ?_))
    obtain rfl := Option.some.inj h
    exact wp_ret (sRet (.string r101) S (rsl1 rfl (rvT (t := 2) (v := .string r101) S rfl)) ⟨(), rfl, S.mem.sel [] [] (by decide) rfl rfl⟩)
  refine sSeq (fun K10 hK10 => ?_)
  refine sRegion ?_
  refine sMove (iv 0) S (wN rfl) (.inr rfl) rfl rfl (lb rfl) fun a S => ?_
  refine leafL (leafT (hK10 _ _ ?_))
  refine wp_block ?_
  have S := S.nilRow rS 9 (α := ByteArray)
  obtain ⟨t17, hl, g16⟩ := bindSome h
  refine sLoop hl (fun s0 a w => match s0 with | (s11, s14) => ∃ ad12, ∃ cp13, St [] E [] w0 60 a w [(0, .slice ad1 p0.length cp2), (3, .slice ad12 s11.length cp13), (4, iv s14)] [eRow rS 9 (.slice ad12 s11.length cp13) s11] [fRep (rL r_api_Stitch) (.slice ad1 p0.length cp2) p0]) ⟨none, 0, S.fix [0] [0] (by decide) rfl rfl rfl⟩ ?_
  clear hl h
  intro s0 a w c0 hI h hu15
  obtain ⟨s11, s14⟩ := s0
  unfold stitch_text_l2 at h
  dsimp only at h hI
  obtain ⟨ad12, cp13, S⟩ := hI
  refine sSeq (fun K21 hK21 => ?_)
  refine sSeq (fun K22 hK22 => ?_)
  refine sRegion ?_
  refine sMove (iv s14) S (wN rfl) (.inl rfl) rfl rfl (lb rfl) fun a S => ?_
  refine sMove (.slice ad1 p0.length cp2) S (wN rfl) (.inl rfl) rfl rfl (lb rfl) fun a S => ?_
  refine sLen (ad := ad1) (m := p0.length) (c := cp2) S (wN rfl) rfl Tryd.underlying39 rfl rfl (lb rfl) fun a S => ?_
  refine sBin (.bool (decide (s14 < (p0.length : Int)))) S (wN rfl) rfl rfl rfl (bLt _ _ _ _ .i64 s14 (p0.length : Int)) rfl (lb rfl) fun a S => ?_
  refine leafL (leafT (hK22 _ _ ?_))
  rcases iteSome h with ⟨hc23, h⟩ | ⟨hc23, h⟩
  rotate_left
  · refine sCondF S rfl hc23 ?_
    obtain rfl := Option.some.inj h
    obtain rfl := hu15 _ rfl
    have h := g16
    clear g16
    try dsimp only at h
    exact wp_exit (xThen (xThen (xHit (leafT (⟨s11, Option.some.inj h, ad12, cp13, S.fix [0] [] (by decide) rfl rfl rfl⟩)))))
  refine sCondT S rfl hc23 ?_
  refine wp_skip (leafT (hK21 _ _ ?_))
  refine wp_block ?_
  refine sSeq (fun K24 hK24 => ?_)
  refine sRegion ?_
  refine sMove (iv 1) S (wN rfl) (.inr rfl) rfl rfl (lb rfl) fun a S => ?_
  refine leafL (leafT (hK24 _ _ ?_))
  obtain ⟨t26, h, g27⟩ := bindSome h
  refine sCut (fun a w => ∃ o25, o25 = t26 ∧ St [] E [] w0 60 a w [(0, .slice ad1 p0.length cp2), (3, .slice ad12 s11.length cp13), (4, iv s14), (5, iv o25)] [eRow rS 9 (.slice ad12 s11.length cp13) s11] [fRep (rL r_api_Stitch) (.slice ad1 p0.length cp2) p0]) ?_ (fun a w hI => ?_)
  rotate_left
  · obtain ⟨o25, rfl, S⟩ := hI
    have h := g27
    clear g27
    try dsimp only at h
    refine sSeq (fun K76 hK76 => ?_)
    refine sRegion ?_
    refine sMove (.slice ad1 p0.length cp2) S (wN rfl) (.inl rfl) rfl rfl (lb rfl) fun a S => ?_
    refine sMove (iv s14) S (wN rfl) (.inl rfl) rfl rfl (lb rfl) fun a S => ?_
    obtain ⟨x77, hx78, h⟩ := bindSome h
    obtain ⟨q79, hq80, S⟩ := pIdx (P := Tryd.prog) (r := r_api_Stitch) (v := .slice ad1 p0.length cp2) (xs := p0) (j := s14) 39 38 0 S Tryd.underlying39 rfl rfl hx78
    refine sIdxV (v := .slice ad1 p0.length cp2) (k := .i64) (j := s14) S (wN rfl) rfl rfl rfl hq80 rfl (lb rfl) fun a S => ?_
    obtain ⟨u81, S⟩ := pLoad (r := r_api_Stitch) (q := q79) (x := x77) 0 S rfl
    obtain rfl : u81 = .agg #[.int .u8 x77.Kind, .bool x77.Purl, iv x77.A, iv x77.B] := S.mem.know (i := 1) (e := fRep r_api_Stitch (u81) x77) rfl
    refine sLoadVN (vq := q79) 0 [.int .u8 x77.Kind, .bool x77.Purl, iv x77.A, iv x77.B] S (wN rfl) rfl rfl rfl rfl rfl rfl (lb rfl) fun a S => ?_
    obtain ⟨r82, hx83, h⟩ := bindSome h
    have S1 := S.mem
    refine sCallQ (X := Unit) (f := 36) (vs := [.agg #[.int .u8 x77.Kind, .bool x77.Purl, iv x77.A, iv x77.B]]) (val := fun _ => .string r82) S (wN rfl) rfl callee36 rfl (S1.quiet [1] rfl) (fun E1 w1 S1 => c_stitch_word E1 w1 x77 (.agg #[.int .u8 x77.Kind, .bool x77.Purl, iv x77.A, iv x77.B]) r82 hx83 S1) rfl (lb rfl) fun _ a w S => ?_
    refine sMove (.string r82) S (wN rfl) (.inr rfl) rfl rfl (lb rfl) fun a S => ?_
    refine leafL (leafT (hK76 _ _ ?_))
    obtain ⟨t85, h, g86⟩ := bindSome h
    refine sCut (fun a w => ∃ o84, o84 = t85 ∧ St [] E [] w0 60 a w [(0, .slice ad1 p0.length cp2), (3, .slice ad12 s11.length cp13), (4, iv s14), (5, iv o25), (6, .string o84)] [eRow rS 9 (.slice ad12 s11.length cp13) s11] [fRep (rL r_api_Stitch) (.slice ad1 p0.length cp2) p0]) ?_ (fun a w hI => ?_)
    · refine sSeq (fun K87 hK87 => ?_)
      refine sRegion ?_
      refine sMove (iv o25) S (wN rfl) (.inl rfl) rfl rfl (lb rfl) fun a S => ?_
      refine sBin (.bool (decide (1 < o25))) S (wN rfl) rfl rfl rfl (bGt _ _ _ _ .i64 o25 1) rfl (lb rfl) fun a S => ?_
      refine leafL (leafT (hK87 _ _ ?_))
      rcases iteSome h with ⟨hc88, h⟩ | ⟨hc88, h⟩
      rotate_left
      · refine sCondF S rfl hc88 ?_
        exact wp_skip (leafT (⟨r82, Option.some.inj h, S.fix [0] [3] (by decide) rfl rfl rfl⟩))
      refine sCondT S rfl hc88 ?_
      refine sRegion ?_
      refine sMove (.string r82) S (wN rfl) (.inl rfl) rfl rfl (lb rfl) fun a S => ?_
      refine sMove (iv o25) S (wN rfl) (.inl rfl) rfl rfl (lb rfl) fun a S => ?_
      obtain ⟨r89, hx90, h⟩ := bindSome h
      have S1 := S.mem
      refine sCallQ (X := Unit) (f := 37) (vs := [iv o25]) (val := fun _ => .string r89) S (wN rfl) rfl callee37 rfl (S1.quiet [] rfl) (fun E1 w1 S1 => c_strconv_Itoa E1 w1 o25 r89 hx90 S1) rfl (lb rfl) fun _ a w S => ?_
      obtain ⟨z91, hx92, h⟩ := bindSome h
      refine sBin (.string z91) S (wN rfl) rfl rfl rfl (bAddS _ _ _ _ (x := r82) (y := r89) hx92) rfl (lb rfl) fun a S => ?_
      refine sMove (.string z91) S (wN rfl) (.inr rfl) rfl rfl (lb rfl) fun a S => ?_
      exact leafL (leafT (⟨z91, Option.some.inj h, S.fix [0] [3] (by decide) rfl rfl rfl⟩))
    obtain ⟨o84, rfl, S⟩ := hI
    have h := g86
    clear g86
    try dsimp only at h
    refine sSeq (fun K93 hK93 => ?_)
    refine sRegion ?_
    refine sMove (.slice ad12 s11.length cp13) S (wN rfl) (.inl rfl) rfl rfl (lb rfl) fun a S => ?_
    refine sMove (.string o84) S (wN rfl) (.inl rfl) rfl rfl (lb rfl) fun a S => ?_
    refine sLit (r := rS) (T := 9) (xs := [o84]) [(0, .string o84)] 1 [.string o84] [.string o84] (.string (⟨#[]⟩ : ByteArray)) 16 S (wN rfl) rfl rfl Tryd.underlying77 rfl (by decide) (by decide) (by kernel_rfl) rfl (fun E1 w1 hE => All.cons rfl (All.nil _ _ _)) rfl rfl (lb rfl) fun a w ad94 cp95 S => ?_
    obtain ⟨l96, hx97, h⟩ := bindSome h
    refine sApp (r := rS) (T := 9) (xs := s11) (ys := [o84]) (v := .slice ad12 s11.length cp13) (u := .slice ad94 [o84].length cp95) 1 (.string (⟨#[]⟩ : ByteArray)) 16 S (wN rfl) rfl Tryd.underlying77 rfl rfl (by decide) rfl rfl rfl (src_R (T := 9) 0 S.mem rfl) hx97 rfl (lb rfl) fun a w ad98 cp99 S => ?_
    refine sMove (.slice ad98 l96.length cp99) S (wN rfl) (.inr rfl) rfl rfl (lb rfl) fun a S => ?_
    refine leafL (leafT (hK93 _ _ ?_))
    refine sRegion ?_
    refine sMove (iv s14) S (wN rfl) (.inl rfl) rfl rfl (lb rfl) fun a S => ?_
    refine sMove (iv o25) S (wN rfl) (.inl rfl) rfl rfl (lb rfl) fun a S => ?_
    refine sBin (iv (w64 (s14 + o25))) S (wN rfl) rfl rfl rfl (bAdd _ _ _ _ s14 o25) rfl (lb rfl) fun a S => ?_
    refine sMove (iv (w64 (s14 + o25))) S (wN rfl) (.inr rfl) rfl rfl (lb rfl) fun a S => ?_
    exact leafL (leafB (leafT (⟨(l96, w64 (s14 + o25)), (Option.some.inj h).symm, ⟨ad98, cp99, S.fix [0] [0] (by decide) rfl rfl rfl⟩⟩)))
  refine wp_block ?_
  obtain ⟨t31, hl, g30⟩ := bindSome h
  refine sLoop hl (fun s0 a w => match s0 with | s28 => St [] E [] w0 60 a w [(0, .slice ad1 p0.length cp2), (3, .slice ad12 s11.length cp13), (4, iv s14), (5, iv s28)] [eRow rS 9 (.slice ad12 s11.length cp13) s11] [fRep (rL r_api_Stitch) (.slice ad1 p0.length cp2) p0]) (S.fix [0] [0] (by decide) rfl rfl rfl) ?_
  clear hl h
  intro s28 a w c0 hI h hu29
  unfold stitch_text_l1 at h
  dsimp only at h hI
  have S := hI
  refine sSeq (fun K33 hK33 => ?_)
  obtain ⟨t35, h, g36⟩ := bindSome h
  refine sCut (fun a w => ∃ o34, o34 = t35 ∧ St [] E [] w0 60 a w [(0, .slice ad1 p0.length cp2), (3, .slice ad12 s11.length cp13), (4, iv s14), (5, iv s28), (37, .bool o34)] [eRow rS 9 (.slice ad12 s11.length cp13) s11] [fRep (rL r_api_Stitch) (.slice ad1 p0.length cp2) p0]) ?_ (fun a w hI => ?_)
  rotate_left
  · obtain ⟨o34, rfl, S⟩ := hI
    have h := g36
    clear g36
    try dsimp only at h
    rcases iteSome h with ⟨hc75, h⟩ | ⟨hc75, h⟩
    rotate_left
    · refine sCondF S rfl hc75 ?_
      obtain rfl := Option.some.inj h
      obtain rfl := hu29 _ rfl
      have h := g30
      clear g30
      try dsimp only at h
      exact wp_exit (xThen (xThen (xHit (leafT (⟨s28, Option.some.inj h, S.fix [0] [0] (by decide) rfl rfl rfl⟩)))))
    refine sCondT S rfl hc75 ?_
    refine wp_skip (leafT (hK33 _ _ ?_))
    refine wp_block ?_
    refine sRegion ?_
    refine sMove (iv s28) S (wN rfl) (.inl rfl) rfl rfl (lb rfl) fun a S => ?_
    refine sBin (iv (w64 (s28 + 1))) S (wN rfl) rfl rfl rfl (bAdd _ _ _ _ s28 1) rfl (lb rfl) fun a S => ?_
    refine sMove (iv (w64 (s28 + 1))) S (wN rfl) (.inr rfl) rfl rfl (lb rfl) fun a S => ?_
    exact leafL (leafB (leafT (⟨w64 (s28 + 1), (Option.some.inj h).symm, (S.fix [0] [0] (by decide) rfl rfl rfl)⟩)))
  obtain ⟨x37, hx38, h⟩ := bindSome h
  rcases iteSome h with ⟨hc44, h⟩ | ⟨hc44, h⟩
  rotate_left
  · obtain ⟨q70, hq71, S⟩ := pIdx (P := Tryd.prog) (r := r_api_Stitch) (v := .slice ad1 p0.length cp2) (xs := p0) (j := s14) 39 38 0 S Tryd.underlying39 rfl rfl hx38
    obtain ⟨q72, hq73, S⟩ := pFld (P := Tryd.prog) (r := r_api_Stitch) (s2 := (rI .u8)) (g := (·.Kind)) (q := q70) (z := x37) 38 0 0 0 S rfl rfl comp_api_Stitch_Kind
    obtain ⟨u74, S⟩ := pLoad (r := (rI .u8)) (q := q72) (x := x37.Kind) 0 S rfl
    obtain rfl : u74 = .int .u8 x37.Kind := S.mem.know (i := 1) (e := fRep (rI .u8) (u74) x37.Kind) rfl
    refine sDraw (nf := []) (W := [(0, 11, .slice ad1 p0.length cp2), (1, 12, iv s14), (2, 13, q70), (3, 14, q72), (4, 15, .int .u8 x37.Kind), (5, 16, .bool (x37.Kind == 1)), (6, 17, .bool (x37.Kind == 1)), (7, 18, undef), (8, 19, undef), (9, 20, undef), (10, 21, undef), (11, 22, undef), (12, 23, undef), (13, 24, .bool false), (14, 25, .bool false), (15, 26, undef), (16, 27, undef), (17, 28, undef), (18, 29, undef), (19, 30, undef), (20, 31, undef), (21, 32, undef), (22, 33, undef), (23, 34, undef), (24, 35, undef), (25, 36, undef), (26, 37, .bool false)]) rfl S ?_
    refine node_by (A := anc_stitch_text_0) (nf := []) (Y := []) (W := [(0, 11, .slice ad1 p0.length cp2), (1, 12, iv s14), (2, 13, q70), (3, 14, q72), (4, 15, .int .u8 x37.Kind), (5, 16, .bool (x37.Kind == 1)), (6, 17, .bool (x37.Kind == 1)), (7, 18, undef), (8, 19, undef), (9, 20, undef), (10, 21, undef), (11, 22, undef), (12, 23, undef), (13, 24, .bool false), (14, 25, .bool false), (15, 26, undef), (16, 27, undef), (17, 28, undef), (18, 29, undef), (19, 30, undef), (20, 31, undef), (21, 32, undef), (22, 33, undef), (23, 34, undef), (24, 35, undef), (25, 36, undef), (26, 37, .bool false)]) 27 (by kernel_rfl) (by kernel_rfl) (by kernel_rfl) (by kernel_rfl) (by kernel_rfl) [0, 1, 2, 3, 4, 5, 6, 7, 8, 9, 10, 11, 12, 13, 14, 15, 16, 17, 18, 19, 20, 21, 22, 23, 24, 25, 26] (by kernel_rfl) (by decide) (by decide) (aF 0 26 (by decide) ?_ (aF 1 25 (by decide) ?_ (aF 2 24 (by decide) ?_ (aF 3 23 (by decide) ?_ (aF 4 22 (by decide) ?_ (aF 5 21 (by decide) ?_ (aF 6 20 (by decide) ?_ (aF 7 19 (by decide) ?_ (aF 8 18 (by decide) ?_ (aF 9 17 (by decide) ?_ (aF 10 16 (by decide) ?_ (aF 11 15 (by decide) ?_ (aF 12 14 (by decide) ?_ (aF 13 13 (by decide) ?_ (aF 14 12 (by decide) ?_ (aF 15 11 (by decide) ?_ (aF 16 10 (by decide) ?_ (aF 17 9 (by decide) ?_ (aF 18 8 (by decide) ?_ (aF 19 7 (by decide) ?_ (aF 20 6 (by decide) ?_ (aF 21 5 (by decide) ?_ (aF 22 4 (by decide) ?_ (aF 23 3 (by decide) ?_ (aF 24 2 (by decide) ?_ (aF 25 1 (by decide) ?_ (aF 26 0 (by decide) ?_ (trivial)))))))))))))))))))))))))))) [(0, .slice ad1 p0.length cp2), (3, .slice ad12 s11.length cp13), (4, iv s14), (5, iv s28), (18, undef), (19, undef), (20, undef), (21, undef), (22, undef), (23, undef), (26, undef), (27, undef), (28, undef), (29, undef), (30, undef), (31, undef), (32, undef), (33, undef), (34, undef), (35, undef), (36, undef), (37, .bool false)] (fin_of [none, none, none, none, some 7, some 8, some 9, some 10, some 11, some 12, some 15, some 16, some 17, some 18, some 19, some 20, some 21, some 22, some 23, some 24, some 25, some 26] rfl (by kernel_rfl) (by kernel_rfl)) (fun _ a w S => ?_)
    · refine fI 11 (.slice ad1 p0.length cp2) [(0, .slice ad1 p0.length cp2)] 0 [none] rfl rfl rfl rfl rfl rfl fun G a w S => ?_
      refine sMove (.slice ad1 p0.length cp2) S (wN rfl) (.inl rfl) rfl rfl (lb rfl) fun a S => ?_
      exact leafL ⟨rfl, S⟩
    · refine fI 12 (iv s14) [(4, iv s14)] 1 [none] rfl rfl rfl rfl rfl rfl fun G a w S => ?_
      refine sMove (iv s14) S (wN rfl) (.inl rfl) rfl rfl (lb rfl) fun a S => ?_
      exact leafL ⟨rfl, S⟩
    · refine fI 13 q70 [(11, .slice ad1 p0.length cp2), (12, iv s14)] 2 [some 0, some 1] rfl rfl rfl rfl rfl rfl fun G a w S => ?_
      refine sIdxV (v := .slice ad1 p0.length cp2) (k := .i64) (j := s14) S (wN rfl) rfl rfl rfl hq71 rfl (lb rfl) fun a S => ?_
      exact leafL ⟨rfl, S⟩
    · refine fI 14 q72 [(13, q70)] 3 [some 2] rfl rfl rfl rfl rfl rfl fun G a w S => ?_
      refine sFldV (q := q70) S (wN rfl) rfl rfl hq73 rfl (lb rfl) fun a S => ?_
      exact leafL ⟨rfl, S⟩
    · refine fI 15 (.int .u8 x37.Kind) [(14, q72)] 4 [some 3] rfl rfl rfl rfl rfl rfl fun G a w S => ?_
      refine sLoadV1 (vq := q72) 0 (.int .u8 x37.Kind) S (wN rfl) rfl rfl rfl rfl rfl (lb rfl) fun a S => ?_
      exact leafL ⟨rfl, S⟩
    · refine fI 16 (.bool (x37.Kind == 1)) [(15, .int .u8 x37.Kind)] 5 [some 4] rfl rfl rfl rfl rfl rfl fun G a w S => ?_
      refine sBin (.bool (x37.Kind == 1)) S (wN rfl) rfl rfl rfl (bEq _ _ _ _ .u8 x37.Kind 1) rfl (lb rfl) fun a S => ?_
      exact leafL ⟨rfl, S⟩
    · refine fI 17 (.bool (x37.Kind == 1)) [(16, .bool (x37.Kind == 1))] 6 [some 5] rfl rfl rfl rfl rfl rfl fun G a w S => ?_
      refine sMove (.bool (x37.Kind == 1)) S (wN rfl) (.inl rfl) rfl rfl (lb rfl) fun a S => ?_
      exact leafL ⟨rfl, S⟩
    · refine fI 18 undef [(4, iv s14), (17, .bool (x37.Kind == 1))] 7 [none, some 6] rfl rfl rfl rfl rfl rfl fun G a w S => ?_
      refine sSkip 6 true 17 18 S rfl rfl rfl hc44 rfl (lb rfl) fun a S => ?_
      exact leafL ⟨rfl, S⟩
    · refine fI 19 undef [(5, iv s28), (17, .bool (x37.Kind == 1))] 8 [none, some 6] rfl rfl rfl rfl rfl rfl fun G a w S => ?_
      refine sSkip 6 true 17 19 S rfl rfl rfl hc44 rfl (lb rfl) fun a S => ?_
      exact leafL ⟨rfl, S⟩
    · refine fI 20 undef [(18, undef), (19, undef), (17, .bool (x37.Kind == 1))] 9 [some 7, some 8, some 6] rfl rfl rfl rfl rfl rfl fun G a w S => ?_
      refine sSkip 6 true 17 20 S rfl rfl rfl hc44 rfl (lb rfl) fun a S => ?_
      exact leafL ⟨rfl, S⟩
    · refine fI 21 undef [(0, .slice ad1 p0.length cp2), (17, .bool (x37.Kind == 1))] 10 [none, some 6] rfl rfl rfl rfl rfl rfl fun G a w S => ?_
      refine sSkip 6 true 17 21 S rfl rfl rfl hc44 rfl (lb rfl) fun a S => ?_
      exact leafL ⟨rfl, S⟩
    · refine fI 22 undef [(21, undef), (17, .bool (x37.Kind == 1))] 11 [some 10, some 6] rfl rfl rfl rfl rfl rfl fun G a w S => ?_
      refine sSkip 6 true 17 22 S rfl rfl rfl hc44 rfl (lb rfl) fun a S => ?_
      exact leafL ⟨rfl, S⟩
    · refine fI 23 undef [(20, undef), (22, undef), (17, .bool (x37.Kind == 1))] 12 [some 9, some 11, some 6] rfl rfl rfl rfl rfl rfl fun G a w S => ?_
      refine sSkip 6 true 17 23 S rfl rfl rfl hc44 rfl (lb rfl) fun a S => ?_
      exact leafL ⟨rfl, S⟩
    · refine fI 24 (.bool false) [(17, .bool (x37.Kind == 1)), (23, undef)] 13 [some 6, some 12] rfl rfl rfl rfl rfl rfl fun G a w S => ?_
      refine sPickF (.bool false) S (wN rfl) rfl rfl hc44 rfl rfl (lb rfl) fun a S => ?_
      exact leafL ⟨rfl, S⟩
    · refine fI 25 (.bool false) [(24, .bool false)] 14 [some 13] rfl rfl rfl rfl rfl rfl fun G a w S => ?_
      refine sMove (.bool false) S (wN rfl) (.inl rfl) rfl rfl (lb rfl) fun a S => ?_
      exact leafL ⟨rfl, S⟩
    · refine fI 26 undef [(0, .slice ad1 p0.length cp2), (25, .bool false)] 15 [none, some 14] rfl rfl rfl rfl rfl rfl fun G a w S => ?_
      refine sSkip 14 true 25 26 S rfl rfl rfl rfl rfl (lb rfl) fun a S => ?_
      exact leafL ⟨rfl, S⟩
    · refine fI 27 undef [(4, iv s14), (25, .bool false)] 16 [none, some 14] rfl rfl rfl rfl rfl rfl fun G a w S => ?_
      refine sSkip 14 true 25 27 S rfl rfl rfl rfl rfl (lb rfl) fun a S => ?_
      exact leafL ⟨rfl, S⟩
    · refine fI 28 undef [(5, iv s28), (25, .bool false)] 17 [none, some 14] rfl rfl rfl rfl rfl rfl fun G a w S => ?_
      refine sSkip 14 true 25 28 S rfl rfl rfl rfl rfl (lb rfl) fun a S => ?_
      exact leafL ⟨rfl, S⟩
    · refine fI 29 undef [(27, undef), (28, undef), (25, .bool false)] 18 [some 16, some 17, some 14] rfl rfl rfl rfl rfl rfl fun G a w S => ?_
      refine sSkip 14 true 25 29 S rfl rfl rfl rfl rfl (lb rfl) fun a S => ?_
      exact leafL ⟨rfl, S⟩
    · refine fI 30 undef [(26, undef), (29, undef), (25, .bool false)] 19 [some 15, some 18, some 14] rfl rfl rfl rfl rfl rfl fun G a w S => ?_
      refine sSkip 14 true 25 30 S rfl rfl rfl rfl rfl (lb rfl) fun a S => ?_
      exact leafL ⟨rfl, S⟩
    · refine fI 31 undef [(30, undef), (25, .bool false)] 20 [some 19, some 14] rfl rfl rfl rfl rfl rfl fun G a w S => ?_
      refine sSkip 14 true 25 31 S rfl rfl rfl rfl rfl (lb rfl) fun a S => ?_
      exact leafL ⟨rfl, S⟩
    · refine fI 32 undef [(0, .slice ad1 p0.length cp2), (25, .bool false)] 21 [none, some 14] rfl rfl rfl rfl rfl rfl fun G a w S => ?_
      refine sSkip 14 true 25 32 S rfl rfl rfl rfl rfl (lb rfl) fun a S => ?_
      exact leafL ⟨rfl, S⟩
    · refine fI 33 undef [(4, iv s14), (25, .bool false)] 22 [none, some 14] rfl rfl rfl rfl rfl rfl fun G a w S => ?_
      refine sSkip 14 true 25 33 S rfl rfl rfl rfl rfl (lb rfl) fun a S => ?_
      exact leafL ⟨rfl, S⟩
    · refine fI 34 undef [(32, undef), (33, undef), (25, .bool false)] 23 [some 21, some 22, some 14] rfl rfl rfl rfl rfl rfl fun G a w S => ?_
      refine sSkip 14 true 25 34 S rfl rfl rfl rfl rfl (lb rfl) fun a S => ?_
      exact leafL ⟨rfl, S⟩
    · refine fI 35 undef [(34, undef), (25, .bool false)] 24 [some 23, some 14] rfl rfl rfl rfl rfl rfl fun G a w S => ?_
      refine sSkip 14 true 25 35 S rfl rfl rfl rfl rfl (lb rfl) fun a S => ?_
      exact leafL ⟨rfl, S⟩
    · refine fI 36 undef [(31, undef), (35, undef), (25, .bool false)] 25 [some 20, some 24, some 14] rfl rfl rfl rfl rfl rfl fun G a w S => ?_
      refine sSkip 14 true 25 36 S rfl rfl rfl rfl rfl (lb rfl) fun a S => ?_
      exact leafL ⟨rfl, S⟩
    · refine fI 37 (.bool false) [(25, .bool false), (36, undef)] 26 [some 14, some 25] rfl rfl rfl rfl rfl rfl fun G a w S => ?_
      refine sPickF (.bool false) S (wN rfl) rfl rfl rfl rfl rfl (lb rfl) fun a S => ?_
      exact leafL ⟨rfl, S⟩
    exact leafT (⟨false, Option.some.inj h, S.fix [0] [4] (by decide) rfl rfl rfl⟩)
  rcases iteSome h with ⟨hc45, h⟩ | ⟨hc45, h⟩
  rotate_left
  · obtain ⟨q65, hq66, S⟩ := pIdx (P := Tryd.prog) (r := r_api_Stitch) (v := .slice ad1 p0.length cp2) (xs := p0) (j := s14) 39 38 0 S Tryd.underlying39 rfl rfl hx38
    obtain ⟨q67, hq68, S⟩ := pFld (P := Tryd.prog) (r := r_api_Stitch) (s2 := (rI .u8)) (g := (·.Kind)) (q := q65) (z := x37) 38 0 0 0 S rfl rfl comp_api_Stitch_Kind
    obtain ⟨u69, S⟩ := pLoad (r := (rI .u8)) (q := q67) (x := x37.Kind) 0 S rfl
    obtain rfl : u69 = .int .u8 x37.Kind := S.mem.know (i := 1) (e := fRep (rI .u8) (u69) x37.Kind) rfl
    refine sDraw (nf := []) (W := [(0, 11, .slice ad1 p0.length cp2), (1, 12, iv s14), (2, 13, q65), (3, 14, q67), (4, 15, .int .u8 x37.Kind), (5, 16, .bool (x37.Kind == 1)), (6, 17, .bool (x37.Kind == 1)), (7, 18, iv s14), (8, 19, iv s28), (9, 20, iv (w64 (s14 + s28))), (10, 21, .slice ad1 p0.length cp2), (11, 22, iv (p0.length : Int)), (12, 23, .bool (decide ((w64 (s14 + s28)) < (p0.length : Int)))), (13, 24, .bool (decide ((w64 (s14 + s28)) < (p0.length : Int)))), (14, 25, .bool (decide ((w64 (s14 + s28)) < (p0.length : Int)))), (15, 26, undef), (16, 27, undef), (17, 28, undef), (18, 29, undef), (19, 30, undef), (20, 31, undef), (21, 32, undef), (22, 33, undef), (23, 34, undef), (24, 35, undef), (25, 36, undef), (26, 37, .bool false)]) rfl S ?_
    refine node_by (A := anc_stitch_text_0) (nf := []) (Y := []) (W := [(0, 11, .slice ad1 p0.length cp2), (1, 12, iv s14), (2, 13, q65), (3, 14, q67), (4, 15, .int .u8 x37.Kind), (5, 16, .bool (x37.Kind == 1)), (6, 17, .bool (x37.Kind == 1)), (7, 18, iv s14), (8, 19, iv s28), (9, 20, iv (w64 (s14 + s28))), (10, 21, .slice ad1 p0.length cp2), (11, 22, iv (p0.length : Int)), (12, 23, .bool (decide ((w64 (s14 + s28)) < (p0.length : Int)))), (13, 24, .bool (decide ((w64 (s14 + s28)) < (p0.length : Int)))), (14, 25, .bool (decide ((w64 (s14 + s28)) < (p0.length : Int)))), (15, 26, undef), (16, 27, undef), (17, 28, undef), (18, 29, undef), (19, 30, undef), (20, 31, undef), (21, 32, undef), (22, 33, undef), (23, 34, undef), (24, 35, undef), (25, 36, undef), (26, 37, .bool false)]) 27 (by kernel_rfl) (by kernel_rfl) (by kernel_rfl) (by kernel_rfl) (by kernel_rfl) [0, 1, 2, 3, 4, 5, 6, 7, 8, 9, 10, 11, 12, 13, 14, 15, 16, 17, 18, 19, 20, 21, 22, 23, 24, 25, 26] (by kernel_rfl) (by decide) (by decide) (aF 0 26 (by decide) ?_ (aF 1 25 (by decide) ?_ (aF 2 24 (by decide) ?_ (aF 3 23 (by decide) ?_ (aF 4 22 (by decide) ?_ (aF 5 21 (by decide) ?_ (aF 6 20 (by decide) ?_ (aF 7 19 (by decide) ?_ (aF 8 18 (by decide) ?_ (aF 9 17 (by decide) ?_ (aF 10 16 (by decide) ?_ (aF 11 15 (by decide) ?_ (aF 12 14 (by decide) ?_ (aF 13 13 (by decide) ?_ (aF 14 12 (by decide) ?_ (aF 15 11 (by decide) ?_ (aF 16 10 (by decide) ?_ (aF 17 9 (by decide) ?_ (aF 18 8 (by decide) ?_ (aF 19 7 (by decide) ?_ (aF 20 6 (by decide) ?_ (aF 21 5 (by decide) ?_ (aF 22 4 (by decide) ?_ (aF 23 3 (by decide) ?_ (aF 24 2 (by decide) ?_ (aF 25 1 (by decide) ?_ (aF 26 0 (by decide) ?_ (trivial)))))))))))))))))))))))))))) [(0, .slice ad1 p0.length cp2), (3, .slice ad12 s11.length cp13), (4, iv s14), (5, iv s28), (18, iv s14), (19, iv s28), (20, iv (w64 (s14 + s28))), (21, .slice ad1 p0.length cp2), (22, iv (p0.length : Int)), (23, .bool (decide ((w64 (s14 + s28)) < (p0.length : Int)))), (26, undef), (27, undef), (28, undef), (29, undef), (30, undef), (31, undef), (32, undef), (33, undef), (34, undef), (35, undef), (36, undef), (37, .bool false)] (fin_of [none, none, none, none, some 7, some 8, some 9, some 10, some 11, some 12, some 15, some 16, some 17, some 18, some 19, some 20, some 21, some 22, some 23, some 24, some 25, some 26] rfl (by kernel_rfl) (by kernel_rfl)) (fun _ a w S => ?_)
    · refine fI 11 (.slice ad1 p0.length cp2) [(0, .slice ad1 p0.length cp2)] 0 [none] rfl rfl rfl rfl rfl rfl fun G a w S => ?_
      refine sMove (.slice ad1 p0.length cp2) S (wN rfl) (.inl rfl) rfl rfl (lb rfl) fun a S => ?_
      exact leafL ⟨rfl, S⟩
    · refine fI 12 (iv s14) [(4, iv s14)] 1 [none] rfl rfl rfl rfl rfl rfl fun G a w S => ?_
      refine sMove (iv s14) S (wN rfl) (.inl rfl) rfl rfl (lb rfl) fun a S => ?_
      exact leafL ⟨rfl, S⟩
    · refine fI 13 q65 [(11, .slice ad1 p0.length cp2), (12, iv s14)] 2 [some 0, some 1] rfl rfl rfl rfl rfl rfl fun G a w S => ?_
      refine sIdxV (v := .slice ad1 p0.length cp2) (k := .i64) (j := s14) S (wN rfl) rfl rfl rfl hq66 rfl (lb rfl) fun a S => ?_
      exact leafL ⟨rfl, S⟩
    · refine fI 14 q67 [(13, q65)] 3 [some 2] rfl rfl rfl rfl rfl rfl fun G a w S => ?_
      refine sFldV (q := q65) S (wN rfl) rfl rfl hq68 rfl (lb rfl) fun a S => ?_
      exact leafL ⟨rfl, S⟩
    · refine fI 15 (.int .u8 x37.Kind) [(14, q67)] 4 [some 3] rfl rfl rfl rfl rfl rfl fun G a w S => ?_
      refine sLoadV1 (vq := q67) 0 (.int .u8 x37.Kind) S (wN rfl) rfl rfl rfl rfl rfl (lb rfl) fun a S => ?_
      exact leafL ⟨rfl, S⟩
    · refine fI 16 (.bool (x37.Kind == 1)) [(15, .int .u8 x37.Kind)] 5 [some 4] rfl rfl rfl rfl rfl rfl fun G a w S => ?_
      refine sBin (.bool (x37.Kind == 1)) S (wN rfl) rfl rfl rfl (bEq _ _ _ _ .u8 x37.Kind 1) rfl (lb rfl) fun a S => ?_
      exact leafL ⟨rfl, S⟩
    · refine fI 17 (.bool (x37.Kind == 1)) [(16, .bool (x37.Kind == 1))] 6 [some 5] rfl rfl rfl rfl rfl rfl fun G a w S => ?_
      refine sMove (.bool (x37.Kind == 1)) S (wN rfl) (.inl rfl) rfl rfl (lb rfl) fun a S => ?_
      exact leafL ⟨rfl, S⟩
    · refine fI 18 (iv s14) [(4, iv s14), (17, .bool (x37.Kind == 1))] 7 [none, some 6] rfl rfl rfl rfl rfl rfl fun G a w S => ?_
      refine sMove (iv s14) S (wG 6 true 17 rfl rfl rfl hc44) (.inl rfl) rfl rfl (lb rfl) fun a S => ?_
      exact leafL ⟨rfl, S⟩
    · refine fI 19 (iv s28) [(5, iv s28), (17, .bool (x37.Kind == 1))] 8 [none, some 6] rfl rfl rfl rfl rfl rfl fun G a w S => ?_
      refine sMove (iv s28) S (wG 6 true 17 rfl rfl rfl hc44) (.inl rfl) rfl rfl (lb rfl) fun a S => ?_
      exact leafL ⟨rfl, S⟩
    · refine fI 20 (iv (w64 (s14 + s28))) [(18, iv s14), (19, iv s28), (17, .bool (x37.Kind == 1))] 9 [some 7, some 8, some 6] rfl rfl rfl rfl rfl rfl fun G a w S => ?_
      refine sBin (iv (w64 (s14 + s28))) S (wG 6 true 17 rfl rfl rfl hc44) rfl rfl rfl (bAdd _ _ _ _ s14 s28) rfl (lb rfl) fun a S => ?_
      exact leafL ⟨rfl, S⟩
    · refine fI 21 (.slice ad1 p0.length cp2) [(0, .slice ad1 p0.length cp2), (17, .bool (x37.Kind == 1))] 10 [none, some 6] rfl rfl rfl rfl rfl rfl fun G a w S => ?_
      refine sMove (.slice ad1 p0.length cp2) S (wG 6 true 17 rfl rfl rfl hc44) (.inl rfl) rfl rfl (lb rfl) fun a S => ?_
      exact leafL ⟨rfl, S⟩
    · refine fI 22 (iv (p0.length : Int)) [(21, .slice ad1 p0.length cp2), (17, .bool (x37.Kind == 1))] 11 [some 10, some 6] rfl rfl rfl rfl rfl rfl fun G a w S => ?_
      refine sLen (ad := ad1) (m := p0.length) (c := cp2) S (wG 6 true 17 rfl rfl rfl hc44) rfl Tryd.underlying39 rfl rfl (lb rfl) fun a S => ?_
      exact leafL ⟨rfl, S⟩
    · refine fI 23 (.bool (decide ((w64 (s14 + s28)) < (p0.length : Int)))) [(20, iv (w64 (s14 + s28))), (22, iv (p0.length : Int)), (17, .bool (x37.Kind == 1))] 12 [some 9, some 11, some 6] rfl rfl rfl rfl rfl rfl fun G a w S => ?_
      refine sBin (.bool (decide ((w64 (s14 + s28)) < (p0.length : Int)))) S (wG 6 true 17 rfl rfl rfl hc44) rfl rfl rfl (bLt _ _ _ _ .i64 (w64 (s14 + s28)) (p0.length : Int)) rfl (lb rfl) fun a S => ?_
      exact leafL ⟨rfl, S⟩
    · refine fI 24 (.bool (decide ((w64 (s14 + s28)) < (p0.length : Int)))) [(17, .bool (x37.Kind == 1)), (23, .bool (decide ((w64 (s14 + s28)) < (p0.length : Int))))] 13 [some 6, some 12] rfl rfl rfl rfl rfl rfl fun G a w S => ?_
      refine sPickT (.bool (decide ((w64 (s14 + s28)) < (p0.length : Int)))) S (wN rfl) rfl rfl hc44 rfl rfl (lb rfl) fun a S => ?_
      exact leafL ⟨rfl, S⟩
    · refine fI 25 (.bool (decide ((w64 (s14 + s28)) < (p0.length : Int)))) [(24, .bool (decide ((w64 (s14 + s28)) < (p0.length : Int))))] 14 [some 13] rfl rfl rfl rfl rfl rfl fun G a w S => ?_
      refine sMove (.bool (decide ((w64 (s14 + s28)) < (p0.length : Int)))) S (wN rfl) (.inl rfl) rfl rfl (lb rfl) fun a S => ?_
      exact leafL ⟨rfl, S⟩
    · refine fI 26 undef [(0, .slice ad1 p0.length cp2), (25, .bool (decide ((w64 (s14 + s28)) < (p0.length : Int))))] 15 [none, some 14] rfl rfl rfl rfl rfl rfl fun G a w S => ?_
      refine sSkip 14 true 25 26 S rfl rfl rfl hc45 rfl (lb rfl) fun a S => ?_
      exact leafL ⟨rfl, S⟩
    · refine fI 27 undef [(4, iv s14), (25, .bool (decide ((w64 (s14 + s28)) < (p0.length : Int))))] 16 [none, some 14] rfl rfl rfl rfl rfl rfl fun G a w S => ?_
      refine sSkip 14 true 25 27 S rfl rfl rfl hc45 rfl (lb rfl) fun a S => ?_
      exact leafL ⟨rfl, S⟩
    · refine fI 28 undef [(5, iv s28), (25, .bool (decide ((w64 (s14 + s28)) < (p0.length : Int))))] 17 [none, some 14] rfl rfl rfl rfl rfl rfl fun G a w S => ?_
      refine sSkip 14 true 25 28 S rfl rfl rfl hc45 rfl (lb rfl) fun a S => ?_
      exact leafL ⟨rfl, S⟩
    · refine fI 29 undef [(27, undef), (28, undef), (25, .bool (decide ((w64 (s14 + s28)) < (p0.length : Int))))] 18 [some 16, some 17, some 14] rfl rfl rfl rfl rfl rfl fun G a w S => ?_
      refine sSkip 14 true 25 29 S rfl rfl rfl hc45 rfl (lb rfl) fun a S => ?_
      exact leafL ⟨rfl, S⟩
    · refine fI 30 undef [(26, undef), (29, undef), (25, .bool (decide ((w64 (s14 + s28)) < (p0.length : Int))))] 19 [some 15, some 18, some 14] rfl rfl rfl rfl rfl rfl fun G a w S => ?_
      refine sSkip 14 true 25 30 S rfl rfl rfl hc45 rfl (lb rfl) fun a S => ?_
      exact leafL ⟨rfl, S⟩
    · refine fI 31 undef [(30, undef), (25, .bool (decide ((w64 (s14 + s28)) < (p0.length : Int))))] 20 [some 19, some 14] rfl rfl rfl rfl rfl rfl fun G a w S => ?_
      refine sSkip 14 true 25 31 S rfl rfl rfl hc45 rfl (lb rfl) fun a S => ?_
      exact leafL ⟨rfl, S⟩
    · refine fI 32 undef [(0, .slice ad1 p0.length cp2), (25, .bool (decide ((w64 (s14 + s28)) < (p0.length : Int))))] 21 [none, some 14] rfl rfl rfl rfl rfl rfl fun G a w S => ?_
      refine sSkip 14 true 25 32 S rfl rfl rfl hc45 rfl (lb rfl) fun a S => ?_
      exact leafL ⟨rfl, S⟩
    · refine fI 33 undef [(4, iv s14), (25, .bool (decide ((w64 (s14 + s28)) < (p0.length : Int))))] 22 [none, some 14] rfl rfl rfl rfl rfl rfl fun G a w S => ?_
      refine sSkip 14 true 25 33 S rfl rfl rfl hc45 rfl (lb rfl) fun a S => ?_
      exact leafL ⟨rfl, S⟩
    · refine fI 34 undef [(32, undef), (33, undef), (25, .bool (decide ((w64 (s14 + s28)) < (p0.length : Int))))] 23 [some 21, some 22, some 14] rfl rfl rfl rfl rfl rfl fun G a w S => ?_
      refine sSkip 14 true 25 34 S rfl rfl rfl hc45 rfl (lb rfl) fun a S => ?_
      exact leafL ⟨rfl, S⟩
    · refine fI 35 undef [(34, undef), (25, .bool (decide ((w64 (s14 + s28)) < (p0.length : Int))))] 24 [some 23, some 14] rfl rfl rfl rfl rfl rfl fun G a w S => ?_
      refine sSkip 14 true 25 35 S rfl rfl rfl hc45 rfl (lb rfl) fun a S => ?_
      exact leafL ⟨rfl, S⟩
    · refine fI 36 undef [(31, undef), (35, undef), (25, .bool (decide ((w64 (s14 + s28)) < (p0.length : Int))))] 25 [some 20, some 24, some 14] rfl rfl rfl rfl rfl rfl fun G a w S => ?_
      refine sSkip 14 true 25 36 S rfl rfl rfl hc45 rfl (lb rfl) fun a S => ?_
      exact leafL ⟨rfl, S⟩
    · refine fI 37 (.bool false) [(25, .bool (decide ((w64 (s14 + s28)) < (p0.length : Int)))), (36, undef)] 26 [some 14, some 25] rfl rfl rfl rfl rfl rfl fun G a w S => ?_
      refine sPickF (.bool false) S (wN rfl) rfl rfl hc45 rfl rfl (lb rfl) fun a S => ?_
      exact leafL ⟨rfl, S⟩
    exact leafT (⟨false, Option.some.inj h, S.fix [0] [4] (by decide) rfl rfl rfl⟩)
  obtain ⟨x46, hx47, h⟩ := bindSome h
  obtain ⟨q54, hq55, S⟩ := pIdx (P := Tryd.prog) (r := r_api_Stitch) (v := .slice ad1 p0.length cp2) (xs := p0) (j := s14) 39 38 0 S Tryd.underlying39 rfl rfl hx38
  obtain ⟨q56, hq57, S⟩ := pFld (P := Tryd.prog) (r := r_api_Stitch) (s2 := (rI .u8)) (g := (·.Kind)) (q := q54) (z := x37) 38 0 0 0 S rfl rfl comp_api_Stitch_Kind
  obtain ⟨u58, S⟩ := pLoad (r := (rI .u8)) (q := q56) (x := x37.Kind) 0 S rfl
  obtain rfl : u58 = .int .u8 x37.Kind := S.mem.know (i := 1) (e := fRep (rI .u8) (u58) x37.Kind) rfl
  obtain ⟨q59, hq60, S⟩ := pIdx (P := Tryd.prog) (r := r_api_Stitch) (v := .slice ad1 p0.length cp2) (xs := p0) (j := w64 (s14 + s28)) 39 38 4 S Tryd.underlying39 rfl rfl hx47
  obtain ⟨u61, S⟩ := pLoad (r := r_api_Stitch) (q := q59) (x := x46) 0 S rfl
  obtain rfl : u61 = .agg #[.int .u8 x46.Kind, .bool x46.Purl, iv x46.A, iv x46.B] := S.mem.know (i := 1) (e := fRep r_api_Stitch (u61) x46) rfl
  obtain ⟨q62, hq63, S⟩ := pIdx (P := Tryd.prog) (r := r_api_Stitch) (v := .slice ad1 p0.length cp2) (xs := p0) (j := s14) 39 38 7 S Tryd.underlying39 rfl rfl hx38
  obtain ⟨u64, S⟩ := pLoad (r := r_api_Stitch) (q := q62) (x := x37) 0 S rfl
  obtain rfl : u64 = .agg #[.int .u8 x37.Kind, .bool x37.Purl, iv x37.A, iv x37.B] := S.mem.know (i := 1) (e := fRep r_api_Stitch (u64) x37) rfl
  refine sDraw (nf := []) (W := [(0, 11, .slice ad1 p0.length cp2), (1, 12, iv s14), (2, 13, q54), (3, 14, q56), (4, 15, .int .u8 x37.Kind), (5, 16, .bool (x37.Kind == 1)), (6, 17, .bool (x37.Kind == 1)), (7, 18, iv s14), (8, 19, iv s28), (9, 20, iv (w64 (s14 + s28))), (10, 21, .slice ad1 p0.length cp2), (11, 22, iv (p0.length : Int)), (12, 23, .bool (decide ((w64 (s14 + s28)) < (p0.length : Int)))), (13, 24, .bool (decide ((w64 (s14 + s28)) < (p0.length : Int)))), (14, 25, .bool (decide ((w64 (s14 + s28)) < (p0.length : Int)))), (15, 26, .slice ad1 p0.length cp2), (16, 27, iv s14), (17, 28, iv s28), (18, 29, iv (w64 (s14 + s28))), (19, 30, q59), (20, 31, .agg #[.int .u8 x46.Kind, .bool x46.Purl, iv x46.A, iv x46.B]), (21, 32, .slice ad1 p0.length cp2), (22, 33, iv s14), (23, 34, q62), (24, 35, .agg #[.int .u8 x37.Kind, .bool x37.Purl, iv x37.A, iv x37.B]), (25, 36, .bool ((x46.Kind == x37.Kind) && ((x46.Purl == x37.Purl) && ((x46.A == x37.A) && ((x46.B == x37.B) && true))))), (26, 37, .bool ((x46.Kind == x37.Kind) && ((x46.Purl == x37.Purl) && ((x46.A == x37.A) && ((x46.B == x37.B) && true)))))]) rfl S ?_
  refine node_by (A := anc_stitch_text_0) (nf := []) (Y := []) (W := [(0, 11, .slice ad1 p0.length cp2), (1, 12, iv s14), (2, 13, q54), (3, 14, q56), (4, 15, .int .u8 x37.Kind), (5, 16, .bool (x37.Kind == 1)), (6, 17, .bool (x37.Kind == 1)), (7, 18, iv s14), (8, 19, iv s28), (9, 20, iv (w64 (s14 + s28))), (10, 21, .slice ad1 p0.length cp2), (11, 22, iv (p0.length : Int)), (12, 23, .bool (decide ((w64 (s14 + s28)) < (p0.length : Int)))), (13, 24, .bool (decide ((w64 (s14 + s28)) < (p0.length : Int)))), (14, 25, .bool (decide ((w64 (s14 + s28)) < (p0.length : Int)))), (15, 26, .slice ad1 p0.length cp2), (16, 27, iv s14), (17, 28, iv s28), (18, 29, iv (w64 (s14 + s28))), (19, 30, q59), (20, 31, .agg #[.int .u8 x46.Kind, .bool x46.Purl, iv x46.A, iv x46.B]), (21, 32, .slice ad1 p0.length cp2), (22, 33, iv s14), (23, 34, q62), (24, 35, .agg #[.int .u8 x37.Kind, .bool x37.Purl, iv x37.A, iv x37.B]), (25, 36, .bool ((x46.Kind == x37.Kind) && ((x46.Purl == x37.Purl) && ((x46.A == x37.A) && ((x46.B == x37.B) && true))))), (26, 37, .bool ((x46.Kind == x37.Kind) && ((x46.Purl == x37.Purl) && ((x46.A == x37.A) && ((x46.B == x37.B) && true)))))]) 27 (by kernel_rfl) (by kernel_rfl) (by kernel_rfl) (by kernel_rfl) (by kernel_rfl) [0, 1, 2, 3, 4, 5, 6, 7, 8, 9, 10, 11, 12, 13, 14, 15, 16, 17, 18, 19, 20, 21, 22, 23, 24, 25, 26] (by kernel_rfl) (by decide) (by decide) (aF 0 26 (by decide) ?_ (aF 1 25 (by decide) ?_ (aF 2 24 (by decide) ?_ (aF 3 23 (by decide) ?_ (aF 4 22 (by decide) ?_ (aF 5 21 (by decide) ?_ (aF 6 20 (by decide) ?_ (aF 7 19 (by decide) ?_ (aF 8 18 (by decide) ?_ (aF 9 17 (by decide) ?_ (aF 10 16 (by decide) ?_ (aF 11 15 (by decide) ?_ (aF 12 14 (by decide) ?_ (aF 13 13 (by decide) ?_ (aF 14 12 (by decide) ?_ (aF 15 11 (by decide) ?_ (aF 16 10 (by decide) ?_ (aF 17 9 (by decide) ?_ (aF 18 8 (by decide) ?_ (aF 19 7 (by decide) ?_ (aF 20 6 (by decide) ?_ (aF 21 5 (by decide) ?_ (aF 22 4 (by decide) ?_ (aF 23 3 (by decide) ?_ (aF 24 2 (by decide) ?_ (aF 25 1 (by decide) ?_ (aF 26 0 (by decide) ?_ (trivial)))))))))))))))))))))))))))) [(0, .slice ad1 p0.length cp2), (3, .slice ad12 s11.length cp13), (4, iv s14), (5, iv s28), (18, iv s14), (19, iv s28), (20, iv (w64 (s14 + s28))), (21, .slice ad1 p0.length cp2), (22, iv (p0.length : Int)), (23, .bool (decide ((w64 (s14 + s28)) < (p0.length : Int)))), (26, .slice ad1 p0.length cp2), (27, iv s14), (28, iv s28), (29, iv (w64 (s14 + s28))), (30, q59), (31, .agg #[.int .u8 x46.Kind, .bool x46.Purl, iv x46.A, iv x46.B]), (32, .slice ad1 p0.length cp2), (33, iv s14), (34, q62), (35, .agg #[.int .u8 x37.Kind, .bool x37.Purl, iv x37.A, iv x37.B]), (36, .bool ((x46.Kind == x37.Kind) && ((x46.Purl == x37.Purl) && ((x46.A == x37.A) && ((x46.B == x37.B) && true))))), (37, .bool ((x46.Kind == x37.Kind) && ((x46.Purl == x37.Purl) && ((x46.A == x37.A) && ((x46.B == x37.B) && true)))))] (fin_of [none, none, none, none, some 7, some 8, some 9, some 10, some 11, some 12, some 15, some 16, some 17, some 18, some 19, some 20, some 21, some 22, some 23, some 24, some 25, some 26] rfl (by kernel_rfl) (by kernel_rfl)) (fun _ a w S => ?_)
  · refine fI 11 (.slice ad1 p0.length cp2) [(0, .slice ad1 p0.length cp2)] 0 [none] rfl rfl rfl rfl rfl rfl fun G a w S => ?_
    refine sMove (.slice ad1 p0.length cp2) S (wN rfl) (.inl rfl) rfl rfl (lb rfl) fun a S => ?_
    exact leafL ⟨rfl, S⟩
  · refine fI 12 (iv s14) [(4, iv s14)] 1 [none] rfl rfl rfl rfl rfl rfl fun G a w S => ?_
    refine sMove (iv s14) S (wN rfl) (.inl rfl) rfl rfl (lb rfl) fun a S => ?_
    exact leafL ⟨rfl, S⟩
  · refine fI 13 q54 [(11, .slice ad1 p0.length cp2), (12, iv s14)] 2 [some 0, some 1] rfl rfl rfl rfl rfl rfl fun G a w S => ?_
    refine sIdxV (v := .slice ad1 p0.length cp2) (k := .i64) (j := s14) S (wN rfl) rfl rfl rfl hq55 rfl (lb rfl) fun a S => ?_
    exact leafL ⟨rfl, S⟩
  · refine fI 14 q56 [(13, q54)] 3 [some 2] rfl rfl rfl rfl rfl rfl fun G a w S => ?_
    refine sFldV (q := q54) S (wN rfl) rfl rfl hq57 rfl (lb rfl) fun a S => ?_
    exact leafL ⟨rfl, S⟩
  · refine fI 15 (.int .u8 x37.Kind) [(14, q56)] 4 [some 3] rfl rfl rfl rfl rfl rfl fun G a w S => ?_
    refine sLoadV1 (vq := q56) 6 (.int .u8 x37.Kind) S (wN rfl) rfl rfl rfl rfl rfl (lb rfl) fun a S => ?_
    exact leafL ⟨rfl, S⟩
  · refine fI 16 (.bool (x37.Kind == 1)) [(15, .int .u8 x37.Kind)] 5 [some 4] rfl rfl rfl rfl rfl rfl fun G a w S => ?_
    refine sBin (.bool (x37.Kind == 1)) S (wN rfl) rfl rfl rfl (bEq _ _ _ _ .u8 x37.Kind 1) rfl (lb rfl) fun a S => ?_
    exact leafL ⟨rfl, S⟩
  · refine fI 17 (.bool (x37.Kind == 1)) [(16, .bool (x37.Kind == 1))] 6 [some 5] rfl rfl rfl rfl rfl rfl fun G a w S => ?_
    refine sMove (.bool (x37.Kind == 1)) S (wN rfl) (.inl rfl) rfl rfl (lb rfl) fun a S => ?_
    exact leafL ⟨rfl, S⟩
  · refine fI 18 (iv s14) [(4, iv s14), (17, .bool (x37.Kind == 1))] 7 [none, some 6] rfl rfl rfl rfl rfl rfl fun G a w S => ?_
    refine sMove (iv s14) S (wG 6 true 17 rfl rfl rfl hc44) (.inl rfl) rfl rfl (lb rfl) fun a S => ?_
    exact leafL ⟨rfl, S⟩
  · refine fI 19 (iv s28) [(5, iv s28), (17, .bool (x37.Kind == 1))] 8 [none, some 6] rfl rfl rfl rfl rfl rfl fun G a w S => ?_
    refine sMove (iv s28) S (wG 6 true 17 rfl rfl rfl hc44) (.inl rfl) rfl rfl (lb rfl) fun a S => ?_
    exact leafL ⟨rfl, S⟩
  · refine fI 20 (iv (w64 (s14 + s28))) [(18, iv s14), (19, iv s28), (17, .bool (x37.Kind == 1))] 9 [some 7, some 8, some 6] rfl rfl rfl rfl rfl rfl fun G a w S => ?_
    refine sBin (iv (w64 (s14 + s28))) S (wG 6 true 17 rfl rfl rfl hc44) rfl rfl rfl (bAdd _ _ _ _ s14 s28) rfl (lb rfl) fun a S => ?_
    exact leafL ⟨rfl, S⟩
  · refine fI 21 (.slice ad1 p0.length cp2) [(0, .slice ad1 p0.length cp2), (17, .bool (x37.Kind == 1))] 10 [none, some 6] rfl rfl rfl rfl rfl rfl fun G a w S => ?_
    refine sMove (.slice ad1 p0.length cp2) S (wG 6 true 17 rfl rfl rfl hc44) (.inl rfl) rfl rfl (lb rfl) fun a S => ?_
    exact leafL ⟨rfl, S⟩
  · refine fI 22 (iv (p0.length : Int)) [(21, .slice ad1 p0.length cp2), (17, .bool (x37.Kind == 1))] 11 [some 10, some 6] rfl rfl rfl rfl rfl rfl fun G a w S => ?_
    refine sLen (ad := ad1) (m := p0.length) (c := cp2) S (wG 6 true 17 rfl rfl rfl hc44) rfl Tryd.underlying39 rfl rfl (lb rfl) fun a S => ?_
    exact leafL ⟨rfl, S⟩
  · refine fI 23 (.bool (decide ((w64 (s14 + s28)) < (p0.length : Int)))) [(20, iv (w64 (s14 + s28))), (22, iv (p0.length : Int)), (17, .bool (x37.Kind == 1))] 12 [some 9, some 11, some 6] rfl rfl rfl rfl rfl rfl fun G a w S => ?_
    refine sBin (.bool (decide ((w64 (s14 + s28)) < (p0.length : Int)))) S (wG 6 true 17 rfl rfl rfl hc44) rfl rfl rfl (bLt _ _ _ _ .i64 (w64 (s14 + s28)) (p0.length : Int)) rfl (lb rfl) fun a S => ?_
    exact leafL ⟨rfl, S⟩
  · refine fI 24 (.bool (decide ((w64 (s14 + s28)) < (p0.length : Int)))) [(17, .bool (x37.Kind == 1)), (23, .bool (decide ((w64 (s14 + s28)) < (p0.length : Int))))] 13 [some 6, some 12] rfl rfl rfl rfl rfl rfl fun G a w S => ?_
    refine sPickT (.bool (decide ((w64 (s14 + s28)) < (p0.length : Int)))) S (wN rfl) rfl rfl hc44 rfl rfl (lb rfl) fun a S => ?_
    exact leafL ⟨rfl, S⟩
  · refine fI 25 (.bool (decide ((w64 (s14 + s28)) < (p0.length : Int)))) [(24, .bool (decide ((w64 (s14 + s28)) < (p0.length : Int))))] 14 [some 13] rfl rfl rfl rfl rfl rfl fun G a w S => ?_
    refine sMove (.bool (decide ((w64 (s14 + s28)) < (p0.length : Int)))) S (wN rfl) (.inl rfl) rfl rfl (lb rfl) fun a S => ?_
    exact leafL ⟨rfl, S⟩
  · refine fI 26 (.slice ad1 p0.length cp2) [(0, .slice ad1 p0.length cp2), (25, .bool (decide ((w64 (s14 + s28)) < (p0.length : Int))))] 15 [none, some 14] rfl rfl rfl rfl rfl rfl fun G a w S => ?_
    refine sMove (.slice ad1 p0.length cp2) S (wG 14 true 25 rfl rfl rfl hc45) (.inl rfl) rfl rfl (lb rfl) fun a S => ?_
    exact leafL ⟨rfl, S⟩
  · refine fI 27 (iv s14) [(4, iv s14), (25, .bool (decide ((w64 (s14 + s28)) < (p0.length : Int))))] 16 [none, some 14] rfl rfl rfl rfl rfl rfl fun G a w S => ?_
    refine sMove (iv s14) S (wG 14 true 25 rfl rfl rfl hc45) (.inl rfl) rfl rfl (lb rfl) fun a S => ?_
    exact leafL ⟨rfl, S⟩
  · refine fI 28 (iv s28) [(5, iv s28), (25, .bool (decide ((w64 (s14 + s28)) < (p0.length : Int))))] 17 [none, some 14] rfl rfl rfl rfl rfl rfl fun G a w S => ?_
    refine sMove (iv s28) S (wG 14 true 25 rfl rfl rfl hc45) (.inl rfl) rfl rfl (lb rfl) fun a S => ?_
    exact leafL ⟨rfl, S⟩
  · refine fI 29 (iv (w64 (s14 + s28))) [(27, iv s14), (28, iv s28), (25, .bool (decide ((w64 (s14 + s28)) < (p0.length : Int))))] 18 [some 16, some 17, some 14] rfl rfl rfl rfl rfl rfl fun G a w S => ?_
    refine sBin (iv (w64 (s14 + s28))) S (wG 14 true 25 rfl rfl rfl hc45) rfl rfl rfl (bAdd _ _ _ _ s14 s28) rfl (lb rfl) fun a S => ?_
    exact leafL ⟨rfl, S⟩
  · refine fI 30 q59 [(26, .slice ad1 p0.length cp2), (29, iv (w64 (s14 + s28))), (25, .bool (decide ((w64 (s14 + s28)) < (p0.length : Int))))] 19 [some 15, some 18, some 14] rfl rfl rfl rfl rfl rfl fun G a w S => ?_
    refine sIdxV (v := .slice ad1 p0.length cp2) (k := .i64) (j := w64 (s14 + s28)) S (wG 14 true 25 rfl rfl rfl hc45) rfl rfl rfl hq60 rfl (lb rfl) fun a S => ?_
    exact leafL ⟨rfl, S⟩
  · refine fI 31 (.agg #[.int .u8 x46.Kind, .bool x46.Purl, iv x46.A, iv x46.B]) [(30, q59), (25, .bool (decide ((w64 (s14 + s28)) < (p0.length : Int))))] 20 [some 19, some 14] rfl rfl rfl rfl rfl rfl fun G a w S => ?_
    refine sLoadVN (vq := q59) 3 [.int .u8 x46.Kind, .bool x46.Purl, iv x46.A, iv x46.B] S (wG 14 true 25 rfl rfl rfl hc45) rfl rfl rfl rfl rfl rfl (lb rfl) fun a S => ?_
    exact leafL ⟨rfl, S⟩
  · refine fI 32 (.slice ad1 p0.length cp2) [(0, .slice ad1 p0.length cp2), (25, .bool (decide ((w64 (s14 + s28)) < (p0.length : Int))))] 21 [none, some 14] rfl rfl rfl rfl rfl rfl fun G a w S => ?_
    refine sMove (.slice ad1 p0.length cp2) S (wG 14 true 25 rfl rfl rfl hc45) (.inl rfl) rfl rfl (lb rfl) fun a S => ?_
    exact leafL ⟨rfl, S⟩
  · refine fI 33 (iv s14) [(4, iv s14), (25, .bool (decide ((w64 (s14 + s28)) < (p0.length : Int))))] 22 [none, some 14] rfl rfl rfl rfl rfl rfl fun G a w S => ?_
    refine sMove (iv s14) S (wG 14 true 25 rfl rfl rfl hc45) (.inl rfl) rfl rfl (lb rfl) fun a S => ?_
    exact leafL ⟨rfl, S⟩
  · refine fI 34 q62 [(32, .slice ad1 p0.length cp2), (33, iv s14), (25, .bool (decide ((w64 (s14 + s28)) < (p0.length : Int))))] 23 [some 21, some 22, some 14] rfl rfl rfl rfl rfl rfl fun G a w S => ?_
    refine sIdxV (v := .slice ad1 p0.length cp2) (k := .i64) (j := s14) S (wG 14 true 25 rfl rfl rfl hc45) rfl rfl rfl hq63 rfl (lb rfl) fun a S => ?_
    exact leafL ⟨rfl, S⟩
  · refine fI 35 (.agg #[.int .u8 x37.Kind, .bool x37.Purl, iv x37.A, iv x37.B]) [(34, q62), (25, .bool (decide ((w64 (s14 + s28)) < (p0.length : Int))))] 24 [some 23, some 14] rfl rfl rfl rfl rfl rfl fun G a w S => ?_
    refine sLoadVN (vq := q62) 0 [.int .u8 x37.Kind, .bool x37.Purl, iv x37.A, iv x37.B] S (wG 14 true 25 rfl rfl rfl hc45) rfl rfl rfl rfl rfl rfl (lb rfl) fun a S => ?_
    exact leafL ⟨rfl, S⟩
  · refine fI 36 (.bool ((x46.Kind == x37.Kind) && ((x46.Purl == x37.Purl) && ((x46.A == x37.A) && ((x46.B == x37.B) && true))))) [(31, .agg #[.int .u8 x46.Kind, .bool x46.Purl, iv x46.A, iv x46.B]), (35, .agg #[.int .u8 x37.Kind, .bool x37.Purl, iv x37.A, iv x37.B]), (25, .bool (decide ((w64 (s14 + s28)) < (p0.length : Int))))] 25 [some 20, some 24, some 14] rfl rfl rfl rfl rfl rfl fun G a w S => ?_
    refine sBin (.bool ((x46.Kind == x37.Kind) && ((x46.Purl == x37.Purl) && ((x46.A == x37.A) && ((x46.B == x37.B) && true))))) S (wG 14 true 25 rfl rfl rfl hc45) rfl rfl rfl (bEqV _ _ _ _ #[.int .u8 x46.Kind, .bool x46.Purl, iv x46.A, iv x46.B] #[.int .u8 x37.Kind, .bool x37.Purl, iv x37.A, iv x37.B] ((x46.Kind == x37.Kind) && ((x46.Purl == x37.Purl) && ((x46.A == x37.A) && ((x46.B == x37.B) && true)))) (by kernel_rfl) (eqlV_of (by kernel_rfl))) rfl (lb rfl) fun a S => ?_
    exact leafL ⟨rfl, S⟩
  · refine fI 37 (.bool ((x46.Kind == x37.Kind) && ((x46.Purl == x37.Purl) && ((x46.A == x37.A) && ((x46.B == x37.B) && true))))) [(25, .bool (decide ((w64 (s14 + s28)) < (p0.length : Int)))), (36, .bool ((x46.Kind == x37.Kind) && ((x46.Purl == x37.Purl) && ((x46.A == x37.A) && ((x46.B == x37.B) && true)))))] 26 [some 14, some 25] rfl rfl rfl rfl rfl rfl fun G a w S => ?_
    refine sPickT (.bool ((x46.Kind == x37.Kind) && ((x46.Purl == x37.Purl) && ((x46.A == x37.A) && ((x46.B == x37.B) && true))))) S (wN rfl) rfl rfl hc45 rfl rfl (lb rfl) fun a S => ?_
    exact leafL ⟨rfl, S⟩
  exact leafT (⟨((x46.Kind == x37.Kind) && ((x46.Purl == x37.Purl) && ((x46.A == x37.A) && ((x46.B == x37.B) && true)))), Option.some.inj h, S.fix [0] [10] (by decide) rfl rfl rfl⟩)

end Go.Proofs.YtoiehdlcfehmlaaDoor
namespace Go.Proofs.YtoiehdlcfehmlaaDoor
open Go.RowKit
set_option linter.unusedVariables false

noncomputable def F_stitch_Text (p0 : (List api_Stitch)) : Option (ByteArray × Int) :=
  Option.bind (F_stitch_All p0) fun r6 =>
  if r6 != 0 then
    some ((⟨#[]⟩ : ByteArray), r6)
  else
    Option.bind (F_stitch_text p0) fun r12 =>
    if decide (3000 < (r12.size : Int)) then
      some ((⟨#[]⟩ : ByteArray), 4)
    else
      some (r12, 0)
set_option maxHeartbeats 4000000 in
set_option maxRecDepth 100000 in
theorem c_stitch_Text (E : Nat → Prop) (w0 : World) (p0 : (List api_Stitch)) (v0 : Value) (r : (ByteArray × Int)) (h : F_stitch_Text p0 = some r) (S : St0 E [] w0 w0 [] [fRep (rL r_api_Stitch) (v0) p0]) :
    Calls Tryd.prog 24 #[v0] w0 (Ret (X := Unit) E [] w0 (fun _ => .tuple #[.string r.1, .int .i64 r.2]) (fun _ => []) (fun _ => [])) := by
  unfold F_stitch_Text at h
  obtain ⟨ad1, cp2, _, rfl, _⟩ := S.know (i := 0) (e := fRep (rL r_api_Stitch) (v0) p0) rfl
  refine sEnter (args := [.slice ad1 p0.length cp2]) 17 Tryd.func24 rfl rfl (by simp) S (fun a S => ?_)
  refine sSeq (fun K3 hK3 => ?_)
  refine sRegion ?_
  refine sMove (.string (⟨#[]⟩ : ByteArray)) S (wN rfl) (.inr rfl) rfl rfl (lb rfl) fun a S => ?_
  refine sMove (iv 0) S (wN rfl) (.inr rfl) rfl rfl (lb rfl) fun a S => ?_
  refine leafL (leafT (hK3 _ _ ?_))
  refine sSeq (fun K4 hK4 => ?_)
  refine sSeq (fun K5 hK5 => ?_)
  refine sRegion ?_
  refine sMove (.slice ad1 p0.length cp2) S (wN rfl) (.inl rfl) rfl rfl (lb rfl) fun a S => ?_
  obtain ⟨r6, hx7, h⟩ := bindSome h
  have S1 := S.mem
  refine sCallQ (X := Unit) (f := 25) (vs := [.slice ad1 p0.length cp2]) (val := fun _ => iv r6) S (wN rfl) rfl callee25 rfl (S1.quiet [0] rfl) (fun E1 w1 S1 => c_stitch_All E1 w1 p0 (.slice ad1 p0.length cp2) r6 hx7 S1) rfl (lb rfl) fun _ a w S => ?_
  refine sMove (iv r6) S (wN rfl) (.inr rfl) rfl rfl (lb rfl) fun a S => ?_
  refine leafL (leafT (hK5 _ _ ?_))
  refine sSeq (fun K8 hK8 => ?_)
  refine sRegion ?_
  refine sMove (iv r6) S (wN rfl) (.inl rfl) rfl rfl (lb rfl) fun a S => ?_
  refine sBin (.bool (r6 != 0)) S (wN rfl) rfl rfl rfl (bNe _ _ _ _ .i64 r6 0) rfl (lb rfl) fun a S => ?_
  refine leafL (leafT (hK8 _ _ ?_))
  rcases iteSome h with ⟨hc9, h⟩ | ⟨hc9, h⟩
  · refine sCondT S rfl hc9 ?_
    refine sSeq (fun K10 hK10 => ?_)
    refine sRegion ?_
    refine sMove (iv r6) S (wN rfl) (.inl rfl) rfl rfl (lb rfl) fun a S => ?_
    refine sMove (.string (⟨#[]⟩ : ByteArray)) S (wN rfl) (.inr rfl) rfl rfl (lb rfl) fun a S => ?_
    refine sMove (iv r6) S (wN rfl) (.inr rfl) rfl rfl (lb rfl) fun a S => ?_
    refine leafL (leafT (hK10 _ _ ?_))
    obtain rfl := Option.some.inj h
    exact wp_ret (rThen (sRet (.tuple #[.string (⟨#[]⟩ : ByteArray), iv r6]) S (rsl2 rfl (rvT (t := 2) (v := .string (⟨#[]⟩ : ByteArray)) S rfl) (rvT (t := 3) (v := iv r6) S rfl)) ⟨(), rfl, S.mem.sel [] [] (by decide) rfl rfl⟩))
  refine sCondF S rfl hc9 ?_
  refine wp_skip (leafT (hK4 _ _ ?_))
  refine sSeq (fun K11 hK11 => ?_)
  refine sRegion ?_
  refine sMove (.slice ad1 p0.length cp2) S (wN rfl) (.inl rfl) rfl rfl (lb rfl) fun a S => ?_
  obtain ⟨r12, hx13, h⟩ := bindSome h
  have S1 := S.mem
  refine sCallQ (X := Unit) (f := 30) (vs := [.slice ad1 p0.length cp2]) (val := fun _ => .string r12) S (wN rfl) rfl callee30 rfl (S1.quiet [0] rfl) (fun E1 w1 S1 => c_stitch_text E1 w1 p0 (.slice ad1 p0.length cp2) r12 hx13 S1) rfl (lb rfl) fun _ a w S => ?_
  refine sMove (.string r12) S (wN rfl) (.inr rfl) rfl rfl (lb rfl) fun a S => ?_
  refine leafL (leafT (hK11 _ _ ?_))
  refine sSeq (fun K14 hK14 => ?_)
  refine sSeq (fun K15 hK15 => ?_)
  refine sRegion ?_
  refine sMove (.string r12) S (wN rfl) (.inl rfl) rfl rfl (lb rfl) fun a S => ?_
  refine sLenS (v := r12) S (wN rfl) rfl Tryd.underlying9 rfl rfl (lb rfl) fun a S => ?_
  refine sBin (.bool (decide (3000 < (r12.size : Int)))) S (wN rfl) rfl rfl rfl (bGt _ _ _ _ .i64 (r12.size : Int) 3000) rfl (lb rfl) fun a S => ?_
  refine leafL (leafT (hK15 _ _ ?_))
  rcases iteSome h with ⟨hc16, h⟩ | ⟨hc16, h⟩
  · refine sCondT S rfl hc16 ?_
    refine sSeq (fun K17 hK17 => ?_)
    refine sRegion ?_
    refine sMove (.string (⟨#[]⟩ : ByteArray)) S (wN rfl) (.inr rfl) rfl rfl (lb rfl) fun a S => ?_
    refine sMove (iv 4) S (wN rfl) (.inr rfl) rfl rfl (lb rfl) fun a S => ?_
    refine leafL (leafT (hK17 _ _ ?_))
    obtain rfl := Option.some.inj h
    exact wp_ret (rThen (sRet (.tuple #[.string (⟨#[]⟩ : ByteArray), iv 4]) S (rsl2 rfl (rvT (t := 2) (v := .string (⟨#[]⟩ : ByteArray)) S rfl) (rvT (t := 3) (v := iv 4) S rfl)) ⟨(), rfl, S.mem.sel [] [] (by decide) rfl rfl⟩))
  refine sCondF S rfl hc16 ?_
  refine wp_skip (leafT (hK14 _ _ ?_))
  refine sSeq (fun K18 hK18 => ?_)
  refine sRegion ?_
  refine sMove (.string r12) S (wN rfl) (.inl rfl) rfl rfl (lb rfl) fun a S => ?_
  refine sMove (.string r12) S (wN rfl) (.inr rfl) rfl rfl (lb rfl) fun a S => ?_
  refine sMove (iv 0) S (wN rfl) (.inr rfl) rfl rfl (lb rfl) fun a S => ?_
  refine leafL (leafT (hK18 _ _ ?_))
  obtain rfl := Option.some.inj h
  exact wp_ret (sRet (.tuple #[.string r12, iv 0]) S (rsl2 rfl (rvT (t := 2) (v := .string r12) S rfl) (rvT (t := 3) (v := iv 0) S rfl)) ⟨(), rfl, S.mem.sel [] [] (by decide) rfl rfl⟩)

end Go.Proofs.YtoiehdlcfehmlaaDoor
namespace Go.Proofs.YtoiehdlcfehmlaaDoor
open Go.RowKit
set_option linter.unusedVariables false

noncomputable def short_Turns_l1 (p1 : Int) (p0 : Int) : (List Int × Int) → Option ((List Int × Int) ⊕ List Int) := fun s0 => match s0 with
  | (s24, s27) =>
    if decide (s27 < p1) then
      Option.bind (quoI (w64 ((w64 (p0 * (w64 ((w64 (2 * (w64 (p1 - s27)))) - 1)))) + p1)) (w64 (2 * p1))) fun z40 =>
      Option.bind (idxO s24 s27) fun x42 =>
      Option.bind (setO s24 s27 z40) fun l47 =>
      some (.inl (l47, w64 (s27 + 1)))
    else
      some (.inr s24)
noncomputable def F_short_Turns (p0 : Int) (p1 : Int) : Option ((List Int) × Int) :=
  Option.bind (α := Bool) (
    Option.bind (F_short_within p0 1 200) fun r6 =>
    if !r6 then
      some true
    else
      Option.bind (F_short_within p1 0 (if (50 : Int) < p0 then 50 else p0)) fun r9 =>
      some (!r9)) fun o3 =>
  if o3 then
    some (([] : (List Int)), 2)
  else
    Option.bind (makeO p1 (0 : Int)) fun m16 =>
    Option.bind (α := List Int) (
      Option.bind (whileO (short_Turns_l1 p1 p0) (m16, 0)) fun e31 =>
        some e31) fun o18 =>
    some (o18, 0)
def c_short_Turns_val (r : ((List Int) × Int)) (x : Value) : Value := .tuple #[x, .int .i64 r.2]
def c_short_Turns_D (r : ((List Int) × Int)) (x : Value) : List Fact := [fRep (rL (rI .i64)) x r.1]
set_option maxHeartbeats 4000000 in
set_option maxRecDepth 100000 in
theorem c_short_Turns (E : Nat → Prop) (w0 : World) (p0 : Int) (p1 : Int) (r : ((List Int) × Int)) (h : F_short_Turns p0 p1 = some r) (S : St0 E [] w0 w0 [] []) :
    Calls Tryd.prog 8 #[iv p0, iv p1] w0 (Ret (X := Value) E [] w0 (c_short_Turns_val r) (fun _ => []) (c_short_Turns_D r)) := by
  unfold F_short_Turns at h
  refine sEnter (args := [iv p0, iv p1]) 43 Tryd.func8 rfl rfl (by simp) S (fun a S => ?_)
  refine sSeq (fun K1 hK1 => ?_)
  refine sRegion ?_
  refine sMove (.slice none 0 0) S (wN rfl) (.inr rfl) rfl rfl (lb rfl) fun a S => ?_
  refine sMove (iv 0) S (wN rfl) (.inr rfl) rfl rfl (lb rfl) fun a S => ?_
  refine leafL (leafT (hK1 _ _ ?_))
  refine sSeq (fun K2 hK2 => ?_)
  obtain ⟨t4, h, g5⟩ := bindSome h
  refine sCut (fun a w => ∃ o3, o3 = t4 ∧ St [] E [] w0 43 a w [(0, iv p0), (1, iv p1), (18, .bool o3)] [] []) ?_ (fun a w hI => ?_)
  · refine sRegion ?_
    refine sMove (iv p0) S (wN rfl) (.inl rfl) rfl rfl (lb rfl) fun a S => ?_
    obtain ⟨r6, hx7, h⟩ := bindSome h
    have S1 := S.mem
    refine sCallQ (X := Unit) (f := 18) (vs := [iv p0, iv 1, iv 200]) (val := fun _ => .bool r6) S (wN rfl) rfl callee18 rfl (S1.quiet [] rfl) (fun E1 w1 S1 => c_short_within E1 w1 p0 1 200 r6 hx7 S1) rfl (lb rfl) fun _ a w S => ?_
    refine sNot (b := r6) S (wN rfl) rfl rfl rfl (lb rfl) fun a S => ?_
    refine sMove (.bool (!r6)) S (wN rfl) (.inl rfl) rfl rfl (lb rfl) fun a S => ?_
    rcases iteSome h with ⟨hc8, h⟩ | ⟨hc8, h⟩
    · refine sSkip 3 false 12 13 S rfl rfl rfl hc8 rfl (lb rfl) fun a S => ?_
      refine sSkip 3 false 12 14 S rfl rfl rfl hc8 rfl (lb rfl) fun a S => ?_
      refine sSkip 3 false 12 15 S rfl rfl rfl hc8 rfl (lb rfl) fun a S => ?_
      refine sSkip 3 false 12 16 S rfl rfl rfl hc8 rfl (lb rfl) fun a S => ?_
      refine sSkip 3 false 12 17 S rfl rfl rfl hc8 rfl (lb rfl) fun a S => ?_
      refine sPickT (.bool true) S (wN rfl) rfl rfl hc8 rfl rfl (lb rfl) fun a S => ?_
      exact leafL (leafT (⟨true, Option.some.inj h, S.fix [] [] (by decide) rfl rfl rfl⟩))
    refine sMove (iv p1) S (wG 3 false 12 rfl rfl rfl hc8) (.inl rfl) rfl rfl (lb rfl) fun a S => ?_
    refine sMove (iv p0) S (wG 3 false 12 rfl rfl rfl hc8) (.inl rfl) rfl rfl (lb rfl) fun a S => ?_
    refine sMin2 (p := p0) (q := 50) S (wG 3 false 12 rfl rfl rfl hc8) rfl rfl rfl rfl (lb rfl) fun a S => ?_
    obtain ⟨r9, hx10, h⟩ := bindSome h
    have S1 := S.mem
    refine sCallQ (X := Unit) (f := 18) (vs := [iv p1, iv 0, iv (if (50 : Int) < p0 then 50 else p0)]) (val := fun _ => .bool r9) S (wG 3 false 12 rfl rfl rfl hc8) rfl callee18 rfl (S1.quiet [] rfl) (fun E1 w1 S1 => c_short_within E1 w1 p1 0 (if (50 : Int) < p0 then 50 else p0) r9 hx10 S1) rfl (lb rfl) fun _ a w S => ?_
    refine sNot (b := r9) S (wG 3 false 12 rfl rfl rfl hc8) rfl rfl rfl (lb rfl) fun a S => ?_
    refine sPickF (.bool (!r9)) S (wN rfl) rfl rfl hc8 rfl rfl (lb rfl) fun a S => ?_
    exact leafL (leafT (⟨!r9, Option.some.inj h, S.fix [] [] (by decide) rfl rfl rfl⟩))
  obtain ⟨o3, rfl, S⟩ := hI
  have h := g5
  clear g5
  try dsimp only at h
  rcases iteSome h with ⟨hc11, h⟩ | ⟨hc11, h⟩
  · refine sCondT S rfl hc11 ?_
    refine sSeq (fun K12 hK12 => ?_)
    refine sRegion ?_
    refine sMove (.slice none 0 0) S (wN rfl) (.inr rfl) rfl rfl (lb rfl) fun a S => ?_
    refine sMove (iv 2) S (wN rfl) (.inr rfl) rfl rfl (lb rfl) fun a S => ?_
    refine leafL (leafT (hK12 _ _ ?_))
    obtain rfl := Option.some.inj h
    have S := S.learn (fRep (rL (rI .i64)) (.slice none 0 0) ([] : (List Int))) (rL_nil _ _ _)
    exact wp_ret (rThen (sRet (.tuple #[.slice none 0 0, iv 2]) S (rsl2 rfl (rvT (t := 4) (v := .slice none 0 0) S rfl) (rvT (t := 5) (v := iv 2) S rfl)) ⟨(.slice none 0 0), rfl, S.mem.sel [] [0] (by decide) rfl rfl⟩))
  refine sCondF S rfl hc11 ?_
  refine wp_skip (leafT (hK2 _ _ ?_))
  refine sSeq (fun K13 hK13 => ?_)
  refine sRegion ?_
  refine sMove (iv p1) S (wN rfl) (.inl rfl) rfl rfl (lb rfl) fun a S => ?_
  obtain ⟨m16, hx17, h⟩ := bindSome h
  refine sMake (r := (rI .i64)) (m := p1) (xs := m16) (iv 0) (0 : Int) 8 S (wN rfl) rfl Tryd.underlying22 rfl rfl (by decide) (fun _ _ => rfl) rfl rfl hx17 rfl (lb rfl) fun a w ad14 cp15 S => ?_
  refine sMove (.slice ad14 m16.length cp15) S (wN rfl) (.inr rfl) rfl rfl (lb rfl) fun a S => ?_
  refine leafL (leafT (hK13 _ _ ?_))
  obtain ⟨t21, h, g22⟩ := bindSome h
  refine sCut (fun a w => ∃ o18, o18 = t21 ∧ ∃ ad19, ∃ cp20, St [] E [] w0 43 a w [(6, .slice ad19 o18.length cp20)] [eRow (rI .i64) 3 (.slice ad19 o18.length cp20) o18] []) ?_ (fun a w hI => ?_)
  rotate_left
  · obtain ⟨o18, rfl, ad19, cp20, S⟩ := hI
    have h := g22
    clear g22
    try dsimp only at h
    refine sSeq (fun K49 hK49 => ?_)
    refine sRegion ?_
    refine sMove (.slice ad19 o18.length cp20) S (wN rfl) (.inl rfl) rfl rfl (lb rfl) fun a S => ?_
    refine sMove (.slice ad19 o18.length cp20) S (wN rfl) (.inr rfl) rfl rfl (lb rfl) fun a S => ?_
    refine sMove (iv 0) S (wN rfl) (.inr rfl) rfl rfl (lb rfl) fun a S => ?_
    refine leafL (leafT (hK49 _ _ ?_))
    obtain rfl := Option.some.inj h
    have S := S.shutR (r := (rI .i64)) (T := 3) (v := .slice ad19 o18.length cp20) (xs := o18) 0 rfl
    exact wp_ret (sRet (.tuple #[.slice ad19 o18.length cp20, iv 0]) S (rsl2 rfl (rvT (t := 4) (v := .slice ad19 o18.length cp20) S rfl) (rvT (t := 5) (v := iv 0) S rfl)) ⟨(.slice ad19 o18.length cp20), rfl, S.mem.sel [] [0] (by decide) rfl rfl⟩)
  refine sSeq (fun K23 hK23 => ?_)
  refine sRegion ?_
  refine sMove (iv p1) S (wN rfl) (.inl rfl) rfl rfl (lb rfl) fun a S => ?_
  refine sMove (iv 0) S (wN rfl) (.inl rfl) rfl rfl (lb rfl) fun a S => ?_
  refine leafL (leafT (hK23 _ _ ?_))
  refine wp_block ?_
  obtain ⟨t30, hl, g29⟩ := bindSome h
  refine sLoop hl (fun s0 a w => match s0 with | (s24, s27) => ∃ ad25, ∃ cp26, St [] E [] w0 43 a w [(0, iv p0), (1, iv p1), (6, .slice ad25 s24.length cp26), (21, iv p1), (22, iv s27)] [eRow (rI .i64) 3 (.slice ad25 s24.length cp26) s24] []) ⟨ad14, cp15, S.fix [0] [] (by decide) rfl rfl rfl⟩ ?_
  clear hl h
  intro s0 a w c0 hI h hu28
  obtain ⟨s24, s27⟩ := s0
  unfold short_Turns_l1 at h
  dsimp only at h hI
  obtain ⟨ad25, cp26, S⟩ := hI
  refine sSeq (fun K34 hK34 => ?_)
  refine sRegion ?_
  refine sBin (.bool (decide (s27 < p1))) S (wN rfl) rfl rfl rfl (bLt _ _ _ _ .i64 s27 p1) rfl (lb rfl) fun a S => ?_
  refine leafL (leafT (hK34 _ _ ?_))
  refine sSeq (fun K35 hK35 => ?_)
  rcases iteSome h with ⟨hc36, h⟩ | ⟨hc36, h⟩
  rotate_left
  · refine sCondF S rfl hc36 ?_
    obtain rfl := Option.some.inj h
    obtain rfl := hu28 _ rfl
    have h := g29
    clear g29
    try dsimp only at h
    exact wp_exit (xThen (xThen (xHit (leafT (⟨s24, Option.some.inj h, ad25, cp26, S.fix [0] [] (by decide) rfl rfl rfl⟩)))))
  refine sCondT S rfl hc36 ?_
  refine wp_skip (leafT (hK35 _ _ ?_))
  refine sSeq (fun K37 hK37 => ?_)
  refine wp_block ?_
  refine sSeq (fun K38 hK38 => ?_)
  refine sRegion ?_
  refine sMove (iv s27) S (wN rfl) (.inl rfl) rfl rfl (lb rfl) fun a S => ?_
  refine sMove (iv s27) S (wN rfl) (.inr rfl) rfl rfl (lb rfl) fun a S => ?_
  refine leafL (leafT (hK38 _ _ ?_))
  refine sSeq (fun K39 hK39 => ?_)
  refine sRegion ?_
  refine sMove (iv p1) S (wN rfl) (.inl rfl) rfl rfl (lb rfl) fun a S => ?_
  refine sMove (iv s27) S (wN rfl) (.inl rfl) rfl rfl (lb rfl) fun a S => ?_
  refine sBin (iv (w64 (p1 - s27))) S (wN rfl) rfl rfl rfl (bSub _ _ _ _ p1 s27) rfl (lb rfl) fun a S => ?_
  refine sBin (iv (w64 (2 * (w64 (p1 - s27))))) S (wN rfl) rfl rfl rfl (bMul _ _ _ _ 2 (w64 (p1 - s27))) rfl (lb rfl) fun a S => ?_
  refine sBin (iv (w64 ((w64 (2 * (w64 (p1 - s27)))) - 1))) S (wN rfl) rfl rfl rfl (bSub _ _ _ _ (w64 (2 * (w64 (p1 - s27)))) 1) rfl (lb rfl) fun a S => ?_
  refine sMove (iv (w64 ((w64 (2 * (w64 (p1 - s27)))) - 1))) S (wN rfl) (.inr rfl) rfl rfl (lb rfl) fun a S => ?_
  refine leafL (leafT (hK39 _ _ ?_))
  refine sRegion ?_
  refine sMove (.slice ad25 s24.length cp26) S (wN rfl) (.inl rfl) rfl rfl (lb rfl) fun a S => ?_
  refine sMove (iv s27) S (wN rfl) (.inl rfl) rfl rfl (lb rfl) fun a S => ?_
  refine sMove (iv p0) S (wN rfl) (.inl rfl) rfl rfl (lb rfl) fun a S => ?_
  refine sMove (iv (w64 ((w64 (2 * (w64 (p1 - s27)))) - 1))) S (wN rfl) (.inl rfl) rfl rfl (lb rfl) fun a S => ?_
  refine sBin (iv (w64 (p0 * (w64 ((w64 (2 * (w64 (p1 - s27)))) - 1))))) S (wN rfl) rfl rfl rfl (bMul _ _ _ _ p0 (w64 ((w64 (2 * (w64 (p1 - s27)))) - 1))) rfl (lb rfl) fun a S => ?_
  refine sMove (iv p1) S (wN rfl) (.inl rfl) rfl rfl (lb rfl) fun a S => ?_
  refine sBin (iv (w64 ((w64 (p0 * (w64 ((w64 (2 * (w64 (p1 - s27)))) - 1)))) + p1))) S (wN rfl) rfl rfl rfl (bAdd _ _ _ _ (w64 (p0 * (w64 ((w64 (2 * (w64 (p1 - s27)))) - 1)))) p1) rfl (lb rfl) fun a S => ?_
  refine sMove (iv p1) S (wN rfl) (.inl rfl) rfl rfl (lb rfl) fun a S => ?_
  refine sBin (iv (w64 (2 * p1))) S (wN rfl) rfl rfl rfl (bMul _ _ _ _ 2 p1) rfl (lb rfl) fun a S => ?_
  obtain ⟨z40, hx41, h⟩ := bindSome h
  refine sBin (iv z40) S (wN rfl) rfl rfl rfl (bQuo _ _ _ _ (x := w64 ((w64 (p0 * (w64 ((w64 (2 * (w64 (p1 - s27)))) - 1)))) + p1)) (y := w64 (2 * p1)) hx41) rfl (lb rfl) fun a S => ?_
  obtain ⟨x42, hx43, h⟩ := bindSome h
  obtain ⟨q44, hq45, hp46⟩ := pIdxR (P := Tryd.prog) (r := (rI .i64)) (T := 3) (v := .slice ad25 s24.length cp26) (xs := s24) (j := s27) 22 3 0 S Tryd.underlying22 rfl rfl hx43
  refine sIdxV (v := .slice ad25 s24.length cp26) (k := .i64) (j := s27) S (wN rfl) rfl rfl rfl hq45 rfl (lb rfl) fun a S => ?_
  obtain ⟨l47, hx48, h⟩ := bindSome h
  refine sStoreR (r := (rI .i64)) (T := 3) (xs := s24) (ys := l47) (y := z40) (v := .slice ad25 s24.length cp26) (vq := q44) (u := iv z40) (j := s27) 0 S hp46 (wN rfl) rfl rfl rfl rfl rfl hx48 rfl rfl fun a w S => ?_
  rw [setO_v hx48 ad25 cp26] at S
  refine leafL (leafB (leafT (hK37 _ _ ?_)))
  refine sRegion ?_
  refine sBin (iv (w64 (s27 + 1))) S (wN rfl) rfl rfl rfl (bAdd _ _ _ _ s27 1) rfl (lb rfl) fun a S => ?_
  refine sMove (iv (w64 (s27 + 1))) S (wN rfl) (.inl rfl) rfl rfl (lb rfl) fun a S => ?_
  exact leafL (leafT (⟨(l47, w64 (s27 + 1)), (Option.some.inj h).symm, ⟨ad25, cp26, S.fix [0] [] (by decide) rfl rfl rfl⟩⟩))

end Go.Proofs.YtoiehdlcfehmlaaDoor
namespace Go.Proofs.YtoiehdlcfehmlaaDoor
open Go.RowKit
set_option linter.unusedVariables false

def anc_short_Heights_0 : List (List Nat) := [[], [], [0, 1], [0, 1, 2], [], [], [5], [4, 5, 6], [4, 5, 6, 7], [0, 1, 2, 3, 4, 5, 6, 7, 8], [0, 1, 2, 3, 4, 5, 6, 7, 8, 9], [0, 1, 2, 3, 4, 5, 6, 7, 8, 9, 10]]
noncomputable def short_Heights_l1 (p1 : (List Int)) : (List Int × Int) → Option ((List Int × Int) ⊕ List Int) := fun s0 => match s0 with
  | (s22, s25) =>
    if decide (s25 < (p1.length : Int)) then
      Option.bind (idxO p1 s25) fun x37 =>
      Option.bind (idxO s22 (w64 (x37 - 1))) fun x42 =>
      Option.bind (setO s22 (w64 (x37 - 1)) (w64 (x42 + 1))) fun l50 =>
      some (.inl (l50, w64 (s25 + 1)))
    else
      some (.inr s22)
noncomputable def short_Heights_l2  : (List Int × Int) → Option ((List Int × Int) ⊕ List Int) := fun s0 => match s0 with
  | (s58, s61) =>
    if decide (0 ≤ s61) then
      Option.bind (idxO s58 s61) fun x72 =>
      Option.bind (idxO s58 (w64 (s61 + 1))) fun x77 =>
      Option.bind (setO s58 s61 (w64 (x72 + x77))) fun l85 =>
      some (.inl (l85, w64 (s61 - 1)))
    else
      some (.inr s58)
noncomputable def F_short_Heights (p0 : Int) (p1 : (List Int)) : Option ((List Int) × Int) :=
  Option.bind (F_short_check p0 p1) fun r6 =>
  if r6 != 0 then
    some (([] : (List Int)), r6)
  else
    Option.bind (makeO p0 (0 : Int)) fun m14 =>
    Option.bind (α := List Int) (
      Option.bind (whileO (short_Heights_l1 p1) (m14, 0)) fun e29 =>
        some e29) fun o16 =>
    Option.bind (α := List Int) (
      Option.bind (whileO (short_Heights_l2) (o16, w64 (p0 - 2))) fun e65 =>
        some e65) fun o52 =>
    some (o52, 0)
def c_short_Heights_val (r : ((List Int) × Int)) (x : Value) : Value := .tuple #[x, .int .i64 r.2]
def c_short_Heights_D (r : ((List Int) × Int)) (x : Value) : List Fact := [fRep (rL (rI .i64)) x r.1]
set_option maxHeartbeats 4000000 in
set_option maxRecDepth 100000 in
theorem c_short_Heights (E : Nat → Prop) (w0 : World) (p0 : Int) (p1 : (List Int)) (v1 : Value) (r : ((List Int) × Int)) (h : F_short_Heights p0 p1 = some r) (S : St0 E [] w0 w0 [] [fRep (rL (rI .i64)) (v1) p1]) :
    Calls Tryd.prog 9 #[iv p0, v1] w0 (Ret (X := Value) E [] w0 (c_short_Heights_val r) (fun _ => []) (c_short_Heights_D r)) := by
  unfold F_short_Heights at h
  obtain ⟨ad1, cp2, _, rfl, _⟩ := S.know (i := 0) (e := fRep (rL (rI .i64)) (v1) p1) rfl
  refine sEnter (args := [iv p0, .slice ad1 p1.length cp2]) 51 Tryd.func9 rfl rfl (by simp) S (fun a S => ?_)
  refine sSeq (fun K3 hK3 => ?_)
  refine sRegion ?_
  refine sMove (.slice none 0 0) S (wN rfl) (.inr rfl) rfl rfl (lb rfl) fun a S => ?_
  refine sMove (iv 0) S (wN rfl) (.inr rfl) rfl rfl (lb rfl) fun a S => ?_
  refine leafL (leafT (hK3 _ _ ?_))
  refine sSeq (fun K4 hK4 => ?_)
  refine sSeq (fun K5 hK5 => ?_)
  refine sRegion ?_
  refine sMove (iv p0) S (wN rfl) (.inl rfl) rfl rfl (lb rfl) fun a S => ?_
  refine sMove (.slice ad1 p1.length cp2) S (wN rfl) (.inl rfl) rfl rfl (lb rfl) fun a S => ?_
  obtain ⟨r6, hx7, h⟩ := bindSome h
  have S1 := S.mem
  refine sCallQ (X := Unit) (f := 19) (vs := [iv p0, .slice ad1 p1.length cp2]) (val := fun _ => iv r6) S (wN rfl) rfl callee19 rfl (S1.quiet [0] rfl) (fun E1 w1 S1 => c_short_check E1 w1 p0 p1 (.slice ad1 p1.length cp2) r6 hx7 S1) rfl (lb rfl) fun _ a w S => ?_
  refine sMove (iv r6) S (wN rfl) (.inr rfl) rfl rfl (lb rfl) fun a S => ?_
  refine leafL (leafT (hK5 _ _ ?_))
  refine sSeq (fun K8 hK8 => ?_)
  refine sRegion ?_
  refine sMove (iv r6) S (wN rfl) (.inl rfl) rfl rfl (lb rfl) fun a S => ?_
  refine sBin (.bool (r6 != 0)) S (wN rfl) rfl rfl rfl (bNe _ _ _ _ .i64 r6 0) rfl (lb rfl) fun a S => ?_
  refine leafL (leafT (hK8 _ _ ?_))
  rcases iteSome h with ⟨hc9, h⟩ | ⟨hc9, h⟩
  · refine sCondT S rfl hc9 ?_
    refine sSeq (fun K10 hK10 => ?_)
    refine sRegion ?_
    refine sMove (iv r6) S (wN rfl) (.inl rfl) rfl rfl (lb rfl) fun a S => ?_
    refine sMove (.slice none 0 0) S (wN rfl) (.inr rfl) rfl rfl (lb rfl) fun a S => ?_
    refine sMove (iv r6) S (wN rfl) (.inr rfl) rfl rfl (lb rfl) fun a S => ?_
    refine leafL (leafT (hK10 _ _ ?_))
    obtain rfl := Option.some.inj h
    have S := S.learn (fRep (rL (rI .i64)) (.slice none 0 0) ([] : (List Int))) (rL_nil _ _ _)
    exact wp_ret (rThen (sRet (.tuple #[.slice none 0 0, iv r6]) S (rsl2 rfl (rvT (t := 4) (v := .slice none 0 0) S rfl) (rvT (t := 5) (v := iv r6) S rfl)) ⟨(.slice none 0 0), rfl, S.mem.sel [] [0] (by decide) rfl rfl⟩))
  refine sCondF S rfl hc9 ?_
  refine wp_skip (leafT (hK4 _ _ ?_))
  refine sSeq (fun K11 hK11 => ?_)
  refine sRegion ?_
  refine sMove (iv p0) S (wN rfl) (.inl rfl) rfl rfl (lb rfl) fun a S => ?_
  obtain ⟨m14, hx15, h⟩ := bindSome h
  refine sMake (r := (rI .i64)) (m := p0) (xs := m14) (iv 0) (0 : Int) 8 S (wN rfl) rfl Tryd.underlying22 rfl rfl (by decide) (fun _ _ => rfl) rfl rfl hx15 rfl (lb rfl) fun a w ad12 cp13 S => ?_
  refine sMove (.slice ad12 m14.length cp13) S (wN rfl) (.inr rfl) rfl rfl (lb rfl) fun a S => ?_
  refine leafL (leafT (hK11 _ _ ?_))
  obtain ⟨t19, h, g20⟩ := bindSome h
  refine sCut (fun a w => ∃ o16, o16 = t19 ∧ ∃ ad17, ∃ cp18, St [] E [] w0 51 a w [(0, iv p0), (7, .slice ad17 o16.length cp18)] [eRow (rI .i64) 3 (.slice ad17 o16.length cp18) o16] []) ?_ (fun a w hI => ?_)
  · refine sSeq (fun K21 hK21 => ?_)
    refine sRegion ?_
    refine sMove (.slice ad1 p1.length cp2) S (wN rfl) (.inl rfl) rfl rfl (lb rfl) fun a S => ?_
    refine sLen (ad := ad1) (m := p1.length) (c := cp2) S (wN rfl) rfl Tryd.underlying22 rfl rfl (lb rfl) fun a S => ?_
    refine sMove (iv 0) S (wN rfl) (.inl rfl) rfl rfl (lb rfl) fun a S => ?_
    refine leafL (leafT (hK21 _ _ ?_))
    refine wp_block ?_
    obtain ⟨t28, hl, g27⟩ := bindSome h
    refine sLoop hl (fun s0 a w => match s0 with | (s22, s25) => ∃ ad23, ∃ cp24, St [] E [] w0 51 a w [(0, iv p0), (7, .slice ad23 s22.length cp24), (19, .slice ad1 p1.length cp2), (20, iv (p1.length : Int)), (21, iv s25)] [eRow (rI .i64) 3 (.slice ad23 s22.length cp24) s22] [fRep (rL (rI .i64)) (.slice ad1 p1.length cp2) p1]) ⟨ad12, cp13, S.fix [0] [0] (by decide) rfl rfl rfl⟩ ?_
    clear hl h
    intro s0 a w c0 hI h hu26
    obtain ⟨s22, s25⟩ := s0
    unfold short_Heights_l1 at h
    dsimp only at h hI
    obtain ⟨ad23, cp24, S⟩ := hI
    refine sSeq (fun K32 hK32 => ?_)
    refine sRegion ?_
    refine sBin (.bool (decide (s25 < (p1.length : Int)))) S (wN rfl) rfl rfl rfl (bLt _ _ _ _ .i64 s25 (p1.length : Int)) rfl (lb rfl) fun a S => ?_
    refine leafL (leafT (hK32 _ _ ?_))
    refine sSeq (fun K33 hK33 => ?_)
    rcases iteSome h with ⟨hc34, h⟩ | ⟨hc34, h⟩
    rotate_left
    · refine sCondF S rfl hc34 ?_
      obtain rfl := Option.some.inj h
      obtain rfl := hu26 _ rfl
      have h := g27
      clear g27
      try dsimp only at h
      exact wp_exit (xThen (xThen (xHit (leafT (⟨s22, Option.some.inj h, ad23, cp24, S.fix [0] [] (by decide) rfl rfl rfl⟩)))))
    refine sCondT S rfl hc34 ?_
    refine wp_skip (leafT (hK33 _ _ ?_))
    refine sSeq (fun K35 hK35 => ?_)
    refine wp_block ?_
    refine sSeq (fun K36 hK36 => ?_)
    refine sRegion ?_
    obtain ⟨x37, hx38, h⟩ := bindSome h
    obtain ⟨q39, hq40, S⟩ := pIdx (P := Tryd.prog) (r := (rI .i64)) (v := .slice ad1 p1.length cp2) (xs := p1) (j := s25) 22 3 0 S Tryd.underlying22 rfl rfl hx38
    refine sIdxV (v := .slice ad1 p1.length cp2) (k := .i64) (j := s25) S (wN rfl) rfl rfl rfl hq40 rfl (lb rfl) fun a S => ?_
    obtain ⟨u41, S⟩ := pLoad (r := (rI .i64)) (q := q39) (x := x37) 0 S rfl
    obtain rfl : u41 = iv x37 := S.mem.know (i := 1) (e := fRep (rI .i64) (u41) x37) rfl
    refine sLoadV1 (vq := q39) 0 (iv x37) S (wN rfl) rfl rfl rfl rfl rfl (lb rfl) fun a S => ?_
    refine sMove (iv x37) S (wN rfl) (.inr rfl) rfl rfl (lb rfl) fun a S => ?_
    refine leafL (leafT (hK36 _ _ ?_))
    refine sRegion ?_
    refine sMove (.slice ad23 s22.length cp24) S (wN rfl) (.inl rfl) rfl rfl (lb rfl) fun a S => ?_
    refine sMove (iv x37) S (wN rfl) (.inl rfl) rfl rfl (lb rfl) fun a S => ?_
    refine sBin (iv (w64 (x37 - 1))) S (wN rfl) rfl rfl rfl (bSub _ _ _ _ x37 1) rfl (lb rfl) fun a S => ?_
    obtain ⟨x42, hx43, h⟩ := bindSome h
    obtain ⟨q44, hq45, hp46⟩ := pIdxR (P := Tryd.prog) (r := (rI .i64)) (T := 3) (v := .slice ad23 s22.length cp24) (xs := s22) (j := w64 (x37 - 1)) 22 3 0 S Tryd.underlying22 rfl rfl hx43
    refine sIdxV (v := .slice ad23 s22.length cp24) (k := .i64) (j := w64 (x37 - 1)) S (wN rfl) rfl rfl rfl hq45 rfl (lb rfl) fun a S => ?_
    refine sLoadR (r := (rI .i64)) (T := 3) (xs := s22) (x := x42) (v := .slice ad23 s22.length cp24) (vq := q44) (j := w64 (x37 - 1)) 0 (iv x42) S hp46 (wN rfl) rfl rfl rfl hx43 (fun _ _ _ h => h) (scal_I _) rfl rfl (lb rfl) fun a S => ?_
    refine sBin (iv (w64 (x42 + 1))) S (wN rfl) rfl rfl rfl (bAdd _ _ _ _ x42 1) rfl (lb rfl) fun a S => ?_
    obtain ⟨q47, hq48, hp49⟩ := pIdxR (P := Tryd.prog) (r := (rI .i64)) (T := 3) (v := .slice ad23 s22.length cp24) (xs := s22) (j := w64 (x37 - 1)) 22 3 0 S Tryd.underlying22 rfl rfl hx43
    refine sIdxV (v := .slice ad23 s22.length cp24) (k := .i64) (j := w64 (x37 - 1)) S (wN rfl) rfl rfl rfl hq48 rfl (lb rfl) fun a S => ?_
    obtain ⟨l50, hx51, h⟩ := bindSome h
    refine sStoreR (r := (rI .i64)) (T := 3) (xs := s22) (ys := l50) (y := (w64 (x42 + 1))) (v := .slice ad23 s22.length cp24) (vq := q47) (u := iv (w64 (x42 + 1))) (j := w64 (x37 - 1)) 0 S hp49 (wN rfl) rfl rfl rfl rfl rfl hx51 rfl rfl fun a w S => ?_
    rw [setO_v hx51 ad23 cp24] at S
    refine leafL (leafB (leafT (hK35 _ _ ?_)))
    refine sRegion ?_
    refine sBin (iv (w64 (s25 + 1))) S (wN rfl) rfl rfl rfl (bAdd _ _ _ _ s25 1) rfl (lb rfl) fun a S => ?_
    refine sMove (iv (w64 (s25 + 1))) S (wN rfl) (.inl rfl) rfl rfl (lb rfl) fun a S => ?_
    exact leafL (leafT (⟨(l50, w64 (s25 + 1)), (Option.some.inj h).symm, ⟨ad23, cp24, S.fix [0] [3] (by decide) rfl rfl rfl⟩⟩))
  obtain ⟨o16, rfl, ad17, cp18, S⟩ := hI
  have h := g20
  clear g20
  try dsimp only at h
  obtain ⟨t55, h, g56⟩ := bindSome h
  refine sCut (fun a w => ∃ o52, o52 = t55 ∧ ∃ ad53, ∃ cp54, St [] E [] w0 51 a w [(7, .slice ad53 o52.length cp54)] [eRow (rI .i64) 3 (.slice ad53 o52.length cp54) o52] []) ?_ (fun a w hI => ?_)
  rotate_left
  · obtain ⟨o52, rfl, ad53, cp54, S⟩ := hI
    have h := g56
    clear g56
    try dsimp only at h
    refine sSeq (fun K96 hK96 => ?_)
    refine sRegion ?_
    refine sMove (.slice ad53 o52.length cp54) S (wN rfl) (.inl rfl) rfl rfl (lb rfl) fun a S => ?_
    refine sMove (.slice ad53 o52.length cp54) S (wN rfl) (.inr rfl) rfl rfl (lb rfl) fun a S => ?_
    refine sMove (iv 0) S (wN rfl) (.inr rfl) rfl rfl (lb rfl) fun a S => ?_
    refine leafL (leafT (hK96 _ _ ?_))
    obtain rfl := Option.some.inj h
    have S := S.shutR (r := (rI .i64)) (T := 3) (v := .slice ad53 o52.length cp54) (xs := o52) 0 rfl
    exact wp_ret (sRet (.tuple #[.slice ad53 o52.length cp54, iv 0]) S (rsl2 rfl (rvT (t := 4) (v := .slice ad53 o52.length cp54) S rfl) (rvT (t := 5) (v := iv 0) S rfl)) ⟨(.slice ad53 o52.length cp54), rfl, S.mem.sel [] [0] (by decide) rfl rfl⟩)
  refine sSeq (fun K57 hK57 => ?_)
  refine sRegion ?_
  refine sMove (iv p0) S (wN rfl) (.inl rfl) rfl rfl (lb rfl) fun a S => ?_
  refine sBin (iv (w64 (p0 - 2))) S (wN rfl) rfl rfl rfl (bSub _ _ _ _ p0 2) rfl (lb rfl) fun a S => ?_
  refine sMove (iv (w64 (p0 - 2))) S (wN rfl) (.inr rfl) rfl rfl (lb rfl) fun a S => ?_
  refine leafL (leafT (hK57 _ _ ?_))
  refine wp_block ?_
  obtain ⟨t64, hl, g63⟩ := bindSome h
  refine sLoop hl (fun s0 a w => match s0 with | (s58, s61) => ∃ ad59, ∃ cp60, St [] E [] w0 51 a w [(7, .slice ad59 s58.length cp60), (10, iv s61)] [eRow (rI .i64) 3 (.slice ad59 s58.length cp60) s58] []) ⟨ad17, cp18, S.fix [0] [] (by decide) rfl rfl rfl⟩ ?_
  clear hl h
  intro s0 a w c0 hI h hu62
  obtain ⟨s58, s61⟩ := s0
  unfold short_Heights_l2 at h
  dsimp only at h hI
  obtain ⟨ad59, cp60, S⟩ := hI
  refine sSeq (fun K68 hK68 => ?_)
  refine sSeq (fun K69 hK69 => ?_)
  refine sRegion ?_
  refine sMove (iv s61) S (wN rfl) (.inl rfl) rfl rfl (lb rfl) fun a S => ?_
  refine sBin (.bool (decide (0 ≤ s61))) S (wN rfl) rfl rfl rfl (bGe _ _ _ _ .i64 s61 0) rfl (lb rfl) fun a S => ?_
  refine leafL (leafT (hK69 _ _ ?_))
  rcases iteSome h with ⟨hc70, h⟩ | ⟨hc70, h⟩
  rotate_left
  · refine sCondF S rfl hc70 ?_
    obtain rfl := Option.some.inj h
    obtain rfl := hu62 _ rfl
    have h := g63
    clear g63
    try dsimp only at h
    exact wp_exit (xThen (xThen (xHit (leafT (⟨s58, Option.some.inj h, ad59, cp60, S.fix [0] [] (by decide) rfl rfl rfl⟩)))))
  refine sCondT S rfl hc70 ?_
  refine wp_skip (leafT (hK68 _ _ ?_))
  refine sSeq (fun K71 hK71 => ?_)
  refine wp_block ?_
  obtain ⟨x72, hx73, h⟩ := bindSome h
  obtain ⟨x77, hx78, h⟩ := bindSome h
  obtain ⟨l85, hx86, h⟩ := bindSome h
  obtain ⟨q87, hq88, hp89⟩ := pIdxR (P := Tryd.prog) (r := (rI .i64)) (T := 3) (v := .slice ad59 s58.length cp60) (xs := s58) (j := s61) 22 3 0 S Tryd.underlying22 rfl rfl hx73
  obtain ⟨q90, hq91, hp92⟩ := pIdxR (P := Tryd.prog) (r := (rI .i64)) (T := 3) (v := .slice ad59 s58.length cp60) (xs := s58) (j := w64 (s61 + 1)) 22 3 0 S Tryd.underlying22 rfl rfl hx78
  obtain ⟨q93, hq94, hp95⟩ := pIdxR (P := Tryd.prog) (r := (rI .i64)) (T := 3) (v := .slice ad59 s58.length cp60) (xs := s58) (j := s61) 22 3 0 S Tryd.underlying22 rfl rfl hx73
  refine sDraw (nf := [11]) (W := [(0, 39, .slice ad59 s58.length cp60), (1, 40, iv s61), (2, 41, q87), (3, 42, iv x72), (4, 43, .slice ad59 s58.length cp60), (5, 44, iv s61), (6, 45, iv (w64 (s61 + 1))), (7, 46, q90), (8, 47, iv x77), (9, 48, iv (w64 (x72 + x77))), (10, 49, q93)]) rfl S ?_
  refine node_by (A := anc_short_Heights_0) (nf := [11]) (Y := []) (W := [(0, 39, .slice ad59 s58.length cp60), (1, 40, iv s61), (2, 41, q87), (3, 42, iv x72), (4, 43, .slice ad59 s58.length cp60), (5, 44, iv s61), (6, 45, iv (w64 (s61 + 1))), (7, 46, q90), (8, 47, iv x77), (9, 48, iv (w64 (x72 + x77))), (10, 49, q93)]) 12 (by kernel_rfl) (by kernel_rfl) (by kernel_rfl) (by kernel_rfl) (by kernel_rfl) [0, 1, 2, 3, 4, 5, 6, 7, 8, 9, 10] (by kernel_rfl) (by decide) (by decide) (aF 0 11 (by decide) ?_ (aF 1 10 (by decide) ?_ (aF 2 9 (by decide) ?_ (aF 3 8 (by decide) ?_ (aF 4 7 (by decide) ?_ (aF 5 6 (by decide) ?_ (aF 6 5 (by decide) ?_ (aF 7 4 (by decide) ?_ (aF 8 3 (by decide) ?_ (aF 9 2 (by decide) ?_ (aF 10 1 (by decide) ?_ (aN 11 0 (by decide) ?_ (trivial))))))))))))) [] (fun q hq => by cases hq) (fun hY => absurd (hY 11 (by decide)) (by decide))
  · refine fI 39 (.slice ad59 s58.length cp60) [(7, .slice ad59 s58.length cp60)] 0 [none] rfl rfl rfl rfl rfl rfl fun G a w S => ?_
    refine sMove (.slice ad59 s58.length cp60) S (wN rfl) (.inl rfl) rfl rfl (lb rfl) fun a S => ?_
    exact leafL ⟨rfl, S⟩
  · refine fI 40 (iv s61) [(10, iv s61)] 1 [none] rfl rfl rfl rfl rfl rfl fun G a w S => ?_
    refine sMove (iv s61) S (wN rfl) (.inl rfl) rfl rfl (lb rfl) fun a S => ?_
    exact leafL ⟨rfl, S⟩
  · refine fI 41 q87 [(39, .slice ad59 s58.length cp60), (40, iv s61)] 2 [some 0, some 1] rfl rfl rfl rfl rfl rfl fun G a w S => ?_
    refine sIdxV (v := .slice ad59 s58.length cp60) (k := .i64) (j := s61) S (wN rfl) rfl rfl rfl hq88 rfl (lb rfl) fun a S => ?_
    exact leafL ⟨rfl, S⟩
  · refine fI 42 (iv x72) [(41, q87)] 3 [some 2] rfl rfl rfl rfl rfl rfl fun G a w S => ?_
    refine sLoadR (r := (rI .i64)) (T := 3) (xs := s58) (x := x72) (v := .slice ad59 s58.length cp60) (vq := q87) (j := s61) 0 (iv x72) S hp89 (wN rfl) rfl rfl rfl hx73 (fun _ _ _ h => h) (scal_I _) rfl rfl (lb rfl) fun a S => ?_
    exact leafL ⟨rfl, S⟩
  · refine fI 43 (.slice ad59 s58.length cp60) [(7, .slice ad59 s58.length cp60)] 4 [none] rfl rfl rfl rfl rfl rfl fun G a w S => ?_
    refine sMove (.slice ad59 s58.length cp60) S (wN rfl) (.inl rfl) rfl rfl (lb rfl) fun a S => ?_
    exact leafL ⟨rfl, S⟩
  · refine fI 44 (iv s61) [(10, iv s61)] 5 [none] rfl rfl rfl rfl rfl rfl fun G a w S => ?_
    refine sMove (iv s61) S (wN rfl) (.inl rfl) rfl rfl (lb rfl) fun a S => ?_
    exact leafL ⟨rfl, S⟩
  · refine fI 45 (iv (w64 (s61 + 1))) [(44, iv s61)] 6 [some 5] rfl rfl rfl rfl rfl rfl fun G a w S => ?_
    refine sBin (iv (w64 (s61 + 1))) S (wN rfl) rfl rfl rfl (bAdd _ _ _ _ s61 1) rfl (lb rfl) fun a S => ?_
    exact leafL ⟨rfl, S⟩
  · refine fI 46 q90 [(43, .slice ad59 s58.length cp60), (45, iv (w64 (s61 + 1)))] 7 [some 4, some 6] rfl rfl rfl rfl rfl rfl fun G a w S => ?_
    refine sIdxV (v := .slice ad59 s58.length cp60) (k := .i64) (j := w64 (s61 + 1)) S (wN rfl) rfl rfl rfl hq91 rfl (lb rfl) fun a S => ?_
    exact leafL ⟨rfl, S⟩
  · refine fI 47 (iv x77) [(46, q90)] 8 [some 7] rfl rfl rfl rfl rfl rfl fun G a w S => ?_
    refine sLoadR (r := (rI .i64)) (T := 3) (xs := s58) (x := x77) (v := .slice ad59 s58.length cp60) (vq := q90) (j := w64 (s61 + 1)) 0 (iv x77) S hp92 (wN rfl) rfl rfl rfl hx78 (fun _ _ _ h => h) (scal_I _) rfl rfl (lb rfl) fun a S => ?_
    exact leafL ⟨rfl, S⟩
  · refine fI 48 (iv (w64 (x72 + x77))) [(42, iv x72), (47, iv x77)] 9 [some 3, some 8] rfl rfl rfl rfl rfl rfl fun G a w S => ?_
    refine sBin (iv (w64 (x72 + x77))) S (wN rfl) rfl rfl rfl (bAdd _ _ _ _ x72 x77) rfl (lb rfl) fun a S => ?_
    exact leafL ⟨rfl, S⟩
  · refine fI 49 q93 [(39, .slice ad59 s58.length cp60), (40, iv s61)] 10 [some 0, some 1] rfl rfl rfl rfl rfl rfl fun G a w S => ?_
    refine sIdxV (v := .slice ad59 s58.length cp60) (k := .i64) (j := s61) S (wN rfl) rfl rfl rfl hq94 rfl (lb rfl) fun a S => ?_
    exact leafL ⟨rfl, S⟩
  refine ⟨_, [(48, iv (w64 (x72 + x77))), (49, q93)], rfl, (srcs_of [some 9, some 10] rfl rfl rfl), fun G a w S => ?_⟩
  refine sStoreR (r := (rI .i64)) (T := 3) (xs := s58) (ys := l85) (y := (w64 (x72 + x77))) (v := .slice ad59 s58.length cp60) (vq := q93) (u := iv (w64 (x72 + x77))) (j := s61) 0 S hp95 (wN rfl) rfl rfl rfl rfl rfl hx86 rfl rfl fun a w S => ?_
  refine leafL ⟨rfl, _, _, .inr ⟨[], rfl, S, hz_of rfl, ?_⟩⟩
  refine node_by (A := anc_short_Heights_0) (nf := [11]) (Y := [11]) 12 (by kernel_rfl) (by kernel_rfl) (by kernel_rfl) (by kernel_rfl) (by kernel_rfl) [0, 1, 2, 3, 4, 5, 6, 7, 8, 9, 10] (by kernel_rfl) (by decide) (by decide) (aD 0 11 11 (by decide) (aD 1 10 11 (by decide) (aD 2 9 11 (by decide) (aD 3 8 11 (by decide) (aD 4 7 11 (by decide) (aD 5 6 11 (by decide) (aD 6 5 11 (by decide) (aD 7 4 11 (by decide) (aD 8 3 11 (by decide) (aD 9 2 11 (by decide) (aD 10 1 11 (by decide) (aY 11 0 (by decide) (trivial))))))))))))) [(7, .slice ad59 s58.length cp60), (10, iv s61)] (fin_of [none, none] rfl (by kernel_rfl) (by kernel_rfl)) (fun _ a w S => ?_)
  rw [setO_v hx86 ad59 cp60] at S
  refine leafB (leafT (hK71 _ _ ?_))
  refine sRegion ?_
  refine sMove (iv s61) S (wN rfl) (.inl rfl) rfl rfl (lb rfl) fun a S => ?_
  refine sBin (iv (w64 (s61 - 1))) S (wN rfl) rfl rfl rfl (bSub _ _ _ _ s61 1) rfl (lb rfl) fun a S => ?_
  refine sMove (iv (w64 (s61 - 1))) S (wN rfl) (.inr rfl) rfl rfl (lb rfl) fun a S => ?_
  exact leafL (leafT (⟨(l85, w64 (s61 - 1)), (Option.some.inj h).symm, ⟨ad59, cp60, S.fix [0] [] (by decide) rfl rfl rfl⟩⟩))

end Go.Proofs.YtoiehdlcfehmlaaDoor
namespace Go.Proofs.YtoiehdlcfehmlaaDoor
open Go.RowKit
set_option linter.unusedVariables false

def K_short_within (p0 : Int) (p1 : Int) (p2 : Int) : Option Bool :=
  Option.bind (α := Bool) (
    if decide (p1 ≤ p0) then
      some (decide (p0 ≤ p2))
    else
      some false) fun o2 =>
  some o2
def K_short_Turns_l1 (p1 : Int) (p0 : Int) : (List Int × Int) → Option ((List Int × Int) ⊕ List Int) := fun s0 => match s0 with
  | (s24, s27) =>
    if decide (s27 < p1) then
      Option.bind (quoI (w64 ((w64 (p0 * (w64 ((w64 (2 * (w64 (p1 - s27)))) - 1)))) + p1)) (w64 (2 * p1))) fun z40 =>
      Option.bind (idxO s24 s27) fun x42 =>
      Option.bind (setO s24 s27 z40) fun l47 =>
      some (.inl (l47, w64 (s27 + 1)))
    else
      some (.inr s24)
def K_short_Turns (p0 : Int) (p1 : Int) : Option ((List Int) × Int) :=
  Option.bind (α := Bool) (
    Option.bind (K_short_within p0 1 200) fun r6 =>
    if !r6 then
      some true
    else
      Option.bind (K_short_within p1 0 (if (50 : Int) < p0 then 50 else p0)) fun r9 =>
      some (!r9)) fun o3 =>
  if o3 then
    some (([] : (List Int)), 2)
  else
    Option.bind (makeO p1 (0 : Int)) fun m16 =>
    Option.bind (α := List Int) (
      Option.bind (whileK (K_short_Turns_l1 p1 p0) (m16, 0)) fun e31 =>
        some e31) fun o18 =>
    some (o18, 0)
def K_short_check_l1 (p1 : (List Int)) (p0 : Int) : Int → Option (Int ⊕ (Int ⊕ Unit)) := fun s0 => match s0 with
  | s17 =>
    if decide (s17 < (p1.length : Int)) then
      Option.bind (idxO p1 s17) fun x26 =>
      Option.bind (K_short_within x26 1 p0) fun r32 =>
      if !r32 then
        some (.inr (.inl 2))
      else
        some (.inl (w64 (s17 + 1)))
    else
      some (.inr (.inr ()))
def K_short_check (p0 : Int) (p1 : (List Int)) : Option Int :=
  Option.bind (K_short_within p0 1 200) fun r6 =>
  if !r6 then
    some 2
  else
    if decide (50 < (p1.length : Int)) then
      some 4
    else
      Option.bind (α := Unit ⊕ Int) (
        Option.bind (whileK (K_short_check_l1 p1 p0) 0) fun z0 => match z0 with
          | .inl z =>
            some (.inr z)
          | .inr _ =>
            some (.inl ())) fun z0 => match z0 with
        | .inl _ =>
          some 0
        | .inr z =>
          some z
def K_short_Heights_l1 (p1 : (List Int)) : (List Int × Int) → Option ((List Int × Int) ⊕ List Int) := fun s0 => match s0 with
  | (s22, s25) =>
    if decide (s25 < (p1.length : Int)) then
      Option.bind (idxO p1 s25) fun x37 =>
      Option.bind (idxO s22 (w64 (x37 - 1))) fun x42 =>
      Option.bind (setO s22 (w64 (x37 - 1)) (w64 (x42 + 1))) fun l50 =>
      some (.inl (l50, w64 (s25 + 1)))
    else
      some (.inr s22)
def K_short_Heights_l2  : (List Int × Int) → Option ((List Int × Int) ⊕ List Int) := fun s0 => match s0 with
  | (s58, s61) =>
    if decide (0 ≤ s61) then
      Option.bind (idxO s58 s61) fun x72 =>
      Option.bind (idxO s58 (w64 (s61 + 1))) fun x77 =>
      Option.bind (setO s58 s61 (w64 (x72 + x77))) fun l85 =>
      some (.inl (l85, w64 (s61 - 1)))
    else
      some (.inr s58)
def K_short_Heights (p0 : Int) (p1 : (List Int)) : Option ((List Int) × Int) :=
  Option.bind (K_short_check p0 p1) fun r6 =>
  if r6 != 0 then
    some (([] : (List Int)), r6)
  else
    Option.bind (makeO p0 (0 : Int)) fun m14 =>
    Option.bind (α := List Int) (
      Option.bind (whileK (K_short_Heights_l1 p1) (m14, 0)) fun e29 =>
        some e29) fun o16 =>
    Option.bind (α := List Int) (
      Option.bind (whileK (K_short_Heights_l2) (o16, w64 (p0 - 2))) fun e65 =>
        some e65) fun o52 =>
    some (o52, 0)
def K_short_Worked_l1 (p1 : (List Int)) : (Int × Int) → Option ((Int × Int) ⊕ Int) := fun s0 => match s0 with
  | (s16, s17) =>
    if decide (s17 < (p1.length : Int)) then
      Option.bind (idxO p1 s17) fun x27 =>
      some (.inl (w64 (s16 + (w64 (2 * x27))), w64 (s17 + 1)))
    else
      some (.inr s16)
def K_short_Worked (p0 : Int) (p1 : (List Int)) : Option (Int × Int) :=
  Option.bind (K_short_check p0 p1) fun r6 =>
  if r6 != 0 then
    some (0, r6)
  else
    Option.bind (α := Int) (
      Option.bind (whileK (K_short_Worked_l1 p1) (0, 0)) fun e21 =>
        some e21) fun o12 =>
    some (o12, 0)
def K_short_several_l1 (p1 : Int) (p0 : Int) : (List api_Stitch × Int) → Option ((List api_Stitch × Int) ⊕ List api_Stitch) := fun s0 => match s0 with
  | (s13, s16) =>
    if decide (s16 < p1) then
      Option.bind (appO s13 [(api_Stitch.mk p0 false 0 0)]) fun l29 =>
      some (.inl (l29, w64 (s16 + 1)))
    else
      some (.inr s13)
def K_short_several (p0 : Int) (p1 : Int) : Option (List api_Stitch) :=
  Option.bind (capO p1) fun z5 =>
  Option.bind (α := List api_Stitch) (
    Option.bind (whileK (K_short_several_l1 p1 p0) (([] : List api_Stitch), 0)) fun e20 =>
      some e20) fun o7 =>
  some o7
def K_short_joined_l1 (p0 : (List (List api_Stitch))) : (List api_Stitch × Int) → Option ((List api_Stitch × Int) ⊕ List api_Stitch) := fun s0 => match s0 with
  | (s11, s14) =>
    if decide (s14 < (p0.length : Int)) then
      Option.bind (idxO p0 s14) fun x26 =>
      Option.bind (appO s11 x26) fun l33 =>
      some (.inl (l33, w64 (s14 + 1)))
    else
      some (.inr s11)
def K_short_joined (p0 : (List (List api_Stitch))) : Option (List api_Stitch) :=
  Option.bind (α := List api_Stitch) (
    Option.bind (whileK (K_short_joined_l1 p0) (([] : List api_Stitch), 0)) fun e18 =>
      some e18) fun o5 =>
  some o5
def K_stitch_forms (p0 : Int) : Option (stitch_form × Bool) :=
  Option.bind (α := Bool) (
    if decide (p0 < 1) then
      some true
    else
      some (decide (([(stitch_form.mk (⟨#[]⟩ : ByteArray) (0, 0) (0, 0) true 1 1), (stitch_form.mk (⟨#[]⟩ : ByteArray) (0, 0) (0, 0) false 0 1), (stitch_form.mk (⟨#[102]⟩ : ByteArray) (2, 4) (0, 0) true 2 1), (stitch_form.mk (⟨#[108]⟩ : ByteArray) (2, 4) (0, 0) true 2 1), (stitch_form.mk (⟨#[109]⟩ : ByteArray) (2, 4) (0, 0) true 1 2), (stitch_form.mk (⟨#[120]⟩ : ByteArray) (1, 6) (1, 6) true 3 3), (stitch_form.mk (⟨#[121]⟩ : ByteArray) (1, 6) (1, 6) true 3 3), (stitch_form.mk (⟨#[115]⟩ : ByteArray) (0, 0) (0, 0) true 1 1), (stitch_form.mk (⟨#[]⟩ : ByteArray) (1, 200) (0, 0) false 0 2), (stitch_form.mk (⟨#[111]⟩ : ByteArray) (1, 200) (0, 0) true 2 0)].length : Int) < (IntKind.i64.wrap p0)))) fun o12 =>
  if o12 then
    some ((stitch_form.mk (⟨#[]⟩ : ByteArray) (0, 0) (0, 0) false 0 0), false)
  else
    Option.bind (idxO [(stitch_form.mk (⟨#[]⟩ : ByteArray) (0, 0) (0, 0) true 1 1), (stitch_form.mk (⟨#[]⟩ : ByteArray) (0, 0) (0, 0) false 0 1), (stitch_form.mk (⟨#[102]⟩ : ByteArray) (2, 4) (0, 0) true 2 1), (stitch_form.mk (⟨#[108]⟩ : ByteArray) (2, 4) (0, 0) true 2 1), (stitch_form.mk (⟨#[109]⟩ : ByteArray) (2, 4) (0, 0) true 1 2), (stitch_form.mk (⟨#[120]⟩ : ByteArray) (1, 6) (1, 6) true 3 3), (stitch_form.mk (⟨#[121]⟩ : ByteArray) (1, 6) (1, 6) true 3 3), (stitch_form.mk (⟨#[115]⟩ : ByteArray) (0, 0) (0, 0) true 1 1), (stitch_form.mk (⟨#[]⟩ : ByteArray) (1, 200) (0, 0) false 0 2), (stitch_form.mk (⟨#[111]⟩ : ByteArray) (1, 200) (0, 0) true 2 0)] (IntKind.u8.wrap (p0 - 1))) fun x19 =>
    some (x19, true)
def K_stitch_within (p0 : Int) (p1 : (Int × Int)) : Option Bool :=
  Option.bind (α := Bool) (
    if decide (p1.1 ≤ p0) then
      some (decide (p0 ≤ p1.2))
    else
      some false) fun o3 =>
  some o3
def K_stitch_Check (p0 : api_Stitch) : Option Int :=
  Option.bind (K_stitch_forms p0.Kind) fun r4 =>
  Option.bind (α := Bool) (
    if !r4.2 then
      some true
    else
      Option.bind (K_stitch_within p0.A r4.1.a) fun r13 =>
      if !r13 then
        some true
      else
        Option.bind (K_stitch_within p0.B r4.1.b) fun r16 =>
        if !r16 then
          some true
        else
          if p0.Purl then
            some (!r4.1.sided)
          else
            some false) fun o9 =>
  if o9 then
    some 8
  else
    some 0
def K_stitch_All_1 (p0 : api_Stitch) : Option Bool :=
  Option.bind (K_stitch_Check p0) fun r4 =>
  some (r4 != 0)
def K_slices_IndexFunc___api_Stitch_api_Stitch__s0_l1 (p0 : (List api_Stitch)) : Int → Option (Int ⊕ (Int ⊕ Unit)) := fun s0 => match s0 with
  | s7 =>
    if decide (s7 < (p0.length : Int)) then
      Option.bind (idxO p0 s7) fun x17 =>
      Option.bind (K_stitch_All_1 x17) fun r22 =>
      if r22 then
        some (.inr (.inl s7))
      else
        some (.inl (w64 (s7 + 1)))
    else
      some (.inr (.inr ()))
def K_slices_IndexFunc___api_Stitch_api_Stitch__s0 (p0 : (List api_Stitch)) : Option Int :=
  Option.bind (α := Unit ⊕ Int) (
    Option.bind (whileK (K_slices_IndexFunc___api_Stitch_api_Stitch__s0_l1 p0) 0) fun z0 => match z0 with
      | .inl z =>
        some (.inr z)
      | .inr _ =>
        some (.inl ())) fun z0 => match z0 with
    | .inl _ =>
      some (-1)
    | .inr z =>
      some z
def K_slices_ContainsFunc___api_Stitch_api_Stitch__s0 (p0 : (List api_Stitch)) : Option Bool :=
  Option.bind (K_slices_IndexFunc___api_Stitch_api_Stitch__s0 p0) fun r5 =>
  some (decide (0 ≤ r5))
def K_stitch_loops (p0 : api_Stitch) (p1 : Int) : Option Int :=
  Option.bind (idxO ([0, 1, p0.A, w64 (p0.A + p0.B)] : List Int) p1) fun x4 =>
  some x4
def K_stitch_sum_l1 (p0 : (List api_Stitch)) : (Int × Int × Int) → Option ((Int × Int × Int) ⊕ (Int × Int)) := fun s0 => match s0 with
  | (s9, s10, s11) =>
    if decide (s11 < (p0.length : Int)) then
      Option.bind (idxO p0 s11) fun x22 =>
      Option.bind (K_stitch_forms x22.Kind) fun r29 =>
      Option.bind (K_stitch_loops x22 r29.1.uses) fun r34 =>
      Option.bind (K_stitch_loops x22 r29.1.made) fun r36 =>
      some (.inl (w64 (s9 + r34), w64 (s10 + r36), w64 (s11 + 1)))
    else
      some (.inr (s9, s10))
def K_stitch_sum (p0 : (List api_Stitch)) : Option (Int × Int) :=
  Option.bind (α := (Int × Int)) (
    Option.bind (whileK (K_stitch_sum_l1 p0) (0, 0, 0)) fun (e15, e16) =>
      some (e15, e16)) fun (o4, o5) =>
  some (o4, o5)
def K_stitch_All (p0 : (List api_Stitch)) : Option Int :=
  if decide (200 < (p0.length : Int)) then
    some 4
  else
    Option.bind (K_slices_ContainsFunc___api_Stitch_api_Stitch__s0 p0) fun r10 =>
    if r10 then
      some 8
    else
      Option.bind (K_stitch_sum p0) fun r16 =>
      if decide (200 < (if r16.1 < r16.2 then r16.2 else r16.1)) then
        some 4
      else
        some 0
def K_slices_Backward___api_Stitch_api_Stitch_ (p0 : (List api_Stitch)) : Option (List api_Stitch) :=
  some p0
def K_slices_Backward___api_Stitch_api_Stitch__1_l1 {σ τ : Type} (p0 : (List api_Stitch)) (B : σ → (Int × api_Stitch) → Option (σ ⊕ τ)) : (Int × σ) → Option ((Int × σ) ⊕ ((σ ⊕ τ) ⊕ (σ))) := fun s0 => match s0 with
  | (s5, gz6) =>
    if decide (0 ≤ s5) then
      Option.bind (idxO p0 s5) fun x20 =>
      Option.bind (B gz6 (s5, x20)) fun y25 =>
      match y25 with
      | .inl gz27 =>
        some (.inl (w64 (s5 - 1), gz27))
      | .inr tz28 =>
        some (.inr (.inl (.inr tz28)))
    else
      some (.inr (.inr gz6))
def K_I_slices_Backward___api_Stitch_api_Stitch__1 (p0 : (List api_Stitch)) (σ τ : Type) (B : σ → (Int × api_Stitch) → Option (σ ⊕ τ)) (gz0 : σ) : Option (σ ⊕ τ) :=
  Option.bind (whileK (K_slices_Backward___api_Stitch_api_Stitch__1_l1 p0 B) (w64 ((p0.length : Int) - 1), gz0)) fun z0 => match z0 with
    | .inl z =>
      some z
    | .inr gz10 =>
      some (.inl gz10)
def K_stitch_Turn_l2  : List api_Stitch → (Int × api_Stitch) → Option (List api_Stitch ⊕ Empty) := fun s0 x0 => match s0, x0 with
  | s22, (x25, x27) =>
    Option.bind (K_stitch_forms x27.Kind) fun r31 =>
    Option.bind (α := Bool) (
      if r31.1.sided then
        some (!x27.Purl)
      else
        some false) fun o35 =>
    Option.bind (α := (Int × Int)) (
      if decide (0 < r31.1.b.2) then
        some (x27.B, x27.A)
      else
        some (x27.A, x27.B)) fun (o39, o40) =>
    Option.bind (appO s22 [(api_Stitch.mk x27.Kind o35 o39 o40)]) fun l47 =>
    some (.inl l47)
def K_stitch_Turn (p0 : (List api_Stitch)) : Option ((List api_Stitch) × Int) :=
  Option.bind (K_stitch_All p0) fun r6 =>
  if r6 != 0 then
    some (([] : (List api_Stitch)), r6)
  else
    Option.bind (capO (p0.length : Int)) fun z14 =>
    Option.bind (K_slices_Backward___api_Stitch_api_Stitch_ p0) fun r19 =>
    Option.bind (K_I_slices_Backward___api_Stitch_api_Stitch__1 r19 _ _ (K_stitch_Turn_l2) ([] : List api_Stitch)) fun z0 => match z0 with
      | .inl s22 =>
        some (s22, 0)
      | .inr z0 =>
        nomatch z0
def K_short_Chart_l1 (p1 : (List Int)) (p0 : Int) : (Int × List api_Row) → Option ((Int × List api_Row) ⊕ List api_Row) := fun s0 => match s0 with
  | (s20, s21) =>
    if decide (s20 < (p1.length : Int)) then
      Option.bind (idxO p1 s20) fun x35 =>
      Option.bind (K_short_several 1 x35) fun r41 =>
      Option.bind (K_short_several 8 (w64 (p0 - x35))) fun r46 =>
      Option.bind (K_short_joined [r41, r46]) fun r53 =>
      Option.bind (K_stitch_Turn r53) fun r59 =>
      Option.bind (appO s21 [(api_Row.mk false r53), (api_Row.mk true r59.1)]) fun l66 =>
      some (.inl (w64 (s20 + 1), l66))
    else
      some (.inr s21)
def K_short_Chart (p0 : Int) (p1 : (List Int)) : Option (api_Chart × Int) :=
  Option.bind (K_short_check p0 p1) fun r7 =>
  if r7 != 0 then
    some ((api_Chart.mk 0 ([] : (List api_Row))), r7)
  else
    Option.bind (α := List api_Row) (
      Option.bind (whileK (K_short_Chart_l1 p1 p0) (0, ([] : List api_Row))) fun e27 =>
        some e27) fun o14 =>
    some ((api_Chart.mk p0 o14), 0)
def K_short_Fit_l1 (p0 : (List Int)) : Int → Option (Int ⊕ (((List Int) × Int) ⊕ Unit)) := fun s0 => match s0 with
  | s15 =>
    if decide (s15 < (p0.length : Int)) then
      Option.bind (idxO p0 s15) fun x24 =>
      Option.bind (α := Bool) (
        Option.bind (K_short_within x24 0 50) fun r32 =>
        if !r32 then
          some true
        else
          if decide (0 < s15) then
            Option.bind (idxO p0 (w64 (s15 - 1))) fun x36 =>
            some (decide (x36 < x24))
          else
            some false) fun o29 =>
      if o29 then
        some (.inr (.inl (([] : (List Int)), 2)))
      else
        some (.inl (w64 (s15 + 1)))
    else
      some (.inr (.inr ()))
def K_short_Fit_l2 (p0 : (List Int)) (s58 : Int) : Int → Option (Int ⊕ Int) := fun s0 => match s0 with
  | s77 =>
    Option.bind (idxO p0 (w64 (s77 - 1))) fun x84 =>
    if decide (x84 < s58) then
      some (.inl (w64 (s77 - 1)))
    else
      some (.inr s77)
def K_short_Fit_l3 (p0 : (List Int)) : (List Int × Int) → Option ((List Int × Int) ⊕ List Int) := fun s0 => match s0 with
  | (s55, s58) =>
    if decide (0 < s58) then
      Option.bind (α := List Int) (
        Option.bind (α := Int) (
          Option.bind (whileK (K_short_Fit_l2 p0 s58) (p0.length : Int)) fun e81 =>
            some e81) fun o74 =>
        Option.bind (appO ([o74] : List Int) s55) fun l92 =>
        some l92) fun o68 =>
      some (.inl (o68, w64 (s58 - 1)))
    else
      some (.inr s55)
def K_short_Fit (p0 : (List Int)) : Option ((List Int) × Int) :=
  if decide (200 < (p0.length : Int)) then
    some (([] : (List Int)), 4)
  else
    if (p0.length : Int) == 0 then
      some (([] : (List Int)), 2)
    else
      Option.bind (α := Unit ⊕ ((List Int) × Int)) (
        Option.bind (whileK (K_short_Fit_l1 p0) 0) fun z0 => match z0 with
          | .inl z =>
            some (.inr z)
          | .inr _ =>
            some (.inl ())) fun z0 => match z0 with
        | .inl _ =>
          Option.bind (α := List Int) (
            Option.bind (idxO p0 0) fun x50 =>
            Option.bind (whileK (K_short_Fit_l3 p0) (([] : List Int), x50)) fun e62 =>
              some e62) fun o44 =>
          some (o44, 0)
        | .inr z =>
          some z
def K_short_Read_l1 (s29 : Int) (x46 : api_Row) : List Int → Option (List Int ⊕ List Int) := fun s0 => match s0 with
  | s55 =>
    Option.bind (α := Bool) (
      Option.bind (idxO s55 s29) fun x68 =>
      if decide (x68 < (x46.Cells.length : Int)) then
        Option.bind (idxO x46.Cells x68) fun x77 =>
        some (x77.Kind == 1)
      else
        some false) fun o65 =>
    if o65 then
      Option.bind (idxO s55 s29) fun x85 =>
      Option.bind (setO s55 s29 (w64 (x85 + 1))) fun l93 =>
      some (.inl l93)
    else
      some (.inr s55)
def K_short_Read_l2 (m18 : List Int) (p0 : api_Chart) : (List Int × Int) → Option ((List Int × Int) ⊕ List Int) := fun s0 => match s0 with
  | (s26, s29) =>
    if decide (s29 < (m18.length : Int)) then
      Option.bind (α := List Int) (
        Option.bind (idxO p0.Rows (w64 (2 * s29))) fun x46 =>
        Option.bind (whileK (K_short_Read_l1 s29 x46) s26) fun e61 =>
          some e61) fun o39 =>
      some (.inl (o39, w64 (s29 + 1)))
    else
      some (.inr s26)
def K_slices_Equal___api_Stitch_api_Stitch__l1 (p0 : (List api_Stitch)) (p1 : (List api_Stitch)) : Int → Option (Int ⊕ (Bool ⊕ Unit)) := fun s0 => match s0 with
  | s13 =>
    if decide (s13 < (p0.length : Int)) then
      Option.bind (idxO p0 s13) fun x23 =>
      Option.bind (idxO p1 s13) fun x28 =>
      if !((x23.Kind == x28.Kind) && ((x23.Purl == x28.Purl) && ((x23.A == x28.A) && ((x23.B == x28.B) && true)))) then
        some (.inr (.inl false))
      else
        some (.inl (w64 (s13 + 1)))
    else
      some (.inr (.inr ()))
def K_slices_Equal___api_Stitch_api_Stitch_ (p0 : (List api_Stitch)) (p1 : (List api_Stitch)) : Option Bool :=
  if (p0.length : Int) != (p1.length : Int) then
    some false
  else
    Option.bind (α := Unit ⊕ Bool) (
      Option.bind (whileK (K_slices_Equal___api_Stitch_api_Stitch__l1 p0 p1) 0) fun z0 => match z0 with
        | .inl z =>
          some (.inr z)
        | .inr _ =>
          some (.inl ())) fun z0 => match z0 with
      | .inl _ =>
        some true
      | .inr z =>
        some z
def K_stitch_Same (p0 : (List api_Stitch)) (p1 : (List api_Stitch)) : Option Bool :=
  Option.bind (K_slices_Equal___api_Stitch_api_Stitch_ p0 p1) fun r7 =>
  some r7
def K_short_Read_l3 (p0 : api_Chart) (r96 : (api_Chart × Int)) : Int → Option (Int ⊕ ((Int × (List Int) × Int) ⊕ Unit)) := fun s0 => match s0 with
  | s111 =>
    if decide (s111 < (p0.Rows.length : Int)) then
      Option.bind (idxO p0.Rows s111) fun x120 =>
      Option.bind (α := Bool) (
        Option.bind (idxO r96.1.Rows s111) fun x133 =>
        if x120.Back != x133.Back then
          some true
        else
          Option.bind (K_stitch_Same x120.Cells x133.Cells) fun r153 =>
          some (!r153)) fun o130 =>
      if o130 then
        some (.inr (.inl (0, ([] : (List Int)), 8)))
      else
        some (.inl (w64 (s111 + 1)))
    else
      some (.inr (.inr ()))
def K_short_Read (p0 : api_Chart) : Option (Int × (List Int) × Int) :=
  Option.bind (remI (p0.Rows.length : Int) 2) fun z9 =>
  if z9 == 1 then
    some (0, ([] : (List Int)), 8)
  else
    Option.bind (quoI (p0.Rows.length : Int) 2) fun z14 =>
    Option.bind (makeO z14 (0 : Int)) fun m18 =>
    Option.bind (α := List Int) (
      Option.bind (whileK (K_short_Read_l2 m18 p0) (m18, 0)) fun e33 =>
        some e33) fun o20 =>
    Option.bind (K_short_Chart p0.Start o20) fun r96 =>
    if r96.2 != 0 then
      some (0, ([] : (List Int)), 8)
    else
      Option.bind (α := Unit ⊕ (Int × (List Int) × Int)) (
        Option.bind (whileK (K_short_Read_l3 p0 r96) 0) fun z0 => match z0 with
          | .inl z =>
            some (.inr z)
          | .inr _ =>
            some (.inl ())) fun z0 => match z0 with
        | .inl _ =>
          some (p0.Start, o20, 0)
        | .inr z =>
          some z
def K_stitch_text_l1 (p0 : (List api_Stitch)) (s14 : Int) : Int → Option (Int ⊕ Int) := fun s0 => match s0 with
  | s28 =>
    Option.bind (α := Bool) (
      Option.bind (idxO p0 s14) fun x37 =>
      if x37.Kind == 1 then
        if decide ((w64 (s14 + s28)) < (p0.length : Int)) then
          Option.bind (idxO p0 (w64 (s14 + s28))) fun x46 =>
          some ((x46.Kind == x37.Kind) && ((x46.Purl == x37.Purl) && ((x46.A == x37.A) && ((x46.B == x37.B) && true))))
        else
          some false
      else
        some false) fun o34 =>
    if o34 then
      some (.inl (w64 (s28 + 1)))
    else
      some (.inr s28)
def K_internal_strconv_small (p0 : Int) : Option ByteArray :=
  if decide (p0 < 10) then
    Option.bind (sliceS (⟨#[48, 49, 50, 51, 52, 53, 54, 55, 56, 57, 97, 98, 99, 100, 101, 102, 103, 104, 105, 106, 107, 108, 109, 110, 111, 112, 113, 114, 115, 116, 117, 118, 119, 120, 121, 122]⟩ : ByteArray) p0 (w64 (p0 + 1))) fun y6 =>
    some y6
  else
    Option.bind (sliceS (⟨#[48, 48, 48, 49, 48, 50, 48, 51, 48, 52, 48, 53, 48, 54, 48, 55, 48, 56, 48, 57, 49, 48, 49, 49, 49, 50, 49, 51, 49, 52, 49, 53, 49, 54, 49, 55, 49, 56, 49, 57, 50, 48, 50, 49, 50, 50, 50, 51, 50, 52, 50, 53, 50, 54, 50, 55, 50, 56, 50, 57, 51, 48, 51, 49, 51, 50, 51, 51, 51, 52, 51, 53, 51, 54, 51, 55, 51, 56, 51, 57, 52, 48, 52, 49, 52, 50, 52, 51, 52, 52, 52, 53, 52, 54, 52, 55, 52, 56, 52, 57, 53, 48, 53, 49, 53, 50, 53, 51, 53, 52, 53, 53, 53, 54, 53, 55, 53, 56, 53, 57, 54, 48, 54, 49, 54, 50, 54, 51, 54, 52, 54, 53, 54, 54, 54, 55, 54, 56, 54, 57, 55, 48, 55, 49, 55, 50, 55, 51, 55, 52, 55, 53, 55, 54, 55, 55, 55, 56, 55, 57, 56, 48, 56, 49, 56, 50, 56, 51, 56, 52, 56, 53, 56, 54, 56, 55, 56, 56, 56, 57, 57, 48, 57, 49, 57, 50, 57, 51, 57, 52, 57, 53, 57, 54, 57, 55, 57, 56, 57, 57]⟩ : ByteArray) (w64 (p0 * 2)) (w64 ((w64 (p0 * 2)) + 2))) fun y9 =>
    some y9
def K_math_bits_Len64 (p0 : Int) : Option Int :=
  Option.bind (α := (Int × Int)) (
    if decide (4294967296 ≤ p0) then
      Option.bind (shrI .u64 p0 32) fun z9 =>
      some (z9, 32)
    else
      some (p0, 0)) fun (o2, o3) =>
  Option.bind (α := (Int × Int)) (
    if decide (65536 ≤ o2) then
      Option.bind (shrI .u64 o2 16) fun z18 =>
      some (z18, w64 (o3 + 16))
    else
      some (o2, o3)) fun (o11, o12) =>
  Option.bind (α := (Int × Int)) (
    if decide (256 ≤ o11) then
      Option.bind (shrI .u64 o11 8) fun z27 =>
      some (z27, w64 (o12 + 8))
    else
      some (o11, o12)) fun (o20, o21) =>
  Option.bind (idxS (⟨#[0, 1, 2, 2, 3, 3, 3, 3, 4, 4, 4, 4, 4, 4, 4, 4, 5, 5, 5, 5, 5, 5, 5, 5, 5, 5, 5, 5, 5, 5, 5, 5, 6, 6, 6, 6, 6, 6, 6, 6, 6, 6, 6, 6, 6, 6, 6, 6, 6, 6, 6, 6, 6, 6, 6, 6, 6, 6, 6, 6, 6, 6, 6, 6, 7, 7, 7, 7, 7, 7, 7, 7, 7, 7, 7, 7, 7, 7, 7, 7, 7, 7, 7, 7, 7, 7, 7, 7, 7, 7, 7, 7, 7, 7, 7, 7, 7, 7, 7, 7, 7, 7, 7, 7, 7, 7, 7, 7, 7, 7, 7, 7, 7, 7, 7, 7, 7, 7, 7, 7, 7, 7, 7, 7, 7, 7, 7, 7, 8, 8, 8, 8, 8, 8, 8, 8, 8, 8, 8, 8, 8, 8, 8, 8, 8, 8, 8, 8, 8, 8, 8, 8, 8, 8, 8, 8, 8, 8, 8, 8, 8, 8, 8, 8, 8, 8, 8, 8, 8, 8, 8, 8, 8, 8, 8, 8, 8, 8, 8, 8, 8, 8, 8, 8, 8, 8, 8, 8, 8, 8, 8, 8, 8, 8, 8, 8, 8, 8, 8, 8, 8, 8, 8, 8, 8, 8, 8, 8, 8, 8, 8, 8, 8, 8, 8, 8, 8, 8, 8, 8, 8, 8, 8, 8, 8, 8, 8, 8, 8, 8, 8, 8, 8, 8, 8, 8, 8, 8, 8, 8, 8, 8, 8, 8, 8, 8, 8, 8, 8, 8, 8, 8, 8, 8, 8, 8]⟩ : ByteArray) (IntKind.u8.wrap o20)) fun x30 =>
  some (w64 (o21 + (IntKind.i64.wrap x30)))
def K_internal_strconv_log10Pow2 (p0 : Int) : Option Int :=
  Option.bind (shrI .i64 (w64 (p0 * 78913)) 18) fun z3 =>
  some z3
def K_internal_strconv_numDigits (p0 : Int) : Option Int :=
  Option.bind (K_math_bits_Len64 p0) fun r3 =>
  Option.bind (K_internal_strconv_log10Pow2 r3) fun r5 =>
  none
def K_internal_strconv_FormatInt (p0 : Int) (p1 : Int) : Option ByteArray :=
  if p1 == 10 then
    Option.bind (α := Bool) (
      if decide (0 ≤ p0) then
        some (decide (p0 < 100))
      else
        some false) fun o6 =>
    if o6 then
      Option.bind (K_internal_strconv_small p0) fun r12 =>
      some r12
    else
      Option.bind (α := Int) (
        if decide (p0 < 0) then
          some (IntKind.u64.wrap (0 - (IntKind.u64.wrap p0)))
        else
          some (IntKind.u64.wrap p0)) fun o17 =>
      Option.bind (K_internal_strconv_numDigits o17) fun r23 =>
      none
  else
    none
def K_internal_strconv_Itoa (p0 : Int) : Option ByteArray :=
  Option.bind (K_internal_strconv_FormatInt p0 10) fun r3 =>
  some r3
def K_strconv_Itoa (p0 : Int) : Option ByteArray :=
  Option.bind (K_internal_strconv_Itoa p0) fun r3 =>
  some r3
def K_stitch_word (p0 : api_Stitch) : Option ByteArray :=
  if p0.Kind == 2 then
    some (⟨#[121, 111]⟩ : ByteArray)
  else
    if p0.Kind == 9 then
      Option.bind (K_strconv_Itoa p0.A) fun r11 =>
      Option.bind (addS (⟨#[111, 110]⟩ : ByteArray) r11) fun z13 =>
      some z13
    else
      Option.bind (K_stitch_forms p0.Kind) fun r16 =>
      Option.bind (α := ByteArray) (
        if p0.Purl then
          some (⟨#[112]⟩ : ByteArray)
        else
          some (⟨#[107]⟩ : ByteArray)) fun o21 =>
      Option.bind (addS o21 r16.1.letter) fun z27 =>
      Option.bind (α := ByteArray) (
        if decide (0 < r16.1.a.2) then
          Option.bind (K_strconv_Itoa p0.A) fun r34 =>
          Option.bind (addS z27 r34) fun z36 =>
          some z36
        else
          some z27) fun o29 =>
      Option.bind (α := ByteArray) (
        if decide (0 < r16.1.b.2) then
          Option.bind (K_strconv_Itoa p0.B) fun r43 =>
          Option.bind (addS (⟨#[47]⟩ : ByteArray) r43) fun z45 =>
          Option.bind (addS o29 z45) fun z47 =>
          some z47
        else
          some o29) fun o38 =>
      some o38
def K_stitch_text_l2 (p0 : (List api_Stitch)) : (List ByteArray × Int) → Option ((List ByteArray × Int) ⊕ List ByteArray) := fun s0 => match s0 with
  | (s11, s14) =>
    if decide (s14 < (p0.length : Int)) then
      Option.bind (α := Int) (
        Option.bind (whileK (K_stitch_text_l1 p0 s14) 1) fun e32 =>
          some e32) fun o25 =>
      Option.bind (idxO p0 s14) fun x77 =>
      Option.bind (K_stitch_word x77) fun r82 =>
      Option.bind (α := ByteArray) (
        if decide (1 < o25) then
          Option.bind (K_strconv_Itoa o25) fun r89 =>
          Option.bind (addS r82 r89) fun z91 =>
          some z91
        else
          some r82) fun o84 =>
      Option.bind (appO s11 [o84]) fun l96 =>
      some (.inl (l96, w64 (s14 + o25)))
    else
      some (.inr s11)
def K_strings_Join (p0 : List ByteArray) (p1 : ByteArray) : Option ByteArray :=
  if decide (p0.length ≤ 140737488355328 ∧ (Lib.join (p0.map (·.data.toList)) p1.data.toList).length ≤ 140737488355328) then
    some ⟨(Lib.join (p0.map (·.data.toList)) p1.data.toList).toArray⟩
  else
    none
def K_stitch_text (p0 : (List api_Stitch)) : Option ByteArray :=
  Option.bind (α := List ByteArray) (
    Option.bind (whileK (K_stitch_text_l2 p0) (([] : List ByteArray), 0)) fun e18 =>
      some e18) fun o5 =>
  Option.bind (K_strings_Join o5 (⟨#[32]⟩ : ByteArray)) fun r101 =>
  some r101
def K_stitch_Text (p0 : (List api_Stitch)) : Option (ByteArray × Int) :=
  Option.bind (K_stitch_All p0) fun r6 =>
  if r6 != 0 then
    some ((⟨#[]⟩ : ByteArray), r6)
  else
    Option.bind (K_stitch_text p0) fun r12 =>
    if decide (3000 < (r12.size : Int)) then
      some ((⟨#[]⟩ : ByteArray), 4)
    else
      some (r12, 0)
def K_raddleref36_Same_l1 (p0 : (List Int)) (p1 : (List Int)) : Int → Option (Int ⊕ (Bool ⊕ Unit)) := fun s0 => match s0 with
  | s13 =>
    if decide (s13 < (p0.length : Int)) then
      Option.bind (idxO p0 s13) fun x22 =>
      Option.bind (idxO p1 s13) fun x27 =>
      if x22 != x27 then
        some (.inr (.inl false))
      else
        some (.inl (w64 (s13 + 1)))
    else
      some (.inr (.inr ()))
def K_raddleref36_Same (p0 : (List Int)) (p1 : (List Int)) : Option Bool :=
  if (p0.length : Int) != (p1.length : Int) then
    some false
  else
    Option.bind (α := Unit ⊕ Bool) (
      Option.bind (whileK (K_raddleref36_Same_l1 p0 p1) 0) fun z0 => match z0 with
        | .inl z =>
          some (.inr z)
        | .inr _ =>
          some (.inl ())) fun z0 => match z0 with
      | .inl _ =>
        some true
      | .inr z =>
        some z
theorem m_F_short_within (p0 : Int) (p1 : Int) (p2 : Int) : Le (K_short_within p0 p1 p2) (F_short_within p0 p1 p2) := by
  unfold K_short_within F_short_within
  with_reducible repeat' (first | exact Le.rfl _ | refine Le.loop _ ?_ | refine Le.bind ?_ ?_ | refine Le.ite ?_ ?_ | refine Le.sum ?_ ?_ | refine Le.prod ?_ | intro _ | exact Empty.elim (by assumption) | dsimp only)
theorem m_short_Turns_l1 (p1 : Int) (p0 : Int) : ∀ s, Le (K_short_Turns_l1 p1 p0 s) (short_Turns_l1 p1 p0 s) := by
  unfold K_short_Turns_l1 short_Turns_l1
  with_reducible repeat' (first | exact Le.rfl _ | refine Le.loop _ ?_ | refine Le.bind ?_ ?_ | refine Le.ite ?_ ?_ | refine Le.sum ?_ ?_ | refine Le.prod ?_ | intro _ | exact Empty.elim (by assumption) | dsimp only)
theorem m_F_short_Turns (p0 : Int) (p1 : Int) : Le (K_short_Turns p0 p1) (F_short_Turns p0 p1) := by
  unfold K_short_Turns F_short_Turns
  with_reducible repeat' (first | exact m_F_short_within _ _ _ | exact m_short_Turns_l1 _ _ | exact Le.rfl _ | refine Le.loop _ ?_ | refine Le.bind ?_ ?_ | refine Le.ite ?_ ?_ | refine Le.sum ?_ ?_ | refine Le.prod ?_ | intro _ | exact Empty.elim (by assumption) | dsimp only)
theorem m_short_check_l1 (p1 : (List Int)) (p0 : Int) : ∀ s, Le (K_short_check_l1 p1 p0 s) (short_check_l1 p1 p0 s) := by
  unfold K_short_check_l1 short_check_l1
  with_reducible repeat' (first | exact m_F_short_within _ _ _ | exact Le.rfl _ | refine Le.loop _ ?_ | refine Le.bind ?_ ?_ | refine Le.ite ?_ ?_ | refine Le.sum ?_ ?_ | refine Le.prod ?_ | intro _ | exact Empty.elim (by assumption) | dsimp only)
theorem m_F_short_check (p0 : Int) (p1 : (List Int)) : Le (K_short_check p0 p1) (F_short_check p0 p1) := by
  unfold K_short_check F_short_check
  with_reducible repeat' (first | exact m_F_short_within _ _ _ | exact m_short_check_l1 _ _ | exact Le.rfl _ | refine Le.loop _ ?_ | refine Le.bind ?_ ?_ | refine Le.ite ?_ ?_ | refine Le.sum ?_ ?_ | refine Le.prod ?_ | intro _ | exact Empty.elim (by assumption) | dsimp only)
theorem m_short_Heights_l1 (p1 : (List Int)) : ∀ s, Le (K_short_Heights_l1 p1 s) (short_Heights_l1 p1 s) := by
  unfold K_short_Heights_l1 short_Heights_l1
  with_reducible repeat' (first | exact Le.rfl _ | refine Le.loop _ ?_ | refine Le.bind ?_ ?_ | refine Le.ite ?_ ?_ | refine Le.sum ?_ ?_ | refine Le.prod ?_ | intro _ | exact Empty.elim (by assumption) | dsimp only)
theorem m_short_Heights_l2  : ∀ s, Le (K_short_Heights_l2 s) (short_Heights_l2 s) := by
  unfold K_short_Heights_l2 short_Heights_l2
  with_reducible repeat' (first | exact Le.rfl _ | refine Le.loop _ ?_ | refine Le.bind ?_ ?_ | refine Le.ite ?_ ?_ | refine Le.sum ?_ ?_ | refine Le.prod ?_ | intro _ | exact Empty.elim (by assumption) | dsimp only)
theorem m_F_short_Heights (p0 : Int) (p1 : (List Int)) : Le (K_short_Heights p0 p1) (F_short_Heights p0 p1) := by
  unfold K_short_Heights F_short_Heights
  with_reducible repeat' (first | exact m_F_short_check _ _ | exact m_short_Heights_l1 _ | exact m_short_Heights_l2 | exact Le.rfl _ | refine Le.loop _ ?_ | refine Le.bind ?_ ?_ | refine Le.ite ?_ ?_ | refine Le.sum ?_ ?_ | refine Le.prod ?_ | intro _ | exact Empty.elim (by assumption) | dsimp only)
theorem m_short_Worked_l1 (p1 : (List Int)) : ∀ s, Le (K_short_Worked_l1 p1 s) (short_Worked_l1 p1 s) := by
  unfold K_short_Worked_l1 short_Worked_l1
  with_reducible repeat' (first | exact Le.rfl _ | refine Le.loop _ ?_ | refine Le.bind ?_ ?_ | refine Le.ite ?_ ?_ | refine Le.sum ?_ ?_ | refine Le.prod ?_ | intro _ | exact Empty.elim (by assumption) | dsimp only)
theorem m_F_short_Worked (p0 : Int) (p1 : (List Int)) : Le (K_short_Worked p0 p1) (F_short_Worked p0 p1) := by
  unfold K_short_Worked F_short_Worked
  with_reducible repeat' (first | exact m_F_short_check _ _ | exact m_short_Worked_l1 _ | exact Le.rfl _ | refine Le.loop _ ?_ | refine Le.bind ?_ ?_ | refine Le.ite ?_ ?_ | refine Le.sum ?_ ?_ | refine Le.prod ?_ | intro _ | exact Empty.elim (by assumption) | dsimp only)
theorem m_short_several_l1 (p1 : Int) (p0 : Int) : ∀ s, Le (K_short_several_l1 p1 p0 s) (short_several_l1 p1 p0 s) := by
  unfold K_short_several_l1 short_several_l1
  with_reducible repeat' (first | exact Le.rfl _ | refine Le.loop _ ?_ | refine Le.bind ?_ ?_ | refine Le.ite ?_ ?_ | refine Le.sum ?_ ?_ | refine Le.prod ?_ | intro _ | exact Empty.elim (by assumption) | dsimp only)
theorem m_F_short_several (p0 : Int) (p1 : Int) : Le (K_short_several p0 p1) (F_short_several p0 p1) := by
  unfold K_short_several F_short_several
  with_reducible repeat' (first | exact m_short_several_l1 _ _ | exact Le.rfl _ | refine Le.loop _ ?_ | refine Le.bind ?_ ?_ | refine Le.ite ?_ ?_ | refine Le.sum ?_ ?_ | refine Le.prod ?_ | intro _ | exact Empty.elim (by assumption) | dsimp only)
theorem m_short_joined_l1 (p0 : (List (List api_Stitch))) : ∀ s, Le (K_short_joined_l1 p0 s) (short_joined_l1 p0 s) := by
  unfold K_short_joined_l1 short_joined_l1
  with_reducible repeat' (first | exact Le.rfl _ | refine Le.loop _ ?_ | refine Le.bind ?_ ?_ | refine Le.ite ?_ ?_ | refine Le.sum ?_ ?_ | refine Le.prod ?_ | intro _ | exact Empty.elim (by assumption) | dsimp only)
theorem m_F_short_joined (p0 : (List (List api_Stitch))) : Le (K_short_joined p0) (F_short_joined p0) := by
  unfold K_short_joined F_short_joined
  with_reducible repeat' (first | exact m_short_joined_l1 _ | exact Le.rfl _ | refine Le.loop _ ?_ | refine Le.bind ?_ ?_ | refine Le.ite ?_ ?_ | refine Le.sum ?_ ?_ | refine Le.prod ?_ | intro _ | exact Empty.elim (by assumption) | dsimp only)
theorem m_F_stitch_forms (p0 : Int) : Le (K_stitch_forms p0) (F_stitch_forms p0) := by
  unfold K_stitch_forms F_stitch_forms
  with_reducible repeat' (first | exact Le.rfl _ | refine Le.loop _ ?_ | refine Le.bind ?_ ?_ | refine Le.ite ?_ ?_ | refine Le.sum ?_ ?_ | refine Le.prod ?_ | intro _ | exact Empty.elim (by assumption) | dsimp only)
theorem m_F_stitch_within (p0 : Int) (p1 : (Int × Int)) : Le (K_stitch_within p0 p1) (F_stitch_within p0 p1) := by
  unfold K_stitch_within F_stitch_within
  with_reducible repeat' (first | exact Le.rfl _ | refine Le.loop _ ?_ | refine Le.bind ?_ ?_ | refine Le.ite ?_ ?_ | refine Le.sum ?_ ?_ | refine Le.prod ?_ | intro _ | exact Empty.elim (by assumption) | dsimp only)
theorem m_F_stitch_Check (p0 : api_Stitch) : Le (K_stitch_Check p0) (F_stitch_Check p0) := by
  unfold K_stitch_Check F_stitch_Check
  with_reducible repeat' (first | exact m_F_stitch_forms _ | exact m_F_stitch_within _ _ | exact Le.rfl _ | refine Le.loop _ ?_ | refine Le.bind ?_ ?_ | refine Le.ite ?_ ?_ | refine Le.sum ?_ ?_ | refine Le.prod ?_ | intro _ | exact Empty.elim (by assumption) | dsimp only)
theorem m_F_stitch_All_1 (p0 : api_Stitch) : Le (K_stitch_All_1 p0) (F_stitch_All_1 p0) := by
  unfold K_stitch_All_1 F_stitch_All_1
  with_reducible repeat' (first | exact m_F_stitch_Check _ | exact Le.rfl _ | refine Le.loop _ ?_ | refine Le.bind ?_ ?_ | refine Le.ite ?_ ?_ | refine Le.sum ?_ ?_ | refine Le.prod ?_ | intro _ | exact Empty.elim (by assumption) | dsimp only)
theorem m_slices_IndexFunc___api_Stitch_api_Stitch__s0_l1 (p0 : (List api_Stitch)) : ∀ s, Le (K_slices_IndexFunc___api_Stitch_api_Stitch__s0_l1 p0 s) (slices_IndexFunc___api_Stitch_api_Stitch__s0_l1 p0 s) := by
  unfold K_slices_IndexFunc___api_Stitch_api_Stitch__s0_l1 slices_IndexFunc___api_Stitch_api_Stitch__s0_l1
  with_reducible repeat' (first | exact m_F_stitch_All_1 _ | exact Le.rfl _ | refine Le.loop _ ?_ | refine Le.bind ?_ ?_ | refine Le.ite ?_ ?_ | refine Le.sum ?_ ?_ | refine Le.prod ?_ | intro _ | exact Empty.elim (by assumption) | dsimp only)
theorem m_F_slices_IndexFunc___api_Stitch_api_Stitch__s0 (p0 : (List api_Stitch)) : Le (K_slices_IndexFunc___api_Stitch_api_Stitch__s0 p0) (F_slices_IndexFunc___api_Stitch_api_Stitch__s0 p0) := by
  unfold K_slices_IndexFunc___api_Stitch_api_Stitch__s0 F_slices_IndexFunc___api_Stitch_api_Stitch__s0
  with_reducible repeat' (first | exact m_slices_IndexFunc___api_Stitch_api_Stitch__s0_l1 _ | exact Le.rfl _ | refine Le.loop _ ?_ | refine Le.bind ?_ ?_ | refine Le.ite ?_ ?_ | refine Le.sum ?_ ?_ | refine Le.prod ?_ | intro _ | exact Empty.elim (by assumption) | dsimp only)
theorem m_F_slices_ContainsFunc___api_Stitch_api_Stitch__s0 (p0 : (List api_Stitch)) : Le (K_slices_ContainsFunc___api_Stitch_api_Stitch__s0 p0) (F_slices_ContainsFunc___api_Stitch_api_Stitch__s0 p0) := by
  unfold K_slices_ContainsFunc___api_Stitch_api_Stitch__s0 F_slices_ContainsFunc___api_Stitch_api_Stitch__s0
  with_reducible repeat' (first | exact m_F_slices_IndexFunc___api_Stitch_api_Stitch__s0 _ | exact Le.rfl _ | refine Le.loop _ ?_ | refine Le.bind ?_ ?_ | refine Le.ite ?_ ?_ | refine Le.sum ?_ ?_ | refine Le.prod ?_ | intro _ | exact Empty.elim (by assumption) | dsimp only)
theorem m_F_stitch_loops (p0 : api_Stitch) (p1 : Int) : Le (K_stitch_loops p0 p1) (F_stitch_loops p0 p1) := by
  unfold K_stitch_loops F_stitch_loops
  with_reducible repeat' (first | exact Le.rfl _ | refine Le.loop _ ?_ | refine Le.bind ?_ ?_ | refine Le.ite ?_ ?_ | refine Le.sum ?_ ?_ | refine Le.prod ?_ | intro _ | exact Empty.elim (by assumption) | dsimp only)
theorem m_stitch_sum_l1 (p0 : (List api_Stitch)) : ∀ s, Le (K_stitch_sum_l1 p0 s) (stitch_sum_l1 p0 s) := by
  unfold K_stitch_sum_l1 stitch_sum_l1
  with_reducible repeat' (first | exact m_F_stitch_forms _ | exact m_F_stitch_loops _ _ | exact Le.rfl _ | refine Le.loop _ ?_ | refine Le.bind ?_ ?_ | refine Le.ite ?_ ?_ | refine Le.sum ?_ ?_ | refine Le.prod ?_ | intro _ | exact Empty.elim (by assumption) | dsimp only)
theorem m_F_stitch_sum (p0 : (List api_Stitch)) : Le (K_stitch_sum p0) (F_stitch_sum p0) := by
  unfold K_stitch_sum F_stitch_sum
  with_reducible repeat' (first | exact m_stitch_sum_l1 _ | exact Le.rfl _ | refine Le.loop _ ?_ | refine Le.bind ?_ ?_ | refine Le.ite ?_ ?_ | refine Le.sum ?_ ?_ | refine Le.prod ?_ | intro _ | exact Empty.elim (by assumption) | dsimp only)
theorem m_F_stitch_All (p0 : (List api_Stitch)) : Le (K_stitch_All p0) (F_stitch_All p0) := by
  unfold K_stitch_All F_stitch_All
  with_reducible repeat' (first | exact m_F_slices_ContainsFunc___api_Stitch_api_Stitch__s0 _ | exact m_F_stitch_sum _ | exact Le.rfl _ | refine Le.loop _ ?_ | refine Le.bind ?_ ?_ | refine Le.ite ?_ ?_ | refine Le.sum ?_ ?_ | refine Le.prod ?_ | intro _ | exact Empty.elim (by assumption) | dsimp only)
theorem m_F_slices_Backward___api_Stitch_api_Stitch_ (p0 : (List api_Stitch)) : Le (K_slices_Backward___api_Stitch_api_Stitch_ p0) (F_slices_Backward___api_Stitch_api_Stitch_ p0) := by
  unfold K_slices_Backward___api_Stitch_api_Stitch_ F_slices_Backward___api_Stitch_api_Stitch_
  with_reducible repeat' (first | exact Le.rfl _ | refine Le.loop _ ?_ | refine Le.bind ?_ ?_ | refine Le.ite ?_ ?_ | refine Le.sum ?_ ?_ | refine Le.prod ?_ | intro _ | exact Empty.elim (by assumption) | dsimp only)
theorem m_slices_Backward___api_Stitch_api_Stitch__1_l1 {σ τ : Type} (p0 : (List api_Stitch)) (B B' : σ → (Int × api_Stitch) → Option (σ ⊕ τ)) (hB : ∀ s x, Le (B s x) (B' s x)) : ∀ s, Le (K_slices_Backward___api_Stitch_api_Stitch__1_l1 p0 B s) (slices_Backward___api_Stitch_api_Stitch__1_l1 p0 B' s) := by
  unfold K_slices_Backward___api_Stitch_api_Stitch__1_l1 slices_Backward___api_Stitch_api_Stitch__1_l1
  with_reducible repeat' (first | exact hB _ _ | exact Le.rfl _ | refine Le.loop _ ?_ | refine Le.bind ?_ ?_ | refine Le.ite ?_ ?_ | refine Le.sum ?_ ?_ | refine Le.prod ?_ | intro _ | exact Empty.elim (by assumption) | dsimp only)
theorem m_I_slices_Backward___api_Stitch_api_Stitch__1 (p0 : (List api_Stitch)) (σ τ : Type) (B B' : σ → (Int × api_Stitch) → Option (σ ⊕ τ)) (hB : ∀ s x, Le (B s x) (B' s x)) (gz0 : σ) : Le (K_I_slices_Backward___api_Stitch_api_Stitch__1 p0 σ τ B gz0) (I_slices_Backward___api_Stitch_api_Stitch__1 p0 σ τ B' gz0) := by
  unfold K_I_slices_Backward___api_Stitch_api_Stitch__1 I_slices_Backward___api_Stitch_api_Stitch__1
  with_reducible repeat' (first | exact hB _ _ | exact m_slices_Backward___api_Stitch_api_Stitch__1_l1 _ _ _ hB | exact Le.rfl _ | refine Le.loop _ ?_ | refine Le.bind ?_ ?_ | refine Le.ite ?_ ?_ | refine Le.sum ?_ ?_ | refine Le.prod ?_ | intro _ | exact Empty.elim (by assumption) | dsimp only)
theorem m_stitch_Turn_l2  : ∀ s x, Le (K_stitch_Turn_l2 s x) (stitch_Turn_l2 s x) := by
  unfold K_stitch_Turn_l2 stitch_Turn_l2
  with_reducible repeat' (first | exact m_F_stitch_forms _ | exact Le.rfl _ | refine Le.loop _ ?_ | refine Le.bind ?_ ?_ | refine Le.ite ?_ ?_ | refine Le.sum ?_ ?_ | refine Le.prod ?_ | intro _ | exact Empty.elim (by assumption) | dsimp only)
theorem m_F_stitch_Turn (p0 : (List api_Stitch)) : Le (K_stitch_Turn p0) (F_stitch_Turn p0) := by
  unfold K_stitch_Turn F_stitch_Turn
  with_reducible repeat' (first | exact m_F_stitch_All _ | exact m_F_slices_Backward___api_Stitch_api_Stitch_ _ | refine m_I_slices_Backward___api_Stitch_api_Stitch__1 _ _ _ _ _ ?_ _ | exact m_stitch_Turn_l2 | exact Le.rfl _ | refine Le.loop _ ?_ | refine Le.bind ?_ ?_ | refine Le.ite ?_ ?_ | refine Le.sum ?_ ?_ | refine Le.prod ?_ | intro _ | exact Empty.elim (by assumption) | dsimp only)
theorem m_short_Chart_l1 (p1 : (List Int)) (p0 : Int) : ∀ s, Le (K_short_Chart_l1 p1 p0 s) (short_Chart_l1 p1 p0 s) := by
  unfold K_short_Chart_l1 short_Chart_l1
  with_reducible repeat' (first | exact m_F_short_several _ _ | exact m_F_short_joined _ | exact m_F_stitch_Turn _ | exact Le.rfl _ | refine Le.loop _ ?_ | refine Le.bind ?_ ?_ | refine Le.ite ?_ ?_ | refine Le.sum ?_ ?_ | refine Le.prod ?_ | intro _ | exact Empty.elim (by assumption) | dsimp only)
theorem m_F_short_Chart (p0 : Int) (p1 : (List Int)) : Le (K_short_Chart p0 p1) (F_short_Chart p0 p1) := by
  unfold K_short_Chart F_short_Chart
  with_reducible repeat' (first | exact m_F_short_check _ _ | exact m_short_Chart_l1 _ _ | exact Le.rfl _ | refine Le.loop _ ?_ | refine Le.bind ?_ ?_ | refine Le.ite ?_ ?_ | refine Le.sum ?_ ?_ | refine Le.prod ?_ | intro _ | exact Empty.elim (by assumption) | dsimp only)
theorem m_short_Fit_l1 (p0 : (List Int)) : ∀ s, Le (K_short_Fit_l1 p0 s) (short_Fit_l1 p0 s) := by
  unfold K_short_Fit_l1 short_Fit_l1
  with_reducible repeat' (first | exact m_F_short_within _ _ _ | exact Le.rfl _ | refine Le.loop _ ?_ | refine Le.bind ?_ ?_ | refine Le.ite ?_ ?_ | refine Le.sum ?_ ?_ | refine Le.prod ?_ | intro _ | exact Empty.elim (by assumption) | dsimp only)
theorem m_short_Fit_l2 (p0 : (List Int)) (s58 : Int) : ∀ s, Le (K_short_Fit_l2 p0 s58 s) (short_Fit_l2 p0 s58 s) := by
  unfold K_short_Fit_l2 short_Fit_l2
  with_reducible repeat' (first | exact Le.rfl _ | refine Le.loop _ ?_ | refine Le.bind ?_ ?_ | refine Le.ite ?_ ?_ | refine Le.sum ?_ ?_ | refine Le.prod ?_ | intro _ | exact Empty.elim (by assumption) | dsimp only)
theorem m_short_Fit_l3 (p0 : (List Int)) : ∀ s, Le (K_short_Fit_l3 p0 s) (short_Fit_l3 p0 s) := by
  unfold K_short_Fit_l3 short_Fit_l3
  with_reducible repeat' (first | exact m_short_Fit_l2 _ _ | exact Le.rfl _ | refine Le.loop _ ?_ | refine Le.bind ?_ ?_ | refine Le.ite ?_ ?_ | refine Le.sum ?_ ?_ | refine Le.prod ?_ | intro _ | exact Empty.elim (by assumption) | dsimp only)
theorem m_F_short_Fit (p0 : (List Int)) : Le (K_short_Fit p0) (F_short_Fit p0) := by
  unfold K_short_Fit F_short_Fit
  with_reducible repeat' (first | exact m_short_Fit_l1 _ | exact m_short_Fit_l3 _ | exact Le.rfl _ | refine Le.loop _ ?_ | refine Le.bind ?_ ?_ | refine Le.ite ?_ ?_ | refine Le.sum ?_ ?_ | refine Le.prod ?_ | intro _ | exact Empty.elim (by assumption) | dsimp only)
theorem m_short_Read_l1 (s29 : Int) (x46 : api_Row) : ∀ s, Le (K_short_Read_l1 s29 x46 s) (short_Read_l1 s29 x46 s) := by
  unfold K_short_Read_l1 short_Read_l1
  with_reducible repeat' (first | exact Le.rfl _ | refine Le.loop _ ?_ | refine Le.bind ?_ ?_ | refine Le.ite ?_ ?_ | refine Le.sum ?_ ?_ | refine Le.prod ?_ | intro _ | exact Empty.elim (by assumption) | dsimp only)
theorem m_short_Read_l2 (m18 : List Int) (p0 : api_Chart) : ∀ s, Le (K_short_Read_l2 m18 p0 s) (short_Read_l2 m18 p0 s) := by
  unfold K_short_Read_l2 short_Read_l2
  with_reducible repeat' (first | exact m_short_Read_l1 _ _ | exact Le.rfl _ | refine Le.loop _ ?_ | refine Le.bind ?_ ?_ | refine Le.ite ?_ ?_ | refine Le.sum ?_ ?_ | refine Le.prod ?_ | intro _ | exact Empty.elim (by assumption) | dsimp only)
theorem m_slices_Equal___api_Stitch_api_Stitch__l1 (p0 : (List api_Stitch)) (p1 : (List api_Stitch)) : ∀ s, Le (K_slices_Equal___api_Stitch_api_Stitch__l1 p0 p1 s) (slices_Equal___api_Stitch_api_Stitch__l1 p0 p1 s) := by
  unfold K_slices_Equal___api_Stitch_api_Stitch__l1 slices_Equal___api_Stitch_api_Stitch__l1
  with_reducible repeat' (first | exact Le.rfl _ | refine Le.loop _ ?_ | refine Le.bind ?_ ?_ | refine Le.ite ?_ ?_ | refine Le.sum ?_ ?_ | refine Le.prod ?_ | intro _ | exact Empty.elim (by assumption) | dsimp only)
theorem m_F_slices_Equal___api_Stitch_api_Stitch_ (p0 : (List api_Stitch)) (p1 : (List api_Stitch)) : Le (K_slices_Equal___api_Stitch_api_Stitch_ p0 p1) (F_slices_Equal___api_Stitch_api_Stitch_ p0 p1) := by
  unfold K_slices_Equal___api_Stitch_api_Stitch_ F_slices_Equal___api_Stitch_api_Stitch_
  with_reducible repeat' (first | exact m_slices_Equal___api_Stitch_api_Stitch__l1 _ _ | exact Le.rfl _ | refine Le.loop _ ?_ | refine Le.bind ?_ ?_ | refine Le.ite ?_ ?_ | refine Le.sum ?_ ?_ | refine Le.prod ?_ | intro _ | exact Empty.elim (by assumption) | dsimp only)
theorem m_F_stitch_Same (p0 : (List api_Stitch)) (p1 : (List api_Stitch)) : Le (K_stitch_Same p0 p1) (F_stitch_Same p0 p1) := by
  unfold K_stitch_Same F_stitch_Same
  with_reducible repeat' (first | exact m_F_slices_Equal___api_Stitch_api_Stitch_ _ _ | exact Le.rfl _ | refine Le.loop _ ?_ | refine Le.bind ?_ ?_ | refine Le.ite ?_ ?_ | refine Le.sum ?_ ?_ | refine Le.prod ?_ | intro _ | exact Empty.elim (by assumption) | dsimp only)
theorem m_short_Read_l3 (p0 : api_Chart) (r96 : (api_Chart × Int)) : ∀ s, Le (K_short_Read_l3 p0 r96 s) (short_Read_l3 p0 r96 s) := by
  unfold K_short_Read_l3 short_Read_l3
  with_reducible repeat' (first | exact m_F_stitch_Same _ _ | exact Le.rfl _ | refine Le.loop _ ?_ | refine Le.bind ?_ ?_ | refine Le.ite ?_ ?_ | refine Le.sum ?_ ?_ | refine Le.prod ?_ | intro _ | exact Empty.elim (by assumption) | dsimp only)
theorem m_F_short_Read (p0 : api_Chart) : Le (K_short_Read p0) (F_short_Read p0) := by
  unfold K_short_Read F_short_Read
  with_reducible repeat' (first | exact m_short_Read_l2 _ _ | exact m_F_short_Chart _ _ | exact m_short_Read_l3 _ _ | exact Le.rfl _ | refine Le.loop _ ?_ | refine Le.bind ?_ ?_ | refine Le.ite ?_ ?_ | refine Le.sum ?_ ?_ | refine Le.prod ?_ | intro _ | exact Empty.elim (by assumption) | dsimp only)
theorem m_stitch_text_l1 (p0 : (List api_Stitch)) (s14 : Int) : ∀ s, Le (K_stitch_text_l1 p0 s14 s) (stitch_text_l1 p0 s14 s) := by
  unfold K_stitch_text_l1 stitch_text_l1
  with_reducible repeat' (first | exact Le.rfl _ | refine Le.loop _ ?_ | refine Le.bind ?_ ?_ | refine Le.ite ?_ ?_ | refine Le.sum ?_ ?_ | refine Le.prod ?_ | intro _ | exact Empty.elim (by assumption) | dsimp only)
theorem m_F_internal_strconv_small (p0 : Int) : Le (K_internal_strconv_small p0) (F_internal_strconv_small p0) := by
  unfold K_internal_strconv_small F_internal_strconv_small
  with_reducible repeat' (first | exact Le.rfl _ | refine Le.loop _ ?_ | refine Le.bind ?_ ?_ | refine Le.ite ?_ ?_ | refine Le.sum ?_ ?_ | refine Le.prod ?_ | intro _ | exact Empty.elim (by assumption) | dsimp only)
theorem m_F_math_bits_Len64 (p0 : Int) : Le (K_math_bits_Len64 p0) (F_math_bits_Len64 p0) := by
  unfold K_math_bits_Len64 F_math_bits_Len64
  with_reducible repeat' (first | exact Le.rfl _ | refine Le.loop _ ?_ | refine Le.bind ?_ ?_ | refine Le.ite ?_ ?_ | refine Le.sum ?_ ?_ | refine Le.prod ?_ | intro _ | exact Empty.elim (by assumption) | dsimp only)
theorem m_F_internal_strconv_log10Pow2 (p0 : Int) : Le (K_internal_strconv_log10Pow2 p0) (F_internal_strconv_log10Pow2 p0) := by
  unfold K_internal_strconv_log10Pow2 F_internal_strconv_log10Pow2
  with_reducible repeat' (first | exact Le.rfl _ | refine Le.loop _ ?_ | refine Le.bind ?_ ?_ | refine Le.ite ?_ ?_ | refine Le.sum ?_ ?_ | refine Le.prod ?_ | intro _ | exact Empty.elim (by assumption) | dsimp only)
theorem m_F_internal_strconv_numDigits (p0 : Int) : Le (K_internal_strconv_numDigits p0) (F_internal_strconv_numDigits p0) := by
  unfold K_internal_strconv_numDigits F_internal_strconv_numDigits
  with_reducible repeat' (first | exact m_F_math_bits_Len64 _ | exact m_F_internal_strconv_log10Pow2 _ | exact Le.rfl _ | refine Le.loop _ ?_ | refine Le.bind ?_ ?_ | refine Le.ite ?_ ?_ | refine Le.sum ?_ ?_ | refine Le.prod ?_ | intro _ | exact Empty.elim (by assumption) | dsimp only)
theorem m_F_internal_strconv_FormatInt (p0 : Int) (p1 : Int) : Le (K_internal_strconv_FormatInt p0 p1) (F_internal_strconv_FormatInt p0 p1) := by
  unfold K_internal_strconv_FormatInt F_internal_strconv_FormatInt
  with_reducible repeat' (first | exact m_F_internal_strconv_small _ | exact m_F_internal_strconv_numDigits _ | exact Le.rfl _ | refine Le.loop _ ?_ | refine Le.bind ?_ ?_ | refine Le.ite ?_ ?_ | refine Le.sum ?_ ?_ | refine Le.prod ?_ | intro _ | exact Empty.elim (by assumption) | dsimp only)
theorem m_F_internal_strconv_Itoa (p0 : Int) : Le (K_internal_strconv_Itoa p0) (F_internal_strconv_Itoa p0) := by
  unfold K_internal_strconv_Itoa F_internal_strconv_Itoa
  with_reducible repeat' (first | exact m_F_internal_strconv_FormatInt _ _ | exact Le.rfl _ | refine Le.loop _ ?_ | refine Le.bind ?_ ?_ | refine Le.ite ?_ ?_ | refine Le.sum ?_ ?_ | refine Le.prod ?_ | intro _ | exact Empty.elim (by assumption) | dsimp only)
theorem m_F_strconv_Itoa (p0 : Int) : Le (K_strconv_Itoa p0) (F_strconv_Itoa p0) := by
  unfold K_strconv_Itoa F_strconv_Itoa
  with_reducible repeat' (first | exact m_F_internal_strconv_Itoa _ | exact Le.rfl _ | refine Le.loop _ ?_ | refine Le.bind ?_ ?_ | refine Le.ite ?_ ?_ | refine Le.sum ?_ ?_ | refine Le.prod ?_ | intro _ | exact Empty.elim (by assumption) | dsimp only)
theorem m_F_stitch_word (p0 : api_Stitch) : Le (K_stitch_word p0) (F_stitch_word p0) := by
  unfold K_stitch_word F_stitch_word
  with_reducible repeat' (first | exact m_F_strconv_Itoa _ | exact m_F_stitch_forms _ | exact Le.rfl _ | refine Le.loop _ ?_ | refine Le.bind ?_ ?_ | refine Le.ite ?_ ?_ | refine Le.sum ?_ ?_ | refine Le.prod ?_ | intro _ | exact Empty.elim (by assumption) | dsimp only)
theorem m_stitch_text_l2 (p0 : (List api_Stitch)) : ∀ s, Le (K_stitch_text_l2 p0 s) (stitch_text_l2 p0 s) := by
  unfold K_stitch_text_l2 stitch_text_l2
  with_reducible repeat' (first | exact m_stitch_text_l1 _ _ | exact m_F_stitch_word _ | exact m_F_strconv_Itoa _ | exact Le.rfl _ | refine Le.loop _ ?_ | refine Le.bind ?_ ?_ | refine Le.ite ?_ ?_ | refine Le.sum ?_ ?_ | refine Le.prod ?_ | intro _ | exact Empty.elim (by assumption) | dsimp only)
theorem m_F_strings_Join (p0 : List ByteArray) (p1 : ByteArray) : Le (K_strings_Join p0 p1) (F_strings_Join p0 p1) := by
  unfold K_strings_Join F_strings_Join
  with_reducible repeat' (first | exact Le.rfl _ | refine Le.loop _ ?_ | refine Le.bind ?_ ?_ | refine Le.ite ?_ ?_ | refine Le.sum ?_ ?_ | refine Le.prod ?_ | intro _ | exact Empty.elim (by assumption) | dsimp only)
theorem m_F_stitch_text (p0 : (List api_Stitch)) : Le (K_stitch_text p0) (F_stitch_text p0) := by
  unfold K_stitch_text F_stitch_text
  with_reducible repeat' (first | exact m_stitch_text_l2 _ | exact m_F_strings_Join _ _ | exact Le.rfl _ | refine Le.loop _ ?_ | refine Le.bind ?_ ?_ | refine Le.ite ?_ ?_ | refine Le.sum ?_ ?_ | refine Le.prod ?_ | intro _ | exact Empty.elim (by assumption) | dsimp only)
theorem m_F_stitch_Text (p0 : (List api_Stitch)) : Le (K_stitch_Text p0) (F_stitch_Text p0) := by
  unfold K_stitch_Text F_stitch_Text
  with_reducible repeat' (first | exact m_F_stitch_All _ | exact m_F_stitch_text _ | exact Le.rfl _ | refine Le.loop _ ?_ | refine Le.bind ?_ ?_ | refine Le.ite ?_ ?_ | refine Le.sum ?_ ?_ | refine Le.prod ?_ | intro _ | exact Empty.elim (by assumption) | dsimp only)
theorem m_raddleref36_Same_l1 (p0 : (List Int)) (p1 : (List Int)) : ∀ s, Le (K_raddleref36_Same_l1 p0 p1 s) (raddleref36_Same_l1 p0 p1 s) := by
  unfold K_raddleref36_Same_l1 raddleref36_Same_l1
  with_reducible repeat' (first | exact Le.rfl _ | refine Le.loop _ ?_ | refine Le.bind ?_ ?_ | refine Le.ite ?_ ?_ | refine Le.sum ?_ ?_ | refine Le.prod ?_ | intro _ | exact Empty.elim (by assumption) | dsimp only)
theorem m_F_raddleref36_Same (p0 : (List Int)) (p1 : (List Int)) : Le (K_raddleref36_Same p0 p1) (F_raddleref36_Same p0 p1) := by
  unfold K_raddleref36_Same F_raddleref36_Same
  with_reducible repeat' (first | exact m_raddleref36_Same_l1 _ _ | exact Le.rfl _ | refine Le.loop _ ?_ | refine Le.bind ?_ ?_ | refine Le.ite ?_ ?_ | refine Le.sum ?_ ?_ | refine Le.prod ?_ | intro _ | exact Empty.elim (by assumption) | dsimp only)
set_option maxRecDepth 1000000 in
theorem kc_raddlelaw38_alive_0 : F_short_Turns 10 3 = some ([8, 5, 2], 0) := m_F_short_Turns _ _ _ (by kernel_rfl)
set_option maxRecDepth 1000000 in
theorem kc_raddlelaw38_alive_1 : F_short_Heights 10 ([8, 5, 2] : List Int) = some ([3, 3, 2, 2, 2, 1, 1, 1, 0, 0], 0) := m_F_short_Heights _ _ _ (by kernel_rfl)
set_option maxRecDepth 1000000 in
theorem kc_raddlelaw38_alive_2 : F_short_Worked 10 ([8, 5, 2] : List Int) = some (30, 0) := m_F_short_Worked _ _ _ (by kernel_rfl)
set_option maxRecDepth 1000000 in
theorem kc_raddlelaw38_alive_3 : F_short_Chart 10 ([8, 5, 2] : List Int) = some ((api_Chart.mk 10 [(api_Row.mk false [(api_Stitch.mk 1 false 0 0), (api_Stitch.mk 1 false 0 0), (api_Stitch.mk 1 false 0 0), (api_Stitch.mk 1 false 0 0), (api_Stitch.mk 1 false 0 0), (api_Stitch.mk 1 false 0 0), (api_Stitch.mk 1 false 0 0), (api_Stitch.mk 1 false 0 0), (api_Stitch.mk 8 false 0 0), (api_Stitch.mk 8 false 0 0)]), (api_Row.mk true [(api_Stitch.mk 8 true 0 0), (api_Stitch.mk 8 true 0 0), (api_Stitch.mk 1 true 0 0), (api_Stitch.mk 1 true 0 0), (api_Stitch.mk 1 true 0 0), (api_Stitch.mk 1 true 0 0), (api_Stitch.mk 1 true 0 0), (api_Stitch.mk 1 true 0 0), (api_Stitch.mk 1 true 0 0), (api_Stitch.mk 1 true 0 0)]), (api_Row.mk false [(api_Stitch.mk 1 false 0 0), (api_Stitch.mk 1 false 0 0), (api_Stitch.mk 1 false 0 0), (api_Stitch.mk 1 false 0 0), (api_Stitch.mk 1 false 0 0), (api_Stitch.mk 8 false 0 0), (api_Stitch.mk 8 false 0 0), (api_Stitch.mk 8 false 0 0), (api_Stitch.mk 8 false 0 0), (api_Stitch.mk 8 false 0 0)]), (api_Row.mk true [(api_Stitch.mk 8 true 0 0), (api_Stitch.mk 8 true 0 0), (api_Stitch.mk 8 true 0 0), (api_Stitch.mk 8 true 0 0), (api_Stitch.mk 8 true 0 0), (api_Stitch.mk 1 true 0 0), (api_Stitch.mk 1 true 0 0), (api_Stitch.mk 1 true 0 0), (api_Stitch.mk 1 true 0 0), (api_Stitch.mk 1 true 0 0)]), (api_Row.mk false [(api_Stitch.mk 1 false 0 0), (api_Stitch.mk 1 false 0 0), (api_Stitch.mk 8 false 0 0), (api_Stitch.mk 8 false 0 0), (api_Stitch.mk 8 false 0 0), (api_Stitch.mk 8 false 0 0), (api_Stitch.mk 8 false 0 0), (api_Stitch.mk 8 false 0 0), (api_Stitch.mk 8 false 0 0), (api_Stitch.mk 8 false 0 0)]), (api_Row.mk true [(api_Stitch.mk 8 true 0 0), (api_Stitch.mk 8 true 0 0), (api_Stitch.mk 8 true 0 0), (api_Stitch.mk 8 true 0 0), (api_Stitch.mk 8 true 0 0), (api_Stitch.mk 8 true 0 0), (api_Stitch.mk 8 true 0 0), (api_Stitch.mk 8 true 0 0), (api_Stitch.mk 1 true 0 0), (api_Stitch.mk 1 true 0 0)])]), 0) := m_F_short_Chart _ _ _ (by kernel_rfl)
set_option maxRecDepth 1000000 in
theorem kc_raddlelaw38_alive_4 : F_short_Fit ([3, 3, 2, 2, 2, 1, 1, 1, 0, 0] : List Int) = some ([8, 5, 2], 0) := m_F_short_Fit _ _ (by kernel_rfl)
set_option maxRecDepth 1000000 in
theorem kc_raddlelaw38_alive_5 : F_short_Read (((api_Chart.mk 10 [(api_Row.mk false [(api_Stitch.mk 1 false 0 0), (api_Stitch.mk 1 false 0 0), (api_Stitch.mk 1 false 0 0), (api_Stitch.mk 1 false 0 0), (api_Stitch.mk 1 false 0 0), (api_Stitch.mk 1 false 0 0), (api_Stitch.mk 1 false 0 0), (api_Stitch.mk 1 false 0 0), (api_Stitch.mk 8 false 0 0), (api_Stitch.mk 8 false 0 0)]), (api_Row.mk true [(api_Stitch.mk 8 true 0 0), (api_Stitch.mk 8 true 0 0), (api_Stitch.mk 1 true 0 0), (api_Stitch.mk 1 true 0 0), (api_Stitch.mk 1 true 0 0), (api_Stitch.mk 1 true 0 0), (api_Stitch.mk 1 true 0 0), (api_Stitch.mk 1 true 0 0), (api_Stitch.mk 1 true 0 0), (api_Stitch.mk 1 true 0 0)]), (api_Row.mk false [(api_Stitch.mk 1 false 0 0), (api_Stitch.mk 1 false 0 0), (api_Stitch.mk 1 false 0 0), (api_Stitch.mk 1 false 0 0), (api_Stitch.mk 1 false 0 0), (api_Stitch.mk 8 false 0 0), (api_Stitch.mk 8 false 0 0), (api_Stitch.mk 8 false 0 0), (api_Stitch.mk 8 false 0 0), (api_Stitch.mk 8 false 0 0)]), (api_Row.mk true [(api_Stitch.mk 8 true 0 0), (api_Stitch.mk 8 true 0 0), (api_Stitch.mk 8 true 0 0), (api_Stitch.mk 8 true 0 0), (api_Stitch.mk 8 true 0 0), (api_Stitch.mk 1 true 0 0), (api_Stitch.mk 1 true 0 0), (api_Stitch.mk 1 true 0 0), (api_Stitch.mk 1 true 0 0), (api_Stitch.mk 1 true 0 0)]), (api_Row.mk false [(api_Stitch.mk 1 false 0 0), (api_Stitch.mk 1 false 0 0), (api_Stitch.mk 8 false 0 0), (api_Stitch.mk 8 false 0 0), (api_Stitch.mk 8 false 0 0), (api_Stitch.mk 8 false 0 0), (api_Stitch.mk 8 false 0 0), (api_Stitch.mk 8 false 0 0), (api_Stitch.mk 8 false 0 0), (api_Stitch.mk 8 false 0 0)]), (api_Row.mk true [(api_Stitch.mk 8 true 0 0), (api_Stitch.mk 8 true 0 0), (api_Stitch.mk 8 true 0 0), (api_Stitch.mk 8 true 0 0), (api_Stitch.mk 8 true 0 0), (api_Stitch.mk 8 true 0 0), (api_Stitch.mk 8 true 0 0), (api_Stitch.mk 8 true 0 0), (api_Stitch.mk 1 true 0 0), (api_Stitch.mk 1 true 0 0)])]), 0)).1 = some (10, ([8, 5, 2], 0)) := m_F_short_Read _ _ (by kernel_rfl)
set_option maxRecDepth 1000000 in
theorem kc_raddlelaw38_alive_6 : F_stitch_Text ((api_Row.mk false [(api_Stitch.mk 1 false 0 0), (api_Stitch.mk 1 false 0 0), (api_Stitch.mk 1 false 0 0), (api_Stitch.mk 1 false 0 0), (api_Stitch.mk 1 false 0 0), (api_Stitch.mk 1 false 0 0), (api_Stitch.mk 1 false 0 0), (api_Stitch.mk 1 false 0 0), (api_Stitch.mk 8 false 0 0), (api_Stitch.mk 8 false 0 0)])).Cells = some ((ByteArray.mk #[107, 56, 32, 107, 115, 32, 107, 115]), 0) := m_F_stitch_Text _ _ (by kernel_rfl)
set_option maxRecDepth 1000000 in
theorem kc_raddlelaw38_alive_7 : F_stitch_Text ((api_Row.mk true [(api_Stitch.mk 8 true 0 0), (api_Stitch.mk 8 true 0 0), (api_Stitch.mk 1 true 0 0), (api_Stitch.mk 1 true 0 0), (api_Stitch.mk 1 true 0 0), (api_Stitch.mk 1 true 0 0), (api_Stitch.mk 1 true 0 0), (api_Stitch.mk 1 true 0 0), (api_Stitch.mk 1 true 0 0), (api_Stitch.mk 1 true 0 0)])).Cells = some ((ByteArray.mk #[112, 115, 32, 112, 115, 32, 112, 56]), 0) := m_F_stitch_Text _ _ (by kernel_rfl)
set_option maxRecDepth 1000000 in
theorem kc_raddlelaw38_alive_8 : F_raddleref36_Same (([8, 5, 2], 0)).1 ([8, 5, 2] : List Int) = some true := m_F_raddleref36_Same _ _ _ (by kernel_rfl)
set_option maxRecDepth 1000000 in
theorem kc_raddlelaw38_alive_9 : F_raddleref36_Same (([3, 3, 2, 2, 2, 1, 1, 1, 0, 0], 0)).1 ([3, 3, 2, 2, 2, 1, 1, 1, 0, 0] : List Int) = some true := m_F_raddleref36_Same _ _ _ (by kernel_rfl)
set_option maxRecDepth 1000000 in
theorem kc_raddlelaw38_alive_10 : F_raddleref36_Same ((10, ([8, 5, 2], 0))).2.1 ([8, 5, 2] : List Int) = some true := m_F_raddleref36_Same _ _ _ (by kernel_rfl)
end Go.Proofs.YtoiehdlcfehmlaaDoor
namespace Go.Proofs.YtoiehdlcfehmlaaDoor
open Go.RowKit
set_option linter.unusedVariables false

noncomputable def F_raddlelaw38_alive  : Option Bool :=
  Option.bind (F_short_Turns 10 3) fun r3 =>
  Option.bind (F_short_Heights 10 ([8, 5, 2] : List Int)) fun r11 =>
  Option.bind (F_short_Worked 10 ([8, 5, 2] : List Int)) fun r19 =>
  Option.bind (F_short_Chart 10 ([8, 5, 2] : List Int)) fun r24 =>
  Option.bind (F_short_Fit ([3, 3, 2, 2, 2, 1, 1, 1, 0, 0] : List Int)) fun r35 =>
  Option.bind (F_short_Read r24.1) fun r41 =>
  if r3.2 != 0 then
    none
  else
    if r11.2 != 0 then
      none
    else
      if r19.2 != 0 then
        none
      else
        if r24.2 != 0 then
          none
        else
          if r35.2 != 0 then
            none
          else
            if r41.2.2 != 0 then
              none
            else
              if (r24.1.Rows.length : Int) != 6 then
                none
              else
                if r24.1.Start != 10 then
                  none
                else
                  Option.bind (idxO r24.1.Rows 0) fun x57 =>
                  Option.bind (F_stitch_Text x57.Cells) fun r66 =>
                  Option.bind (idxO r24.1.Rows 1) fun x69 =>
                  Option.bind (F_stitch_Text x69.Cells) fun r78 =>
                  if r66.2 == 0 then
                    if r66.1 == (⟨#[107, 56, 32, 107, 115, 32, 107, 115]⟩ : ByteArray) then
                      if !x57.Back then
                        if r78.2 == 0 then
                          if r78.1 == (⟨#[112, 115, 32, 112, 115, 32, 112, 56]⟩ : ByteArray) then
                            if x69.Back then
                              Option.bind (F_raddleref36_Same r3.1 ([8, 5, 2] : List Int)) fun r100 =>
                              if r100 then
                                Option.bind (F_raddleref36_Same r11.1 ([3, 3, 2, 2, 2, 1, 1, 1, 0, 0] : List Int)) fun r105 =>
                                if r105 then
                                  if r19.1 == 30 then
                                    Option.bind (F_raddleref36_Same r35.1 ([8, 5, 2] : List Int)) fun r109 =>
                                    if r109 then
                                      if r41.1 == 10 then
                                        Option.bind (F_raddleref36_Same r41.2.1 ([8, 5, 2] : List Int)) fun r113 =>
                                        some r113
                                      else
                                        none
                                    else
                                      none
                                  else
                                    none
                                else
                                  none
                              else
                                none
                            else
                              none
                          else
                            none
                        else
                          none
                      else
                        none
                    else
                      none
                  else
                    none
set_option maxHeartbeats 4000000 in
set_option maxRecDepth 100000 in
theorem c_raddlelaw38_alive (E : Nat → Prop) (w0 : World)  (r : Bool) (h : F_raddlelaw38_alive  = some r) (S : St0 E [] w0 w0 [] []) :
    Calls Tryd.prog 15 #[] w0 (Ret (X := Unit) E [] w0 (fun _ => .bool r) (fun _ => []) (fun _ => [])) := by
  unfold F_raddlelaw38_alive at h
  refine sEnter (args := []) 158 Tryd.func15 rfl rfl (by simp) S (fun a S => ?_)
  refine sSeq (fun K1 hK1 => ?_)
  refine sRegion ?_
  refine sMove (.bool false) S (wN rfl) (.inr rfl) rfl rfl (lb rfl) fun a S => ?_
  refine leafL (leafT (hK1 _ _ ?_))
  refine sSeq (fun K2 hK2 => ?_)
  refine sRegion ?_
  obtain ⟨r3, hx4, h⟩ := bindSome h
  have hv_r3 : r3 = ([8, 5, 2], 0) := Option.some.inj (hx4.symm.trans (by exact kc_raddlelaw38_alive_0))
  refine sCall (X := Value) (f := 8) (vs := [iv 10, iv 3]) (val := c_short_Turns_val r3) (B' := fun _ => []) (D' := c_short_Turns_D r3) [] [] [] [] [] S (wN rfl) rfl callee8 rfl (by decide) rfl rfl (fun E1 w1 S1 => c_short_Turns E1 w1 10 3 r3 hx4 S1) rfl (lb rfl) fun u5 a w S => ?_
  obtain ⟨ad6, cp7, _, rfl, _⟩ := S.mem.know (i := 0) (e := fRep (rL (rI .i64)) (u5) r3.1) rfl
  refine sMove (.tuple #[.slice ad6 r3.1.length cp7, iv r3.2]) S (wN rfl) (.inl rfl) rfl rfl (lb rfl) fun a S => ?_
  refine sExtract (vs := [.slice ad6 r3.1.length cp7, iv r3.2]) (.slice ad6 r3.1.length cp7) S (wN rfl) rfl rfl rfl rfl (lb rfl) fun a S => ?_
  refine sExtract (vs := [.slice ad6 r3.1.length cp7, iv r3.2]) (iv r3.2) S (wN rfl) rfl rfl rfl rfl (lb rfl) fun a S => ?_
  refine sMove (.slice ad6 r3.1.length cp7) S (wN rfl) (.inr rfl) rfl rfl (lb rfl) fun a S => ?_
  refine sMove (iv r3.2) S (wN rfl) (.inr rfl) rfl rfl (lb rfl) fun a S => ?_
  refine leafL (leafT (hK2 _ _ ?_))
  refine sSeq (fun K8 hK8 => ?_)
  refine sRegion ?_
  refine sLit (r := (rI .i64)) (T := 3) (xs := ([8, 5, 2] : List Int)) [(0, iv 8), (1, iv 5), (2, iv 2)] 3 [iv 8, iv 5, iv 2] [iv 8, iv 5, iv 2] (iv 0) 8 S (wN rfl) rfl rfl Tryd.underlying22 rfl (by decide) (by decide) (by kernel_rfl) rfl (fun E1 w1 hE => All.cons rfl (All.cons rfl (All.cons rfl (All.nil _ _ _)))) rfl rfl (lb rfl) fun a w ad9 cp10 S => ?_
  obtain ⟨r11, hx12, h⟩ := bindSome h
  have hv_r11 : r11 = ([3, 3, 2, 2, 2, 1, 1, 1, 0, 0], 0) := Option.some.inj (hx12.symm.trans (by exact kc_raddlelaw38_alive_1))
  have S := S.shutR (r := (rI .i64)) (T := 3) (v := .slice ad9 ([8, 5, 2] : List Int).length cp10) (xs := ([8, 5, 2] : List Int)) 0 rfl
  refine sCall (X := Value) (f := 9) (vs := [iv 10, .slice ad9 ([8, 5, 2] : List Int).length cp10]) (val := c_short_Heights_val r11) (B' := fun _ => []) (D' := c_short_Heights_D r11) [] [] [fRep (rL (rI .i64)) (.slice ad9 ([8, 5, 2] : List Int).length cp10) ([8, 5, 2] : List Int)] [] [0] S (wN rfl) rfl callee9 rfl (by decide) rfl rfl (fun E1 w1 S1 => c_short_Heights E1 w1 10 ([8, 5, 2] : List Int) (.slice ad9 ([8, 5, 2] : List Int).length cp10) r11 hx12 S1) rfl (lb rfl) fun u13 a w S => ?_
  obtain ⟨ad14, cp15, _, rfl, _⟩ := S.mem.know (i := 0) (e := fRep (rL (rI .i64)) (u13) r11.1) rfl
  refine sMove (.tuple #[.slice ad14 r11.1.length cp15, iv r11.2]) S (wN rfl) (.inl rfl) rfl rfl (lb rfl) fun a S => ?_
  refine sExtract (vs := [.slice ad14 r11.1.length cp15, iv r11.2]) (.slice ad14 r11.1.length cp15) S (wN rfl) rfl rfl rfl rfl (lb rfl) fun a S => ?_
  refine sExtract (vs := [.slice ad14 r11.1.length cp15, iv r11.2]) (iv r11.2) S (wN rfl) rfl rfl rfl rfl (lb rfl) fun a S => ?_
  refine sMove (.slice ad14 r11.1.length cp15) S (wN rfl) (.inr rfl) rfl rfl (lb rfl) fun a S => ?_
  refine sMove (iv r11.2) S (wN rfl) (.inr rfl) rfl rfl (lb rfl) fun a S => ?_
  refine leafL (leafT (hK8 _ _ ?_))
  refine sSeq (fun K16 hK16 => ?_)
  refine sRegion ?_
  refine sLit (r := (rI .i64)) (T := 3) (xs := ([8, 5, 2] : List Int)) [(0, iv 8), (1, iv 5), (2, iv 2)] 3 [iv 8, iv 5, iv 2] [iv 8, iv 5, iv 2] (iv 0) 8 S (wN rfl) rfl rfl Tryd.underlying22 rfl (by decide) (by decide) (by kernel_rfl) rfl (fun E1 w1 hE => All.cons rfl (All.cons rfl (All.cons rfl (All.nil _ _ _)))) rfl rfl (lb rfl) fun a w ad17 cp18 S => ?_
  obtain ⟨r19, hx20, h⟩ := bindSome h
  have hv_r19 : r19 = (30, 0) := Option.some.inj (hx20.symm.trans (by exact kc_raddlelaw38_alive_2))
  have S1 := S.mem
  have S1 := S1.shutR (r := (rI .i64)) (T := 3) (v := .slice ad17 ([8, 5, 2] : List Int).length cp18) (xs := ([8, 5, 2] : List Int)) 0 rfl
  refine sCallQ (X := Unit) (f := 11) (vs := [iv 10, .slice ad17 ([8, 5, 2] : List Int).length cp18]) (val := fun _ => .tuple #[iv r19.1, iv r19.2]) S (wN rfl) rfl callee11 rfl (S1.quiet [0] rfl) (fun E1 w1 S1 => c_short_Worked E1 w1 10 ([8, 5, 2] : List Int) (.slice ad17 ([8, 5, 2] : List Int).length cp18) r19 hx20 S1) rfl (lb rfl) fun _ a w S => ?_
  refine sMove (.tuple #[iv r19.1, iv r19.2]) S (wN rfl) (.inl rfl) rfl rfl (lb rfl) fun a S => ?_
  refine sExtract (vs := [iv r19.1, iv r19.2]) (iv r19.1) S (wN rfl) rfl rfl rfl rfl (lb rfl) fun a S => ?_
  refine sExtract (vs := [iv r19.1, iv r19.2]) (iv r19.2) S (wN rfl) rfl rfl rfl rfl (lb rfl) fun a S => ?_
  refine sMove (iv r19.1) S (wN rfl) (.inr rfl) rfl rfl (lb rfl) fun a S => ?_
  refine sMove (iv r19.2) S (wN rfl) (.inr rfl) rfl rfl (lb rfl) fun a S => ?_
  refine leafL (leafT (hK16 _ _ ?_))
  refine sSeq (fun K21 hK21 => ?_)
  refine sRegion ?_
  refine sLit (r := (rI .i64)) (T := 3) (xs := ([8, 5, 2] : List Int)) [(0, iv 8), (1, iv 5), (2, iv 2)] 3 [iv 8, iv 5, iv 2] [iv 8, iv 5, iv 2] (iv 0) 8 S (wN rfl) rfl rfl Tryd.underlying22 rfl (by decide) (by decide) (by kernel_rfl) rfl (fun E1 w1 hE => All.cons rfl (All.cons rfl (All.cons rfl (All.nil _ _ _)))) rfl rfl (lb rfl) fun a w ad22 cp23 S => ?_
  obtain ⟨r24, hx25, h⟩ := bindSome h
  have hv_r24 : r24 = ((api_Chart.mk 10 [(api_Row.mk false [(api_Stitch.mk 1 false 0 0), (api_Stitch.mk 1 false 0 0), (api_Stitch.mk 1 false 0 0), (api_Stitch.mk 1 false 0 0), (api_Stitch.mk 1 false 0 0), (api_Stitch.mk 1 false 0 0), (api_Stitch.mk 1 false 0 0), (api_Stitch.mk 1 false 0 0), (api_Stitch.mk 8 false 0 0), (api_Stitch.mk 8 false 0 0)]), (api_Row.mk true [(api_Stitch.mk 8 true 0 0), (api_Stitch.mk 8 true 0 0), (api_Stitch.mk 1 true 0 0), (api_Stitch.mk 1 true 0 0), (api_Stitch.mk 1 true 0 0), (api_Stitch.mk 1 true 0 0), (api_Stitch.mk 1 true 0 0), (api_Stitch.mk 1 true 0 0), (api_Stitch.mk 1 true 0 0), (api_Stitch.mk 1 true 0 0)]), (api_Row.mk false [(api_Stitch.mk 1 false 0 0), (api_Stitch.mk 1 false 0 0), (api_Stitch.mk 1 false 0 0), (api_Stitch.mk 1 false 0 0), (api_Stitch.mk 1 false 0 0), (api_Stitch.mk 8 false 0 0), (api_Stitch.mk 8 false 0 0), (api_Stitch.mk 8 false 0 0), (api_Stitch.mk 8 false 0 0), (api_Stitch.mk 8 false 0 0)]), (api_Row.mk true [(api_Stitch.mk 8 true 0 0), (api_Stitch.mk 8 true 0 0), (api_Stitch.mk 8 true 0 0), (api_Stitch.mk 8 true 0 0), (api_Stitch.mk 8 true 0 0), (api_Stitch.mk 1 true 0 0), (api_Stitch.mk 1 true 0 0), (api_Stitch.mk 1 true 0 0), (api_Stitch.mk 1 true 0 0), (api_Stitch.mk 1 true 0 0)]), (api_Row.mk false [(api_Stitch.mk 1 false 0 0), (api_Stitch.mk 1 false 0 0), (api_Stitch.mk 8 false 0 0), (api_Stitch.mk 8 false 0 0), (api_Stitch.mk 8 false 0 0), (api_Stitch.mk 8 false 0 0), (api_Stitch.mk 8 false 0 0), (api_Stitch.mk 8 false 0 0), (api_Stitch.mk 8 false 0 0), (api_Stitch.mk 8 false 0 0)]), (api_Row.mk true [(api_Stitch.mk 8 true 0 0), (api_Stitch.mk 8 true 0 0), (api_Stitch.mk 8 true 0 0), (api_Stitch.mk 8 true 0 0), (api_Stitch.mk 8 true 0 0), (api_Stitch.mk 8 true 0 0), (api_Stitch.mk 8 true 0 0), (api_Stitch.mk 8 true 0 0), (api_Stitch.mk 1 true 0 0), (api_Stitch.mk 1 true 0 0)])]), 0) := Option.some.inj (hx25.symm.trans (by exact kc_raddlelaw38_alive_3))
  have S := S.shutR (r := (rI .i64)) (T := 3) (v := .slice ad22 ([8, 5, 2] : List Int).length cp23) (xs := ([8, 5, 2] : List Int)) 0 rfl
  refine sCall (X := Value) (f := 12) (vs := [iv 10, .slice ad22 ([8, 5, 2] : List Int).length cp23]) (val := c_short_Chart_val r24) (B' := fun _ => []) (D' := c_short_Chart_D r24) [] [eRow (rI .i64) 3 (.slice ad17 ([8, 5, 2] : List Int).length cp18) ([8, 5, 2] : List Int)] [fRep (rL (rI .i64)) (.slice ad22 ([8, 5, 2] : List Int).length cp23) ([8, 5, 2] : List Int)] [0] [0] S (wN rfl) rfl callee12 rfl (by decide) rfl rfl (fun E1 w1 S1 => c_short_Chart E1 w1 10 ([8, 5, 2] : List Int) (.slice ad22 ([8, 5, 2] : List Int).length cp23) r24 hx25 S1) rfl (lb rfl) fun u26 a w S => ?_
  obtain ⟨u27, rfl, hu28⟩ := S.mem.know (i := 0) (e := fRep r_api_Chart (u26) r24.1) rfl
  have S := S.learn (fRep (rL r_api_Row) u27 r24.1.Rows) hu28
  obtain ⟨ad29, cp30, _, rfl, _⟩ := hu28
  refine sMove (.tuple #[.agg #[iv r24.1.Start, .slice ad29 r24.1.Rows.length cp30], iv r24.2]) S (wN rfl) (.inl rfl) rfl rfl (lb rfl) fun a S => ?_
  refine sExtract (vs := [.agg #[iv r24.1.Start, .slice ad29 r24.1.Rows.length cp30], iv r24.2]) (.agg #[iv r24.1.Start, .slice ad29 r24.1.Rows.length cp30]) S (wN rfl) rfl rfl rfl rfl (lb rfl) fun a S => ?_
  refine sExtract (vs := [.agg #[iv r24.1.Start, .slice ad29 r24.1.Rows.length cp30], iv r24.2]) (iv r24.2) S (wN rfl) rfl rfl rfl rfl (lb rfl) fun a S => ?_
  refine sAlloc (.agg #[iv 0, .slice none 0 0]) S (wN rfl) rfl rfl [iv 0, .slice none 0 0] rfl rfl (lb rfl) fun a b31 w S => ?_
  refine sStore (p := b31) (off := 0) (T := 32) (vs := [iv 0, .slice none 0 0]) (v := .agg #[iv r24.1.Start, .slice ad29 r24.1.Rows.length cp30]) 0 [iv r24.1.Start, .slice ad29 r24.1.Rows.length cp30] S (wN rfl) rfl rfl rfl rfl rfl rfl rfl (by simp) rfl fun a w S => ?_
  refine sMove (iv r24.2) S (wN rfl) (.inr rfl) rfl rfl (lb rfl) fun a S => ?_
  refine leafL (leafT (hK21 _ _ ?_))
  refine sSeq (fun K32 hK32 => ?_)
  refine sRegion ?_
  refine sLit (r := (rI .i64)) (T := 3) (xs := ([3, 3, 2, 2, 2, 1, 1, 1, 0, 0] : List Int)) [(0, iv 3), (1, iv 3), (2, iv 2), (3, iv 2), (4, iv 2), (5, iv 1), (6, iv 1), (7, iv 1), (8, iv 0), (9, iv 0)] 10 [iv 3, iv 3, iv 2, iv 2, iv 2, iv 1, iv 1, iv 1, iv 0, iv 0] [iv 3, iv 3, iv 2, iv 2, iv 2, iv 1, iv 1, iv 1, iv 0, iv 0] (iv 0) 8 S (wN rfl) rfl rfl Tryd.underlying22 rfl (by decide) (by decide) (by kernel_rfl) rfl (fun E1 w1 hE => All.cons rfl (All.cons rfl (All.cons rfl (All.cons rfl (All.cons rfl (All.cons rfl (All.cons rfl (All.cons rfl (All.cons rfl (All.cons rfl (All.nil _ _ _))))))))))) rfl rfl (lb rfl) fun a w ad33 cp34 S => ?_
  obtain ⟨r35, hx36, h⟩ := bindSome h
  have hv_r35 : r35 = ([8, 5, 2], 0) := Option.some.inj (hx36.symm.trans (by exact kc_raddlelaw38_alive_4))
  have S := S.shutR (r := (rI .i64)) (T := 3) (v := .slice ad33 ([3, 3, 2, 2, 2, 1, 1, 1, 0, 0] : List Int).length cp34) (xs := ([3, 3, 2, 2, 2, 1, 1, 1, 0, 0] : List Int)) 0 rfl
  refine sCall (X := Value) (f := 10) (vs := [.slice ad33 ([3, 3, 2, 2, 2, 1, 1, 1, 0, 0] : List Int).length cp34]) (val := c_short_Fit_val r35) (B' := fun _ => []) (D' := c_short_Fit_D r35) [] [eBox b31 32 [iv r24.1.Start, .slice ad29 r24.1.Rows.length cp30], eRow (rI .i64) 3 (.slice ad17 ([8, 5, 2] : List Int).length cp18) ([8, 5, 2] : List Int)] [fRep (rL (rI .i64)) (.slice ad33 ([3, 3, 2, 2, 2, 1, 1, 1, 0, 0] : List Int).length cp34) ([3, 3, 2, 2, 2, 1, 1, 1, 0, 0] : List Int)] [0, 1] [0] S (wN rfl) rfl callee10 rfl (by decide) rfl rfl (fun E1 w1 S1 => c_short_Fit E1 w1 ([3, 3, 2, 2, 2, 1, 1, 1, 0, 0] : List Int) (.slice ad33 ([3, 3, 2, 2, 2, 1, 1, 1, 0, 0] : List Int).length cp34) r35 hx36 S1) rfl (lb rfl) fun u37 a w S => ?_
  obtain ⟨ad38, cp39, _, rfl, _⟩ := S.mem.know (i := 0) (e := fRep (rL (rI .i64)) (u37) r35.1) rfl
  refine sMove (.tuple #[.slice ad38 r35.1.length cp39, iv r35.2]) S (wN rfl) (.inl rfl) rfl rfl (lb rfl) fun a S => ?_
  refine sExtract (vs := [.slice ad38 r35.1.length cp39, iv r35.2]) (.slice ad38 r35.1.length cp39) S (wN rfl) rfl rfl rfl rfl (lb rfl) fun a S => ?_
  refine sExtract (vs := [.slice ad38 r35.1.length cp39, iv r35.2]) (iv r35.2) S (wN rfl) rfl rfl rfl rfl (lb rfl) fun a S => ?_
  refine sMove (.slice ad38 r35.1.length cp39) S (wN rfl) (.inr rfl) rfl rfl (lb rfl) fun a S => ?_
  refine sMove (iv r35.2) S (wN rfl) (.inr rfl) rfl rfl (lb rfl) fun a S => ?_
  refine leafL (leafT (hK32 _ _ ?_))
  refine sSeq (fun K40 hK40 => ?_)
  refine sRegion ?_
  refine sLoadN (p := b31) (off := 0) (T := 32) (vs := [iv r24.1.Start, .slice ad29 r24.1.Rows.length cp30]) 0 [iv r24.1.Start, .slice ad29 r24.1.Rows.length cp30] S (wN rfl) rfl rfl rfl rfl rfl rfl rfl (lb rfl) fun a S => ?_
  obtain ⟨r41, hx42, h⟩ := bindSome h
  have hv_r41 : r41 = (10, ([8, 5, 2], 0)) := Option.some.inj (hx42.symm.trans (by rw [hv_r24]; exact kc_raddlelaw38_alive_5))
  refine sCall (X := Value) (f := 13) (vs := [.agg #[iv r24.1.Start, .slice ad29 r24.1.Rows.length cp30]]) (val := c_short_Read_val r41) (B' := fun _ => []) (D' := c_short_Read_D r41) [] [eBox b31 32 [iv r24.1.Start, .slice ad29 r24.1.Rows.length cp30], eRow (rI .i64) 3 (.slice ad17 ([8, 5, 2] : List Int).length cp18) ([8, 5, 2] : List Int)] [fRep r_api_Chart (.agg #[iv r24.1.Start, .slice ad29 r24.1.Rows.length cp30]) r24.1] [0, 1] [3] S (wN rfl) rfl callee13 rfl (by decide) rfl rfl (fun E1 w1 S1 => c_short_Read E1 w1 r24.1 (.agg #[iv r24.1.Start, .slice ad29 r24.1.Rows.length cp30]) r41 hx42 S1) rfl (lb rfl) fun u43 a w S => ?_
  obtain ⟨ad44, cp45, _, rfl, _⟩ := S.mem.know (i := 0) (e := fRep (rL (rI .i64)) (u43) r41.2.1) rfl
  refine sMove (.tuple #[iv r41.1, .slice ad44 r41.2.1.length cp45, iv r41.2.2]) S (wN rfl) (.inl rfl) rfl rfl (lb rfl) fun a S => ?_
  refine sExtract (vs := [iv r41.1, .slice ad44 r41.2.1.length cp45, iv r41.2.2]) (iv r41.1) S (wN rfl) rfl rfl rfl rfl (lb rfl) fun a S => ?_
  refine sExtract (vs := [iv r41.1, .slice ad44 r41.2.1.length cp45, iv r41.2.2]) (.slice ad44 r41.2.1.length cp45) S (wN rfl) rfl rfl rfl rfl (lb rfl) fun a S => ?_
  refine sExtract (vs := [iv r41.1, .slice ad44 r41.2.1.length cp45, iv r41.2.2]) (iv r41.2.2) S (wN rfl) rfl rfl rfl rfl (lb rfl) fun a S => ?_
  refine sMove (iv r41.1) S (wN rfl) (.inr rfl) rfl rfl (lb rfl) fun a S => ?_
  refine sMove (.slice ad44 r41.2.1.length cp45) S (wN rfl) (.inr rfl) rfl rfl (lb rfl) fun a S => ?_
  refine sMove (iv r41.2.2) S (wN rfl) (.inr rfl) rfl rfl (lb rfl) fun a S => ?_
  refine leafL (leafT (hK40 _ _ ?_))
  refine sSeq (fun K46 hK46 => ?_)
  refine sSeq (fun K47 hK47 => ?_)
  refine sRegion ?_
  refine sMove (iv r3.2) S (wN rfl) (.inl rfl) rfl rfl (lb rfl) fun a S => ?_
  refine sBin (.bool (r3.2 != 0)) S (wN rfl) rfl rfl rfl (bNe _ _ _ _ .i64 r3.2 0) rfl (lb rfl) fun a S => ?_
  refine sMove (.bool (r3.2 != 0)) S (wN rfl) (.inl rfl) rfl rfl (lb rfl) fun a S => ?_
  rcases iteSome h with ⟨hc48, h⟩ | ⟨hc48, h⟩
  · exact absurd hc48 (by rw [hv_r3]; decide)
  refine sMove (iv r11.2) S (wG 2 false 51 rfl rfl rfl hc48) (.inl rfl) rfl rfl (lb rfl) fun a S => ?_
  refine sBin (.bool (r11.2 != 0)) S (wG 2 false 51 rfl rfl rfl hc48) rfl rfl rfl (bNe _ _ _ _ .i64 r11.2 0) rfl (lb rfl) fun a S => ?_
  refine sPickF (.bool (r11.2 != 0)) S (wN rfl) rfl rfl hc48 rfl rfl (lb rfl) fun a S => ?_
  refine sMove (.bool (r11.2 != 0)) S (wN rfl) (.inl rfl) rfl rfl (lb rfl) fun a S => ?_
  rcases iteSome h with ⟨hc49, h⟩ | ⟨hc49, h⟩
  · exact absurd hc49 (by rw [hv_r11]; decide)
  refine sMove (iv r19.2) S (wG 6 false 55 rfl rfl rfl hc49) (.inl rfl) rfl rfl (lb rfl) fun a S => ?_
  refine sBin (.bool (r19.2 != 0)) S (wG 6 false 55 rfl rfl rfl hc49) rfl rfl rfl (bNe _ _ _ _ .i64 r19.2 0) rfl (lb rfl) fun a S => ?_
  refine sPickF (.bool (r19.2 != 0)) S (wN rfl) rfl rfl hc49 rfl rfl (lb rfl) fun a S => ?_
  refine sMove (.bool (r19.2 != 0)) S (wN rfl) (.inl rfl) rfl rfl (lb rfl) fun a S => ?_
  rcases iteSome h with ⟨hc50, h⟩ | ⟨hc50, h⟩
  · exact absurd hc50 (by rw [hv_r19]; decide)
  refine sMove (iv r24.2) S (wG 10 false 59 rfl rfl rfl hc50) (.inl rfl) rfl rfl (lb rfl) fun a S => ?_
  refine sBin (.bool (r24.2 != 0)) S (wG 10 false 59 rfl rfl rfl hc50) rfl rfl rfl (bNe _ _ _ _ .i64 r24.2 0) rfl (lb rfl) fun a S => ?_
  refine sPickF (.bool (r24.2 != 0)) S (wN rfl) rfl rfl hc50 rfl rfl (lb rfl) fun a S => ?_
  refine sMove (.bool (r24.2 != 0)) S (wN rfl) (.inl rfl) rfl rfl (lb rfl) fun a S => ?_
  rcases iteSome h with ⟨hc51, h⟩ | ⟨hc51, h⟩
  · exact absurd hc51 (by rw [hv_r24]; decide)
  refine sMove (iv r35.2) S (wG 14 false 63 rfl rfl rfl hc51) (.inl rfl) rfl rfl (lb rfl) fun a S => ?_
  refine sBin (.bool (r35.2 != 0)) S (wG 14 false 63 rfl rfl rfl hc51) rfl rfl rfl (bNe _ _ _ _ .i64 r35.2 0) rfl (lb rfl) fun a S => ?_
  refine sPickF (.bool (r35.2 != 0)) S (wN rfl) rfl rfl hc51 rfl rfl (lb rfl) fun a S => ?_
  refine sMove (.bool (r35.2 != 0)) S (wN rfl) (.inl rfl) rfl rfl (lb rfl) fun a S => ?_
  rcases iteSome h with ⟨hc52, h⟩ | ⟨hc52, h⟩
  · exact absurd hc52 (by rw [hv_r35]; decide)
  refine sMove (iv r41.2.2) S (wG 18 false 67 rfl rfl rfl hc52) (.inl rfl) rfl rfl (lb rfl) fun a S => ?_
  refine sBin (.bool (r41.2.2 != 0)) S (wG 18 false 67 rfl rfl rfl hc52) rfl rfl rfl (bNe _ _ _ _ .i64 r41.2.2 0) rfl (lb rfl) fun a S => ?_
  refine sPickF (.bool (r41.2.2 != 0)) S (wN rfl) rfl rfl hc52 rfl rfl (lb rfl) fun a S => ?_
  refine sMove (.bool (r41.2.2 != 0)) S (wN rfl) (.inl rfl) rfl rfl (lb rfl) fun a S => ?_
  rcases iteSome h with ⟨hc53, h⟩ | ⟨hc53, h⟩
  · exact absurd hc53 (by rw [hv_r41]; decide)
  refine sField (b := b31) (off := 0) 1 1 S (wG 22 false 71 rfl rfl rfl hc53) rfl rfl rfl rfl rfl (lb rfl) fun a S => ?_
  refine sLoad1 (p := b31) (off := 1) (T := 32) (vs := [iv r24.1.Start, .slice ad29 r24.1.Rows.length cp30]) 0 (.slice ad29 r24.1.Rows.length cp30) S (wG 22 false 71 rfl rfl rfl hc53) rfl rfl rfl rfl rfl rfl (lb rfl) fun a S => ?_
  refine sLen (ad := ad29) (m := r24.1.Rows.length) (c := cp30) S (wG 22 false 71 rfl rfl rfl hc53) rfl Tryd.underlying30 rfl rfl (lb rfl) fun a S => ?_
  refine sBin (.bool ((r24.1.Rows.length : Int) != 6)) S (wG 22 false 71 rfl rfl rfl hc53) rfl rfl rfl (bNe _ _ _ _ .i64 (r24.1.Rows.length : Int) 6) rfl (lb rfl) fun a S => ?_
  refine sPickF (.bool ((r24.1.Rows.length : Int) != 6)) S (wN rfl) rfl rfl hc53 rfl rfl (lb rfl) fun a S => ?_
  refine sMove (.bool ((r24.1.Rows.length : Int) != 6)) S (wN rfl) (.inl rfl) rfl rfl (lb rfl) fun a S => ?_
  rcases iteSome h with ⟨hc54, h⟩ | ⟨hc54, h⟩
  · exact absurd hc54 (by rw [hv_r24]; decide)
  refine sField (b := b31) (off := 0) 0 0 S (wG 28 false 77 rfl rfl rfl hc54) rfl rfl rfl rfl rfl (lb rfl) fun a S => ?_
  refine sLoad1 (p := b31) (off := 0) (T := 32) (vs := [iv r24.1.Start, .slice ad29 r24.1.Rows.length cp30]) 0 (iv r24.1.Start) S (wG 28 false 77 rfl rfl rfl hc54) rfl rfl rfl rfl rfl rfl (lb rfl) fun a S => ?_
  refine sBin (.bool (r24.1.Start != 10)) S (wG 28 false 77 rfl rfl rfl hc54) rfl rfl rfl (bNe _ _ _ _ .i64 r24.1.Start 10) rfl (lb rfl) fun a S => ?_
  refine sPickF (.bool (r24.1.Start != 10)) S (wN rfl) rfl rfl hc54 rfl rfl (lb rfl) fun a S => ?_
  refine leafL (leafT (hK47 _ _ ?_))
  rcases iteSome h with ⟨hc55, h⟩ | ⟨hc55, h⟩
  · exact absurd hc55 (by rw [hv_r24]; decide)
  refine sCondF S rfl hc55 ?_
  refine wp_skip (leafT (hK46 _ _ ?_))
  refine sSeq (fun K56 hK56 => ?_)
  refine sRegion ?_
  refine sField (b := b31) (off := 0) 1 1 S (wN rfl) rfl rfl rfl rfl rfl (lb rfl) fun a S => ?_
  refine sLoad1 (p := b31) (off := 1) (T := 32) (vs := [iv r24.1.Start, .slice ad29 r24.1.Rows.length cp30]) 0 (.slice ad29 r24.1.Rows.length cp30) S (wN rfl) rfl rfl rfl rfl rfl rfl (lb rfl) fun a S => ?_
  obtain ⟨x57, hx58, h⟩ := bindSome h
  have hv_x57 : x57 = (api_Row.mk false [(api_Stitch.mk 1 false 0 0), (api_Stitch.mk 1 false 0 0), (api_Stitch.mk 1 false 0 0), (api_Stitch.mk 1 false 0 0), (api_Stitch.mk 1 false 0 0), (api_Stitch.mk 1 false 0 0), (api_Stitch.mk 1 false 0 0), (api_Stitch.mk 1 false 0 0), (api_Stitch.mk 8 false 0 0), (api_Stitch.mk 8 false 0 0)]) := Option.some.inj (hx58.symm.trans (by rw [hv_r24]; kernel_rfl))
  obtain ⟨q59, hq60, S⟩ := pIdx (P := Tryd.prog) (r := r_api_Row) (v := .slice ad29 r24.1.Rows.length cp30) (xs := r24.1.Rows) (j := 0) 30 41 3 S Tryd.underlying30 rfl rfl hx58
  refine sIdxV (v := .slice ad29 r24.1.Rows.length cp30) (k := .i64) (j := 0) S (wN rfl) rfl rfl rfl hq60 rfl (lb rfl) fun a S => ?_
  obtain ⟨q61, hq62, S⟩ := pFld (P := Tryd.prog) (r := r_api_Row) (s2 := (rL r_api_Stitch)) (g := (·.Cells)) (q := q59) (z := x57) 41 1 0 1 S rfl rfl comp_api_Row_Cells
  refine sFldV (q := q59) S (wN rfl) rfl rfl hq62 rfl (lb rfl) fun a S => ?_
  obtain ⟨u63, S⟩ := pLoad (r := (rL r_api_Stitch)) (q := q61) (x := x57.Cells) 0 S rfl
  obtain ⟨ad64, cp65, _, rfl, _⟩ := S.mem.know (i := 1) (e := fRep (rL r_api_Stitch) (u63) x57.Cells) rfl
  refine sLoadV1 (vq := q61) 0 (.slice ad64 x57.Cells.length cp65) S (wN rfl) rfl rfl rfl rfl rfl (lb rfl) fun a S => ?_
  obtain ⟨r66, hx67, h⟩ := bindSome h
  have hv_r66 : r66 = ((ByteArray.mk #[107, 56, 32, 107, 115, 32, 107, 115]), 0) := Option.some.inj (hx67.symm.trans (by rw [hv_x57]; exact kc_raddlelaw38_alive_6))
  have S1 := S.mem
  refine sCallQ (X := Unit) (f := 24) (vs := [.slice ad64 x57.Cells.length cp65]) (val := fun _ => .tuple #[.string r66.1, iv r66.2]) S (wN rfl) rfl callee24 rfl (S1.quiet [1] rfl) (fun E1 w1 S1 => c_stitch_Text E1 w1 x57.Cells (.slice ad64 x57.Cells.length cp65) r66 hx67 S1) rfl (lb rfl) fun _ a w S => ?_
  refine sMove (.tuple #[.string r66.1, iv r66.2]) S (wN rfl) (.inl rfl) rfl rfl (lb rfl) fun a S => ?_
  refine sExtract (vs := [.string r66.1, iv r66.2]) (.string r66.1) S (wN rfl) rfl rfl rfl rfl (lb rfl) fun a S => ?_
  refine sExtract (vs := [.string r66.1, iv r66.2]) (iv r66.2) S (wN rfl) rfl rfl rfl rfl (lb rfl) fun a S => ?_
  refine sMove (.string r66.1) S (wN rfl) (.inr rfl) rfl rfl (lb rfl) fun a S => ?_
  refine sMove (iv r66.2) S (wN rfl) (.inr rfl) rfl rfl (lb rfl) fun a S => ?_
  refine leafL (leafT (hK56 _ _ ?_))
  refine sSeq (fun K68 hK68 => ?_)
  refine sRegion ?_
  refine sField (b := b31) (off := 0) 1 1 S (wN rfl) rfl rfl rfl rfl rfl (lb rfl) fun a S => ?_
  refine sLoad1 (p := b31) (off := 1) (T := 32) (vs := [iv r24.1.Start, .slice ad29 r24.1.Rows.length cp30]) 0 (.slice ad29 r24.1.Rows.length cp30) S (wN rfl) rfl rfl rfl rfl rfl rfl (lb rfl) fun a S => ?_
  obtain ⟨x69, hx70, h⟩ := bindSome h
  have hv_x69 : x69 = (api_Row.mk true [(api_Stitch.mk 8 true 0 0), (api_Stitch.mk 8 true 0 0), (api_Stitch.mk 1 true 0 0), (api_Stitch.mk 1 true 0 0), (api_Stitch.mk 1 true 0 0), (api_Stitch.mk 1 true 0 0), (api_Stitch.mk 1 true 0 0), (api_Stitch.mk 1 true 0 0), (api_Stitch.mk 1 true 0 0), (api_Stitch.mk 1 true 0 0)]) := Option.some.inj (hx70.symm.trans (by rw [hv_r24]; kernel_rfl))
  obtain ⟨q71, hq72, S⟩ := pIdx (P := Tryd.prog) (r := r_api_Row) (v := .slice ad29 r24.1.Rows.length cp30) (xs := r24.1.Rows) (j := 1) 30 41 7 S Tryd.underlying30 rfl rfl hx70
  refine sIdxV (v := .slice ad29 r24.1.Rows.length cp30) (k := .i64) (j := 1) S (wN rfl) rfl rfl rfl hq72 rfl (lb rfl) fun a S => ?_
  obtain ⟨q73, hq74, S⟩ := pFld (P := Tryd.prog) (r := r_api_Row) (s2 := (rL r_api_Stitch)) (g := (·.Cells)) (q := q71) (z := x69) 41 1 0 1 S rfl rfl comp_api_Row_Cells
  refine sFldV (q := q71) S (wN rfl) rfl rfl hq74 rfl (lb rfl) fun a S => ?_
  obtain ⟨u75, S⟩ := pLoad (r := (rL r_api_Stitch)) (q := q73) (x := x69.Cells) 0 S rfl
  obtain ⟨ad76, cp77, _, rfl, _⟩ := S.mem.know (i := 1) (e := fRep (rL r_api_Stitch) (u75) x69.Cells) rfl
  refine sLoadV1 (vq := q73) 0 (.slice ad76 x69.Cells.length cp77) S (wN rfl) rfl rfl rfl rfl rfl (lb rfl) fun a S => ?_
  obtain ⟨r78, hx79, h⟩ := bindSome h
  have hv_r78 : r78 = ((ByteArray.mk #[112, 115, 32, 112, 115, 32, 112, 56]), 0) := Option.some.inj (hx79.symm.trans (by rw [hv_x69]; exact kc_raddlelaw38_alive_7))
  have S1 := S.mem
  refine sCallQ (X := Unit) (f := 24) (vs := [.slice ad76 x69.Cells.length cp77]) (val := fun _ => .tuple #[.string r78.1, iv r78.2]) S (wN rfl) rfl callee24 rfl (S1.quiet [1] rfl) (fun E1 w1 S1 => c_stitch_Text E1 w1 x69.Cells (.slice ad76 x69.Cells.length cp77) r78 hx79 S1) rfl (lb rfl) fun _ a w S => ?_
  refine sMove (.tuple #[.string r78.1, iv r78.2]) S (wN rfl) (.inl rfl) rfl rfl (lb rfl) fun a S => ?_
  refine sExtract (vs := [.string r78.1, iv r78.2]) (.string r78.1) S (wN rfl) rfl rfl rfl rfl (lb rfl) fun a S => ?_
  refine sExtract (vs := [.string r78.1, iv r78.2]) (iv r78.2) S (wN rfl) rfl rfl rfl rfl (lb rfl) fun a S => ?_
  refine sMove (.string r78.1) S (wN rfl) (.inr rfl) rfl rfl (lb rfl) fun a S => ?_
  refine sMove (iv r78.2) S (wN rfl) (.inr rfl) rfl rfl (lb rfl) fun a S => ?_
  refine leafL (leafT (hK68 _ _ ?_))
  refine sSeq (fun K80 hK80 => ?_)
  refine sRegion ?_
  refine sLit (r := (rI .i64)) (T := 3) (xs := ([8, 5, 2] : List Int)) [(0, iv 8), (1, iv 5), (2, iv 2)] 3 [iv 8, iv 5, iv 2] [iv 8, iv 5, iv 2] (iv 0) 8 S (wN rfl) rfl rfl Tryd.underlying22 rfl (by decide) (by decide) (by kernel_rfl) rfl (fun E1 w1 hE => All.cons rfl (All.cons rfl (All.cons rfl (All.nil _ _ _)))) rfl rfl (lb rfl) fun a w ad81 cp82 S => ?_
  refine sMove (.slice ad81 ([8, 5, 2] : List Int).length cp82) S (wN rfl) (.inr rfl) rfl rfl (lb rfl) fun a S => ?_
  refine leafL (leafT (hK80 _ _ ?_))
  refine sSeq (fun K83 hK83 => ?_)
  refine sRegion ?_
  refine sMove (iv r66.2) S (wN rfl) (.inl rfl) rfl rfl (lb rfl) fun a S => ?_
  refine sBin (.bool (r66.2 == 0)) S (wN rfl) rfl rfl rfl (bEq _ _ _ _ .i64 r66.2 0) rfl (lb rfl) fun a S => ?_
  refine sMove (.bool (r66.2 == 0)) S (wN rfl) (.inl rfl) rfl rfl (lb rfl) fun a S => ?_
  rcases iteSome h with ⟨hc84, h⟩ | ⟨hc84, h⟩
  rotate_left
  · exact absurd hc84 (by rw [hv_r66]; decide)
  refine sMove (.string r66.1) S (wG 2 true 103 rfl rfl rfl hc84) (.inl rfl) rfl rfl (lb rfl) fun a S => ?_
  refine sBin (.bool (r66.1 == (⟨#[107, 56, 32, 107, 115, 32, 107, 115]⟩ : ByteArray))) S (wG 2 true 103 rfl rfl rfl hc84) rfl rfl rfl (bEqS _ _ _ _ r66.1 (⟨#[107, 56, 32, 107, 115, 32, 107, 115]⟩ : ByteArray)) rfl (lb rfl) fun a S => ?_
  refine sPickT (.bool (r66.1 == (⟨#[107, 56, 32, 107, 115, 32, 107, 115]⟩ : ByteArray))) S (wN rfl) rfl rfl hc84 rfl rfl (lb rfl) fun a S => ?_
  refine sMove (.bool (r66.1 == (⟨#[107, 56, 32, 107, 115, 32, 107, 115]⟩ : ByteArray))) S (wN rfl) (.inl rfl) rfl rfl (lb rfl) fun a S => ?_
  rcases iteSome h with ⟨hc85, h⟩ | ⟨hc85, h⟩
  rotate_left
  · exact absurd hc85 (by rw [hv_r66]; decide)
  refine sField (b := b31) (off := 0) 1 1 S (wG 6 true 107 rfl rfl rfl hc85) rfl rfl rfl rfl rfl (lb rfl) fun a S => ?_
  refine sLoad1 (p := b31) (off := 1) (T := 32) (vs := [iv r24.1.Start, .slice ad29 r24.1.Rows.length cp30]) 1 (.slice ad29 r24.1.Rows.length cp30) S (wG 6 true 107 rfl rfl rfl hc85) rfl rfl rfl rfl rfl rfl (lb rfl) fun a S => ?_
  obtain ⟨q86, hq87, S⟩ := pIdx (P := Tryd.prog) (r := r_api_Row) (v := .slice ad29 r24.1.Rows.length cp30) (xs := r24.1.Rows) (j := 0) 30 41 11 S Tryd.underlying30 rfl rfl hx58
  refine sIdxV (v := .slice ad29 r24.1.Rows.length cp30) (k := .i64) (j := 0) S (wG 6 true 107 rfl rfl rfl hc85) rfl rfl rfl hq87 rfl (lb rfl) fun a S => ?_
  obtain ⟨q88, hq89, S⟩ := pFld (P := Tryd.prog) (r := r_api_Row) (s2 := rB) (g := (·.Back)) (q := q86) (z := x57) 41 0 0 0 S rfl rfl comp_api_Row_Back
  refine sFldV (q := q86) S (wG 6 true 107 rfl rfl rfl hc85) rfl rfl hq89 rfl (lb rfl) fun a S => ?_
  obtain ⟨u90, S⟩ := pLoad (r := rB) (q := q88) (x := x57.Back) 0 S rfl
  obtain rfl : u90 = .bool x57.Back := S.mem.know (i := 1) (e := fRep rB (u90) x57.Back) rfl
  refine sLoadV1 (vq := q88) 0 (.bool x57.Back) S (wG 6 true 107 rfl rfl rfl hc85) rfl rfl rfl rfl rfl (lb rfl) fun a S => ?_
  refine sNot (b := x57.Back) S (wG 6 true 107 rfl rfl rfl hc85) rfl rfl rfl (lb rfl) fun a S => ?_
  refine sPickT (.bool (!x57.Back)) S (wN rfl) rfl rfl hc85 rfl rfl (lb rfl) fun a S => ?_
  refine sMove (.bool (!x57.Back)) S (wN rfl) (.inl rfl) rfl rfl (lb rfl) fun a S => ?_
  rcases iteSome h with ⟨hc91, h⟩ | ⟨hc91, h⟩
  rotate_left
  · exact absurd hc91 (by rw [hv_x57]; decide)
  refine sMove (iv r78.2) S (wG 14 true 115 rfl rfl rfl hc91) (.inl rfl) rfl rfl (lb rfl) fun a S => ?_
  refine sBin (.bool (r78.2 == 0)) S (wG 14 true 115 rfl rfl rfl hc91) rfl rfl rfl (bEq _ _ _ _ .i64 r78.2 0) rfl (lb rfl) fun a S => ?_
  refine sPickT (.bool (r78.2 == 0)) S (wN rfl) rfl rfl hc91 rfl rfl (lb rfl) fun a S => ?_
  refine sMove (.bool (r78.2 == 0)) S (wN rfl) (.inl rfl) rfl rfl (lb rfl) fun a S => ?_
  rcases iteSome h with ⟨hc92, h⟩ | ⟨hc92, h⟩
  rotate_left
  · exact absurd hc92 (by rw [hv_r78]; decide)
  refine sMove (.string r78.1) S (wG 18 true 119 rfl rfl rfl hc92) (.inl rfl) rfl rfl (lb rfl) fun a S => ?_
  refine sBin (.bool (r78.1 == (⟨#[112, 115, 32, 112, 115, 32, 112, 56]⟩ : ByteArray))) S (wG 18 true 119 rfl rfl rfl hc92) rfl rfl rfl (bEqS _ _ _ _ r78.1 (⟨#[112, 115, 32, 112, 115, 32, 112, 56]⟩ : ByteArray)) rfl (lb rfl) fun a S => ?_
  refine sPickT (.bool (r78.1 == (⟨#[112, 115, 32, 112, 115, 32, 112, 56]⟩ : ByteArray))) S (wN rfl) rfl rfl hc92 rfl rfl (lb rfl) fun a S => ?_
  refine sMove (.bool (r78.1 == (⟨#[112, 115, 32, 112, 115, 32, 112, 56]⟩ : ByteArray))) S (wN rfl) (.inl rfl) rfl rfl (lb rfl) fun a S => ?_
  rcases iteSome h with ⟨hc93, h⟩ | ⟨hc93, h⟩
  rotate_left
  · exact absurd hc93 (by rw [hv_r78]; decide)
  refine sField (b := b31) (off := 0) 1 1 S (wG 22 true 123 rfl rfl rfl hc93) rfl rfl rfl rfl rfl (lb rfl) fun a S => ?_
  refine sLoad1 (p := b31) (off := 1) (T := 32) (vs := [iv r24.1.Start, .slice ad29 r24.1.Rows.length cp30]) 1 (.slice ad29 r24.1.Rows.length cp30) S (wG 22 true 123 rfl rfl rfl hc93) rfl rfl rfl rfl rfl rfl (lb rfl) fun a S => ?_
  obtain ⟨q94, hq95, S⟩ := pIdx (P := Tryd.prog) (r := r_api_Row) (v := .slice ad29 r24.1.Rows.length cp30) (xs := r24.1.Rows) (j := 1) 30 41 15 S Tryd.underlying30 rfl rfl hx70
  refine sIdxV (v := .slice ad29 r24.1.Rows.length cp30) (k := .i64) (j := 1) S (wG 22 true 123 rfl rfl rfl hc93) rfl rfl rfl hq95 rfl (lb rfl) fun a S => ?_
  obtain ⟨q96, hq97, S⟩ := pFld (P := Tryd.prog) (r := r_api_Row) (s2 := rB) (g := (·.Back)) (q := q94) (z := x69) 41 0 0 0 S rfl rfl comp_api_Row_Back
  refine sFldV (q := q94) S (wG 22 true 123 rfl rfl rfl hc93) rfl rfl hq97 rfl (lb rfl) fun a S => ?_
  obtain ⟨u98, S⟩ := pLoad (r := rB) (q := q96) (x := x69.Back) 0 S rfl
  obtain rfl : u98 = .bool x69.Back := S.mem.know (i := 1) (e := fRep rB (u98) x69.Back) rfl
  refine sLoadV1 (vq := q96) 0 (.bool x69.Back) S (wG 22 true 123 rfl rfl rfl hc93) rfl rfl rfl rfl rfl (lb rfl) fun a S => ?_
  refine sPickT (.bool x69.Back) S (wN rfl) rfl rfl hc93 rfl rfl (lb rfl) fun a S => ?_
  refine sMove (.bool x69.Back) S (wN rfl) (.inl rfl) rfl rfl (lb rfl) fun a S => ?_
  rcases iteSome h with ⟨hc99, h⟩ | ⟨hc99, h⟩
  rotate_left
  · exact absurd hc99 (by rw [hv_x69]; decide)
  refine sMove (.slice ad6 r3.1.length cp7) S (wG 29 true 130 rfl rfl rfl hc99) (.inl rfl) rfl rfl (lb rfl) fun a S => ?_
  refine sMove (.slice ad81 ([8, 5, 2] : List Int).length cp82) S (wG 29 true 130 rfl rfl rfl hc99) (.inl rfl) rfl rfl (lb rfl) fun a S => ?_
  obtain ⟨r100, hx101, h⟩ := bindSome h
  have hv_r100 : r100 = true := Option.some.inj (hx101.symm.trans (by rw [hv_r3]; exact kc_raddlelaw38_alive_8))
  have S1 := S.mem
  have S1 := S1.shutR (r := (rI .i64)) (T := 3) (v := .slice ad81 ([8, 5, 2] : List Int).length cp82) (xs := ([8, 5, 2] : List Int)) 0 rfl
  refine sCallQ (X := Unit) (f := 14) (vs := [.slice ad6 r3.1.length cp7, .slice ad81 ([8, 5, 2] : List Int).length cp82]) (val := fun _ => .bool r100) S (wG 29 true 130 rfl rfl rfl hc99) rfl callee14 rfl (S1.quiet [25, 0] rfl) (fun E1 w1 S1 => c_raddleref36_Same E1 w1 r3.1 (.slice ad6 r3.1.length cp7) ([8, 5, 2] : List Int) (.slice ad81 ([8, 5, 2] : List Int).length cp82) r100 hx101 S1) rfl (lb rfl) fun _ a w S => ?_
  refine sPickT (.bool r100) S (wN rfl) rfl rfl hc99 rfl rfl (lb rfl) fun a S => ?_
  refine sMove (.bool r100) S (wN rfl) (.inl rfl) rfl rfl (lb rfl) fun a S => ?_
  rcases iteSome h with ⟨hc102, h⟩ | ⟨hc102, h⟩
  rotate_left
  · exact absurd hc102 (by rw [hv_r100]; decide)
  refine sMove (.slice ad14 r11.1.length cp15) S (wG 34 true 135 rfl rfl rfl hc102) (.inl rfl) rfl rfl (lb rfl) fun a S => ?_
  refine sLit (r := (rI .i64)) (T := 3) (xs := ([3, 3, 2, 2, 2, 1, 1, 1, 0, 0] : List Int)) [(0, iv 3), (1, iv 3), (2, iv 2), (3, iv 2), (4, iv 2), (5, iv 1), (6, iv 1), (7, iv 1), (8, iv 0), (9, iv 0)] 10 [iv 3, iv 3, iv 2, iv 2, iv 2, iv 1, iv 1, iv 1, iv 0, iv 0] [iv 3, iv 3, iv 2, iv 2, iv 2, iv 1, iv 1, iv 1, iv 0, iv 0] (iv 0) 8 S (wG 34 true 135 rfl rfl rfl hc102) rfl rfl Tryd.underlying22 rfl (by decide) (by decide) (by kernel_rfl) rfl (fun E1 w1 hE => All.cons rfl (All.cons rfl (All.cons rfl (All.cons rfl (All.cons rfl (All.cons rfl (All.cons rfl (All.cons rfl (All.cons rfl (All.cons rfl (All.nil _ _ _))))))))))) rfl rfl (lb rfl) fun a w ad103 cp104 S => ?_
  obtain ⟨r105, hx106, h⟩ := bindSome h
  have hv_r105 : r105 = true := Option.some.inj (hx106.symm.trans (by rw [hv_r11]; exact kc_raddlelaw38_alive_9))
  have S1 := S.mem
  have S1 := S1.shutR (r := (rI .i64)) (T := 3) (v := .slice ad103 ([3, 3, 2, 2, 2, 1, 1, 1, 0, 0] : List Int).length cp104) (xs := ([3, 3, 2, 2, 2, 1, 1, 1, 0, 0] : List Int)) 0 rfl
  refine sCallQ (X := Unit) (f := 14) (vs := [.slice ad14 r11.1.length cp15, .slice ad103 ([3, 3, 2, 2, 2, 1, 1, 1, 0, 0] : List Int).length cp104]) (val := fun _ => .bool r105) S (wG 34 true 135 rfl rfl rfl hc102) rfl callee14 rfl (S1.quiet [23, 0] rfl) (fun E1 w1 S1 => c_raddleref36_Same E1 w1 r11.1 (.slice ad14 r11.1.length cp15) ([3, 3, 2, 2, 2, 1, 1, 1, 0, 0] : List Int) (.slice ad103 ([3, 3, 2, 2, 2, 1, 1, 1, 0, 0] : List Int).length cp104) r105 hx106 S1) rfl (lb rfl) fun _ a w S => ?_
  refine sPickT (.bool r105) S (wN rfl) rfl rfl hc102 rfl rfl (lb rfl) fun a S => ?_
  refine sMove (.bool r105) S (wN rfl) (.inl rfl) rfl rfl (lb rfl) fun a S => ?_
  rcases iteSome h with ⟨hc107, h⟩ | ⟨hc107, h⟩
  rotate_left
  · exact absurd hc107 (by rw [hv_r105]; decide)
  refine sMove (iv r19.1) S (wG 39 true 140 rfl rfl rfl hc107) (.inl rfl) rfl rfl (lb rfl) fun a S => ?_
  refine sBin (.bool (r19.1 == 30)) S (wG 39 true 140 rfl rfl rfl hc107) rfl rfl rfl (bEq _ _ _ _ .i64 r19.1 30) rfl (lb rfl) fun a S => ?_
  refine sPickT (.bool (r19.1 == 30)) S (wN rfl) rfl rfl hc107 rfl rfl (lb rfl) fun a S => ?_
  refine sMove (.bool (r19.1 == 30)) S (wN rfl) (.inl rfl) rfl rfl (lb rfl) fun a S => ?_
  rcases iteSome h with ⟨hc108, h⟩ | ⟨hc108, h⟩
  rotate_left
  · exact absurd hc108 (by rw [hv_r19]; decide)
  refine sMove (.slice ad38 r35.1.length cp39) S (wG 43 true 144 rfl rfl rfl hc108) (.inl rfl) rfl rfl (lb rfl) fun a S => ?_
  refine sMove (.slice ad81 ([8, 5, 2] : List Int).length cp82) S (wG 43 true 144 rfl rfl rfl hc108) (.inl rfl) rfl rfl (lb rfl) fun a S => ?_
  obtain ⟨r109, hx110, h⟩ := bindSome h
  have hv_r109 : r109 = true := Option.some.inj (hx110.symm.trans (by rw [hv_r35]; exact kc_raddlelaw38_alive_8))
  have S1 := S.mem
  have S1 := S1.shutR (r := (rI .i64)) (T := 3) (v := .slice ad81 ([8, 5, 2] : List Int).length cp82) (xs := ([8, 5, 2] : List Int)) 1 rfl
  refine sCallQ (X := Unit) (f := 14) (vs := [.slice ad38 r35.1.length cp39, .slice ad81 ([8, 5, 2] : List Int).length cp82]) (val := fun _ => .bool r109) S (wG 43 true 144 rfl rfl rfl hc108) rfl callee14 rfl (S1.quiet [18, 0] rfl) (fun E1 w1 S1 => c_raddleref36_Same E1 w1 r35.1 (.slice ad38 r35.1.length cp39) ([8, 5, 2] : List Int) (.slice ad81 ([8, 5, 2] : List Int).length cp82) r109 hx110 S1) rfl (lb rfl) fun _ a w S => ?_
  refine sPickT (.bool r109) S (wN rfl) rfl rfl hc108 rfl rfl (lb rfl) fun a S => ?_
  refine sMove (.bool r109) S (wN rfl) (.inl rfl) rfl rfl (lb rfl) fun a S => ?_
  rcases iteSome h with ⟨hc111, h⟩ | ⟨hc111, h⟩
  rotate_left
  · exact absurd hc111 (by rw [hv_r109]; decide)
  refine sMove (iv r41.1) S (wG 48 true 149 rfl rfl rfl hc111) (.inl rfl) rfl rfl (lb rfl) fun a S => ?_
  refine sBin (.bool (r41.1 == 10)) S (wG 48 true 149 rfl rfl rfl hc111) rfl rfl rfl (bEq _ _ _ _ .i64 r41.1 10) rfl (lb rfl) fun a S => ?_
  refine sPickT (.bool (r41.1 == 10)) S (wN rfl) rfl rfl hc111 rfl rfl (lb rfl) fun a S => ?_
  refine sMove (.bool (r41.1 == 10)) S (wN rfl) (.inl rfl) rfl rfl (lb rfl) fun a S => ?_
  rcases iteSome h with ⟨hc112, h⟩ | ⟨hc112, h⟩
  rotate_left
  · exact absurd hc112 (by rw [hv_r41]; decide)
  refine sMove (.slice ad44 r41.2.1.length cp45) S (wG 52 true 153 rfl rfl rfl hc112) (.inl rfl) rfl rfl (lb rfl) fun a S => ?_
  refine sMove (.slice ad81 ([8, 5, 2] : List Int).length cp82) S (wG 52 true 153 rfl rfl rfl hc112) (.inl rfl) rfl rfl (lb rfl) fun a S => ?_
  obtain ⟨r113, hx114, h⟩ := bindSome h
  have hv_r113 : r113 = true := Option.some.inj (hx114.symm.trans (by rw [hv_r41]; exact kc_raddlelaw38_alive_10))
  have S1 := S.mem
  have S1 := S1.shutR (r := (rI .i64)) (T := 3) (v := .slice ad81 ([8, 5, 2] : List Int).length cp82) (xs := ([8, 5, 2] : List Int)) 1 rfl
  refine sCallQ (X := Unit) (f := 14) (vs := [.slice ad44 r41.2.1.length cp45, .slice ad81 ([8, 5, 2] : List Int).length cp82]) (val := fun _ => .bool r113) S (wG 52 true 153 rfl rfl rfl hc112) rfl callee14 rfl (S1.quiet [17, 0] rfl) (fun E1 w1 S1 => c_raddleref36_Same E1 w1 r41.2.1 (.slice ad44 r41.2.1.length cp45) ([8, 5, 2] : List Int) (.slice ad81 ([8, 5, 2] : List Int).length cp82) r113 hx114 S1) rfl (lb rfl) fun _ a w S => ?_
  refine sPickT (.bool r113) S (wN rfl) rfl rfl hc112 rfl rfl (lb rfl) fun a S => ?_
  refine sMove (.bool r113) S (wN rfl) (.inr rfl) rfl rfl (lb rfl) fun a S => ?_
  refine leafL (leafT (hK83 _ _ ?_))
  obtain rfl := Option.some.inj h
  exact wp_ret (sRet (.bool r113) S (rsl1 rfl (rvT (t := 0) (v := .bool r113) S rfl)) ⟨(), rfl, S.mem.sel [] [] (by decide) rfl rfl⟩)

end Go.Proofs.YtoiehdlcfehmlaaDoor
namespace Go.Proofs.YtoiehdlcfehmlaaDoor
open Go.RowKit
set_option linter.unusedVariables false

def K_raddlelaw38_alive  : Option Bool :=
  Option.bind (K_short_Turns 10 3) fun r3 =>
  Option.bind (K_short_Heights 10 ([8, 5, 2] : List Int)) fun r11 =>
  Option.bind (K_short_Worked 10 ([8, 5, 2] : List Int)) fun r19 =>
  Option.bind (K_short_Chart 10 ([8, 5, 2] : List Int)) fun r24 =>
  Option.bind (K_short_Fit ([3, 3, 2, 2, 2, 1, 1, 1, 0, 0] : List Int)) fun r35 =>
  Option.bind (K_short_Read r24.1) fun r41 =>
  if r3.2 != 0 then
    none
  else
    if r11.2 != 0 then
      none
    else
      if r19.2 != 0 then
        none
      else
        if r24.2 != 0 then
          none
        else
          if r35.2 != 0 then
            none
          else
            if r41.2.2 != 0 then
              none
            else
              if (r24.1.Rows.length : Int) != 6 then
                none
              else
                if r24.1.Start != 10 then
                  none
                else
                  Option.bind (idxO r24.1.Rows 0) fun x57 =>
                  Option.bind (K_stitch_Text x57.Cells) fun r66 =>
                  Option.bind (idxO r24.1.Rows 1) fun x69 =>
                  Option.bind (K_stitch_Text x69.Cells) fun r78 =>
                  if r66.2 == 0 then
                    if r66.1 == (⟨#[107, 56, 32, 107, 115, 32, 107, 115]⟩ : ByteArray) then
                      if !x57.Back then
                        if r78.2 == 0 then
                          if r78.1 == (⟨#[112, 115, 32, 112, 115, 32, 112, 56]⟩ : ByteArray) then
                            if x69.Back then
                              Option.bind (K_raddleref36_Same r3.1 ([8, 5, 2] : List Int)) fun r100 =>
                              if r100 then
                                Option.bind (K_raddleref36_Same r11.1 ([3, 3, 2, 2, 2, 1, 1, 1, 0, 0] : List Int)) fun r105 =>
                                if r105 then
                                  if r19.1 == 30 then
                                    Option.bind (K_raddleref36_Same r35.1 ([8, 5, 2] : List Int)) fun r109 =>
                                    if r109 then
                                      if r41.1 == 10 then
                                        Option.bind (K_raddleref36_Same r41.2.1 ([8, 5, 2] : List Int)) fun r113 =>
                                        some r113
                                      else
                                        none
                                    else
                                      none
                                  else
                                    none
                                else
                                  none
                              else
                                none
                            else
                              none
                          else
                            none
                        else
                          none
                      else
                        none
                    else
                      none
                  else
                    none
theorem m_F_raddlelaw38_alive  : Le (K_raddlelaw38_alive) (F_raddlelaw38_alive) := by
  unfold K_raddlelaw38_alive F_raddlelaw38_alive
  with_reducible repeat' (first | exact m_F_short_Turns _ _ | exact m_F_short_Heights _ _ | exact m_F_short_Worked _ _ | exact m_F_short_Chart _ _ | exact m_F_short_Fit _ | exact m_F_short_Read _ | exact m_F_stitch_Text _ | exact m_F_raddleref36_Same _ _ | exact Le.rfl _ | refine Le.loop _ ?_ | refine Le.bind ?_ ?_ | refine Le.ite ?_ ?_ | refine Le.sum ?_ ?_ | refine Le.prod ?_ | intro _ | exact Empty.elim (by assumption) | dsimp only)
set_option maxRecDepth 1000000 in
theorem k_raddlelaw38_alive : F_raddlelaw38_alive = some true := m_F_raddlelaw38_alive _ (by kernel_rfl)
end Go.Proofs.YtoiehdlcfehmlaaDoor
namespace Go.Proofs.YtoiehdlcfehmlaaDoor
open Go.RowKit
set_option linter.unusedVariables false

theorem w64_of {x : Int} (h0 : -9223372036854775808 ≤ x) (h1 : x ≤ 9223372036854775807) : w64 x = x := w64_id ⟨h0, h1⟩
theorem w64_succ {k : Nat} (h : k < 9223372036854775807) : w64 ((k : Int) + 1) = ((k + 1 : Nat) : Int) := by
  rw [w64_of (by omega) (by omega)]; omega
theorem idxO_nat {α : Type} {xs : List α} {k : Nat} (h : k < xs.length) : idxO xs (k : Int) = some xs[k] := by
  simp [idxO, h]
theorem idxO_of {α : Type} {xs : List α} {i : Int} {k : Nat} (hi : i = (k : Int)) (h : k < xs.length) : idxO xs i = some xs[k] := by subst hi; exact idxO_nat h
theorem setO_nat {α : Type} {xs : List α} {k : Nat} {y : α} (h : k < xs.length) : setO xs (k : Int) y = some (xs.set k y) := by
  simp [setO, h]
theorem appO_of {α : Type} {xs ys : List α} (h : xs.length + ys.length ≤ 68719476736) : appO xs ys = some (xs ++ ys) := by
  simp [appO, lim, h]
theorem capO_of {n : Int} {k : Nat} (h : n = (k : Int)) (hk : k ≤ 68719476736) : capO n = some () := by
  subst h; simp [capO, lim, hk]
theorem makeO_of {α : Type} {n : Int} {z : α} {k : Nat} (h : n = (k : Int)) (hk : k ≤ 68719476736) : makeO n z = some (List.replicate k z) := by
  subst h; simp [makeO, lim, hk]
theorem sliceO_of {α : Type} {xs : List α} {lo hi : Int} {l k : Nat} (h1 : lo = l) (h2 : hi = k) (h3 : l ≤ k) (h4 : k ≤ xs.length) : sliceO xs lo hi = some ((xs.take k).drop l) := by
  subst h1 h2; simp [sliceO, h3, h4]
/-- a loop over an index, with a state beside it -/
theorem loop_st {σ τ : Type} {B : σ × Int → Option ((σ × Int) ⊕ τ)} (n : Nat) (I : Nat → σ → Prop) (Pt : τ → Prop) {s0 : σ} (h0 : I 0 s0)
    (step : ∀ k s, k < n → I k s → (∃ s', B (s, (k : Int)) = some (.inl (s', ((k + 1 : Nat) : Int))) ∧ I (k + 1) s') ∨ (∃ t, B (s, (k : Int)) = some (.inr t) ∧ Pt t))
    (last : ∀ s, I n s → ∃ t, B (s, (n : Int)) = some (.inr t) ∧ Pt t) : ∃ t, whileO B (s0, 0) = some t ∧ Pt t := by
  refine whileO_inv (fun s => ∃ k : Nat, k ≤ n ∧ s.2 = (k : Int) ∧ I k s.1) (fun s => ((n : Int) - s.2).toNat) Pt ⟨0, Nat.zero_le _, rfl, h0⟩ ?_
  rintro ⟨s, i⟩ ⟨k, hk, rfl, hI⟩
  by_cases hlt : k < n
  · rcases step k s hlt hI with ⟨s', h1, h2⟩ | h
    · exact .inl ⟨_, h1, ⟨k + 1, hlt, rfl, h2⟩, by simp; omega⟩
    · exact .inr h
  · obtain rfl : k = n := by omega
    exact .inr (last s hI)
/-- a loop over an index alone -/
theorem loop_ix {τ : Type} {B : Int → Option (Int ⊕ τ)} (n : Nat) (I : Nat → Prop) (Pt : τ → Prop) (h0 : I 0)
    (step : ∀ k, k < n → I k → (B (k : Int) = some (.inl ((k + 1 : Nat) : Int)) ∧ I (k + 1)) ∨ (∃ t, B (k : Int) = some (.inr t) ∧ Pt t))
    (last : I n → ∃ t, B (n : Int) = some (.inr t) ∧ Pt t) : ∃ t, whileO B 0 = some t ∧ Pt t := by
  refine whileO_inv (fun s => ∃ k : Nat, k ≤ n ∧ s = (k : Int) ∧ I k) (fun s => ((n : Int) - s).toNat) Pt ⟨0, Nat.zero_le _, rfl, h0⟩ ?_
  rintro i ⟨k, hk, rfl, hI⟩
  by_cases hlt : k < n
  · rcases step k hlt hI with ⟨h1, h2⟩ | h
    · exact .inl ⟨_, h1, ⟨k + 1, hlt, rfl, h2⟩, by simp; omega⟩
    · exact .inr h
  · obtain rfl : k = n := by omega
    exact .inr (last hI)

end Go.Proofs.YtoiehdlcfehmlaaDoor
namespace Go.Proofs.YtoiehdlcfehmlaaDoor
open Go.RowKit
set_option linter.unusedVariables false

theorem loop_fr {σ τ : Type} {B : σ × Int → Option ((σ × Int) ⊕ τ)} (a n : Nat) (ha : a ≤ n) (I : Nat → σ → Prop) (Pt : τ → Prop) {s0 : σ} (h0 : I a s0)
    (step : ∀ k s, a ≤ k → k < n → I k s → (∃ s', B (s, (k : Int)) = some (.inl (s', ((k + 1 : Nat) : Int))) ∧ I (k + 1) s') ∨ (∃ t, B (s, (k : Int)) = some (.inr t) ∧ Pt t))
    (last : ∀ s, I n s → ∃ t, B (s, (n : Int)) = some (.inr t) ∧ Pt t) : ∃ t, whileO B (s0, (a : Int)) = some t ∧ Pt t := by
  refine whileO_inv (fun s => ∃ k : Nat, a ≤ k ∧ k ≤ n ∧ s.2 = (k : Int) ∧ I k s.1) (fun s => ((n : Int) - s.2).toNat) Pt ⟨a, Nat.le_refl _, ha, rfl, h0⟩ ?_
  rintro ⟨s, i⟩ ⟨k, hak, hk, rfl, hI⟩
  by_cases hlt : k < n
  · rcases step k s hak hlt hI with ⟨s', h1, h2⟩ | h
    · exact .inl ⟨_, h1, ⟨k + 1, by omega, hlt, rfl, h2⟩, by simp; omega⟩
    · exact .inr h
  · obtain rfl : k = n := by omega
    exact .inr (last s hI)
/-- a loop that leaves at the first index where f answers -/
theorem loop_find {τ : Type} {B : Int → Option (Int ⊕ τ)} (n : Nat) (f : Nat → Option τ) (good : τ)
    (h : ∀ k, k < n → B (k : Int) = some (match f k with | none => .inl ((k + 1 : Nat) : Int) | some t => .inr t)) (hn : B (n : Int) = some (.inr good)) :
    whileO B 0 = some (((List.range n).findSome? f).getD good) := by
  have key : ∃ t, whileO B 0 = some t ∧ t = ((List.range n).findSome? f).getD good := by
    refine loop_ix n (fun k => (List.range k).findSome? f = none) _ rfl ?_ ?_
    · intro k hk hI
      cases hf : f k with
      | none =>
        refine .inl ⟨by rw [h k hk, hf], ?_⟩
        rw [List.range_succ, List.findSome?_append, hI]
        simp [hf]
      | some t =>
        refine .inr ⟨t, by rw [h k hk, hf], ?_⟩
        have e : List.range n = List.range (k + 1) ++ (List.range (n - (k + 1))).map (k + 1 + ·) := by
          rw [← List.range_add]; congr 1; omega
        rw [e, List.findSome?_append, List.range_succ, List.findSome?_append, hI]
        simp [hf]
    · intro hI
      exact ⟨good, hn, by rw [hI]; rfl⟩
  obtain ⟨t, h1, rfl⟩ := key
  exact h1
/-- a loop that tests all, and says bad at the first that fails -/
theorem loop_all {τ : Type} {B : Int → Option (Int ⊕ τ)} (n : Nat) (p : Nat → Bool) (good bad : τ)
    (h : ∀ k, k < n → B (k : Int) = some (if p k = true then .inl ((k + 1 : Nat) : Int) else .inr bad)) (hn : B (n : Int) = some (.inr good)) :
    whileO B 0 = some (if (List.range n).all p = true then good else bad) := by
  have key : ∃ t, whileO B 0 = some t ∧ t = if (List.range n).all p = true then good else bad := by
    refine loop_ix n (fun k => ∀ j, j < k → p j = true) _ (fun j h => absurd h (Nat.not_lt_zero j)) ?_ ?_
    · intro k hk hI
      cases hf : p k with
      | true =>
        refine .inl ⟨by rw [h k hk, if_pos hf], fun j hj => ?_⟩
        by_cases e : j = k
        · rw [e]; exact hf
        · exact hI j (by omega)
      | false =>
        refine .inr ⟨bad, by rw [h k hk, hf]; simp, ?_⟩
        rw [if_neg]
        intro hc
        rw [List.all_eq_true] at hc
        have := hc k (List.mem_range.2 hk)
        rw [hf] at this; cases this
    · intro hI
      refine ⟨good, hn, ?_⟩
      rw [if_pos]
      rw [List.all_eq_true]
      exact fun j hj => hI j (List.mem_range.1 hj)
  obtain ⟨t, h1, rfl⟩ := key
  exact h1
/-- a loop that folds -/
theorem loop_fold {σ τ : Type} {B : σ × Int → Option ((σ × Int) ⊕ τ)} (n : Nat) (f : σ → Nat → σ) (s0 : σ) {t : τ}
    (h : ∀ k s, k < n → s = (List.range k).foldl f s0 → B (s, (k : Int)) = some (.inl (f s k, ((k + 1 : Nat) : Int))))
    (hn : B ((List.range n).foldl f s0, (n : Int)) = some (.inr t)) : whileO B (s0, 0) = some t := by
  have key : ∃ u, whileO B (s0, 0) = some u ∧ u = t := by
    refine loop_st n (fun k s => s = (List.range k).foldl f s0) _ rfl ?_ ?_
    · rintro k s hk hI
      refine .inl ⟨_, h k s hk hI, ?_⟩
      rw [List.range_succ, List.foldl_append, ← hI]; rfl
    · rintro s rfl
      exact ⟨t, hn, rfl⟩
  obtain ⟨u, h1, rfl⟩ := key
  exact h1
/-- a loop that gathers -/
theorem loop_map {α τ : Type} {B : List α × Int → Option ((List α × Int) ⊕ τ)} (n : Nat) (f : Nat → α) {t : τ}
    (h : ∀ k s, k < n → s = (List.range k).map f → B (s, (k : Int)) = some (.inl (s ++ [f k], ((k + 1 : Nat) : Int))))
    (hn : B ((List.range n).map f, (n : Int)) = some (.inr t)) : whileO B ([], 0) = some t := by
  have key : ∃ u, whileO B ([], 0) = some u ∧ u = t := by
    refine loop_st n (fun k s => s = (List.range k).map f) _ rfl ?_ ?_
    · rintro k s hk hI
      refine .inl ⟨_, h k s hk hI, ?_⟩
      rw [List.range_succ, List.map_append, ← hI]; rfl
    · rintro s rfl
      exact ⟨t, hn, rfl⟩
  obtain ⟨u, h1, rfl⟩ := key
  exact h1
theorem all_cong {n : Nat} {p q : Nat → Bool} (h : ∀ k, k < n → p k = q k) : (List.range n).all p = (List.range n).all q := by
  have : ∀ m, m ≤ n → (List.range m).all p = (List.range m).all q := by
    intro m
    induction m with
    | zero => intro _; rfl
    | succ m ih => intro hm; rw [List.range_succ, List.all_append, List.all_append, ih (by omega)]; simp [h m (by omega)]
  exact this n (Nat.le_refl _)
theorem map_cong {α : Type} {n : Nat} {f g : Nat → α} (h : ∀ k, k < n → f k = g k) : (List.range n).map f = (List.range n).map g :=
  List.map_congr_left fun k hk => h k (List.mem_range.1 hk)
/-- an element, wherever the index lies -/
theorem idxO_get {α : Type} {xs : List α} {i : Int} (h0 : 0 ≤ i) (h1 : i < (xs.length : Int)) : idxO xs i = some (xs[i.toNat]'(by omega)) := by
  have : i.toNat < xs.length := by omega
  simp [idxO, h0, this]
theorem dT {p : Prop} [Decidable p] (h : p) : decide p = true := decide_eq_true h
theorem dF {p : Prop} [Decidable p] (h : ¬ p) : decide p = false := decide_eq_false h
theorem bT {a b : Int} (h : a = b) : (a == b) = true := by simp [h]
theorem bF {a b : Int} (h : ¬ a = b) : (a == b) = false := by simp [h]
theorem nT {a b : Int} (h : ¬ a = b) : (a != b) = true := by simp [h]
theorem nF {a b : Int} (h : a = b) : (a != b) = false := by simp [h]
/-- a loop whose index comes first in its state -/
theorem loop_ts {σ τ : Type} {B : Int × σ → Option ((Int × σ) ⊕ τ)} (n : Nat) (I : Nat → σ → Prop) (Pt : τ → Prop) {s0 : σ} (h0 : I 0 s0)
    (step : ∀ k s, k < n → I k s → (∃ s', B ((k : Int), s) = some (.inl (((k + 1 : Nat) : Int), s')) ∧ I (k + 1) s') ∨ (∃ t, B ((k : Int), s) = some (.inr t) ∧ Pt t))
    (last : ∀ s, I n s → ∃ t, B ((n : Int), s) = some (.inr t) ∧ Pt t) : ∃ t, whileO B (0, s0) = some t ∧ Pt t := by
  refine whileO_inv (fun s => ∃ k : Nat, k ≤ n ∧ s.1 = (k : Int) ∧ I k s.2) (fun s => ((n : Int) - s.1).toNat) Pt ⟨0, Nat.zero_le _, rfl, h0⟩ ?_
  rintro ⟨i, s⟩ ⟨k, hk, rfl, hI⟩
  by_cases hlt : k < n
  · rcases step k s hlt hI with ⟨s', h1, h2⟩ | h
    · exact .inl ⟨_, h1, ⟨k + 1, hlt, rfl, h2⟩, by simp; omega⟩
    · exact .inr h
  · obtain rfl : k = n := by omega
    exact .inr (last s hI)
/-- a row filled from its start on -/
def Fill {α : Type} (n : Nat) (f : Nat → α) (k : Nat) (s : List α) : Prop := s.length = n ∧ ∀ j, j < k → s[j]? = some (f j)
theorem Fill.zero {α : Type} (n : Nat) (f : Nat → α) (z : α) : Fill n f 0 (List.replicate n z) := ⟨by simp, fun j hj => absurd hj (Nat.not_lt_zero j)⟩
theorem Fill.set {α : Type} {n : Nat} {f : Nat → α} {k : Nat} {s : List α} (h : Fill n f k s) (hk : k < n) : Fill n f (k + 1) (s.set k (f k)) := by
  refine ⟨by simp [h.1], fun j hj => ?_⟩
  by_cases e : j = k
  · subst e; simp [h.1, hk]
  · rw [List.getElem?_set_ne (fun h => e h.symm)]; exact h.2 j (by omega)
theorem Fill.all {α : Type} {n : Nat} {f : Nat → α} {s : List α} (h : Fill n f n s) : s = (List.range n).map f := by
  apply List.ext_getElem?
  intro j
  by_cases hj : j < n
  · rw [h.2 j hj]; simp [hj]
  · rw [List.getElem?_eq_none (by rw [h.1]; omega), List.getElem?_eq_none (by simp; omega)]
theorem loop_set {α τ : Type} {B : List α × Int → Option ((List α × Int) ⊕ τ)} (n : Nat) (f : Nat → α) (z : α) {t : τ}
    (h : ∀ k s, k < n → s.length = n → B (s, (k : Int)) = some (.inl (s.set k (f k), ((k + 1 : Nat) : Int))))
    (hn : B ((List.range n).map f, (n : Int)) = some (.inr t)) : whileO B (List.replicate n z, 0) = some t := by
  have key : ∃ u, whileO B (List.replicate n z, 0) = some u ∧ u = t := by
    refine loop_st n (fun k s => Fill n f k s) _ (Fill.zero n f z) ?_ ?_
    · intro k s hk hI
      exact .inl ⟨_, h k s hk hI.1, hI.set hk⟩
    · intro s hs
      rw [hs.all]
      exact ⟨t, hn, rfl⟩
  obtain ⟨u, h1, rfl⟩ := key
  exact h1
theorem idxO_D {α : Type} {xs : List α} {k : Nat} (d : α) (h : k < xs.length) : idxO xs (k : Int) = some (xs.getD k d) := by
  rw [idxO_nat h]; simp [h]
theorem mul_bd {u v a b : Int} (u0 : 0 ≤ u) (u1 : u ≤ a) (v0 : 0 ≤ v) (v1 : v ≤ b) : 0 ≤ u * v ∧ u * v ≤ a * b :=
  ⟨Int.mul_nonneg u0 v0, Int.mul_le_mul u1 v1 v0 (by omega)⟩
theorem sliceO_all {α : Type} {xs : List α} {k : Nat} (h : k ≤ xs.length) : sliceO xs (k : Int) (xs.length : Int) = some (xs.drop k) := by
  rw [sliceO_of (l := k) (k := xs.length) rfl rfl h (Nat.le_refl _), List.take_length]
theorem getD_drop {α : Type} (xs : List α) (n k : Nat) (d : α) : (xs.drop n).getD k d = xs.getD (k + n) d := by
  simp [List.getD_eq_getElem?_getD, List.getElem?_drop, Nat.add_comm]

end Go.Proofs.YtoiehdlcfehmlaaDoor
namespace Go.Proofs.YtoiehdlcfehmlaaDoor
open Go.RowKit
set_option linter.unusedVariables false

/-- a loop by a count, whatever its state looks like -/
theorem loop_at {S σ τ : Type} {B : S → Option (S ⊕ τ)} (n : Nat) (st : Nat → σ → S) (I : Nat → σ → Prop) (Pt : τ → Prop) {s0 : σ} (h0 : I 0 s0)
    (step : ∀ k s, k < n → I k s → (∃ s', B (st k s) = some (.inl (st (k + 1) s')) ∧ I (k + 1) s') ∨ (∃ t, B (st k s) = some (.inr t) ∧ Pt t))
    (last : ∀ s, I n s → ∃ t, B (st n s) = some (.inr t) ∧ Pt t) : ∃ t, whileO B (st 0 s0) = some t ∧ Pt t := by
  have key : ∀ j k s, j + k = n → I k s → ∃ t, whileO B (st k s) = some t ∧ Pt t := by
    intro j
    induction j with
    | zero =>
      intro k s hk hI
      obtain rfl : k = n := by omega
      obtain ⟨t, h1, h2⟩ := last s hI
      exact ⟨t, whileO_done h1, h2⟩
    | succ j ih =>
      intro k s hk hI
      rcases step k s (by omega) hI with ⟨s', h1, h2⟩ | ⟨t, h1, h2⟩
      · rw [whileO_step h1]; exact ih _ _ (by omega) h2
      · exact ⟨t, whileO_done h1, h2⟩
  exact key n 0 s0 (by omega) h0
theorem whileO_none {σ τ : Type} {B : σ → Option (σ ⊕ τ)} {s : σ} (h : B s = none) : whileO B s = none := by
  cases hx : whileO B s with
  | none => rfl
  | some t =>
    obtain ⟨n, hn⟩ := whileO_some hx
    cases n with
    | zero => simp [iterO] at hn
    | succ n => rw [iterO, h] at hn; cases hn
theorem whileO_eq {σ τ : Type} (B : σ → Option (σ ⊕ τ)) (s : σ) : whileO B s = (B s).bind fun r => match r with | .inl s' => whileO B s' | .inr t => some t := by
  cases h : B s with
  | none => rw [whileO_none h]; rfl
  | some r =>
    cases r with
    | inl s' => rw [whileO_step h]; rfl
    | inr t => rw [whileO_done h]; rfl
/-- sums over a list -/
def sm {α : Type} (f : α → Int) : List α → Int
  | [] => 0
  | x :: l => f x + sm f l
theorem sm_append {α : Type} (f : α → Int) (l k : List α) : sm f (l ++ k) = sm f l + sm f k := by
  induction l with
  | nil => simp [sm]
  | cons x l ih => simp only [List.cons_append, sm, ih]; omega
theorem sm_take {α : Type} (f : α → Int) (l : List α) {k : Nat} (h : k < l.length) : sm f (l.take (k + 1)) = sm f (l.take k) + f l[k] := by
  rw [List.take_succ_eq_append_getElem h, sm_append]
  simp [sm]
theorem sm_bd {α : Type} {f : α → Int} {b : Int} {l : List α} (h : ∀ x, x ∈ l → 0 ≤ f x ∧ f x ≤ b) : 0 ≤ sm f l ∧ sm f l ≤ b * l.length := by
  induction l with
  | nil => simp [sm]
  | cons x l ih =>
    have h1 := h x (by simp)
    have h2 := ih fun y hy => h y (by simp [hy])
    simp only [sm, List.length_cons]
    have e : b * ((l.length + 1 : Nat) : Int) = b * l.length + b := by rw [Int.natCast_add, Int.mul_add]; simp
    rw [e]
    omega
def usedS (p : api_Stitch) : Int := if p.Kind = 2 ∨ p.Kind = 9 then 0 else if p.Kind = 3 ∨ p.Kind = 4 ∨ p.Kind = 10 then p.A else if p.Kind = 6 ∨ p.Kind = 7 then p.A + p.B else 1
def madeS (p : api_Stitch) : Int := if p.Kind = 10 then 0 else if p.Kind = 5 ∨ p.Kind = 9 then p.A else if p.Kind = 6 ∨ p.Kind = 7 then p.A + p.B else 1
def okS (p : api_Stitch) : Prop :=
  (p.Kind = 1 ∨ p.Kind = 8) ∧ p.A = 0 ∧ p.B = 0 ∨ p.Kind = 2 ∧ p.A = 0 ∧ p.B = 0 ∧ p.Purl = false ∨ (p.Kind = 3 ∨ p.Kind = 4 ∨ p.Kind = 5) ∧ 2 ≤ p.A ∧ p.A ≤ 4 ∧ p.B = 0 ∨
  (p.Kind = 6 ∨ p.Kind = 7) ∧ 1 ≤ p.A ∧ p.A ≤ 6 ∧ 1 ≤ p.B ∧ p.B ≤ 6 ∨ p.Kind = 9 ∧ 1 ≤ p.A ∧ p.A ≤ 200 ∧ p.B = 0 ∧ p.Purl = false ∨ p.Kind = 10 ∧ 1 ≤ p.A ∧ p.A ≤ 200 ∧ p.B = 0
instance (p : api_Stitch) : Decidable (okS p) := by unfold okS; infer_instance
theorem okS_bd {p : api_Stitch} (h : okS p) : 1 ≤ p.Kind ∧ p.Kind ≤ 10 ∧ 0 ≤ p.A ∧ p.A ≤ 200 ∧ 0 ≤ p.B ∧ p.B ≤ 6 := by
  unfold okS at h
  omega
theorem usedS_bd {p : api_Stitch} (h : okS p) : 0 ≤ usedS p ∧ usedS p ≤ 200 := by
  have hb := okS_bd h
  unfold okS at h
  unfold usedS
  split
  · omega
  · split
    · omega
    · split <;> omega
theorem madeS_bd {p : api_Stitch} (h : okS p) : 0 ≤ madeS p ∧ madeS p ≤ 200 := by
  have hb := okS_bd h
  unfold okS at h
  unfold madeS
  split
  · omega
  · split
    · omega
    · split <;> omega
theorem check_form (p : api_Stitch) (f : stitch_form) (h : F_stitch_forms p.Kind = some (f, true)) :
    F_stitch_Check p = some (if (f.a.1 ≤ p.A ∧ p.A ≤ f.a.2) ∧ (f.b.1 ≤ p.B ∧ p.B ≤ f.b.2) ∧ (p.Purl = true → f.sided = true) then 0 else 8) := by
  unfold F_stitch_Check F_stitch_within
  rw [h]
  by_cases a1 : f.a.1 ≤ p.A <;> by_cases a2 : p.A ≤ f.a.2 <;> by_cases b1 : f.b.1 ≤ p.B <;> by_cases b2 : p.B ≤ f.b.2 <;> cases hp : p.Purl <;> cases hs : f.sided <;> simp [a1, a2, b1, b2, hs]
theorem ifc {α : Type} {c d : Prop} [Decidable c] [Decidable d] {a b : α} (h : c ↔ d) : (if c then a else b) = if d then a else b := by
  by_cases hc : c
  · rw [if_pos hc, if_pos (h.1 hc)]
  · rw [if_neg hc, if_neg (fun hd => hc (h.2 hd))]
theorem kinds {x : Int} (h : 0 ≤ x ∧ x ≤ 255) : x = 0 ∨ x = 1 ∨ x = 2 ∨ x = 3 ∨ x = 4 ∨ x = 5 ∨ x = 6 ∨ x = 7 ∨ x = 8 ∨ x = 9 ∨ x = 10 ∨ 10 < x := by omega
theorem forms_none {x : Int} (h : 10 < x ∧ x ≤ 255) : ∃ f, F_stitch_forms x = some (f, false) := by
  unfold F_stitch_forms
  have hw : IntKind.i64.wrap x = x := w64_of (by omega) (by omega)
  simp only [dF (show ¬ x < 1 by omega), hw, Bool.false_eq_true, if_false, Option.bind_some, List.length_cons, List.length_nil]
  rw [dT (show ((0 + 1 + 1 + 1 + 1 + 1 + 1 + 1 + 1 + 1 + 1 : Nat) : Int) < x by omega)]
  exact ⟨_, rfl⟩
theorem check_none {p : api_Stitch} {f : stitch_form} (h : F_stitch_forms p.Kind = some (f, false)) : F_stitch_Check p = some 8 := by
  unfold F_stitch_Check
  rw [h]
  simp
theorem check_eq (p : api_Stitch) (hk : 0 ≤ p.Kind ∧ p.Kind ≤ 255) : F_stitch_Check p = some (if okS p then 0 else 8) := by
  rcases kinds hk with h | h | h | h | h | h | h | h | h | h | h | h
  · rw [check_none (f := ⟨⟨#[]⟩, (0, 0), (0, 0), false, 0, 0⟩) (by rw [h]; rfl), if_neg (by unfold okS; omega)]
  · rw [check_form p _ (by rw [h]; rfl)]; cases hp : p.Purl <;> exact congrArg some (ifc (by simp [okS, h]; omega))
  · rw [check_form p _ (by rw [h]; rfl)]; cases hp : p.Purl <;> exact congrArg some (ifc (by simp [okS, h, hp] <;> omega))
  · rw [check_form p _ (by rw [h]; rfl)]; cases hp : p.Purl <;> exact congrArg some (ifc (by simp [okS, h]; omega))
  · rw [check_form p _ (by rw [h]; rfl)]; cases hp : p.Purl <;> exact congrArg some (ifc (by simp [okS, h]; omega))
  · rw [check_form p _ (by rw [h]; rfl)]; cases hp : p.Purl <;> exact congrArg some (ifc (by simp [okS, h]; omega))
  · rw [check_form p _ (by rw [h]; rfl)]; cases hp : p.Purl <;> exact congrArg some (ifc (by simp [okS, h]; omega))
  · rw [check_form p _ (by rw [h]; rfl)]; cases hp : p.Purl <;> exact congrArg some (ifc (by simp [okS, h]; omega))
  · rw [check_form p _ (by rw [h]; rfl)]; cases hp : p.Purl <;> exact congrArg some (ifc (by simp [okS, h]; omega))
  · rw [check_form p _ (by rw [h]; rfl)]; cases hp : p.Purl <;> exact congrArg some (ifc (by simp [okS, h, hp] <;> omega))
  · rw [check_form p _ (by rw [h]; rfl)]; cases hp : p.Purl <;> exact congrArg some (ifc (by simp [okS, h]; omega))
  · obtain ⟨f, hf⟩ := forms_none ⟨h, hk.2⟩
    rw [check_none hf, if_neg (by unfold okS; omega)]
theorem form_ok {p : api_Stitch} (h : okS p) : ∃ f, F_stitch_forms p.Kind = some (f, true) ∧ F_stitch_loops p f.uses = some (usedS p) ∧ F_stitch_loops p f.made = some (madeS p) := by
  have hb := okS_bd h
  have hw : w64 (p.A + p.B) = p.A + p.B := w64_of (by omega) (by omega)
  have l0 : F_stitch_loops p 0 = some 0 := rfl
  have l1 : F_stitch_loops p 1 = some 1 := rfl
  have l2 : F_stitch_loops p 2 = some p.A := rfl
  have l3 : F_stitch_loops p 3 = some (p.A + p.B) := by rw [← hw]; rfl
  rcases kinds (x := p.Kind) (by omega) with k | k | k | k | k | k | k | k | k | k | k | k
  · omega
  · exact ⟨⟨⟨#[]⟩, (0, 0), (0, 0), true, 1, 1⟩, by rw [k]; rfl, by rw [l1]; simp [usedS, k], by rw [l1]; simp [madeS, k]⟩
  · exact ⟨⟨⟨#[]⟩, (0, 0), (0, 0), false, 0, 1⟩, by rw [k]; rfl, by rw [l0]; simp [usedS, k], by rw [l1]; simp [madeS, k]⟩
  · exact ⟨⟨⟨#[102]⟩, (2, 4), (0, 0), true, 2, 1⟩, by rw [k]; rfl, by rw [l2]; simp [usedS, k], by rw [l1]; simp [madeS, k]⟩
  · exact ⟨⟨⟨#[108]⟩, (2, 4), (0, 0), true, 2, 1⟩, by rw [k]; rfl, by rw [l2]; simp [usedS, k], by rw [l1]; simp [madeS, k]⟩
  · exact ⟨⟨⟨#[109]⟩, (2, 4), (0, 0), true, 1, 2⟩, by rw [k]; rfl, by rw [l1]; simp [usedS, k], by rw [l2]; simp [madeS, k]⟩
  · exact ⟨⟨⟨#[120]⟩, (1, 6), (1, 6), true, 3, 3⟩, by rw [k]; rfl, by rw [l3]; simp [usedS, k], by rw [l3]; simp [madeS, k]⟩
  · exact ⟨⟨⟨#[121]⟩, (1, 6), (1, 6), true, 3, 3⟩, by rw [k]; rfl, by rw [l3]; simp [usedS, k], by rw [l3]; simp [madeS, k]⟩
  · exact ⟨⟨⟨#[115]⟩, (0, 0), (0, 0), true, 1, 1⟩, by rw [k]; rfl, by rw [l1]; simp [usedS, k], by rw [l1]; simp [madeS, k]⟩
  · exact ⟨⟨⟨#[]⟩, (1, 200), (0, 0), false, 0, 2⟩, by rw [k]; rfl, by rw [l0]; simp [usedS, k], by rw [l2]; simp [madeS, k]⟩
  · exact ⟨⟨⟨#[111]⟩, (1, 200), (0, 0), true, 2, 0⟩, by rw [k]; rfl, by rw [l2]; simp [usedS, k], by rw [l0]; simp [madeS, k]⟩
  · omega
/-- lists of stitches -/
def allOk (l : List api_Stitch) : Prop := ∀ p, p ∈ l → okS p
instance (l : List api_Stitch) : Decidable (allOk l) := by unfold allOk; infer_instance
def wfS (p : api_Stitch) : Prop := 0 ≤ p.Kind ∧ p.Kind ≤ 255
theorem used_bd {l : List api_Stitch} (h : allOk l) : 0 ≤ sm usedS l ∧ sm usedS l ≤ 200 * l.length := sm_bd fun _ hx => usedS_bd (h _ hx)
theorem made_bd {l : List api_Stitch} (h : allOk l) : 0 ≤ sm madeS l ∧ sm madeS l ≤ 200 * l.length := sm_bd fun _ hx => madeS_bd (h _ hx)
theorem take_ok {l : List api_Stitch} (h : allOk l) (k : Nat) : allOk (l.take k) := fun _ hx => h _ (List.mem_of_mem_take hx)
theorem sum_step {l : List api_Stitch} (h : allOk l) (hl : l.length ≤ 100000) {k : Nat} (hk : k < l.length) :
    w64 (sm usedS (l.take k) + usedS l[k]) = sm usedS (l.take (k + 1)) ∧ w64 (sm madeS (l.take k) + madeS l[k]) = sm madeS (l.take (k + 1)) := by
  have h1 := used_bd (take_ok h k)
  have h2 := made_bd (take_ok h k)
  have h3 := usedS_bd (h _ (List.getElem_mem hk))
  have h4 := madeS_bd (h _ (List.getElem_mem hk))
  have hlen : (l.take k).length ≤ 100000 := by rw [List.length_take]; omega
  rw [sm_take _ _ hk, sm_take _ _ hk]
  exact ⟨w64_of (by omega) (by omega), w64_of (by omega) (by omega)⟩
theorem sum_eq {l : List api_Stitch} (h : allOk l) (hl : l.length ≤ 100000) : F_stitch_sum l = some (sm usedS l, sm madeS l) := by
  have key : ∃ t, whileO (stitch_sum_l1 l) (0, 0, 0) = some t ∧ t = (sm usedS l, sm madeS l) := by
    refine loop_at (σ := Unit) l.length (fun k _ => (sm usedS (l.take k), sm madeS (l.take k), (k : Int))) (fun _ _ => True) _ (s0 := ()) trivial ?_ ?_
    · intro k _ hk _
      refine .inl ⟨(), ?_, trivial⟩
      obtain ⟨f, f1, f2, f3⟩ := form_ok (h _ (List.getElem_mem hk))
      have hs := sum_step h hl hk
      unfold stitch_sum_l1
      simp only [dT (show (k : Int) < (l.length : Int) by omega), if_true, idxO_nat hk, Option.bind_some, f1, f2, f3, hs.1, hs.2, w64_succ (show k < 9223372036854775807 by omega)]
    · intro _ _
      refine ⟨_, ?_, rfl⟩
      unfold stitch_sum_l1
      simp only [dF (show ¬ (l.length : Int) < (l.length : Int) by omega), Bool.false_eq_true, if_false, List.take_length]
  obtain ⟨t, h1, rfl⟩ := key
  unfold F_stitch_sum
  rw [h1]; rfl
/-- the error of a list -/
def allS (l : List api_Stitch) : Int := if 200 < l.length then 4 else if allOk l then (if 200 < sm usedS l ∨ 200 < sm madeS l then 4 else 0) else 8
theorem allOk_range {l : List api_Stitch} : (List.range l.length).all (fun k => decide (okS (l.getD k ⟨0, false, 0, 0⟩))) = true ↔ allOk l := by
  rw [List.all_eq_true]
  constructor
  · intro h p hp
    obtain ⟨k, hk, rfl⟩ := List.getElem_of_mem hp
    have := h k (List.mem_range.2 hk)
    simpa [hk] using this
  · intro h k hk
    have hk := List.mem_range.1 hk
    have := h _ (List.getElem_mem hk)
    simpa [hk] using this
theorem getD_of {α : Type} {l : List α} {k : Nat} (d : α) (h : k < l.length) : l.getD k d = l[k] := by simp [h]
theorem find_bad {l : List api_Stitch} (hw : ∀ p, p ∈ l → wfS p) (hl : l.length ≤ 100000) : ∃ j, F_slices_IndexFunc___api_Stitch_api_Stitch__s0 l = some j ∧ (0 ≤ j ↔ ¬ allOk l) := by
  have key : ∃ t, whileO (slices_IndexFunc___api_Stitch_api_Stitch__s0_l1 l) 0 = some t ∧ ((t = .inr () ∧ allOk l) ∨ (∃ k : Nat, t = .inl (k : Int) ∧ ¬ allOk l)) := by
    refine loop_ix l.length (fun k => allOk (l.take k)) _ (fun p hp => by simp at hp) ?_ ?_
    · intro k hk hI
      have hc := check_eq l[k] (hw _ (List.getElem_mem hk))
      unfold slices_IndexFunc___api_Stitch_api_Stitch__s0_l1 F_stitch_All_1
      simp only [dT (show (k : Int) < (l.length : Int) by omega), if_true, idxO_nat hk, Option.bind_some, hc, w64_succ (show k < 9223372036854775807 by omega)]
      by_cases ho : okS l[k]
      · refine .inl ⟨by simp [ho], fun p hp => ?_⟩
        rw [List.take_succ_eq_append_getElem hk, List.mem_append] at hp
        rcases hp with hp | hp
        · exact hI p hp
        · simp at hp; subst hp; exact ho
      · exact .inr ⟨.inl (k : Int), by simp [ho], .inr ⟨k, rfl, fun h => ho (h _ (List.getElem_mem hk))⟩⟩
    · intro hI
      refine ⟨.inr (), ?_, .inl ⟨rfl, by simpa using hI⟩⟩
      unfold slices_IndexFunc___api_Stitch_api_Stitch__s0_l1
      simp only [dF (show ¬ (l.length : Int) < (l.length : Int) by omega), Bool.false_eq_true, if_false]
  obtain ⟨t, h1, h2⟩ := key
  unfold F_slices_IndexFunc___api_Stitch_api_Stitch__s0
  rw [h1]
  rcases h2 with ⟨rfl, h⟩ | ⟨k, rfl, h⟩
  · exact ⟨-1, rfl, by simp [h]⟩
  · exact ⟨(k : Int), rfl, by simp [h]⟩
theorem all_eq {l : List api_Stitch} (hw : ∀ p, p ∈ l → wfS p) : F_stitch_All l = some (allS l) := by
  unfold F_stitch_All allS
  by_cases hl : 200 < l.length
  · simp only [dT (show (200 : Int) < (l.length : Int) by omega), if_true, if_pos hl]
  simp only [dF (show ¬ (200 : Int) < (l.length : Int) by omega), Bool.false_eq_true, if_false, if_neg hl]
  obtain ⟨j, h1, h2⟩ := find_bad hw (by omega)
  unfold F_slices_ContainsFunc___api_Stitch_api_Stitch__s0
  rw [h1]
  by_cases ho : allOk l
  · have : ¬ 0 ≤ j := fun h => h2.1 h ho
    simp only [Option.bind_some, dF this, Bool.false_eq_true, if_false, sum_eq ho (show l.length ≤ 100000 by omega), if_pos ho]
    by_cases hm : 200 < sm usedS l ∨ 200 < sm madeS l
    · rw [dT (show (200 : Int) < if sm usedS l < sm madeS l then sm madeS l else sm usedS l by split <;> omega)]
      simp [hm]
    · rw [dF (show ¬ (200 : Int) < if sm usedS l < sm madeS l then sm madeS l else sm usedS l by split <;> omega)]
      simp [hm]
  · have : 0 ≤ j := h2.2 ho
    simp only [Option.bind_some, dT this, if_true, if_neg ho]
theorem allS_ok {l : List api_Stitch} (h : allS l = 0) : l.length ≤ 200 ∧ allOk l ∧ sm usedS l ≤ 200 ∧ sm madeS l ≤ 200 := by
  unfold allS at h
  split at h
  · omega
  · split at h
    · rename_i h1 h2
      split at h
      · omega
      · rename_i h3
        exact ⟨by omega, h2, by omega, by omega⟩
    · omega
def fin3 {σ τ : Type} (z0 : (σ ⊕ τ) ⊕ σ) : Option (σ ⊕ τ) := match z0 with
  | .inl z => some z
  | .inr g => some (.inl g)

end Go.Proofs.YtoiehdlcfehmlaaDoor
namespace Go.Proofs.YtoiehdlcfehmlaaDoor
open Go.RowKit
set_option linter.unusedVariables false

theorem take_one {α : Type} (l : List α) {k : Nat} (hk : k < l.length) : l.take (k + 1) = l.take k ++ [l[k]] := by
  rw [List.take_add_one, List.getElem?_eq_getElem hk]; rfl
def othS (p : api_Stitch) : api_Stitch := ⟨p.Kind, if p.Kind = 2 ∨ p.Kind = 9 then p.Purl else !p.Purl, if p.Kind = 6 ∨ p.Kind = 7 then p.B else p.A, if p.Kind = 6 ∨ p.Kind = 7 then p.A else p.B⟩
theorem purl_no {p : api_Stitch} (h : okS p) (k : p.Kind = 2 ∨ p.Kind = 9) : p.Purl = false := by
  rcases h with h | h | h | h | h | h
  · omega
  · exact h.2.2.2
  · omega
  · omega
  · exact h.2.2.2.2
  · omega
theorem turn_form {p : api_Stitch} (h : okS p) : ∃ f, F_stitch_forms p.Kind = some (f, true) ∧ (if f.sided = true then some (!p.Purl) else some false) = some (othS p).Purl ∧ (if decide (0 < f.b.2) = true then some (p.B, p.A) else some (p.A, p.B)) = some ((othS p).A, (othS p).B) := by
  have hb := okS_bd h
  unfold othS
  rcases kinds (x := p.Kind) (by omega) with k | k | k | k | k | k | k | k | k | k | k | k
  · omega
  · exact ⟨⟨⟨#[]⟩, (0, 0), (0, 0), true, 1, 1⟩, by rw [k]; rfl, by simp [k], by simp [k]⟩
  · exact ⟨⟨⟨#[]⟩, (0, 0), (0, 0), false, 0, 1⟩, by rw [k]; rfl, by simp [k, purl_no h (.inl k)], by simp [k]⟩
  · exact ⟨⟨⟨#[102]⟩, (2, 4), (0, 0), true, 2, 1⟩, by rw [k]; rfl, by simp [k], by simp [k]⟩
  · exact ⟨⟨⟨#[108]⟩, (2, 4), (0, 0), true, 2, 1⟩, by rw [k]; rfl, by simp [k], by simp [k]⟩
  · exact ⟨⟨⟨#[109]⟩, (2, 4), (0, 0), true, 1, 2⟩, by rw [k]; rfl, by simp [k], by simp [k]⟩
  · exact ⟨⟨⟨#[120]⟩, (1, 6), (1, 6), true, 3, 3⟩, by rw [k]; rfl, by simp [k], by simp [k]⟩
  · exact ⟨⟨⟨#[121]⟩, (1, 6), (1, 6), true, 3, 3⟩, by rw [k]; rfl, by simp [k], by simp [k]⟩
  · exact ⟨⟨⟨#[115]⟩, (0, 0), (0, 0), true, 1, 1⟩, by rw [k]; rfl, by simp [k], by simp [k]⟩
  · exact ⟨⟨⟨#[]⟩, (1, 200), (0, 0), false, 0, 2⟩, by rw [k]; rfl, by simp [k, purl_no h (.inr k)], by simp [k]⟩
  · exact ⟨⟨⟨#[111]⟩, (1, 200), (0, 0), true, 2, 0⟩, by rw [k]; rfl, by simp [k], by simp [k]⟩
  · omega
theorem turn_step {p : api_Stitch} (h : okS p) (s : List api_Stitch) (hs : s.length ≤ 1000000000) (i : Int) : stitch_Turn_l2 s (i, p) = some (.inl (s ++ [othS p])) := by
  obtain ⟨f, f1, f2, f3⟩ := turn_form h
  unfold stitch_Turn_l2
  simp only [f1, Option.bind_some, f2, f3]
  rw [appO_of (by simp; omega)]
  rfl
/-- a list from its end on -/
def bkw {α : Type} (l : List α) : Nat → List (Int × α)
  | 0 => []
  | k + 1 => match l[k]? with
    | some x => ((k : Int), x) :: bkw l k
    | none => bkw l k
theorem bkw_fold {α β τ : Type} {B : List β → (Int × α) → Option (List β ⊕ τ)} (l : List α) (g : α → β) (m : Nat) (hB : ∀ s x i, x ∈ l → s.length ≤ m → B s (i, x) = some (.inl (s ++ [g x]))) : ∀ (k : Nat) (s : List β), k ≤ l.length → s.length + k ≤ m → foldO B s (bkw l k) = some (.inl (s ++ ((l.take k).map g).reverse)) := by
  intro k
  induction k with
  | zero => intro s _ _; simp [bkw, foldO]
  | succ k ih =>
    intro s hk hs
    have hx : l[k]? = some (l[k]'(by omega)) := List.getElem?_eq_getElem (by omega)
    simp only [bkw, hx, foldO]
    rw [hB s _ _ (List.getElem_mem _) (by omega)]
    simp only [Option.bind_some]
    rw [ih _ (by omega) (by simp; omega), take_one l (by omega), List.map_append, List.reverse_append, List.append_assoc]
    rfl
theorem back_loop {σ τ : Type} (l : List api_Stitch) (hl : l.length ≤ 1000000000) (B : σ → (Int × api_Stitch) → Option (σ ⊕ τ)) : ∀ (k : Nat) (z : σ), k ≤ l.length → (whileO (slices_Backward___api_Stitch_api_Stitch__1_l1 l B) ((k : Int) - 1, z)).bind fin3 = foldO B z (bkw l k) := by
  intro k
  induction k with
  | zero =>
    intro z _
    have : slices_Backward___api_Stitch_api_Stitch__1_l1 l B (((0 : Nat) : Int) - 1, z) = some (.inr (.inr z)) := by
      unfold slices_Backward___api_Stitch_api_Stitch__1_l1
      simp only [dF (show ¬ (0 : Int) ≤ ((0 : Nat) : Int) - 1 by omega), Bool.false_eq_true, if_false]
    rw [whileO_done this]
    rfl
  | succ k ih =>
    intro z hk
    have e : ((k + 1 : Nat) : Int) - 1 = (k : Int) := by omega
    have hx : l[k]? = some (l[k]'(by omega)) := List.getElem?_eq_getElem (by omega)
    have e1 : slices_Backward___api_Stitch_api_Stitch__1_l1 l B ((k : Int), z) = (B z ((k : Int), l[k]'(by omega))).bind fun y => match y with | .inl z' => some (.inl ((k : Int) - 1, z')) | .inr t => some (.inr (.inl (.inr t))) := by
      unfold slices_Backward___api_Stitch_api_Stitch__1_l1
      simp only [dT (show (0 : Int) ≤ (k : Int) by omega), if_true, idxO_nat (show k < l.length by omega), Option.bind_some, w64_of (show (-9223372036854775808 : Int) ≤ (k : Int) - 1 by omega) (by omega)]
      try congr 1
    simp only [bkw, hx]
    rw [e, whileO_eq, e1, foldO]
    cases hb : B z ((k : Int), l[k]'(by omega)) with
    | none => rfl
    | some y =>
      cases y with
      | inl z' => exact ih z' (by omega)
      | inr t => rfl
theorem backI_eq {σ τ : Type} (l : List api_Stitch) (hl : l.length ≤ 1000000000) (B : σ → (Int × api_Stitch) → Option (σ ⊕ τ)) (z : σ) : I_slices_Backward___api_Stitch_api_Stitch__1 l σ τ B z = foldO B z (bkw l l.length) := by
  rw [← back_loop l hl B l.length z (Nat.le_refl _)]
  unfold I_slices_Backward___api_Stitch_api_Stitch__1
  rw [w64_of (show (-9223372036854775808 : Int) ≤ (l.length : Int) - 1 by omega) (by omega)]
  try congr 1
theorem turn_eq {l : List api_Stitch} (hw : ∀ p, p ∈ l → wfS p) : F_stitch_Turn l = some (if allS l = 0 then ((l.map othS).reverse, 0) else ([], allS l)) := by
  unfold F_stitch_Turn F_slices_Backward___api_Stitch_api_Stitch_
  rw [all_eq hw]
  by_cases h : allS l = 0
  case neg => simp only [Option.bind_some, nT h, if_true, if_neg h]
  have hk := allS_ok h
  simp only [Option.bind_some, nF h, Bool.false_eq_true, if_false, capO_of (n := (l.length : Int)) (k := l.length) rfl (by omega), if_pos h]
  rw [backI_eq l (by omega), bkw_fold l othS 1000000000 (fun s x i hx hs => turn_step (hk.2.1 x hx) s hs i) l.length [] (Nat.le_refl _) (by simp; omega), List.take_length]
  rfl

end Go.Proofs.YtoiehdlcfehmlaaDoor
