import Derived.Test.YtmedbnjhgkcndaaGTy
import Derived.Test.YtmedbnjhgkcndaaG45
import Derived.Test.YtmedbnjhgkcndaaG46
namespace Go.Proofs.Ytmedbnjhgkcndaa
open Go.RowKit
set_option linter.unusedVariables false

noncomputable def piece_place_l1 (p1 : (List api_Point)) (p0 : api_Gauge) : (List api_Point × Int) → Option ((List api_Point × Int) ⊕ (((List api_Point) × Int) ⊕ (List api_Point))) := fun s0 => match s0 with
  | (s16, s19) =>
    if decide (s19 < (p1.length : Int)) then
      Option.bind (idxO p1 s19) fun x31 =>
      Option.bind (α := Int) (
        Option.bind (α := Bool) (
          if decide (x31.X < 0) then
            some (decide ((-1000000) ≤ x31.X))
          else
            some false) fun o41 =>
        if o41 then
          some (-1)
        else
          some 1) fun o38 =>
      Option.bind (F_gauge_Stitches p0 (w64 (o38 * x31.X))) fun r47 =>
      if r47.2 != 0 then
        some (.inr (.inl (([] : (List api_Point)), r47.2)))
      else
        Option.bind (F_gauge_Rows p0 x31.Y) fun r54 =>
        if r54.2 != 0 then
          some (.inr (.inl (([] : (List api_Point)), r54.2)))
        else
          Option.bind (appO s16 [(api_Point.mk (w64 (o38 * r47.1)) r54.1)]) fun l62 =>
          some (.inl (l62, w64 (s19 + 1)))
    else
      some (.inr (.inr s16))
noncomputable def F_piece_place (p0 : api_Gauge) (p1 : (List api_Point)) : Option ((List api_Point) × Int) :=
  Option.bind (capO (p1.length : Int)) fun z8 =>
  Option.bind (α := List api_Point ⊕ ((List api_Point) × Int)) (
    Option.bind (whileO (piece_place_l1 p1 p0) (([] : List api_Point), 0)) fun z0 => match z0 with
      | .inl z =>
        some (.inr z)
      | .inr e23 =>
        some (.inl e23)) fun z0 => match z0 with
    | .inl o10 =>
      some (o10, 0)
    | .inr z =>
      some z
def c_piece_place_val (r : ((List api_Point) × Int)) (x : Value) : Value := .tuple #[x, .int .i64 r.2]
def c_piece_place_D (r : ((List api_Point) × Int)) (x : Value) : List Fact := [fRep (rL r_api_Point) x r.1]
set_option maxHeartbeats 4000000 in
set_option maxRecDepth 100000 in
theorem c_piece_place (E : Nat → Prop) (w0 : World) (p0 : api_Gauge) (v0 : Value) (p1 : (List api_Point)) (v1 : Value) (r : ((List api_Point) × Int)) (h : F_piece_place p0 p1 = some r) (S : St0 E [] w0 w0 [] [fRep r_api_Gauge v0 p0, fRep (rL r_api_Point) v1 p1]) :
    Calls Try.prog 27 #[v0, v1] w0 (Ret (X := Value) E [] w0 (c_piece_place_val r) (fun _ => []) (c_piece_place_D r)) := by
  unfold F_piece_place at h
  obtain rfl : v0 = .agg #[.int .i64 p0.Stitches, .int .i64 p0.Width, .int .i64 p0.Rows, .int .i64 p0.Height] := S.know (i := 0) (e := fRep r_api_Gauge (v0) p0) (by kernel_rfl)
  obtain ⟨ad1, cp2, _, rfl, _⟩ := S.know (i := 1) (e := fRep (rL r_api_Point) (v1) p1) (by kernel_rfl)
  refine sEnter (args := [.agg #[.int .i64 p0.Stitches, .int .i64 p0.Width, .int .i64 p0.Rows, .int .i64 p0.Height], .slice ad1 p1.length cp2]) 62 Try.func27 rfl rfl (by simp) S (fun a S => ?_)
  refine sSeq (fun K3 hK3 => ?_)
  refine sRegion ?_
  refine sBox (v := .agg #[.int .i64 p0.Stitches, .int .i64 p0.Width, .int .i64 p0.Rows, .int .i64 p0.Height]) S (wN rfl) rfl (by kernel_rfl) [.int .i64 p0.Stitches, .int .i64 p0.Width, .int .i64 p0.Rows, .int .i64 p0.Height] rfl rfl (by decide) (fun a b4 w S => ?_)
  refine sMove (.slice none 0 0) S (wN rfl) (.inr rfl) (by kernel_rfl) rfl (by decide) (fun a S => ?_)
  refine sMove (.int .i64 0) S (wN rfl) (.inr rfl) (by kernel_rfl) rfl (by decide) (fun a S => ?_)
  refine leafL (leafT (hK3 _ _ ?_))
  refine sSeq (fun K5 hK5 => ?_)
  refine sRegion ?_
  refine sMove (.slice ad1 p1.length cp2) S (wN rfl) (.inl rfl) (by kernel_rfl) rfl (by decide) (fun a S => ?_)
  refine sLen (ad := ad1) (m := p1.length) (c := cp2) S (wN rfl) rfl Try.underlying24 (by kernel_rfl) rfl (by decide) (fun a S => ?_)
  obtain ⟨z8, hx9, h⟩ := bindSome h
  refine sMake0 r_api_Point (m := (p1.length : Int)) (u := z8) (.agg #[.int .i64 0, .int .i64 0]) 16 S (wN rfl) rfl Try.underlying24 (by kernel_rfl) (by decide) (by kernel_rfl) (by kernel_rfl) hx9 rfl (by decide) (fun a w ad6 cp7 S => ?_)
  refine sMove (.slice ad6 ([] : List api_Point).length cp7) S (wN rfl) (.inr rfl) (by kernel_rfl) rfl (by decide) (fun a S => ?_)
  refine leafL (leafT (hK5 _ _ ?_))
  obtain ⟨t13, h, g14⟩ := bindSome h
  refine sCut (fun a w => ∃ o10, .inl o10 = t13 ∧ ∃ ad11, ∃ cp12, St E [] w0 62 a w [(6, .slice ad11 o10.length cp12)] [eRow r_api_Point 75 (.slice ad11 o10.length cp12) o10] []) ?_ (fun a w hI => ?_)
  · refine sSeq (fun K15 hK15 => ?_)
    refine sRegion ?_
    refine sMove (.slice ad1 p1.length cp2) S (wN rfl) (.inl rfl) (by kernel_rfl) rfl (by decide) (fun a S => ?_)
    refine sLen (ad := ad1) (m := p1.length) (c := cp2) S (wN rfl) rfl Try.underlying24 (by kernel_rfl) rfl (by decide) (fun a S => ?_)
    refine sMove (.int .i64 0) S (wN rfl) (.inl rfl) (by kernel_rfl) rfl (by decide) (fun a S => ?_)
    refine leafL (leafT (hK15 _ _ ?_))
    refine wp_block ?_
    obtain ⟨t22, hl, g21⟩ := bindSome h
    refine sLoop hl (fun s0 a w => match s0 with | (s16, s19) => ∃ ad17, ∃ cp18, St E [] w0 62 a w [(2, .pointer (some ⟨b4, 0, none⟩)), (6, .slice ad17 s16.length cp18), (16, .slice ad1 p1.length cp2), (17, .int .i64 (p1.length : Int)), (18, .int .i64 s19)] [eBox b4 23 [.int .i64 p0.Stitches, .int .i64 p0.Width, .int .i64 p0.Rows, .int .i64 p0.Height], eRow r_api_Point 75 (.slice ad17 s16.length cp18) s16] [fRep (rL r_api_Point) (.slice ad1 p1.length cp2) p1]) ⟨ad6, cp7, S.fix [1, 0] [1] (by decide) (by kernel_rfl) (by kernel_rfl) (by kernel_rfl)⟩ ?_
    clear hl h
    intro s0 a w c0 hI h hu20
    obtain ⟨s16, s19⟩ := s0
    unfold piece_place_l1 at h
    dsimp only at h hI
    obtain ⟨ad17, cp18, S⟩ := hI
    refine sSeq (fun K26 hK26 => ?_)
    refine sRegion ?_
    refine sBin (.bool (decide (s19 < (p1.length : Int)))) S (wN rfl) rfl (by kernel_rfl) (by kernel_rfl) (bLt _ _ _ _ .i64 s19 (p1.length : Int)) rfl (by decide) (fun a S => ?_)
    refine leafL (leafT (hK26 _ _ ?_))
    refine sSeq (fun K27 hK27 => ?_)
    rcases iteSome h with ⟨hc28, h⟩ | ⟨hc28, h⟩
    · refine sCondT (b := decide (s19 < (p1.length : Int))) S (by kernel_rfl) hc28 ?_
      refine wp_skip (leafT (hK27 _ _ ?_))
      refine sSeq (fun K29 hK29 => ?_)
      refine wp_block ?_
      refine sSeq (fun K30 hK30 => ?_)
      refine sRegion ?_
      obtain ⟨x31, hx32, h⟩ := bindSome h
      obtain ⟨q33, hq34, S⟩ := pIdx (P := Try.prog) (r := r_api_Point) (v := .slice ad1 p1.length cp2) (xs := p1) (j := s19) 24 75 0 S Try.underlying24 (by kernel_rfl) (by kernel_rfl) hx32
      refine sIdxV (v := .slice ad1 p1.length cp2) (k := .i64) (j := s19) S (wN rfl) rfl (by kernel_rfl) (by kernel_rfl) hq34 rfl (by decide) (fun a S => ?_)
      obtain ⟨u35, S⟩ := pLoad (r := r_api_Point) (q := q33) (x := x31) 0 S (by kernel_rfl)
      obtain rfl : u35 = .agg #[.int .i64 x31.X, .int .i64 x31.Y] := S.mem.know (i := 1) (e := fRep r_api_Point (u35) x31) (by kernel_rfl)
      refine sLoadVN (vq := q33) 0 [.int .i64 x31.X, .int .i64 x31.Y] S (wN rfl) rfl (by kernel_rfl) (by kernel_rfl) (by kernel_rfl) (by kernel_rfl) rfl (by decide) (fun a S => ?_)
      refine sAlloc (.agg #[.int .i64 0, .int .i64 0]) S (wN rfl) rfl (by kernel_rfl) [.int .i64 0, .int .i64 0] rfl rfl (by decide) (fun a b36 w S => ?_)
      refine sStore (p := b36) (off := 0) (T := 75) (vs := [.int .i64 0, .int .i64 0]) (v := .agg #[.int .i64 x31.X, .int .i64 x31.Y]) 0 [.int .i64 x31.X, .int .i64 x31.Y] S (wN rfl) rfl (by kernel_rfl) (by kernel_rfl) rfl (by kernel_rfl) (by kernel_rfl) rfl (by simp) rfl (fun a w S => ?_)
      refine leafL (leafT (hK30 _ _ ?_))
      refine sSeq (fun K37 hK37 => ?_)
      refine sRegion ?_
      refine sMove (.int .i64 1) S (wN rfl) (.inr rfl) (by kernel_rfl) rfl (by decide) (fun a S => ?_)
      refine leafL (leafT (hK37 _ _ ?_))
      obtain ⟨t39, h, g40⟩ := bindSome h
      refine sCut (fun a w => ∃ o38, o38 = t39 ∧ St E [] w0 62 a w [(2, .pointer (some ⟨b4, 0, none⟩)), (6, .slice ad17 s16.length cp18), (8, .pointer (some ⟨b36, 0, none⟩)), (9, .int .i64 o38), (16, .slice ad1 p1.length cp2), (17, .int .i64 (p1.length : Int)), (18, .int .i64 s19)] [eBox b4 23 [.int .i64 p0.Stitches, .int .i64 p0.Width, .int .i64 p0.Rows, .int .i64 p0.Height], eBox b36 75 [.int .i64 x31.X, .int .i64 x31.Y], eRow r_api_Point 75 (.slice ad17 s16.length cp18) s16] [fRep (rL r_api_Point) (.slice ad1 p1.length cp2) p1]) ?_ (fun a w hI => ?_)
      · obtain ⟨t42, h, g43⟩ := bindSome h
        refine sCut (fun a w => ∃ o41, o41 = t42 ∧ St E [] w0 62 a w [(2, .pointer (some ⟨b4, 0, none⟩)), (6, .slice ad17 s16.length cp18), (8, .pointer (some ⟨b36, 0, none⟩)), (9, .int .i64 1), (16, .slice ad1 p1.length cp2), (17, .int .i64 (p1.length : Int)), (18, .int .i64 s19), (29, .bool o41)] [eBox b4 23 [.int .i64 p0.Stitches, .int .i64 p0.Width, .int .i64 p0.Rows, .int .i64 p0.Height], eBox b36 75 [.int .i64 x31.X, .int .i64 x31.Y], eRow r_api_Point 75 (.slice ad17 s16.length cp18) s16] [fRep (rL r_api_Point) (.slice ad1 p1.length cp2) p1]) ?_ (fun a w hI => ?_)
        · refine sRegion ?_
          refine sField (b := b36) (off := 0) 0 0 S (wN rfl) rfl (by kernel_rfl) (by kernel_rfl) rfl rfl (by decide) (fun a S => ?_)
          refine sLoad1 (p := b36) (off := 0) (T := 75) (vs := [.int .i64 x31.X, .int .i64 x31.Y]) 0 (.int .i64 x31.X) S (wN rfl) rfl (by kernel_rfl) (by kernel_rfl) (by kernel_rfl) rfl rfl (by decide) (fun a S => ?_)
          refine sBin (.bool (decide (x31.X < 0))) S (wN rfl) rfl (by kernel_rfl) (by kernel_rfl) (bLt _ _ _ _ .i64 x31.X 0) rfl (by decide) (fun a S => ?_)
          refine sMove (.bool (decide (x31.X < 0))) S (wN rfl) (.inl rfl) (by kernel_rfl) rfl (by decide) (fun a S => ?_)
          rcases iteSome h with ⟨hc44, h⟩ | ⟨hc44, h⟩
          · refine sField (b := b36) (off := 0) 0 0 S (wG (c := decide (x31.X < 0)) 3 true 25 rfl rfl (by kernel_rfl) hc44) rfl (by kernel_rfl) (by kernel_rfl) rfl rfl (by decide) (fun a S => ?_)
            refine sLoad1 (p := b36) (off := 0) (T := 75) (vs := [.int .i64 x31.X, .int .i64 x31.Y]) 0 (.int .i64 x31.X) S (wG (c := decide (x31.X < 0)) 3 true 25 rfl rfl (by kernel_rfl) hc44) rfl (by kernel_rfl) (by kernel_rfl) (by kernel_rfl) rfl rfl (by decide) (fun a S => ?_)
            refine sBin (.bool (decide ((-1000000) ≤ x31.X))) S (wG (c := decide (x31.X < 0)) 3 true 25 rfl rfl (by kernel_rfl) hc44) rfl (by kernel_rfl) (by kernel_rfl) (bGe _ _ _ _ .i64 x31.X (-1000000)) rfl (by decide) (fun a S => ?_)
            refine sPickT (b := decide (x31.X < 0)) (.bool (decide ((-1000000) ≤ x31.X))) S (wN rfl) rfl (by kernel_rfl) hc44 (by kernel_rfl) rfl (by decide) (fun a S => ?_)
            exact leafL (leafT (⟨decide ((-1000000) ≤ x31.X), Option.some.inj h, S.fix [1, 0, 2] [3] (by decide) (by kernel_rfl) (by kernel_rfl) (by kernel_rfl)⟩))
          · refine sSkip (c := decide (x31.X < 0)) 3 true 25 26 S rfl rfl (by kernel_rfl) hc44 rfl (by decide) (fun a S => ?_)
            refine sSkip (c := decide (x31.X < 0)) 3 true 25 27 S rfl rfl (by kernel_rfl) hc44 rfl (by decide) (fun a S => ?_)
            refine sSkip (c := decide (x31.X < 0)) 3 true 25 28 S rfl rfl (by kernel_rfl) hc44 rfl (by decide) (fun a S => ?_)
            refine sPickF (b := decide (x31.X < 0)) (.bool false) S (wN rfl) rfl (by kernel_rfl) hc44 (by kernel_rfl) rfl (by decide) (fun a S => ?_)
            exact leafL (leafT (⟨false, Option.some.inj h, S.fix [1, 0, 2] [3] (by decide) (by kernel_rfl) (by kernel_rfl) (by kernel_rfl)⟩))
        · obtain ⟨o41, rfl, S⟩ := hI
          have h := g43
          clear g43
          try dsimp only at h
          rcases iteSome h with ⟨hc45, h⟩ | ⟨hc45, h⟩
          · refine sCondT (b := o41) S (by kernel_rfl) hc45 ?_
            refine sRegion ?_
            refine sMove (.int .i64 (-1)) S (wN rfl) (.inr rfl) (by kernel_rfl) rfl (by decide) (fun a S => ?_)
            exact leafL (leafT (⟨(-1), Option.some.inj h, S.fix [0, 1, 2] [0] (by decide) (by kernel_rfl) (by kernel_rfl) (by kernel_rfl)⟩))
          · refine sCondF (b := o41) S (by kernel_rfl) hc45 ?_
            exact wp_skip (leafT (⟨1, Option.some.inj h, S.fix [0, 1, 2] [0] (by decide) (by kernel_rfl) (by kernel_rfl) (by kernel_rfl)⟩))
      · obtain ⟨o38, rfl, S⟩ := hI
        have h := g40
        clear g40
        try dsimp only at h
        refine sSeq (fun K46 hK46 => ?_)
        refine sRegion ?_
        refine sLoadN (p := b4) (off := 0) (T := 23) (vs := [.int .i64 p0.Stitches, .int .i64 p0.Width, .int .i64 p0.Rows, .int .i64 p0.Height]) 0 [.int .i64 p0.Stitches, .int .i64 p0.Width, .int .i64 p0.Rows, .int .i64 p0.Height] S (wN rfl) rfl (by kernel_rfl) (by kernel_rfl) (by kernel_rfl) (by kernel_rfl) rfl rfl (by decide) (fun a S => ?_)
        refine sMove (.int .i64 o38) S (wN rfl) (.inl rfl) (by kernel_rfl) rfl (by decide) (fun a S => ?_)
        refine sField (b := b36) (off := 0) 0 0 S (wN rfl) rfl (by kernel_rfl) (by kernel_rfl) rfl rfl (by decide) (fun a S => ?_)
        refine sLoad1 (p := b36) (off := 0) (T := 75) (vs := [.int .i64 x31.X, .int .i64 x31.Y]) 1 (.int .i64 x31.X) S (wN rfl) rfl (by kernel_rfl) (by kernel_rfl) (by kernel_rfl) rfl rfl (by decide) (fun a S => ?_)
        refine sBin (.int .i64 (w64 (o38 * x31.X))) S (wN rfl) rfl (by kernel_rfl) (by kernel_rfl) (bMul _ _ _ _ o38 x31.X) rfl (by decide) (fun a S => ?_)
        obtain ⟨r47, hx48, h⟩ := bindSome h
        have S1 := S.mem
        have S1 := S1.learn (fRep r_api_Gauge (.agg #[.int .i64 p0.Stitches, .int .i64 p0.Width, .int .i64 p0.Rows, .int .i64 p0.Height]) p0) rfl
        refine sCallQ (X := Unit) (f := 45) (vs := [.agg #[.int .i64 p0.Stitches, .int .i64 p0.Width, .int .i64 p0.Rows, .int .i64 p0.Height], .int .i64 (w64 (o38 * x31.X))]) (val := fun _ => .tuple #[.int .i64 r47.1, .int .i64 r47.2]) S (wN rfl) rfl callee45 (by kernel_rfl) (S1.quiet [0] (by kernel_rfl)) (fun E1 w1 S1 => c_gauge_Stitches E1 w1 p0 (.agg #[.int .i64 p0.Stitches, .int .i64 p0.Width, .int .i64 p0.Rows, .int .i64 p0.Height]) (w64 (o38 * x31.X)) r47 hx48 S1) rfl (by decide) (fun _ a w S => ?_)
        refine sMove (.tuple #[.int .i64 r47.1, .int .i64 r47.2]) S (wN rfl) (.inl rfl) (by kernel_rfl) rfl (by decide) (fun a S => ?_)
        refine sExtract (vs := [.int .i64 r47.1, .int .i64 r47.2]) (.int .i64 r47.1) S (wN rfl) rfl (by kernel_rfl) rfl rfl (by decide) (fun a S => ?_)
        refine sExtract (vs := [.int .i64 r47.1, .int .i64 r47.2]) (.int .i64 r47.2) S (wN rfl) rfl (by kernel_rfl) rfl rfl (by decide) (fun a S => ?_)
        refine sMove (.int .i64 r47.1) S (wN rfl) (.inr rfl) (by kernel_rfl) rfl (by decide) (fun a S => ?_)
        refine sMove (.int .i64 r47.2) S (wN rfl) (.inr rfl) (by kernel_rfl) rfl (by decide) (fun a S => ?_)
        refine leafL (leafT (hK46 _ _ ?_))
        refine sSeq (fun K49 hK49 => ?_)
        refine sSeq (fun K50 hK50 => ?_)
        refine sRegion ?_
        refine sMove (.int .i64 r47.2) S (wN rfl) (.inl rfl) (by kernel_rfl) rfl (by decide) (fun a S => ?_)
        refine sBin (.bool (r47.2 != 0)) S (wN rfl) rfl (by kernel_rfl) (by kernel_rfl) (bNe _ _ _ _ .i64 r47.2 0) rfl (by decide) (fun a S => ?_)
        refine leafL (leafT (hK50 _ _ ?_))
        rcases iteSome h with ⟨hc51, h⟩ | ⟨hc51, h⟩
        · refine sCondT (b := r47.2 != 0) S (by kernel_rfl) hc51 ?_
          refine sSeq (fun K52 hK52 => ?_)
          refine sRegion ?_
          refine sMove (.int .i64 r47.2) S (wN rfl) (.inl rfl) (by kernel_rfl) rfl (by decide) (fun a S => ?_)
          refine sMove (.slice none 0 0) S (wN rfl) (.inr rfl) (by kernel_rfl) rfl (by decide) (fun a S => ?_)
          refine sMove (.int .i64 r47.2) S (wN rfl) (.inr rfl) (by kernel_rfl) rfl (by decide) (fun a S => ?_)
          refine leafL (leafT (hK52 _ _ ?_))
          obtain rfl := Option.some.inj h
          obtain rfl := hu20 _ rfl
          have h := g21
          clear g21
          try dsimp only at h
          obtain rfl := Option.some.inj h
          have h := g14
          clear g14
          try dsimp only at h
          obtain rfl := Option.some.inj h
          have S := S.learn (fRep (rL r_api_Point) (.slice none 0 0) ([] : (List api_Point))) (rL_nil _ _ _)
          exact wp_ret (rThen (rBlock (rThen (rThen (rBlock (rThen (sRet (.tuple #[.slice none 0 0, .int .i64 r47.2]) S (rsl2 rfl (rvT (t := 4) (v := .slice none 0 0) S (by kernel_rfl)) (rvT (t := 5) (v := .int .i64 r47.2) S (by kernel_rfl))) ⟨(.slice none 0 0), rfl, S.mem.sel [] [0] (by decide) (by kernel_rfl) (by kernel_rfl)⟩)))))))
        · refine sCondF (b := r47.2 != 0) S (by kernel_rfl) hc51 ?_
          refine wp_skip (leafT (hK49 _ _ ?_))
          refine sSeq (fun K53 hK53 => ?_)
          refine sRegion ?_
          refine sLoadN (p := b4) (off := 0) (T := 23) (vs := [.int .i64 p0.Stitches, .int .i64 p0.Width, .int .i64 p0.Rows, .int .i64 p0.Height]) 0 [.int .i64 p0.Stitches, .int .i64 p0.Width, .int .i64 p0.Rows, .int .i64 p0.Height] S (wN rfl) rfl (by kernel_rfl) (by kernel_rfl) (by kernel_rfl) (by kernel_rfl) rfl rfl (by decide) (fun a S => ?_)
          refine sField (b := b36) (off := 0) 1 1 S (wN rfl) rfl (by kernel_rfl) (by kernel_rfl) rfl rfl (by decide) (fun a S => ?_)
          refine sLoad1 (p := b36) (off := 1) (T := 75) (vs := [.int .i64 x31.X, .int .i64 x31.Y]) 1 (.int .i64 x31.Y) S (wN rfl) rfl (by kernel_rfl) (by kernel_rfl) (by kernel_rfl) rfl rfl (by decide) (fun a S => ?_)
          obtain ⟨r54, hx55, h⟩ := bindSome h
          have S1 := S.mem
          have S1 := S1.learn (fRep r_api_Gauge (.agg #[.int .i64 p0.Stitches, .int .i64 p0.Width, .int .i64 p0.Rows, .int .i64 p0.Height]) p0) rfl
          refine sCallQ (X := Unit) (f := 46) (vs := [.agg #[.int .i64 p0.Stitches, .int .i64 p0.Width, .int .i64 p0.Rows, .int .i64 p0.Height], .int .i64 x31.Y]) (val := fun _ => .tuple #[.int .i64 r54.1, .int .i64 r54.2]) S (wN rfl) rfl callee46 (by kernel_rfl) (S1.quiet [0] (by kernel_rfl)) (fun E1 w1 S1 => c_gauge_Rows E1 w1 p0 (.agg #[.int .i64 p0.Stitches, .int .i64 p0.Width, .int .i64 p0.Rows, .int .i64 p0.Height]) x31.Y r54 hx55 S1) rfl (by decide) (fun _ a w S => ?_)
          refine sMove (.tuple #[.int .i64 r54.1, .int .i64 r54.2]) S (wN rfl) (.inl rfl) (by kernel_rfl) rfl (by decide) (fun a S => ?_)
          refine sExtract (vs := [.int .i64 r54.1, .int .i64 r54.2]) (.int .i64 r54.1) S (wN rfl) rfl (by kernel_rfl) rfl rfl (by decide) (fun a S => ?_)
          refine sExtract (vs := [.int .i64 r54.1, .int .i64 r54.2]) (.int .i64 r54.2) S (wN rfl) rfl (by kernel_rfl) rfl rfl (by decide) (fun a S => ?_)
          refine sMove (.int .i64 r54.1) S (wN rfl) (.inr rfl) (by kernel_rfl) rfl (by decide) (fun a S => ?_)
          refine sMove (.int .i64 r54.2) S (wN rfl) (.inr rfl) (by kernel_rfl) rfl (by decide) (fun a S => ?_)
          refine leafL (leafT (hK53 _ _ ?_))
          refine sSeq (fun K56 hK56 => ?_)
          refine sSeq (fun K57 hK57 => ?_)
          refine sRegion ?_
          refine sMove (.int .i64 r54.2) S (wN rfl) (.inl rfl) (by kernel_rfl) rfl (by decide) (fun a S => ?_)
          refine sBin (.bool (r54.2 != 0)) S (wN rfl) rfl (by kernel_rfl) (by kernel_rfl) (bNe _ _ _ _ .i64 r54.2 0) rfl (by decide) (fun a S => ?_)
          refine leafL (leafT (hK57 _ _ ?_))
          rcases iteSome h with ⟨hc58, h⟩ | ⟨hc58, h⟩
          · refine sCondT (b := r54.2 != 0) S (by kernel_rfl) hc58 ?_
            refine sSeq (fun K59 hK59 => ?_)
            refine sRegion ?_
            refine sMove (.int .i64 r54.2) S (wN rfl) (.inl rfl) (by kernel_rfl) rfl (by decide) (fun a S => ?_)
            refine sMove (.slice none 0 0) S (wN rfl) (.inr rfl) (by kernel_rfl) rfl (by decide) (fun a S => ?_)
            refine sMove (.int .i64 r54.2) S (wN rfl) (.inr rfl) (by kernel_rfl) rfl (by decide) (fun a S => ?_)
            refine leafL (leafT (hK59 _ _ ?_))
            obtain rfl := Option.some.inj h
            obtain rfl := hu20 _ rfl
            have h := g21
            clear g21
            try dsimp only at h
            obtain rfl := Option.some.inj h
            have h := g14
            clear g14
            try dsimp only at h
            obtain rfl := Option.some.inj h
            have S := S.learn (fRep (rL r_api_Point) (.slice none 0 0) ([] : (List api_Point))) (rL_nil _ _ _)
            exact wp_ret (rThen (rBlock (rThen (rThen (rBlock (rThen (sRet (.tuple #[.slice none 0 0, .int .i64 r54.2]) S (rsl2 rfl (rvT (t := 4) (v := .slice none 0 0) S (by kernel_rfl)) (rvT (t := 5) (v := .int .i64 r54.2) S (by kernel_rfl))) ⟨(.slice none 0 0), rfl, S.mem.sel [] [0] (by decide) (by kernel_rfl) (by kernel_rfl)⟩)))))))
          · refine sCondF (b := r54.2 != 0) S (by kernel_rfl) hc58 ?_
            refine wp_skip (leafT (hK56 _ _ ?_))
            refine sRegion ?_
            refine sMove (.slice ad17 s16.length cp18) S (wN rfl) (.inl rfl) (by kernel_rfl) rfl (by decide) (fun a S => ?_)
            refine sMove (.int .i64 o38) S (wN rfl) (.inl rfl) (by kernel_rfl) rfl (by decide) (fun a S => ?_)
            refine sMove (.int .i64 r47.1) S (wN rfl) (.inl rfl) (by kernel_rfl) rfl (by decide) (fun a S => ?_)
            refine sBin (.int .i64 (w64 (o38 * r47.1))) S (wN rfl) rfl (by kernel_rfl) (by kernel_rfl) (bMul _ _ _ _ o38 r47.1) rfl (by decide) (fun a S => ?_)
            refine sMove (.int .i64 r54.1) S (wN rfl) (.inl rfl) (by kernel_rfl) rfl (by decide) (fun a S => ?_)
            refine sBuild [(0, .int .i64 (w64 (o38 * r47.1))), (1, .int .i64 r54.1)] [.int .i64 (w64 (o38 * r47.1)), .int .i64 r54.1] S (wN rfl) rfl (by kernel_rfl) (by kernel_rfl) rfl (by decide) (fun a S => ?_)
            have S := S.learn (fRep r_api_Point (.agg #[.int .i64 (w64 (o38 * r47.1)), .int .i64 r54.1]) (api_Point.mk (w64 (o38 * r47.1)) r54.1)) rfl
            refine sLit (r := r_api_Point) (T := 75) (xs := [(api_Point.mk (w64 (o38 * r47.1)) r54.1)]) [(0, .agg #[.int .i64 (w64 (o38 * r47.1)), .int .i64 r54.1])] 1 [.agg #[.int .i64 (w64 (o38 * r47.1)), .int .i64 r54.1]] [.int .i64 (w64 (o38 * r47.1)), .int .i64 r54.1] (.agg #[.int .i64 0, .int .i64 0]) 16 S (wN rfl) rfl (by kernel_rfl) Try.underlying24 (by kernel_rfl) (by decide) (by decide) (by kernel_rfl) rfl (fun E1 w1 hE => All.cons (r_api_Point.mono hE (S.mem.know (i := 0) (e := fRep r_api_Point (.agg #[.int .i64 (w64 (o38 * r47.1)), .int .i64 r54.1]) (api_Point.mk (w64 (o38 * r47.1)) r54.1)) (by kernel_rfl))) (All.nil _ _ _)) rfl rfl (by decide) (fun a w ad60 cp61 S => ?_)
            obtain ⟨l62, hx63, h⟩ := bindSome h
            refine sApp (r := r_api_Point) (T := 75) (xs := s16) (ys := [(api_Point.mk (w64 (o38 * r47.1)) r54.1)]) (v := .slice ad17 s16.length cp18) (u := .slice ad60 [(api_Point.mk (w64 (o38 * r47.1)) r54.1)].length cp61) 3 (.agg #[.int .i64 0, .int .i64 0]) 16 S (wN rfl) rfl Try.underlying24 (by kernel_rfl) rfl (by decide) (by kernel_rfl) (by kernel_rfl) (by kernel_rfl) (src_R (T := 75) 0 S.mem (by kernel_rfl)) hx63 rfl (by decide) (fun a w ad64 cp65 S => ?_)
            refine sMove (.slice ad64 l62.length cp65) S (wN rfl) (.inr rfl) (by kernel_rfl) rfl (by decide) (fun a S => ?_)
            refine leafL (leafB (leafT (hK29 _ _ ?_)))
            refine sRegion ?_
            refine sBin (.int .i64 (w64 (s19 + 1))) S (wN rfl) rfl (by kernel_rfl) (by kernel_rfl) (bAdd _ _ _ _ s19 1) rfl (by decide) (fun a S => ?_)
            refine sMove (.int .i64 (w64 (s19 + 1))) S (wN rfl) (.inl rfl) (by kernel_rfl) rfl (by decide) (fun a S => ?_)
            exact leafL (leafT (⟨(l62, w64 (s19 + 1)), (Option.some.inj h).symm, ⟨ad64, cp65, S.fix [2, 0] [1] (by decide) (by kernel_rfl) (by kernel_rfl) (by kernel_rfl)⟩⟩))
    · refine sCondF (b := decide (s19 < (p1.length : Int))) S (by kernel_rfl) hc28 ?_
      obtain rfl := Option.some.inj h
      obtain rfl := hu20 _ rfl
      have h := g21
      clear g21
      try dsimp only at h
      exact wp_exit (xThen (xThen (xHit (leafT (⟨s16, Option.some.inj h, ad17, cp18, S.fix [1] [] (by decide) (by kernel_rfl) (by kernel_rfl) (by kernel_rfl)⟩)))))
  · obtain ⟨o10, rfl, ad11, cp12, S⟩ := hI
    have h := g14
    clear g14
    try dsimp only at h
    refine sSeq (fun K66 hK66 => ?_)
    refine sRegion ?_
    refine sMove (.slice ad11 o10.length cp12) S (wN rfl) (.inl rfl) (by kernel_rfl) rfl (by decide) (fun a S => ?_)
    refine sMove (.slice ad11 o10.length cp12) S (wN rfl) (.inr rfl) (by kernel_rfl) rfl (by decide) (fun a S => ?_)
    refine sMove (.int .i64 0) S (wN rfl) (.inr rfl) (by kernel_rfl) rfl (by decide) (fun a S => ?_)
    refine leafL (leafT (hK66 _ _ ?_))
    obtain rfl := Option.some.inj h
    have S := S.shutR (r := r_api_Point) (T := 75) (v := .slice ad11 o10.length cp12) (xs := o10) 0 (by kernel_rfl)
    exact wp_ret (sRet (.tuple #[.slice ad11 o10.length cp12, .int .i64 0]) S (rsl2 rfl (rvT (t := 4) (v := .slice ad11 o10.length cp12) S (by kernel_rfl)) (rvT (t := 5) (v := .int .i64 0) S (by kernel_rfl))) ⟨(.slice ad11 o10.length cp12), rfl, S.mem.sel [] [0] (by decide) (by kernel_rfl) (by kernel_rfl)⟩)

end Go.Proofs.Ytmedbnjhgkcndaa
