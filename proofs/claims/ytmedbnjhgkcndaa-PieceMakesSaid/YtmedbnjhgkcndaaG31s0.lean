import Derived.Test.YtmedbnjhgkcndaaGTy
import Derived.Test.YtmedbnjhgkcndaaG50s0
namespace Go.Proofs.Ytmedbnjhgkcndaa
open Go.RowKit
set_option linter.unusedVariables false

def anc_piece_columns_s0_0 : List (List Nat) := [[], [], [0, 1], [0, 1, 2], [0, 1, 2, 3], [], [5], [], [7], [], [], [9, 10], [9, 10, 11], [9, 10, 11, 12], [7, 8, 9, 10, 11, 12, 13], [0, 1, 2, 3, 4, 5, 6, 7, 8, 9, 10, 11, 12, 13, 14], [0, 1, 2, 3, 4, 5, 6, 7, 8, 9, 10, 11, 12, 13, 14, 15], [0, 1, 2, 3, 4, 5, 6, 7, 8, 9, 10, 11, 12, 13, 14, 15, 16], [0, 1, 2, 3, 4, 5, 6, 7, 8, 9, 10, 11, 12, 13, 14, 15, 16], [0, 1, 2, 3, 4, 5, 6, 7, 8, 9, 10, 11, 12, 13, 14, 15, 16, 17], [0, 1, 2, 3, 4, 5, 6, 7, 8, 9, 10, 11, 12, 13, 14, 15, 16, 17, 18, 19]]
noncomputable def piece_columns_s0_l1 (y20 : List api_Point) (p0 : (List api_Point)) : (List Int × Int) → Option ((List Int × Int) ⊕ List Int) := fun s0 => match s0 with
  | (s24, s27) =>
    if decide (s27 < (y20.length : Int)) then
      Option.bind (idxO y20 s27) fun x39 =>
      Option.bind (idxO p0 s27) fun x46 =>
      Option.bind (F_slope_Line_s0 x46.X x39.X (w64 (x39.Y - x46.Y))) fun r58 =>
      Option.bind (sliceO r58.1 1 (r58.1.length : Int)) fun y74 =>
      Option.bind (appO s24 y74) fun l78 =>
      some (.inl (l78, w64 (s27 + 1)))
    else
      some (.inr s24)
noncomputable def F_piece_columns_s0 (p0 : (List api_Point)) : Option (List Int) :=
  Option.bind (idxO p0 0) fun x5 =>
  Option.bind (α := List Int) (
    Option.bind (sliceO p0 1 (p0.length : Int)) fun y20 =>
    Option.bind (whileO (piece_columns_s0_l1 y20 p0) (([x5.X] : List Int), 0)) fun e31 =>
      some e31) fun o14 =>
  some o14
set_option maxHeartbeats 4000000 in
set_option maxRecDepth 100000 in
theorem c_piece_columns_s0 (E : Nat → Prop) (w0 : World) (p0 : (List api_Point)) (v0 : Value) (r : (List Int)) (h : F_piece_columns_s0 p0 = some r) (S : St0 E [] w0 w0 [] [fRep (rL r_api_Point) (v0) p0]) :
    Calls Try.prog 31 #[v0] w0 (Ret (X := Option Addr × Nat) E [] w0 (fun x => .slice x.1 r.length x.2) (fun x => [eRow (rI .i64) 3 (.slice x.1 r.length x.2) r]) (fun _ => [])) := by
  unfold F_piece_columns_s0 at h
  obtain ⟨ad1, cp2, _, rfl, _⟩ := S.know (i := 0) (e := fRep (rL r_api_Point) (v0) p0) (by kernel_rfl)
  refine sEnter (args := [.slice ad1 p0.length cp2]) 46 Try.func31 rfl rfl (by simp) S (fun a S => ?_)
  refine sSeq (fun K3 hK3 => ?_)
  refine sRegion ?_
  refine sMove (.slice none 0 0) S (wN rfl) (.inr rfl) (by kernel_rfl) rfl (by decide) (fun a S => ?_)
  refine leafL (leafT (hK3 _ _ ?_))
  refine sSeq (fun K4 hK4 => ?_)
  refine sRegion ?_
  refine sMove (.slice ad1 p0.length cp2) S (wN rfl) (.inl rfl) (by kernel_rfl) rfl (by decide) (fun a S => ?_)
  obtain ⟨x5, hx6, h⟩ := bindSome h
  obtain ⟨q7, hq8, S⟩ := pIdx (P := Try.prog) (r := r_api_Point) (v := .slice ad1 p0.length cp2) (xs := p0) (j := 0) 24 75 0 S Try.underlying24 (by kernel_rfl) (by kernel_rfl) hx6
  refine sIdxV (v := .slice ad1 p0.length cp2) (k := .i64) (j := 0) S (wN rfl) rfl (by kernel_rfl) (by kernel_rfl) hq8 rfl (by decide) (fun a S => ?_)
  obtain ⟨q9, hq10, S⟩ := pFld (P := Try.prog) (r := r_api_Point) (s2 := (rI .i64)) (g := (·.X)) (q := q7) (z := x5) 75 0 0 0 S (by kernel_rfl) (by kernel_rfl) comp_api_Point_X
  refine sFldV (q := q7) S (wN rfl) rfl (by kernel_rfl) hq10 rfl (by decide) (fun a S => ?_)
  obtain ⟨u11, S⟩ := pLoad (r := (rI .i64)) (q := q9) (x := x5.X) 0 S (by kernel_rfl)
  obtain rfl : u11 = .int .i64 x5.X := S.mem.know (i := 1) (e := fRep (rI .i64) (u11) x5.X) (by kernel_rfl)
  refine sLoadV1 (vq := q9) 0 (.int .i64 x5.X) S (wN rfl) rfl (by kernel_rfl) (by kernel_rfl) (by kernel_rfl) rfl (by decide) (fun a S => ?_)
  refine sLit (r := (rI .i64)) (T := 3) (xs := ([x5.X] : List Int)) [(0, .int .i64 x5.X)] 1 [.int .i64 x5.X] [.int .i64 x5.X] (.int .i64 0) 8 S (wN rfl) rfl (by kernel_rfl) Try.underlying34 (by kernel_rfl) (by decide) (by decide) (by kernel_rfl) rfl (fun E1 w1 hE => All.cons rfl (All.nil _ _ _)) rfl rfl (by decide) (fun a w ad12 cp13 S => ?_)
  refine sMove (.slice ad12 ([x5.X] : List Int).length cp13) S (wN rfl) (.inr rfl) (by kernel_rfl) rfl (by decide) (fun a S => ?_)
  refine leafL (leafT (hK4 _ _ ?_))
  obtain ⟨t17, h, g18⟩ := bindSome h
  refine sCut (fun a w => ∃ o14, o14 = t17 ∧ ∃ ad15, ∃ cp16, St E [] w0 46 a w [(3, .slice ad15 o14.length cp16)] [eRow (rI .i64) 3 (.slice ad15 o14.length cp16) o14] []) ?_ (fun a w hI => ?_)
  · refine sSeq (fun K19 hK19 => ?_)
    refine sRegion ?_
    refine sMove (.slice ad1 p0.length cp2) S (wN rfl) (.inl rfl) (by kernel_rfl) rfl (by decide) (fun a S => ?_)
    obtain ⟨y20, hx21, h⟩ := bindSome h
    refine sSlice (r := r_api_Point) (v := .slice ad1 p0.length cp2) (xs := p0) (vlo := (some (.int .i64 1))) (vhi := none) (lo' := 1) (hi' := (p0.length : Int)) 4 S (wN rfl) rfl Try.underlying24 (by kernel_rfl) (by kernel_rfl) (by kernel_rfl) (by kernel_rfl) (by kernel_rfl) (.inl rfl) (.inr ⟨rfl, rfl⟩) hx21 rfl (by decide) (fun a ad22 cp23 S => ?_)
    refine sLen (ad := ad22) (m := y20.length) (c := cp23) S (wN rfl) rfl Try.underlying24 (by kernel_rfl) rfl (by decide) (fun a S => ?_)
    refine sMove (.int .i64 0) S (wN rfl) (.inl rfl) (by kernel_rfl) rfl (by decide) (fun a S => ?_)
    refine leafL (leafT (hK19 _ _ ?_))
    refine wp_block ?_
    obtain ⟨t30, hl, g29⟩ := bindSome h
    refine sLoop hl (fun s0 a w => match s0 with | (s24, s27) => ∃ ad25, ∃ cp26, St E [] w0 46 a w [(0, .slice ad1 p0.length cp2), (3, .slice ad25 s24.length cp26), (14, .slice ad22 y20.length cp23), (15, .int .i64 (y20.length : Int)), (16, .int .i64 s27)] [eRow (rI .i64) 3 (.slice ad25 s24.length cp26) s24] [fRep (rL r_api_Point) (.slice ad1 p0.length cp2) p0, fRep (rL r_api_Point) (.slice ad22 y20.length cp23) y20]) ⟨ad12, cp13, S.fix [0] [5, 0] (by decide) (by kernel_rfl) (by kernel_rfl) (by kernel_rfl)⟩ ?_
    clear hl h
    intro s0 a w c0 hI h hu28
    obtain ⟨s24, s27⟩ := s0
    unfold piece_columns_s0_l1 at h
    dsimp only at h hI
    obtain ⟨ad25, cp26, S⟩ := hI
    refine sSeq (fun K34 hK34 => ?_)
    refine sRegion ?_
    refine sBin (.bool (decide (s27 < (y20.length : Int)))) S (wN rfl) rfl (by kernel_rfl) (by kernel_rfl) (bLt _ _ _ _ .i64 s27 (y20.length : Int)) rfl (by decide) (fun a S => ?_)
    refine leafL (leafT (hK34 _ _ ?_))
    refine sSeq (fun K35 hK35 => ?_)
    rcases iteSome h with ⟨hc36, h⟩ | ⟨hc36, h⟩
    · refine sCondT (b := decide (s27 < (y20.length : Int))) S (by kernel_rfl) hc36 ?_
      refine wp_skip (leafT (hK35 _ _ ?_))
      refine sSeq (fun K37 hK37 => ?_)
      refine wp_block ?_
      refine sSeq (fun K38 hK38 => ?_)
      refine sRegion ?_
      refine sMove (.int .i64 s27) S (wN rfl) (.inl rfl) (by kernel_rfl) rfl (by decide) (fun a S => ?_)
      obtain ⟨x39, hx40, h⟩ := bindSome h
      obtain ⟨q41, hq42, S⟩ := pIdx (P := Try.prog) (r := r_api_Point) (v := .slice ad22 y20.length cp23) (xs := y20) (j := s27) 24 75 1 S Try.underlying24 (by kernel_rfl) (by kernel_rfl) hx40
      refine sIdxV (v := .slice ad22 y20.length cp23) (k := .i64) (j := s27) S (wN rfl) rfl (by kernel_rfl) (by kernel_rfl) hq42 rfl (by decide) (fun a S => ?_)
      obtain ⟨u43, S⟩ := pLoad (r := r_api_Point) (q := q41) (x := x39) 0 S (by kernel_rfl)
      obtain rfl : u43 = .agg #[.int .i64 x39.X, .int .i64 x39.Y] := S.mem.know (i := 1) (e := fRep r_api_Point (u43) x39) (by kernel_rfl)
      refine sLoadVN (vq := q41) 0 [.int .i64 x39.X, .int .i64 x39.Y] S (wN rfl) rfl (by kernel_rfl) (by kernel_rfl) (by kernel_rfl) (by kernel_rfl) rfl (by decide) (fun a S => ?_)
      refine sAlloc (.agg #[.int .i64 0, .int .i64 0]) S (wN rfl) rfl (by kernel_rfl) [.int .i64 0, .int .i64 0] rfl rfl (by decide) (fun a b44 w S => ?_)
      refine sMove (.int .i64 s27) S (wN rfl) (.inr rfl) (by kernel_rfl) rfl (by decide) (fun a S => ?_)
      refine sStore (p := b44) (off := 0) (T := 75) (vs := [.int .i64 0, .int .i64 0]) (v := .agg #[.int .i64 x39.X, .int .i64 x39.Y]) 0 [.int .i64 x39.X, .int .i64 x39.Y] S (wN rfl) rfl (by kernel_rfl) (by kernel_rfl) rfl (by kernel_rfl) (by kernel_rfl) rfl (by simp) rfl (fun a w S => ?_)
      refine leafL (leafT (hK38 _ _ ?_))
      refine sSeq (fun K45 hK45 => ?_)
      obtain ⟨x46, hx47, h⟩ := bindSome h
      obtain ⟨r58, hx59, h⟩ := bindSome h
      obtain ⟨q62, hq63, S⟩ := pIdx (P := Try.prog) (r := r_api_Point) (v := .slice ad1 p0.length cp2) (xs := p0) (j := s27) 24 75 3 S Try.underlying24 (by kernel_rfl) (by kernel_rfl) hx47
      obtain ⟨q64, hq65, S⟩ := pFld (P := Try.prog) (r := r_api_Point) (s2 := (rI .i64)) (g := (·.X)) (q := q62) (z := x46) 75 0 0 0 S (by kernel_rfl) (by kernel_rfl) comp_api_Point_X
      obtain ⟨u66, S⟩ := pLoad (r := (rI .i64)) (q := q64) (x := x46.X) 0 S (by kernel_rfl)
      obtain rfl : u66 = .int .i64 x46.X := S.mem.know (i := 1) (e := fRep (rI .i64) (u66) x46.X) (by kernel_rfl)
      obtain ⟨q67, hq68, S⟩ := pIdx (P := Try.prog) (r := r_api_Point) (v := .slice ad1 p0.length cp2) (xs := p0) (j := s27) 24 75 7 S Try.underlying24 (by kernel_rfl) (by kernel_rfl) hx47
      obtain ⟨q69, hq70, S⟩ := pFld (P := Try.prog) (r := r_api_Point) (s2 := (rI .i64)) (g := (·.Y)) (q := q67) (z := x46) 75 1 0 1 S (by kernel_rfl) (by kernel_rfl) comp_api_Point_Y
      obtain ⟨u71, S⟩ := pLoad (r := (rI .i64)) (q := q69) (x := x46.Y) 0 S (by kernel_rfl)
      obtain rfl : u71 = .int .i64 x46.Y := S.mem.know (i := 1) (e := fRep (rI .i64) (u71) x46.Y) (by kernel_rfl)
      refine sDraw (nf := [15]) (W := [(0, 22, .slice ad1 p0.length cp2), (1, 23, .int .i64 s27), (2, 24, q62), (3, 25, q64), (4, 26, .int .i64 x46.X), (5, 27, .pointer (some ⟨b44, 0, none⟩)), (6, 28, .int .i64 x39.X), (7, 29, .pointer (some ⟨b44, 1, none⟩)), (8, 30, .int .i64 x39.Y), (9, 31, .slice ad1 p0.length cp2), (10, 32, .int .i64 s27), (11, 33, q67), (12, 34, q69), (13, 35, .int .i64 x46.Y), (14, 36, .int .i64 (w64 (x39.Y - x46.Y)))]) (by kernel_rfl) S ?_
      refine node_by (A := anc_piece_columns_s0_0) (nf := [15]) (Y := []) (W := [(0, 22, .slice ad1 p0.length cp2), (1, 23, .int .i64 s27), (2, 24, q62), (3, 25, q64), (4, 26, .int .i64 x46.X), (5, 27, .pointer (some ⟨b44, 0, none⟩)), (6, 28, .int .i64 x39.X), (7, 29, .pointer (some ⟨b44, 1, none⟩)), (8, 30, .int .i64 x39.Y), (9, 31, .slice ad1 p0.length cp2), (10, 32, .int .i64 s27), (11, 33, q67), (12, 34, q69), (13, 35, .int .i64 x46.Y), (14, 36, .int .i64 (w64 (x39.Y - x46.Y)))]) 21 (by kernel_rfl) (by kernel_rfl) (by kernel_rfl) (by kernel_rfl) (by kernel_rfl) [0, 1, 2, 3, 4, 5, 6, 7, 8, 9, 10, 11, 12, 13, 14] (by kernel_rfl) (by decide) (by decide) (aF 0 20 (by decide) ?_ (aF 1 19 (by decide) ?_ (aF 2 18 (by decide) ?_ (aF 3 17 (by decide) ?_ (aF 4 16 (by decide) ?_ (aF 5 15 (by decide) ?_ (aF 6 14 (by decide) ?_ (aF 7 13 (by decide) ?_ (aF 8 12 (by decide) ?_ (aF 9 11 (by decide) ?_ (aF 10 10 (by decide) ?_ (aF 11 9 (by decide) ?_ (aF 12 8 (by decide) ?_ (aF 13 7 (by decide) ?_ (aF 14 6 (by decide) ?_ (aN 15 5 (by decide) ?_ (aE 16 4 15 (by decide) (aE 17 3 15 (by decide) (aE 18 2 15 (by decide) (aE 19 1 15 (by decide) (aE 20 0 15 (by decide) (trivial)))))))))))))))))))))) [] (fun q hq => by cases hq) (fun hY => absurd (hY 15 (by decide)) (by decide))
      · refine fI 22 (.slice ad1 p0.length cp2) [(0, .slice ad1 p0.length cp2)] 0 [none] rfl rfl (by kernel_rfl) rfl (by kernel_rfl) (by kernel_rfl) fun G a w S => ?_
        refine sMove (.slice ad1 p0.length cp2) S (wN rfl) (.inl rfl) (by kernel_rfl) rfl (by decide) (fun a S => ?_)
        exact leafL ⟨rfl, S⟩
      · refine fI 23 (.int .i64 s27) [(4, .int .i64 s27)] 1 [none] rfl rfl (by kernel_rfl) rfl (by kernel_rfl) (by kernel_rfl) fun G a w S => ?_
        refine sMove (.int .i64 s27) S (wN rfl) (.inl rfl) (by kernel_rfl) rfl (by decide) (fun a S => ?_)
        exact leafL ⟨rfl, S⟩
      · refine fI 24 q62 [(22, .slice ad1 p0.length cp2), (23, .int .i64 s27)] 2 [some 0, some 1] rfl rfl (by kernel_rfl) rfl (by kernel_rfl) (by kernel_rfl) fun G a w S => ?_
        refine sIdxV (v := .slice ad1 p0.length cp2) (k := .i64) (j := s27) S (wN rfl) rfl (by kernel_rfl) (by kernel_rfl) hq63 rfl (by decide) (fun a S => ?_)
        exact leafL ⟨rfl, S⟩
      · refine fI 25 q64 [(24, q62)] 3 [some 2] rfl rfl (by kernel_rfl) rfl (by kernel_rfl) (by kernel_rfl) fun G a w S => ?_
        refine sFldV (q := q62) S (wN rfl) rfl (by kernel_rfl) hq65 rfl (by decide) (fun a S => ?_)
        exact leafL ⟨rfl, S⟩
      · refine fI 26 (.int .i64 x46.X) [(25, q64)] 4 [some 3] rfl rfl (by kernel_rfl) rfl (by kernel_rfl) (by kernel_rfl) fun G a w S => ?_
        refine sLoadV1 (vq := q64) 4 (.int .i64 x46.X) S (wN rfl) rfl (by kernel_rfl) (by kernel_rfl) (by kernel_rfl) rfl (by decide) (fun a S => ?_)
        exact leafL ⟨rfl, S⟩
      · refine fI 27 (.pointer (some ⟨b44, 0, none⟩)) [(5, .pointer (some ⟨b44, 0, none⟩))] 5 [none] rfl rfl (by kernel_rfl) rfl (by kernel_rfl) (by kernel_rfl) fun G a w S => ?_
        refine sField (b := b44) (off := 0) 0 0 S (wN rfl) rfl (by kernel_rfl) (by kernel_rfl) rfl rfl (by decide) (fun a S => ?_)
        exact leafL ⟨rfl, S⟩
      · refine fI 28 (.int .i64 x39.X) [(27, .pointer (some ⟨b44, 0, none⟩))] 6 [some 5] rfl rfl (by kernel_rfl) rfl (by kernel_rfl) (by kernel_rfl) fun G a w S => ?_
        refine sLoad1 (p := b44) (off := 0) (T := 75) (vs := [.int .i64 x39.X, .int .i64 x39.Y]) 0 (.int .i64 x39.X) S (wN rfl) rfl (by kernel_rfl) (by kernel_rfl) (by kernel_rfl) rfl rfl (by decide) (fun a S => ?_)
        exact leafL ⟨rfl, S⟩
      · refine fI 29 (.pointer (some ⟨b44, 1, none⟩)) [(5, .pointer (some ⟨b44, 0, none⟩))] 7 [none] rfl rfl (by kernel_rfl) rfl (by kernel_rfl) (by kernel_rfl) fun G a w S => ?_
        refine sField (b := b44) (off := 0) 1 1 S (wN rfl) rfl (by kernel_rfl) (by kernel_rfl) rfl rfl (by decide) (fun a S => ?_)
        exact leafL ⟨rfl, S⟩
      · refine fI 30 (.int .i64 x39.Y) [(29, .pointer (some ⟨b44, 1, none⟩))] 8 [some 7] rfl rfl (by kernel_rfl) rfl (by kernel_rfl) (by kernel_rfl) fun G a w S => ?_
        refine sLoad1 (p := b44) (off := 1) (T := 75) (vs := [.int .i64 x39.X, .int .i64 x39.Y]) 0 (.int .i64 x39.Y) S (wN rfl) rfl (by kernel_rfl) (by kernel_rfl) (by kernel_rfl) rfl rfl (by decide) (fun a S => ?_)
        exact leafL ⟨rfl, S⟩
      · refine fI 31 (.slice ad1 p0.length cp2) [(0, .slice ad1 p0.length cp2)] 9 [none] rfl rfl (by kernel_rfl) rfl (by kernel_rfl) (by kernel_rfl) fun G a w S => ?_
        refine sMove (.slice ad1 p0.length cp2) S (wN rfl) (.inl rfl) (by kernel_rfl) rfl (by decide) (fun a S => ?_)
        exact leafL ⟨rfl, S⟩
      · refine fI 32 (.int .i64 s27) [(4, .int .i64 s27)] 10 [none] rfl rfl (by kernel_rfl) rfl (by kernel_rfl) (by kernel_rfl) fun G a w S => ?_
        refine sMove (.int .i64 s27) S (wN rfl) (.inl rfl) (by kernel_rfl) rfl (by decide) (fun a S => ?_)
        exact leafL ⟨rfl, S⟩
      · refine fI 33 q67 [(31, .slice ad1 p0.length cp2), (32, .int .i64 s27)] 11 [some 9, some 10] rfl rfl (by kernel_rfl) rfl (by kernel_rfl) (by kernel_rfl) fun G a w S => ?_
        refine sIdxV (v := .slice ad1 p0.length cp2) (k := .i64) (j := s27) S (wN rfl) rfl (by kernel_rfl) (by kernel_rfl) hq68 rfl (by decide) (fun a S => ?_)
        exact leafL ⟨rfl, S⟩
      · refine fI 34 q69 [(33, q67)] 12 [some 11] rfl rfl (by kernel_rfl) rfl (by kernel_rfl) (by kernel_rfl) fun G a w S => ?_
        refine sFldV (q := q67) S (wN rfl) rfl (by kernel_rfl) hq70 rfl (by decide) (fun a S => ?_)
        exact leafL ⟨rfl, S⟩
      · refine fI 35 (.int .i64 x46.Y) [(34, q69)] 13 [some 12] rfl rfl (by kernel_rfl) rfl (by kernel_rfl) (by kernel_rfl) fun G a w S => ?_
        refine sLoadV1 (vq := q69) 0 (.int .i64 x46.Y) S (wN rfl) rfl (by kernel_rfl) (by kernel_rfl) (by kernel_rfl) rfl (by decide) (fun a S => ?_)
        exact leafL ⟨rfl, S⟩
      · refine fI 36 (.int .i64 (w64 (x39.Y - x46.Y))) [(30, .int .i64 x39.Y), (35, .int .i64 x46.Y)] 14 [some 8, some 13] rfl rfl (by kernel_rfl) rfl (by kernel_rfl) (by kernel_rfl) fun G a w S => ?_
        refine sBin (.int .i64 (w64 (x39.Y - x46.Y))) S (wN rfl) rfl (by kernel_rfl) (by kernel_rfl) (bSub _ _ _ _ x39.Y x46.Y) rfl (by decide) (fun a S => ?_)
        exact leafL ⟨rfl, S⟩
      · refine ⟨_, [(26, .int .i64 x46.X), (28, .int .i64 x39.X), (36, .int .i64 (w64 (x39.Y - x46.Y)))], rfl, (srcs_of [some 4, some 6, some 14] rfl (by kernel_rfl) (by kernel_rfl)), fun G a w S => ?_⟩
        refine sCall (X := Option Addr × Nat) (f := 50) (vs := [.int .i64 x46.X, .int .i64 x39.X, .int .i64 (w64 (x39.Y - x46.Y))]) (val := fun x => .tuple #[.slice x.1 r58.1.length x.2, .int .i64 r58.2]) (B' := fun x => [eRow (rI .i64) 3 (.slice x.1 r58.1.length x.2) r58.1]) (D' := fun _ => []) [] [eBox b44 75 [.int .i64 x39.X, .int .i64 x39.Y], eRow (rI .i64) 3 (.slice ad25 s24.length cp26) s24] [] [0, 1] [] S (wN rfl) rfl callee50 (by kernel_rfl) (by decide) (by kernel_rfl) (by kernel_rfl) (fun E1 w1 S1 => c_slope_Line_s0 E1 w1 x46.X x39.X (w64 (x39.Y - x46.Y)) r58 hx59 S1) rfl (by decide) (fun xx a w S => ?_)
        obtain ⟨ad72, cp73⟩ := xx
        dsimp only at S
        refine leafL ⟨rfl, _, _, .inl ⟨37, (.tuple #[.slice ad72 r58.1.length cp73, .int .i64 r58.2]), [(16, 21, .tuple #[.slice ad72 r58.1.length cp73, .int .i64 r58.2]), (17, 38, .slice ad72 r58.1.length cp73), (18, 39, .int .i64 r58.2), (19, 6, .slice ad72 r58.1.length cp73), (20, 7, .int .i64 r58.2)], rfl, S, hz_of (by kernel_rfl), ?_⟩⟩
        refine node_by (A := anc_piece_columns_s0_0) (nf := [15]) (Y := [15]) 21 (by kernel_rfl) (by kernel_rfl) (by kernel_rfl) (by kernel_rfl) (by kernel_rfl) [16, 17, 18, 19, 20, 15, 0, 1, 2, 3, 4, 5, 6, 7, 8, 9, 10, 11, 12, 13, 14] (by kernel_rfl) (by decide) (by decide) (aD 0 20 15 (by decide) (aD 1 19 15 (by decide) (aD 2 18 15 (by decide) (aD 3 17 15 (by decide) (aD 4 16 15 (by decide) (aD 5 15 15 (by decide) (aD 6 14 15 (by decide) (aD 7 13 15 (by decide) (aD 8 12 15 (by decide) (aD 9 11 15 (by decide) (aD 10 10 15 (by decide) (aD 11 9 15 (by decide) (aD 12 8 15 (by decide) (aD 13 7 15 (by decide) (aD 14 6 15 (by decide) (aY 15 5 (by decide) (aF 16 4 (by decide) ?_ (aF 17 3 (by decide) ?_ (aF 18 2 (by decide) ?_ (aF 19 1 (by decide) ?_ (aF 20 0 (by decide) ?_ (trivial)))))))))))))))))))))) [(0, .slice ad1 p0.length cp2), (3, .slice ad25 s24.length cp26), (6, .slice ad72 r58.1.length cp73), (14, .slice ad22 y20.length cp23), (15, .int .i64 (y20.length : Int)), (16, .int .i64 s27)] (fin_of [none, none, some 3, none, none, none] rfl (by kernel_rfl) (by kernel_rfl)) (fun _ a w S => ?_)
        · refine fI 21 (.tuple #[.slice ad72 r58.1.length cp73, .int .i64 r58.2]) [(37, .tuple #[.slice ad72 r58.1.length cp73, .int .i64 r58.2])] 0 [some 5] rfl rfl (by kernel_rfl) rfl (by kernel_rfl) (by kernel_rfl) fun G a w S => ?_
          refine sMove (.tuple #[.slice ad72 r58.1.length cp73, .int .i64 r58.2]) S (wN rfl) (.inl rfl) (by kernel_rfl) rfl (by decide) (fun a S => ?_)
          exact leafL ⟨rfl, S⟩
        · refine fI 38 (.slice ad72 r58.1.length cp73) [(21, .tuple #[.slice ad72 r58.1.length cp73, .int .i64 r58.2])] 1 [some 0] rfl rfl (by kernel_rfl) rfl (by kernel_rfl) (by kernel_rfl) fun G a w S => ?_
          refine sExtract (vs := [.slice ad72 r58.1.length cp73, .int .i64 r58.2]) (.slice ad72 r58.1.length cp73) S (wN rfl) rfl (by kernel_rfl) rfl rfl (by decide) (fun a S => ?_)
          exact leafL ⟨rfl, S⟩
        · refine fI 39 (.int .i64 r58.2) [(21, .tuple #[.slice ad72 r58.1.length cp73, .int .i64 r58.2])] 2 [some 0] rfl rfl (by kernel_rfl) rfl (by kernel_rfl) (by kernel_rfl) fun G a w S => ?_
          refine sExtract (vs := [.slice ad72 r58.1.length cp73, .int .i64 r58.2]) (.int .i64 r58.2) S (wN rfl) rfl (by kernel_rfl) rfl rfl (by decide) (fun a S => ?_)
          exact leafL ⟨rfl, S⟩
        · refine fI 6 (.slice ad72 r58.1.length cp73) [(38, .slice ad72 r58.1.length cp73)] 3 [some 1] rfl rfl (by kernel_rfl) rfl (by kernel_rfl) (by kernel_rfl) fun G a w S => ?_
          refine sMove (.slice ad72 r58.1.length cp73) S (wN rfl) (.inr rfl) (by kernel_rfl) rfl (by decide) (fun a S => ?_)
          exact leafL ⟨rfl, S⟩
        · refine fI 7 (.int .i64 r58.2) [(39, .int .i64 r58.2)] 4 [some 2] rfl rfl (by kernel_rfl) rfl (by kernel_rfl) (by kernel_rfl) fun G a w S => ?_
          refine sMove (.int .i64 r58.2) S (wN rfl) (.inr rfl) (by kernel_rfl) rfl (by decide) (fun a S => ?_)
          exact leafL ⟨rfl, S⟩
        · refine leafT (hK45 _ _ ?_)
          refine sRegion ?_
          refine sMove (.slice ad25 s24.length cp26) S (wN rfl) (.inl rfl) (by kernel_rfl) rfl (by decide) (fun a S => ?_)
          refine sMove (.slice ad72 r58.1.length cp73) S (wN rfl) (.inl rfl) (by kernel_rfl) rfl (by decide) (fun a S => ?_)
          have S := S.shutR (r := (rI .i64)) (T := 3) (v := .slice ad72 r58.1.length cp73) (xs := r58.1) 0 (by kernel_rfl)
          obtain ⟨y74, hx75, h⟩ := bindSome h
          refine sSlice (r := (rI .i64)) (v := .slice ad72 r58.1.length cp73) (xs := r58.1) (vlo := (some (.int .i64 1))) (vhi := none) (lo' := 1) (hi' := (r58.1.length : Int)) 0 S (wN rfl) rfl Try.underlying34 (by kernel_rfl) (by kernel_rfl) (by kernel_rfl) (by kernel_rfl) (by kernel_rfl) (.inl rfl) (.inr ⟨rfl, rfl⟩) hx75 rfl (by decide) (fun a ad76 cp77 S => ?_)
          obtain ⟨l78, hx79, h⟩ := bindSome h
          refine sApp (r := (rI .i64)) (T := 3) (xs := s24) (ys := y74) (v := .slice ad25 s24.length cp26) (u := .slice ad76 y74.length cp77) 1 (.int .i64 0) 8 S (wN rfl) rfl Try.underlying34 (by kernel_rfl) rfl (by decide) (by kernel_rfl) (by kernel_rfl) (by kernel_rfl) (src_D 0 S.mem (by kernel_rfl)) hx79 rfl (by decide) (fun a w ad80 cp81 S => ?_)
          refine sMove (.slice ad80 l78.length cp81) S (wN rfl) (.inr rfl) (by kernel_rfl) rfl (by decide) (fun a S => ?_)
          refine leafL (leafB (leafT (hK37 _ _ ?_)))
          refine sRegion ?_
          refine sBin (.int .i64 (w64 (s27 + 1))) S (wN rfl) rfl (by kernel_rfl) (by kernel_rfl) (bAdd _ _ _ _ s27 1) rfl (by decide) (fun a S => ?_)
          refine sMove (.int .i64 (w64 (s27 + 1))) S (wN rfl) (.inl rfl) (by kernel_rfl) rfl (by decide) (fun a S => ?_)
          exact leafL (leafT (⟨(l78, w64 (s27 + 1)), (Option.some.inj h).symm, ⟨ad80, cp81, S.fix [0] [13, 14] (by decide) (by kernel_rfl) (by kernel_rfl) (by kernel_rfl)⟩⟩))
    · refine sCondF (b := decide (s27 < (y20.length : Int))) S (by kernel_rfl) hc36 ?_
      obtain rfl := Option.some.inj h
      obtain rfl := hu28 _ rfl
      have h := g29
      clear g29
      try dsimp only at h
      exact wp_exit (xThen (xThen (xHit (leafT (⟨s24, Option.some.inj h, ad25, cp26, S.fix [0] [] (by decide) (by kernel_rfl) (by kernel_rfl) (by kernel_rfl)⟩)))))
  · obtain ⟨o14, rfl, ad15, cp16, S⟩ := hI
    have h := g18
    clear g18
    try dsimp only at h
    refine sSeq (fun K82 hK82 => ?_)
    refine sRegion ?_
    refine sMove (.slice ad15 o14.length cp16) S (wN rfl) (.inl rfl) (by kernel_rfl) rfl (by decide) (fun a S => ?_)
    refine sMove (.slice ad15 o14.length cp16) S (wN rfl) (.inr rfl) (by kernel_rfl) rfl (by decide) (fun a S => ?_)
    refine leafL (leafT (hK82 _ _ ?_))
    obtain rfl := Option.some.inj h
    exact wp_ret (sRet (.slice ad15 o14.length cp16) S (rsl1 rfl (rvT (t := 2) (v := .slice ad15 o14.length cp16) S (by kernel_rfl))) ⟨(ad15, cp16), rfl, S.mem.sel [0] [] (by decide) (by kernel_rfl) (by kernel_rfl)⟩)

end Go.Proofs.Ytmedbnjhgkcndaa
