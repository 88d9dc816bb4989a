import Derived.Test.YtmedbnjhgkcndaaGTy
import Derived.Test.YtmedbnjhgkcndaaG51s0
namespace Go.Proofs.Ytmedbnjhgkcndaa
open Go.RowKit
set_option linter.unusedVariables false

def anc_raddleref37_columns_s0_0 : List (List Nat) := [[], [], [1], [0, 1, 2], [0, 1, 2, 3], [0, 1, 2, 3, 4], [], [], [6, 7], [6, 7, 8], [6, 7, 8, 9], [], [], [11, 12], [11, 12, 13], [11, 12, 13, 14], [], [], [17], [16, 17, 18], [16, 17, 18, 19], [16, 17, 18, 19, 20], [11, 12, 13, 14, 15, 16, 17, 18, 19, 20, 21], [0, 1, 2, 3, 4, 5, 6, 7, 8, 9, 10, 11, 12, 13, 14, 15, 16, 17, 18, 19, 20, 21, 22], [0, 1, 2, 3, 4, 5, 6, 7, 8, 9, 10, 11, 12, 13, 14, 15, 16, 17, 18, 19, 20, 21, 22, 23], [0, 1, 2, 3, 4, 5, 6, 7, 8, 9, 10, 11, 12, 13, 14, 15, 16, 17, 18, 19, 20, 21, 22, 23, 24], [0, 1, 2, 3, 4, 5, 6, 7, 8, 9, 10, 11, 12, 13, 14, 15, 16, 17, 18, 19, 20, 21, 22, 23, 24], [0, 1, 2, 3, 4, 5, 6, 7, 8, 9, 10, 11, 12, 13, 14, 15, 16, 17, 18, 19, 20, 21, 22, 23, 24, 25], [0, 1, 2, 3, 4, 5, 6, 7, 8, 9, 10, 11, 12, 13, 14, 15, 16, 17, 18, 19, 20, 21, 22, 23, 24, 25, 26, 27]]
noncomputable def raddleref37_columns_s0_l1 (p0 : (List api_Point)) : (List Int × Int) → Option ((List Int × Int) ⊕ List Int) := fun s0 => match s0 with
  | (s20, s23) =>
    if decide (s23 < (p0.length : Int)) then
      Option.bind (idxO p0 (w64 (s23 - 1))) fun x35 =>
      Option.bind (idxO p0 s23) fun x42 =>
      Option.bind (F_raddleref36_Line_s0 x35.X x42.X (w64 (x42.Y - x35.Y))) fun r59 =>
      Option.bind (sliceO r59.1 1 (r59.1.length : Int)) fun y85 =>
      Option.bind (appO s20 y85) fun l89 =>
      some (.inl (l89, w64 (s23 + 1)))
    else
      some (.inr s20)
noncomputable def F_raddleref37_columns_s0 (p0 : (List api_Point)) : Option (List Int) :=
  Option.bind (idxO p0 0) fun x5 =>
  Option.bind (α := List Int) (
    Option.bind (whileO (raddleref37_columns_s0_l1 p0) (([x5.X] : List Int), 1)) fun e27 =>
      some e27) fun o14 =>
  some o14
set_option maxHeartbeats 4000000 in
set_option maxRecDepth 100000 in
theorem c_raddleref37_columns_s0 (E : Nat → Prop) (w0 : World) (p0 : (List api_Point)) (v0 : Value) (r : (List Int)) (h : F_raddleref37_columns_s0 p0 = some r) (S : St0 E [] w0 w0 [] [fRep (rL r_api_Point) (v0) p0]) :
    Calls Try.prog 32 #[v0] w0 (Ret (X := Option Addr × Nat) E [] w0 (fun x => .slice x.1 r.length x.2) (fun x => [eRow (rI .i64) 3 (.slice x.1 r.length x.2) r]) (fun _ => [])) := by
  unfold F_raddleref37_columns_s0 at h
  obtain ⟨ad1, cp2, _, rfl, _⟩ := S.know (i := 0) (e := fRep (rL r_api_Point) (v0) p0) (by kernel_rfl)
  refine sEnter (args := [.slice ad1 p0.length cp2]) 50 Try.func32 rfl rfl (by simp) S (fun a S => ?_)
  refine sSeq (fun K3 hK3 => ?_)
  refine sRegion ?_
  refine sMove (.slice none 0 0) S (wN rfl) (.inr rfl) (by kernel_rfl) rfl (by decide) (fun a S => ?_)
  refine leafL (leafT (hK3 _ _ ?_))
  refine sSeq (fun K4 hK4 => ?_)
  refine sRegion ?_
  refine sMove (.slice ad1 p0.length cp2) S (wN rfl) (.inl rfl) (by kernel_rfl) rfl (by decide) (fun a S => ?_)
  obtain ⟨x5, hx6, h⟩ := bindSome h
  obtain ⟨q7, hq8, S⟩ := pIdx (P := Try.prog) (r := r_api_Point) (v := .slice ad1 p0.length cp2) (xs := p0) (j := 0) 24 75 0 S Try.underlying24 (by kernel_rfl) (by kernel_rfl) hx6
  refine sIdxV (v := .slice ad1 p0.length cp2) (k := .i64) (j := 0) S (wN rfl) rfl (by kernel_rfl) (by kernel_rfl) hq8 rfl (by decide) (fun a S => ?_)
  obtain ⟨q9, hq10, S⟩ := pFld (P := Try.prog) (r := r_api_Point) (s2 := (rI .i64)) (g := (·.X)) (q := q7) (z := x5) 75 0 0 0 S (by kernel_rfl) (by kernel_rfl) comp_api_Point_X
  refine sFldV (q := q7) S (wN rfl) rfl (by kernel_rfl) hq10 rfl (by decide) (fun a S => ?_)
  obtain ⟨u11, S⟩ := pLoad (r := (rI .i64)) (q := q9) (x := x5.X) 0 S (by kernel_rfl)
  obtain rfl : u11 = .int .i64 x5.X := S.mem.know (i := 1) (e := fRep (rI .i64) (u11) x5.X) (by kernel_rfl)
  refine sLoadV1 (vq := q9) 0 (.int .i64 x5.X) S (wN rfl) rfl (by kernel_rfl) (by kernel_rfl) (by kernel_rfl) rfl (by decide) (fun a S => ?_)
  refine sLit (r := (rI .i64)) (T := 3) (xs := ([x5.X] : List Int)) [(0, .int .i64 x5.X)] 1 [.int .i64 x5.X] [.int .i64 x5.X] (.int .i64 0) 8 S (wN rfl) rfl (by kernel_rfl) Try.underlying34 (by kernel_rfl) (by decide) (by decide) (by kernel_rfl) rfl (fun E1 w1 hE => All.cons rfl (All.nil _ _ _)) rfl rfl (by decide) (fun a w ad12 cp13 S => ?_)
  refine sMove (.slice ad12 ([x5.X] : List Int).length cp13) S (wN rfl) (.inr rfl) (by kernel_rfl) rfl (by decide) (fun a S => ?_)
  refine leafL (leafT (hK4 _ _ ?_))
  obtain ⟨t17, h, g18⟩ := bindSome h
  refine sCut (fun a w => ∃ o14, o14 = t17 ∧ ∃ ad15, ∃ cp16, St E [] w0 50 a w [(3, .slice ad15 o14.length cp16)] [eRow (rI .i64) 3 (.slice ad15 o14.length cp16) o14] []) ?_ (fun a w hI => ?_)
  · refine sSeq (fun K19 hK19 => ?_)
    refine sRegion ?_
    refine sMove (.int .i64 1) S (wN rfl) (.inr rfl) (by kernel_rfl) rfl (by decide) (fun a S => ?_)
    refine leafL (leafT (hK19 _ _ ?_))
    refine wp_block ?_
    obtain ⟨t26, hl, g25⟩ := bindSome h
    refine sLoop hl (fun s0 a w => match s0 with | (s20, s23) => ∃ ad21, ∃ cp22, St E [] w0 50 a w [(0, .slice ad1 p0.length cp2), (3, .slice ad21 s20.length cp22), (4, .int .i64 s23)] [eRow (rI .i64) 3 (.slice ad21 s20.length cp22) s20] [fRep (rL r_api_Point) (.slice ad1 p0.length cp2) p0]) ⟨ad12, cp13, S.fix [0] [4] (by decide) (by kernel_rfl) (by kernel_rfl) (by kernel_rfl)⟩ ?_
    clear hl h
    intro s0 a w c0 hI h hu24
    obtain ⟨s20, s23⟩ := s0
    unfold raddleref37_columns_s0_l1 at h
    dsimp only at h hI
    obtain ⟨ad21, cp22, S⟩ := hI
    refine sSeq (fun K30 hK30 => ?_)
    refine sSeq (fun K31 hK31 => ?_)
    refine sRegion ?_
    refine sMove (.int .i64 s23) S (wN rfl) (.inl rfl) (by kernel_rfl) rfl (by decide) (fun a S => ?_)
    refine sMove (.slice ad1 p0.length cp2) S (wN rfl) (.inl rfl) (by kernel_rfl) rfl (by decide) (fun a S => ?_)
    refine sLen (ad := ad1) (m := p0.length) (c := cp2) S (wN rfl) rfl Try.underlying24 (by kernel_rfl) rfl (by decide) (fun a S => ?_)
    refine sBin (.bool (decide (s23 < (p0.length : Int)))) S (wN rfl) rfl (by kernel_rfl) (by kernel_rfl) (bLt _ _ _ _ .i64 s23 (p0.length : Int)) rfl (by decide) (fun a S => ?_)
    refine leafL (leafT (hK31 _ _ ?_))
    rcases iteSome h with ⟨hc32, h⟩ | ⟨hc32, h⟩
    · refine sCondT (b := decide (s23 < (p0.length : Int))) S (by kernel_rfl) hc32 ?_
      refine wp_skip (leafT (hK30 _ _ ?_))
      refine sSeq (fun K33 hK33 => ?_)
      refine wp_block ?_
      refine sSeq (fun K34 hK34 => ?_)
      obtain ⟨x35, hx36, h⟩ := bindSome h
      obtain ⟨x42, hx43, h⟩ := bindSome h
      obtain ⟨r59, hx60, h⟩ := bindSome h
      obtain ⟨q63, hq64, S⟩ := pIdx (P := Try.prog) (r := r_api_Point) (v := .slice ad1 p0.length cp2) (xs := p0) (j := w64 (s23 - 1)) 24 75 0 S Try.underlying24 (by kernel_rfl) (by kernel_rfl) hx36
      obtain ⟨q65, hq66, S⟩ := pFld (P := Try.prog) (r := r_api_Point) (s2 := (rI .i64)) (g := (·.X)) (q := q63) (z := x35) 75 0 0 0 S (by kernel_rfl) (by kernel_rfl) comp_api_Point_X
      obtain ⟨u67, S⟩ := pLoad (r := (rI .i64)) (q := q65) (x := x35.X) 0 S (by kernel_rfl)
      obtain rfl : u67 = .int .i64 x35.X := S.mem.know (i := 1) (e := fRep (rI .i64) (u67) x35.X) (by kernel_rfl)
      obtain ⟨q68, hq69, S⟩ := pIdx (P := Try.prog) (r := r_api_Point) (v := .slice ad1 p0.length cp2) (xs := p0) (j := s23) 24 75 4 S Try.underlying24 (by kernel_rfl) (by kernel_rfl) hx43
      obtain ⟨q70, hq71, S⟩ := pFld (P := Try.prog) (r := r_api_Point) (s2 := (rI .i64)) (g := (·.X)) (q := q68) (z := x42) 75 0 0 0 S (by kernel_rfl) (by kernel_rfl) comp_api_Point_X
      obtain ⟨u72, S⟩ := pLoad (r := (rI .i64)) (q := q70) (x := x42.X) 0 S (by kernel_rfl)
      obtain rfl : u72 = .int .i64 x42.X := S.mem.know (i := 1) (e := fRep (rI .i64) (u72) x42.X) (by kernel_rfl)
      obtain ⟨q73, hq74, S⟩ := pIdx (P := Try.prog) (r := r_api_Point) (v := .slice ad1 p0.length cp2) (xs := p0) (j := s23) 24 75 8 S Try.underlying24 (by kernel_rfl) (by kernel_rfl) hx43
      obtain ⟨q75, hq76, S⟩ := pFld (P := Try.prog) (r := r_api_Point) (s2 := (rI .i64)) (g := (·.Y)) (q := q73) (z := x42) 75 1 0 1 S (by kernel_rfl) (by kernel_rfl) comp_api_Point_Y
      obtain ⟨u77, S⟩ := pLoad (r := (rI .i64)) (q := q75) (x := x42.Y) 0 S (by kernel_rfl)
      obtain rfl : u77 = .int .i64 x42.Y := S.mem.know (i := 1) (e := fRep (rI .i64) (u77) x42.Y) (by kernel_rfl)
      obtain ⟨q78, hq79, S⟩ := pIdx (P := Try.prog) (r := r_api_Point) (v := .slice ad1 p0.length cp2) (xs := p0) (j := w64 (s23 - 1)) 24 75 12 S Try.underlying24 (by kernel_rfl) (by kernel_rfl) hx36
      obtain ⟨q80, hq81, S⟩ := pFld (P := Try.prog) (r := r_api_Point) (s2 := (rI .i64)) (g := (·.Y)) (q := q78) (z := x35) 75 1 0 1 S (by kernel_rfl) (by kernel_rfl) comp_api_Point_Y
      obtain ⟨u82, S⟩ := pLoad (r := (rI .i64)) (q := q80) (x := x35.Y) 0 S (by kernel_rfl)
      obtain rfl : u82 = .int .i64 x35.Y := S.mem.know (i := 1) (e := fRep (rI .i64) (u82) x35.Y) (by kernel_rfl)
      refine sDraw (nf := [23]) (W := [(0, 19, .slice ad1 p0.length cp2), (1, 20, .int .i64 s23), (2, 21, .int .i64 (w64 (s23 - 1))), (3, 22, q63), (4, 23, q65), (5, 24, .int .i64 x35.X), (6, 25, .slice ad1 p0.length cp2), (7, 26, .int .i64 s23), (8, 27, q68), (9, 28, q70), (10, 29, .int .i64 x42.X), (11, 30, .slice ad1 p0.length cp2), (12, 31, .int .i64 s23), (13, 32, q73), (14, 33, q75), (15, 34, .int .i64 x42.Y), (16, 35, .slice ad1 p0.length cp2), (17, 36, .int .i64 s23), (18, 37, .int .i64 (w64 (s23 - 1))), (19, 38, q78), (20, 39, q80), (21, 40, .int .i64 x35.Y), (22, 41, .int .i64 (w64 (x42.Y - x35.Y)))]) (by kernel_rfl) S ?_
      refine node_by (A := anc_raddleref37_columns_s0_0) (nf := [23]) (Y := []) (W := [(0, 19, .slice ad1 p0.length cp2), (1, 20, .int .i64 s23), (2, 21, .int .i64 (w64 (s23 - 1))), (3, 22, q63), (4, 23, q65), (5, 24, .int .i64 x35.X), (6, 25, .slice ad1 p0.length cp2), (7, 26, .int .i64 s23), (8, 27, q68), (9, 28, q70), (10, 29, .int .i64 x42.X), (11, 30, .slice ad1 p0.length cp2), (12, 31, .int .i64 s23), (13, 32, q73), (14, 33, q75), (15, 34, .int .i64 x42.Y), (16, 35, .slice ad1 p0.length cp2), (17, 36, .int .i64 s23), (18, 37, .int .i64 (w64 (s23 - 1))), (19, 38, q78), (20, 39, q80), (21, 40, .int .i64 x35.Y), (22, 41, .int .i64 (w64 (x42.Y - x35.Y)))]) 29 (by kernel_rfl) (by kernel_rfl) (by kernel_rfl) (by kernel_rfl) (by kernel_rfl) [0, 1, 2, 3, 4, 5, 6, 7, 8, 9, 10, 11, 12, 13, 14, 15, 16, 17, 18, 19, 20, 21, 22] (by kernel_rfl) (by decide) (by decide) (aF 0 28 (by decide) ?_ (aF 1 27 (by decide) ?_ (aF 2 26 (by decide) ?_ (aF 3 25 (by decide) ?_ (aF 4 24 (by decide) ?_ (aF 5 23 (by decide) ?_ (aF 6 22 (by decide) ?_ (aF 7 21 (by decide) ?_ (aF 8 20 (by decide) ?_ (aF 9 19 (by decide) ?_ (aF 10 18 (by decide) ?_ (aF 11 17 (by decide) ?_ (aF 12 16 (by decide) ?_ (aF 13 15 (by decide) ?_ (aF 14 14 (by decide) ?_ (aF 15 13 (by decide) ?_ (aF 16 12 (by decide) ?_ (aF 17 11 (by decide) ?_ (aF 18 10 (by decide) ?_ (aF 19 9 (by decide) ?_ (aF 20 8 (by decide) ?_ (aF 21 7 (by decide) ?_ (aF 22 6 (by decide) ?_ (aN 23 5 (by decide) ?_ (aE 24 4 23 (by decide) (aE 25 3 23 (by decide) (aE 26 2 23 (by decide) (aE 27 1 23 (by decide) (aE 28 0 23 (by decide) (trivial)))))))))))))))))))))))))))))) [] (fun q hq => by cases hq) (fun hY => absurd (hY 23 (by decide)) (by decide))
      · refine fI 19 (.slice ad1 p0.length cp2) [(0, .slice ad1 p0.length cp2)] 0 [none] rfl rfl (by kernel_rfl) rfl (by kernel_rfl) (by kernel_rfl) fun G a w S => ?_
        refine sMove (.slice ad1 p0.length cp2) S (wN rfl) (.inl rfl) (by kernel_rfl) rfl (by decide) (fun a S => ?_)
        exact leafL ⟨rfl, S⟩
      · refine fI 20 (.int .i64 s23) [(4, .int .i64 s23)] 1 [none] rfl rfl (by kernel_rfl) rfl (by kernel_rfl) (by kernel_rfl) fun G a w S => ?_
        refine sMove (.int .i64 s23) S (wN rfl) (.inl rfl) (by kernel_rfl) rfl (by decide) (fun a S => ?_)
        exact leafL ⟨rfl, S⟩
      · refine fI 21 (.int .i64 (w64 (s23 - 1))) [(20, .int .i64 s23)] 2 [some 1] rfl rfl (by kernel_rfl) rfl (by kernel_rfl) (by kernel_rfl) fun G a w S => ?_
        refine sBin (.int .i64 (w64 (s23 - 1))) S (wN rfl) rfl (by kernel_rfl) (by kernel_rfl) (bSub _ _ _ _ s23 1) rfl (by decide) (fun a S => ?_)
        exact leafL ⟨rfl, S⟩
      · refine fI 22 q63 [(19, .slice ad1 p0.length cp2), (21, .int .i64 (w64 (s23 - 1)))] 3 [some 0, some 2] rfl rfl (by kernel_rfl) rfl (by kernel_rfl) (by kernel_rfl) fun G a w S => ?_
        refine sIdxV (v := .slice ad1 p0.length cp2) (k := .i64) (j := w64 (s23 - 1)) S (wN rfl) rfl (by kernel_rfl) (by kernel_rfl) hq64 rfl (by decide) (fun a S => ?_)
        exact leafL ⟨rfl, S⟩
      · refine fI 23 q65 [(22, q63)] 4 [some 3] rfl rfl (by kernel_rfl) rfl (by kernel_rfl) (by kernel_rfl) fun G a w S => ?_
        refine sFldV (q := q63) S (wN rfl) rfl (by kernel_rfl) hq66 rfl (by decide) (fun a S => ?_)
        exact leafL ⟨rfl, S⟩
      · refine fI 24 (.int .i64 x35.X) [(23, q65)] 5 [some 4] rfl rfl (by kernel_rfl) rfl (by kernel_rfl) (by kernel_rfl) fun G a w S => ?_
        refine sLoadV1 (vq := q65) 12 (.int .i64 x35.X) S (wN rfl) rfl (by kernel_rfl) (by kernel_rfl) (by kernel_rfl) rfl (by decide) (fun a S => ?_)
        exact leafL ⟨rfl, S⟩
      · refine fI 25 (.slice ad1 p0.length cp2) [(0, .slice ad1 p0.length cp2)] 6 [none] rfl rfl (by kernel_rfl) rfl (by kernel_rfl) (by kernel_rfl) fun G a w S => ?_
        refine sMove (.slice ad1 p0.length cp2) S (wN rfl) (.inl rfl) (by kernel_rfl) rfl (by decide) (fun a S => ?_)
        exact leafL ⟨rfl, S⟩
      · refine fI 26 (.int .i64 s23) [(4, .int .i64 s23)] 7 [none] rfl rfl (by kernel_rfl) rfl (by kernel_rfl) (by kernel_rfl) fun G a w S => ?_
        refine sMove (.int .i64 s23) S (wN rfl) (.inl rfl) (by kernel_rfl) rfl (by decide) (fun a S => ?_)
        exact leafL ⟨rfl, S⟩
      · refine fI 27 q68 [(25, .slice ad1 p0.length cp2), (26, .int .i64 s23)] 8 [some 6, some 7] rfl rfl (by kernel_rfl) rfl (by kernel_rfl) (by kernel_rfl) fun G a w S => ?_
        refine sIdxV (v := .slice ad1 p0.length cp2) (k := .i64) (j := s23) S (wN rfl) rfl (by kernel_rfl) (by kernel_rfl) hq69 rfl (by decide) (fun a S => ?_)
        exact leafL ⟨rfl, S⟩
      · refine fI 28 q70 [(27, q68)] 9 [some 8] rfl rfl (by kernel_rfl) rfl (by kernel_rfl) (by kernel_rfl) fun G a w S => ?_
        refine sFldV (q := q68) S (wN rfl) rfl (by kernel_rfl) hq71 rfl (by decide) (fun a S => ?_)
        exact leafL ⟨rfl, S⟩
      · refine fI 29 (.int .i64 x42.X) [(28, q70)] 10 [some 9] rfl rfl (by kernel_rfl) rfl (by kernel_rfl) (by kernel_rfl) fun G a w S => ?_
        refine sLoadV1 (vq := q70) 8 (.int .i64 x42.X) S (wN rfl) rfl (by kernel_rfl) (by kernel_rfl) (by kernel_rfl) rfl (by decide) (fun a S => ?_)
        exact leafL ⟨rfl, S⟩
      · refine fI 30 (.slice ad1 p0.length cp2) [(0, .slice ad1 p0.length cp2)] 11 [none] rfl rfl (by kernel_rfl) rfl (by kernel_rfl) (by kernel_rfl) fun G a w S => ?_
        refine sMove (.slice ad1 p0.length cp2) S (wN rfl) (.inl rfl) (by kernel_rfl) rfl (by decide) (fun a S => ?_)
        exact leafL ⟨rfl, S⟩
      · refine fI 31 (.int .i64 s23) [(4, .int .i64 s23)] 12 [none] rfl rfl (by kernel_rfl) rfl (by kernel_rfl) (by kernel_rfl) fun G a w S => ?_
        refine sMove (.int .i64 s23) S (wN rfl) (.inl rfl) (by kernel_rfl) rfl (by decide) (fun a S => ?_)
        exact leafL ⟨rfl, S⟩
      · refine fI 32 q73 [(30, .slice ad1 p0.length cp2), (31, .int .i64 s23)] 13 [some 11, some 12] rfl rfl (by kernel_rfl) rfl (by kernel_rfl) (by kernel_rfl) fun G a w S => ?_
        refine sIdxV (v := .slice ad1 p0.length cp2) (k := .i64) (j := s23) S (wN rfl) rfl (by kernel_rfl) (by kernel_rfl) hq74 rfl (by decide) (fun a S => ?_)
        exact leafL ⟨rfl, S⟩
      · refine fI 33 q75 [(32, q73)] 14 [some 13] rfl rfl (by kernel_rfl) rfl (by kernel_rfl) (by kernel_rfl) fun G a w S => ?_
        refine sFldV (q := q73) S (wN rfl) rfl (by kernel_rfl) hq76 rfl (by decide) (fun a S => ?_)
        exact leafL ⟨rfl, S⟩
      · refine fI 34 (.int .i64 x42.Y) [(33, q75)] 15 [some 14] rfl rfl (by kernel_rfl) rfl (by kernel_rfl) (by kernel_rfl) fun G a w S => ?_
        refine sLoadV1 (vq := q75) 4 (.int .i64 x42.Y) S (wN rfl) rfl (by kernel_rfl) (by kernel_rfl) (by kernel_rfl) rfl (by decide) (fun a S => ?_)
        exact leafL ⟨rfl, S⟩
      · refine fI 35 (.slice ad1 p0.length cp2) [(0, .slice ad1 p0.length cp2)] 16 [none] rfl rfl (by kernel_rfl) rfl (by kernel_rfl) (by kernel_rfl) fun G a w S => ?_
        refine sMove (.slice ad1 p0.length cp2) S (wN rfl) (.inl rfl) (by kernel_rfl) rfl (by decide) (fun a S => ?_)
        exact leafL ⟨rfl, S⟩
      · refine fI 36 (.int .i64 s23) [(4, .int .i64 s23)] 17 [none] rfl rfl (by kernel_rfl) rfl (by kernel_rfl) (by kernel_rfl) fun G a w S => ?_
        refine sMove (.int .i64 s23) S (wN rfl) (.inl rfl) (by kernel_rfl) rfl (by decide) (fun a S => ?_)
        exact leafL ⟨rfl, S⟩
      · refine fI 37 (.int .i64 (w64 (s23 - 1))) [(36, .int .i64 s23)] 18 [some 17] rfl rfl (by kernel_rfl) rfl (by kernel_rfl) (by kernel_rfl) fun G a w S => ?_
        refine sBin (.int .i64 (w64 (s23 - 1))) S (wN rfl) rfl (by kernel_rfl) (by kernel_rfl) (bSub _ _ _ _ s23 1) rfl (by decide) (fun a S => ?_)
        exact leafL ⟨rfl, S⟩
      · refine fI 38 q78 [(35, .slice ad1 p0.length cp2), (37, .int .i64 (w64 (s23 - 1)))] 19 [some 16, some 18] rfl rfl (by kernel_rfl) rfl (by kernel_rfl) (by kernel_rfl) fun G a w S => ?_
        refine sIdxV (v := .slice ad1 p0.length cp2) (k := .i64) (j := w64 (s23 - 1)) S (wN rfl) rfl (by kernel_rfl) (by kernel_rfl) hq79 rfl (by decide) (fun a S => ?_)
        exact leafL ⟨rfl, S⟩
      · refine fI 39 q80 [(38, q78)] 20 [some 19] rfl rfl (by kernel_rfl) rfl (by kernel_rfl) (by kernel_rfl) fun G a w S => ?_
        refine sFldV (q := q78) S (wN rfl) rfl (by kernel_rfl) hq81 rfl (by decide) (fun a S => ?_)
        exact leafL ⟨rfl, S⟩
      · refine fI 40 (.int .i64 x35.Y) [(39, q80)] 21 [some 20] rfl rfl (by kernel_rfl) rfl (by kernel_rfl) (by kernel_rfl) fun G a w S => ?_
        refine sLoadV1 (vq := q80) 0 (.int .i64 x35.Y) S (wN rfl) rfl (by kernel_rfl) (by kernel_rfl) (by kernel_rfl) rfl (by decide) (fun a S => ?_)
        exact leafL ⟨rfl, S⟩
      · refine fI 41 (.int .i64 (w64 (x42.Y - x35.Y))) [(34, .int .i64 x42.Y), (40, .int .i64 x35.Y)] 22 [some 15, some 21] rfl rfl (by kernel_rfl) rfl (by kernel_rfl) (by kernel_rfl) fun G a w S => ?_
        refine sBin (.int .i64 (w64 (x42.Y - x35.Y))) S (wN rfl) rfl (by kernel_rfl) (by kernel_rfl) (bSub _ _ _ _ x42.Y x35.Y) rfl (by decide) (fun a S => ?_)
        exact leafL ⟨rfl, S⟩
      · refine ⟨_, [(24, .int .i64 x35.X), (29, .int .i64 x42.X), (41, .int .i64 (w64 (x42.Y - x35.Y)))], rfl, (srcs_of [some 5, some 10, some 22] rfl (by kernel_rfl) (by kernel_rfl)), fun G a w S => ?_⟩
        refine sCall (X := Option Addr × Nat) (f := 51) (vs := [.int .i64 x35.X, .int .i64 x42.X, .int .i64 (w64 (x42.Y - x35.Y))]) (val := fun x => .tuple #[.slice x.1 r59.1.length x.2, .int .i64 r59.2]) (B' := fun x => [eRow (rI .i64) 3 (.slice x.1 r59.1.length x.2) r59.1]) (D' := fun _ => []) [] [eRow (rI .i64) 3 (.slice ad21 s20.length cp22) s20] [] [0] [] S (wN rfl) rfl callee51 (by kernel_rfl) (by decide) (by kernel_rfl) (by kernel_rfl) (fun E1 w1 S1 => c_raddleref36_Line_s0 E1 w1 x35.X x42.X (w64 (x42.Y - x35.Y)) r59 hx60 S1) rfl (by decide) (fun xx a w S => ?_)
        obtain ⟨ad83, cp84⟩ := xx
        dsimp only at S
        refine leafL ⟨rfl, _, _, .inl ⟨42, (.tuple #[.slice ad83 r59.1.length cp84, .int .i64 r59.2]), [(24, 18, .tuple #[.slice ad83 r59.1.length cp84, .int .i64 r59.2]), (25, 43, .slice ad83 r59.1.length cp84), (26, 44, .int .i64 r59.2), (27, 5, .slice ad83 r59.1.length cp84), (28, 6, .int .i64 r59.2)], rfl, S, hz_of (by kernel_rfl), ?_⟩⟩
        refine node_by (A := anc_raddleref37_columns_s0_0) (nf := [23]) (Y := [23]) 29 (by kernel_rfl) (by kernel_rfl) (by kernel_rfl) (by kernel_rfl) (by kernel_rfl) [24, 25, 26, 27, 28, 23, 0, 1, 2, 3, 4, 5, 6, 7, 8, 9, 10, 11, 12, 13, 14, 15, 16, 17, 18, 19, 20, 21, 22] (by kernel_rfl) (by decide) (by decide) (aD 0 28 23 (by decide) (aD 1 27 23 (by decide) (aD 2 26 23 (by decide) (aD 3 25 23 (by decide) (aD 4 24 23 (by decide) (aD 5 23 23 (by decide) (aD 6 22 23 (by decide) (aD 7 21 23 (by decide) (aD 8 20 23 (by decide) (aD 9 19 23 (by decide) (aD 10 18 23 (by decide) (aD 11 17 23 (by decide) (aD 12 16 23 (by decide) (aD 13 15 23 (by decide) (aD 14 14 23 (by decide) (aD 15 13 23 (by decide) (aD 16 12 23 (by decide) (aD 17 11 23 (by decide) (aD 18 10 23 (by decide) (aD 19 9 23 (by decide) (aD 20 8 23 (by decide) (aD 21 7 23 (by decide) (aD 22 6 23 (by decide) (aY 23 5 (by decide) (aF 24 4 (by decide) ?_ (aF 25 3 (by decide) ?_ (aF 26 2 (by decide) ?_ (aF 27 1 (by decide) ?_ (aF 28 0 (by decide) ?_ (trivial)))))))))))))))))))))))))))))) [(0, .slice ad1 p0.length cp2), (3, .slice ad21 s20.length cp22), (4, .int .i64 s23), (5, .slice ad83 r59.1.length cp84)] (fin_of [none, none, none, some 3] rfl (by kernel_rfl) (by kernel_rfl)) (fun _ a w S => ?_)
        · refine fI 18 (.tuple #[.slice ad83 r59.1.length cp84, .int .i64 r59.2]) [(42, .tuple #[.slice ad83 r59.1.length cp84, .int .i64 r59.2])] 0 [some 5] rfl rfl (by kernel_rfl) rfl (by kernel_rfl) (by kernel_rfl) fun G a w S => ?_
          refine sMove (.tuple #[.slice ad83 r59.1.length cp84, .int .i64 r59.2]) S (wN rfl) (.inl rfl) (by kernel_rfl) rfl (by decide) (fun a S => ?_)
          exact leafL ⟨rfl, S⟩
        · refine fI 43 (.slice ad83 r59.1.length cp84) [(18, .tuple #[.slice ad83 r59.1.length cp84, .int .i64 r59.2])] 1 [some 0] rfl rfl (by kernel_rfl) rfl (by kernel_rfl) (by kernel_rfl) fun G a w S => ?_
          refine sExtract (vs := [.slice ad83 r59.1.length cp84, .int .i64 r59.2]) (.slice ad83 r59.1.length cp84) S (wN rfl) rfl (by kernel_rfl) rfl rfl (by decide) (fun a S => ?_)
          exact leafL ⟨rfl, S⟩
        · refine fI 44 (.int .i64 r59.2) [(18, .tuple #[.slice ad83 r59.1.length cp84, .int .i64 r59.2])] 2 [some 0] rfl rfl (by kernel_rfl) rfl (by kernel_rfl) (by kernel_rfl) fun G a w S => ?_
          refine sExtract (vs := [.slice ad83 r59.1.length cp84, .int .i64 r59.2]) (.int .i64 r59.2) S (wN rfl) rfl (by kernel_rfl) rfl rfl (by decide) (fun a S => ?_)
          exact leafL ⟨rfl, S⟩
        · refine fI 5 (.slice ad83 r59.1.length cp84) [(43, .slice ad83 r59.1.length cp84)] 3 [some 1] rfl rfl (by kernel_rfl) rfl (by kernel_rfl) (by kernel_rfl) fun G a w S => ?_
          refine sMove (.slice ad83 r59.1.length cp84) S (wN rfl) (.inr rfl) (by kernel_rfl) rfl (by decide) (fun a S => ?_)
          exact leafL ⟨rfl, S⟩
        · refine fI 6 (.int .i64 r59.2) [(44, .int .i64 r59.2)] 4 [some 2] rfl rfl (by kernel_rfl) rfl (by kernel_rfl) (by kernel_rfl) fun G a w S => ?_
          refine sMove (.int .i64 r59.2) S (wN rfl) (.inr rfl) (by kernel_rfl) rfl (by decide) (fun a S => ?_)
          exact leafL ⟨rfl, S⟩
        · refine leafT (hK34 _ _ ?_)
          refine sRegion ?_
          refine sMove (.slice ad21 s20.length cp22) S (wN rfl) (.inl rfl) (by kernel_rfl) rfl (by decide) (fun a S => ?_)
          refine sMove (.slice ad83 r59.1.length cp84) S (wN rfl) (.inl rfl) (by kernel_rfl) rfl (by decide) (fun a S => ?_)
          have S := S.shutR (r := (rI .i64)) (T := 3) (v := .slice ad83 r59.1.length cp84) (xs := r59.1) 0 (by kernel_rfl)
          obtain ⟨y85, hx86, h⟩ := bindSome h
          refine sSlice (r := (rI .i64)) (v := .slice ad83 r59.1.length cp84) (xs := r59.1) (vlo := (some (.int .i64 1))) (vhi := none) (lo' := 1) (hi' := (r59.1.length : Int)) 0 S (wN rfl) rfl Try.underlying34 (by kernel_rfl) (by kernel_rfl) (by kernel_rfl) (by kernel_rfl) (by kernel_rfl) (.inl rfl) (.inr ⟨rfl, rfl⟩) hx86 rfl (by decide) (fun a ad87 cp88 S => ?_)
          obtain ⟨l89, hx90, h⟩ := bindSome h
          refine sApp (r := (rI .i64)) (T := 3) (xs := s20) (ys := y85) (v := .slice ad21 s20.length cp22) (u := .slice ad87 y85.length cp88) 0 (.int .i64 0) 8 S (wN rfl) rfl Try.underlying34 (by kernel_rfl) rfl (by decide) (by kernel_rfl) (by kernel_rfl) (by kernel_rfl) (src_D 0 S.mem (by kernel_rfl)) hx90 rfl (by decide) (fun a w ad91 cp92 S => ?_)
          refine sMove (.slice ad91 l89.length cp92) S (wN rfl) (.inr rfl) (by kernel_rfl) rfl (by decide) (fun a S => ?_)
          refine leafL (leafB (leafT (hK33 _ _ ?_)))
          refine sRegion ?_
          refine sMove (.int .i64 s23) S (wN rfl) (.inl rfl) (by kernel_rfl) rfl (by decide) (fun a S => ?_)
          refine sBin (.int .i64 (w64 (s23 + 1))) S (wN rfl) rfl (by kernel_rfl) (by kernel_rfl) (bAdd _ _ _ _ s23 1) rfl (by decide) (fun a S => ?_)
          refine sMove (.int .i64 (w64 (s23 + 1))) S (wN rfl) (.inr rfl) (by kernel_rfl) rfl (by decide) (fun a S => ?_)
          exact leafL (leafT (⟨(l89, w64 (s23 + 1)), (Option.some.inj h).symm, ⟨ad91, cp92, S.fix [0] [18] (by decide) (by kernel_rfl) (by kernel_rfl) (by kernel_rfl)⟩⟩))
    · refine sCondF (b := decide (s23 < (p0.length : Int))) S (by kernel_rfl) hc32 ?_
      obtain rfl := Option.some.inj h
      obtain rfl := hu24 _ rfl
      have h := g25
      clear g25
      try dsimp only at h
      exact wp_exit (xThen (xThen (xHit (leafT (⟨s20, Option.some.inj h, ad21, cp22, S.fix [0] [] (by decide) (by kernel_rfl) (by kernel_rfl) (by kernel_rfl)⟩)))))
  · obtain ⟨o14, rfl, ad15, cp16, S⟩ := hI
    have h := g18
    clear g18
    try dsimp only at h
    refine sSeq (fun K93 hK93 => ?_)
    refine sRegion ?_
    refine sMove (.slice ad15 o14.length cp16) S (wN rfl) (.inl rfl) (by kernel_rfl) rfl (by decide) (fun a S => ?_)
    refine sMove (.slice ad15 o14.length cp16) S (wN rfl) (.inr rfl) (by kernel_rfl) rfl (by decide) (fun a S => ?_)
    refine leafL (leafT (hK93 _ _ ?_))
    obtain rfl := Option.some.inj h
    exact wp_ret (sRet (.slice ad15 o14.length cp16) S (rsl1 rfl (rvT (t := 2) (v := .slice ad15 o14.length cp16) S (by kernel_rfl))) ⟨(ad15, cp16), rfl, S.mem.sel [0] [] (by decide) (by kernel_rfl) (by kernel_rfl)⟩)

end Go.Proofs.Ytmedbnjhgkcndaa
