import Derived.Test.YtmedbnjhgkcndaaGTy
import Derived.Test.YtmedbnjhgkcndaaG17
namespace Go.Proofs.Ytmedbnjhgkcndaa
open Go.RowKit
set_option linter.unusedVariables false

def anc_piece_Changes_s0_0 : List (List Nat) := [[], [], [1], [], [1, 2, 3], [1, 2, 3, 4], [], [6], [], [8], [6, 7, 8, 9], [6, 7, 8, 9, 10], [1, 2, 3, 4, 5, 6, 7, 8, 9, 10, 11], [], [13], [], [13, 14, 15], [13, 14, 15, 16], [], [18], [], [20], [18, 19, 20, 21], [18, 19, 20, 21, 22], [13, 14, 15, 16, 17, 18, 19, 20, 21, 22, 23], [1, 2, 3, 4, 5, 6, 7, 8, 9, 10, 11, 12, 13, 14, 15, 16, 17, 18, 19, 20, 21, 22, 23, 24], [1, 2, 3, 4, 5, 6, 7, 8, 9, 10, 11, 12, 13, 14, 15, 16, 17, 18, 19, 20, 21, 22, 23, 24, 25], [0, 1, 2, 3, 4, 5, 6, 7, 8, 9, 10, 11, 12, 13, 14, 15, 16, 17, 18, 19, 20, 21, 22, 23, 24, 25, 26], [0, 1, 2, 3, 4, 5, 6, 7, 8, 9, 10, 11, 12, 13, 14, 15, 16, 17, 18, 19, 20, 21, 22, 23, 24, 25, 26, 27]]
noncomputable def piece_Changes_s0_l1 (p0 : api_Piece) : (List (Int × Int) × Int) → Option ((List (Int × Int) × Int) ⊕ List (Int × Int)) := fun s0 => match s0 with
  | (s29, s32) =>
    if decide (s32 < (p0.Left.length : Int)) then
      Option.bind (idxO p0.Left s32) fun x43 =>
      Option.bind (idxO p0.Left (w64 (s32 - 1))) fun x48 =>
      Option.bind (idxO p0.Right s32) fun x53 =>
      Option.bind (idxO p0.Right (w64 (s32 - 1))) fun x58 =>
      Option.bind (appO s29 [(w64 (x43 - x48), w64 (x53 - x58))]) fun l65 =>
      some (.inl (l65, w64 (s32 + 1)))
    else
      some (.inr s29)
noncomputable def F_piece_Changes_s0 (p0 : api_Piece) : Option ((List (Int × Int)) × Int) :=
  Option.bind (F_piece_Check p0) fun r13 =>
  if r13 != 0 then
    some (([] : (List (Int × Int))), r13)
  else
    Option.bind (capO (p0.Left.length : Int)) fun z21 =>
    Option.bind (α := List (Int × Int)) (
      Option.bind (whileO (piece_Changes_s0_l1 p0) (([] : List (Int × Int)), 1)) fun e36 =>
        some e36) fun o23 =>
    some (o23, 0)
set_option maxHeartbeats 4000000 in
set_option maxRecDepth 100000 in
theorem c_piece_Changes_s0 (E : Nat → Prop) (w0 : World) (p0 : api_Piece) (v0 : Value) (r : ((List (Int × Int)) × Int)) (h : F_piece_Changes_s0 p0 = some r) (S : St0 E [] w0 w0 [] [fRep r_api_Piece (v0) p0]) :
    Calls Try.prog 13 #[v0] w0 (Ret (X := Option Addr × Nat) E [] w0 (fun x => .tuple #[.slice x.1 r.1.length x.2, .int .i64 r.2]) (fun x => [eRow r_A2_Int 53 (.slice x.1 r.1.length x.2) r.1]) (fun _ => [])) := by
  unfold F_piece_Changes_s0 at h
  obtain ⟨u1, u2, rfl, hu3, hu4⟩ := S.know (i := 0) (e := fRep r_api_Piece (v0) p0) (by kernel_rfl)
  have S := S.learn (fRep (rL (rI .i64)) u1 p0.Left) hu3
  obtain ⟨ad5, cp6, _, rfl, _⟩ := hu3
  have S := S.learn (fRep (rL (rI .i64)) u2 p0.Right) hu4
  obtain ⟨ad7, cp8, _, rfl, _⟩ := hu4
  refine sEnter (args := [.agg #[.slice ad5 p0.Left.length cp6, .slice ad7 p0.Right.length cp8]]) 52 Try.func13 rfl rfl (by simp) S (fun a S => ?_)
  refine sSeq (fun K9 hK9 => ?_)
  refine sRegion ?_
  refine sBox (v := .agg #[.slice ad5 p0.Left.length cp6, .slice ad7 p0.Right.length cp8]) S (wN rfl) rfl (by kernel_rfl) [.slice ad5 p0.Left.length cp6, .slice ad7 p0.Right.length cp8] rfl rfl (by decide) (fun a b10 w S => ?_)
  refine sMove (.slice none 0 0) S (wN rfl) (.inr rfl) (by kernel_rfl) rfl (by decide) (fun a S => ?_)
  refine sMove (.int .i64 0) S (wN rfl) (.inr rfl) (by kernel_rfl) rfl (by decide) (fun a S => ?_)
  refine leafL (leafT (hK9 _ _ ?_))
  refine sSeq (fun K11 hK11 => ?_)
  refine sSeq (fun K12 hK12 => ?_)
  refine sRegion ?_
  refine sLoadN (p := b10) (off := 0) (T := 36) (vs := [.slice ad5 p0.Left.length cp6, .slice ad7 p0.Right.length cp8]) 0 [.slice ad5 p0.Left.length cp6, .slice ad7 p0.Right.length cp8] S (wN rfl) rfl (by kernel_rfl) (by kernel_rfl) (by kernel_rfl) (by kernel_rfl) rfl rfl (by decide) (fun a S => ?_)
  obtain ⟨r13, hx14, h⟩ := bindSome h
  have S1 := S.mem
  refine sCallQ (X := Unit) (f := 17) (vs := [.agg #[.slice ad5 p0.Left.length cp6, .slice ad7 p0.Right.length cp8]]) (val := fun _ => .int .i64 r13) S (wN rfl) rfl callee17 (by kernel_rfl) (S1.quiet [2] (by kernel_rfl)) (fun E1 w1 S1 => c_piece_Check E1 w1 p0 (.agg #[.slice ad5 p0.Left.length cp6, .slice ad7 p0.Right.length cp8]) r13 hx14 S1) rfl (by decide) (fun _ a w S => ?_)
  refine sMove (.int .i64 r13) S (wN rfl) (.inr rfl) (by kernel_rfl) rfl (by decide) (fun a S => ?_)
  refine leafL (leafT (hK12 _ _ ?_))
  refine sSeq (fun K15 hK15 => ?_)
  refine sRegion ?_
  refine sMove (.int .i64 r13) S (wN rfl) (.inl rfl) (by kernel_rfl) rfl (by decide) (fun a S => ?_)
  refine sBin (.bool (r13 != 0)) S (wN rfl) rfl (by kernel_rfl) (by kernel_rfl) (bNe _ _ _ _ .i64 r13 0) rfl (by decide) (fun a S => ?_)
  refine leafL (leafT (hK15 _ _ ?_))
  rcases iteSome h with ⟨hc16, h⟩ | ⟨hc16, h⟩
  · refine sCondT (b := r13 != 0) S (by kernel_rfl) hc16 ?_
    refine sSeq (fun K17 hK17 => ?_)
    refine sRegion ?_
    refine sMove (.int .i64 r13) S (wN rfl) (.inl rfl) (by kernel_rfl) rfl (by decide) (fun a S => ?_)
    refine sMove (.slice none 0 0) S (wN rfl) (.inr rfl) (by kernel_rfl) rfl (by decide) (fun a S => ?_)
    refine sMove (.int .i64 r13) S (wN rfl) (.inr rfl) (by kernel_rfl) rfl (by decide) (fun a S => ?_)
    refine leafL (leafT (hK17 _ _ ?_))
    obtain rfl := Option.some.inj h
    have S := S.nilRow r_A2_Int 53 (α := (Int × Int))
    exact wp_ret (rThen (sRet (.tuple #[.slice none 0 0, .int .i64 r13]) S (rsl2 rfl (rvT (t := 2) (v := .slice none 0 0) S (by kernel_rfl)) (rvT (t := 3) (v := .int .i64 r13) S (by kernel_rfl))) ⟨(none, 0), rfl, S.mem.sel [0] [] (by decide) (by kernel_rfl) (by kernel_rfl)⟩))
  · refine sCondF (b := r13 != 0) S (by kernel_rfl) hc16 ?_
    refine wp_skip (leafT (hK11 _ _ ?_))
    refine sSeq (fun K18 hK18 => ?_)
    refine sRegion ?_
    refine sField (b := b10) (off := 0) 0 0 S (wN rfl) rfl (by kernel_rfl) (by kernel_rfl) rfl rfl (by decide) (fun a S => ?_)
    refine sLoad1 (p := b10) (off := 0) (T := 36) (vs := [.slice ad5 p0.Left.length cp6, .slice ad7 p0.Right.length cp8]) 0 (.slice ad5 p0.Left.length cp6) S (wN rfl) rfl (by kernel_rfl) (by kernel_rfl) (by kernel_rfl) rfl rfl (by decide) (fun a S => ?_)
    refine sLen (ad := ad5) (m := p0.Left.length) (c := cp6) S (wN rfl) rfl Try.underlying34 (by kernel_rfl) rfl (by decide) (fun a S => ?_)
    obtain ⟨z21, hx22, h⟩ := bindSome h
    refine sMake0 r_A2_Int (m := (p0.Left.length : Int)) (u := z21) (.agg #[.int .i64 0, .int .i64 0]) 16 S (wN rfl) rfl Try.underlying43 (by kernel_rfl) (by decide) (by kernel_rfl) (by kernel_rfl) hx22 rfl (by decide) (fun a w ad19 cp20 S => ?_)
    refine sMove (.slice ad19 ([] : List (Int × Int)).length cp20) S (wN rfl) (.inr rfl) (by kernel_rfl) rfl (by decide) (fun a S => ?_)
    refine leafL (leafT (hK18 _ _ ?_))
    obtain ⟨t26, h, g27⟩ := bindSome h
    refine sCut (fun a w => ∃ o23, o23 = t26 ∧ ∃ ad24, ∃ cp25, St E [] w0 52 a w [(5, .slice ad24 o23.length cp25)] [eRow r_A2_Int 53 (.slice ad24 o23.length cp25) o23] []) ?_ (fun a w hI => ?_)
    · refine sSeq (fun K28 hK28 => ?_)
      refine sRegion ?_
      refine sMove (.int .i64 1) S (wN rfl) (.inr rfl) (by kernel_rfl) rfl (by decide) (fun a S => ?_)
      refine leafL (leafT (hK28 _ _ ?_))
      refine wp_block ?_
      obtain ⟨t35, hl, g34⟩ := bindSome h
      refine sLoop hl (fun s0 a w => match s0 with | (s29, s32) => ∃ ad30, ∃ cp31, St E [] w0 52 a w [(1, .pointer (some ⟨b10, 0, none⟩)), (5, .slice ad30 s29.length cp31), (6, .int .i64 s32)] [eBox b10 36 [.slice ad5 p0.Left.length cp6, .slice ad7 p0.Right.length cp8], eRow r_A2_Int 53 (.slice ad30 s29.length cp31) s29] [fRep (rL (rI .i64)) (.slice ad5 p0.Left.length cp6) p0.Left, fRep (rL (rI .i64)) (.slice ad7 p0.Right.length cp8) p0.Right]) ⟨ad19, cp20, S.fix [1, 0] [1, 0] (by decide) (by kernel_rfl) (by kernel_rfl) (by kernel_rfl)⟩ ?_
      clear hl h
      intro s0 a w c0 hI h hu33
      obtain ⟨s29, s32⟩ := s0
      unfold piece_Changes_s0_l1 at h
      dsimp only at h hI
      obtain ⟨ad30, cp31, S⟩ := hI
      refine sSeq (fun K39 hK39 => ?_)
      refine sSeq (fun K40 hK40 => ?_)
      refine sRegion ?_
      refine sMove (.int .i64 s32) S (wN rfl) (.inl rfl) (by kernel_rfl) rfl (by decide) (fun a S => ?_)
      refine sField (b := b10) (off := 0) 0 0 S (wN rfl) rfl (by kernel_rfl) (by kernel_rfl) rfl rfl (by decide) (fun a S => ?_)
      refine sLoad1 (p := b10) (off := 0) (T := 36) (vs := [.slice ad5 p0.Left.length cp6, .slice ad7 p0.Right.length cp8]) 0 (.slice ad5 p0.Left.length cp6) S (wN rfl) rfl (by kernel_rfl) (by kernel_rfl) (by kernel_rfl) rfl rfl (by decide) (fun a S => ?_)
      refine sLen (ad := ad5) (m := p0.Left.length) (c := cp6) S (wN rfl) rfl Try.underlying34 (by kernel_rfl) rfl (by decide) (fun a S => ?_)
      refine sBin (.bool (decide (s32 < (p0.Left.length : Int)))) S (wN rfl) rfl (by kernel_rfl) (by kernel_rfl) (bLt _ _ _ _ .i64 s32 (p0.Left.length : Int)) rfl (by decide) (fun a S => ?_)
      refine leafL (leafT (hK40 _ _ ?_))
      rcases iteSome h with ⟨hc41, h⟩ | ⟨hc41, h⟩
      · refine sCondT (b := decide (s32 < (p0.Left.length : Int))) S (by kernel_rfl) hc41 ?_
        refine wp_skip (leafT (hK39 _ _ ?_))
        refine sSeq (fun K42 hK42 => ?_)
        refine wp_block ?_
        obtain ⟨x43, hx44, h⟩ := bindSome h
        obtain ⟨x48, hx49, h⟩ := bindSome h
        obtain ⟨x53, hx54, h⟩ := bindSome h
        obtain ⟨x58, hx59, h⟩ := bindSome h
        obtain ⟨l65, hx66, h⟩ := bindSome h
        obtain ⟨q69, hq70, S⟩ := pIdx (P := Try.prog) (r := (rI .i64)) (v := .slice ad5 p0.Left.length cp6) (xs := p0.Left) (j := s32) 34 3 0 S Try.underlying34 (by kernel_rfl) (by kernel_rfl) hx44
        obtain ⟨u71, S⟩ := pLoad (r := (rI .i64)) (q := q69) (x := x43) 0 S (by kernel_rfl)
        obtain rfl : u71 = .int .i64 x43 := S.mem.know (i := 1) (e := fRep (rI .i64) (u71) x43) (by kernel_rfl)
        obtain ⟨q72, hq73, S⟩ := pIdx (P := Try.prog) (r := (rI .i64)) (v := .slice ad5 p0.Left.length cp6) (xs := p0.Left) (j := w64 (s32 - 1)) 34 3 3 S Try.underlying34 (by kernel_rfl) (by kernel_rfl) hx49
        obtain ⟨u74, S⟩ := pLoad (r := (rI .i64)) (q := q72) (x := x48) 0 S (by kernel_rfl)
        obtain rfl : u74 = .int .i64 x48 := S.mem.know (i := 1) (e := fRep (rI .i64) (u74) x48) (by kernel_rfl)
        obtain ⟨q75, hq76, S⟩ := pIdx (P := Try.prog) (r := (rI .i64)) (v := .slice ad7 p0.Right.length cp8) (xs := p0.Right) (j := s32) 34 3 7 S Try.underlying34 (by kernel_rfl) (by kernel_rfl) hx54
        obtain ⟨u77, S⟩ := pLoad (r := (rI .i64)) (q := q75) (x := x53) 0 S (by kernel_rfl)
        obtain rfl : u77 = .int .i64 x53 := S.mem.know (i := 1) (e := fRep (rI .i64) (u77) x53) (by kernel_rfl)
        obtain ⟨q78, hq79, S⟩ := pIdx (P := Try.prog) (r := (rI .i64)) (v := .slice ad7 p0.Right.length cp8) (xs := p0.Right) (j := w64 (s32 - 1)) 34 3 10 S Try.underlying34 (by kernel_rfl) (by kernel_rfl) hx59
        obtain ⟨u80, S⟩ := pLoad (r := (rI .i64)) (q := q78) (x := x58) 0 S (by kernel_rfl)
        obtain rfl : u80 = .int .i64 x58 := S.mem.know (i := 1) (e := fRep (rI .i64) (u80) x58) (by kernel_rfl)
        refine sDraw (nf := [26, 27]) (W := [(0, 23, .slice ad30 s29.length cp31), (1, 24, .pointer (some ⟨b10, 0, none⟩)), (2, 25, .slice ad5 p0.Left.length cp6), (3, 26, .int .i64 s32), (4, 27, q69), (5, 28, .int .i64 x43), (6, 29, .pointer (some ⟨b10, 0, none⟩)), (7, 30, .slice ad5 p0.Left.length cp6), (8, 31, .int .i64 s32), (9, 32, .int .i64 (w64 (s32 - 1))), (10, 33, q72), (11, 34, .int .i64 x48), (12, 35, .int .i64 (w64 (x43 - x48))), (13, 36, .pointer (some ⟨b10, 1, none⟩)), (14, 37, .slice ad7 p0.Right.length cp8), (15, 38, .int .i64 s32), (16, 39, q75), (17, 40, .int .i64 x53), (18, 41, .pointer (some ⟨b10, 1, none⟩)), (19, 42, .slice ad7 p0.Right.length cp8), (20, 43, .int .i64 s32), (21, 44, .int .i64 (w64 (s32 - 1))), (22, 45, q78), (23, 46, .int .i64 x58), (24, 47, .int .i64 (w64 (x53 - x58))), (25, 48, .agg #[.int .i64 (w64 (x43 - x48)), .int .i64 (w64 (x53 - x58))])]) (by kernel_rfl) S ?_
        refine node_by (A := anc_piece_Changes_s0_0) (nf := [26, 27]) (Y := []) (W := [(0, 23, .slice ad30 s29.length cp31), (1, 24, .pointer (some ⟨b10, 0, none⟩)), (2, 25, .slice ad5 p0.Left.length cp6), (3, 26, .int .i64 s32), (4, 27, q69), (5, 28, .int .i64 x43), (6, 29, .pointer (some ⟨b10, 0, none⟩)), (7, 30, .slice ad5 p0.Left.length cp6), (8, 31, .int .i64 s32), (9, 32, .int .i64 (w64 (s32 - 1))), (10, 33, q72), (11, 34, .int .i64 x48), (12, 35, .int .i64 (w64 (x43 - x48))), (13, 36, .pointer (some ⟨b10, 1, none⟩)), (14, 37, .slice ad7 p0.Right.length cp8), (15, 38, .int .i64 s32), (16, 39, q75), (17, 40, .int .i64 x53), (18, 41, .pointer (some ⟨b10, 1, none⟩)), (19, 42, .slice ad7 p0.Right.length cp8), (20, 43, .int .i64 s32), (21, 44, .int .i64 (w64 (s32 - 1))), (22, 45, q78), (23, 46, .int .i64 x58), (24, 47, .int .i64 (w64 (x53 - x58))), (25, 48, .agg #[.int .i64 (w64 (x43 - x48)), .int .i64 (w64 (x53 - x58))])]) 29 (by kernel_rfl) (by kernel_rfl) (by kernel_rfl) (by kernel_rfl) (by kernel_rfl) [0, 1, 2, 3, 4, 5, 6, 7, 8, 9, 10, 11, 12, 13, 14, 15, 16, 17, 18, 19, 20, 21, 22, 23, 24, 25] (by kernel_rfl) (by decide) (by decide) (aF 0 28 (by decide) ?_ (aF 1 27 (by decide) ?_ (aF 2 26 (by decide) ?_ (aF 3 25 (by decide) ?_ (aF 4 24 (by decide) ?_ (aF 5 23 (by decide) ?_ (aF 6 22 (by decide) ?_ (aF 7 21 (by decide) ?_ (aF 8 20 (by decide) ?_ (aF 9 19 (by decide) ?_ (aF 10 18 (by decide) ?_ (aF 11 17 (by decide) ?_ (aF 12 16 (by decide) ?_ (aF 13 15 (by decide) ?_ (aF 14 14 (by decide) ?_ (aF 15 13 (by decide) ?_ (aF 16 12 (by decide) ?_ (aF 17 11 (by decide) ?_ (aF 18 10 (by decide) ?_ (aF 19 9 (by decide) ?_ (aF 20 8 (by decide) ?_ (aF 21 7 (by decide) ?_ (aF 22 6 (by decide) ?_ (aF 23 5 (by decide) ?_ (aF 24 4 (by decide) ?_ (aF 25 3 (by decide) ?_ (aN 26 2 (by decide) ?_ (aB 27 1 26 (by decide) (aE 28 0 26 (by decide) (trivial)))))))))))))))))))))))))))))) [] (fun q hq => by cases hq) (fun hY => absurd (hY 26 (by decide)) (by decide))
        · refine fI 23 (.slice ad30 s29.length cp31) [(5, .slice ad30 s29.length cp31)] 0 [none] rfl rfl (by kernel_rfl) rfl (by kernel_rfl) (by kernel_rfl) fun G a w S => ?_
          refine sMove (.slice ad30 s29.length cp31) S (wN rfl) (.inl rfl) (by kernel_rfl) rfl (by decide) (fun a S => ?_)
          exact leafL ⟨rfl, S⟩
        · refine fI 24 (.pointer (some ⟨b10, 0, none⟩)) [(1, .pointer (some ⟨b10, 0, none⟩))] 1 [none] rfl rfl (by kernel_rfl) rfl (by kernel_rfl) (by kernel_rfl) fun G a w S => ?_
          refine sField (b := b10) (off := 0) 0 0 S (wN rfl) rfl (by kernel_rfl) (by kernel_rfl) rfl rfl (by decide) (fun a S => ?_)
          exact leafL ⟨rfl, S⟩
        · refine fI 25 (.slice ad5 p0.Left.length cp6) [(24, .pointer (some ⟨b10, 0, none⟩))] 2 [some 1] rfl rfl (by kernel_rfl) rfl (by kernel_rfl) (by kernel_rfl) fun G a w S => ?_
          refine sLoad1 (p := b10) (off := 0) (T := 36) (vs := [.slice ad5 p0.Left.length cp6, .slice ad7 p0.Right.length cp8]) 0 (.slice ad5 p0.Left.length cp6) S (wN rfl) rfl (by kernel_rfl) (by kernel_rfl) (by kernel_rfl) rfl rfl (by decide) (fun a S => ?_)
          exact leafL ⟨rfl, S⟩
        · refine fI 26 (.int .i64 s32) [(6, .int .i64 s32)] 3 [none] rfl rfl (by kernel_rfl) rfl (by kernel_rfl) (by kernel_rfl) fun G a w S => ?_
          refine sMove (.int .i64 s32) S (wN rfl) (.inl rfl) (by kernel_rfl) rfl (by decide) (fun a S => ?_)
          exact leafL ⟨rfl, S⟩
        · refine fI 27 q69 [(25, .slice ad5 p0.Left.length cp6), (26, .int .i64 s32)] 4 [some 2, some 3] rfl rfl (by kernel_rfl) rfl (by kernel_rfl) (by kernel_rfl) fun G a w S => ?_
          refine sIdxV (v := .slice ad5 p0.Left.length cp6) (k := .i64) (j := s32) S (wN rfl) rfl (by kernel_rfl) (by kernel_rfl) hq70 rfl (by decide) (fun a S => ?_)
          exact leafL ⟨rfl, S⟩
        · refine fI 28 (.int .i64 x43) [(27, q69)] 5 [some 4] rfl rfl (by kernel_rfl) rfl (by kernel_rfl) (by kernel_rfl) fun G a w S => ?_
          refine sLoadV1 (vq := q69) 9 (.int .i64 x43) S (wN rfl) rfl (by kernel_rfl) (by kernel_rfl) (by kernel_rfl) rfl (by decide) (fun a S => ?_)
          exact leafL ⟨rfl, S⟩
        · refine fI 29 (.pointer (some ⟨b10, 0, none⟩)) [(1, .pointer (some ⟨b10, 0, none⟩))] 6 [none] rfl rfl (by kernel_rfl) rfl (by kernel_rfl) (by kernel_rfl) fun G a w S => ?_
          refine sField (b := b10) (off := 0) 0 0 S (wN rfl) rfl (by kernel_rfl) (by kernel_rfl) rfl rfl (by decide) (fun a S => ?_)
          exact leafL ⟨rfl, S⟩
        · refine fI 30 (.slice ad5 p0.Left.length cp6) [(29, .pointer (some ⟨b10, 0, none⟩))] 7 [some 6] rfl rfl (by kernel_rfl) rfl (by kernel_rfl) (by kernel_rfl) fun G a w S => ?_
          refine sLoad1 (p := b10) (off := 0) (T := 36) (vs := [.slice ad5 p0.Left.length cp6, .slice ad7 p0.Right.length cp8]) 0 (.slice ad5 p0.Left.length cp6) S (wN rfl) rfl (by kernel_rfl) (by kernel_rfl) (by kernel_rfl) rfl rfl (by decide) (fun a S => ?_)
          exact leafL ⟨rfl, S⟩
        · refine fI 31 (.int .i64 s32) [(6, .int .i64 s32)] 8 [none] rfl rfl (by kernel_rfl) rfl (by kernel_rfl) (by kernel_rfl) fun G a w S => ?_
          refine sMove (.int .i64 s32) S (wN rfl) (.inl rfl) (by kernel_rfl) rfl (by decide) (fun a S => ?_)
          exact leafL ⟨rfl, S⟩
        · refine fI 32 (.int .i64 (w64 (s32 - 1))) [(31, .int .i64 s32)] 9 [some 8] rfl rfl (by kernel_rfl) rfl (by kernel_rfl) (by kernel_rfl) fun G a w S => ?_
          refine sBin (.int .i64 (w64 (s32 - 1))) S (wN rfl) rfl (by kernel_rfl) (by kernel_rfl) (bSub _ _ _ _ s32 1) rfl (by decide) (fun a S => ?_)
          exact leafL ⟨rfl, S⟩
        · refine fI 33 q72 [(30, .slice ad5 p0.Left.length cp6), (32, .int .i64 (w64 (s32 - 1)))] 10 [some 7, some 9] rfl rfl (by kernel_rfl) rfl (by kernel_rfl) (by kernel_rfl) fun G a w S => ?_
          refine sIdxV (v := .slice ad5 p0.Left.length cp6) (k := .i64) (j := w64 (s32 - 1)) S (wN rfl) rfl (by kernel_rfl) (by kernel_rfl) hq73 rfl (by decide) (fun a S => ?_)
          exact leafL ⟨rfl, S⟩
        · refine fI 34 (.int .i64 x48) [(33, q72)] 11 [some 10] rfl rfl (by kernel_rfl) rfl (by kernel_rfl) (by kernel_rfl) fun G a w S => ?_
          refine sLoadV1 (vq := q72) 6 (.int .i64 x48) S (wN rfl) rfl (by kernel_rfl) (by kernel_rfl) (by kernel_rfl) rfl (by decide) (fun a S => ?_)
          exact leafL ⟨rfl, S⟩
        · refine fI 35 (.int .i64 (w64 (x43 - x48))) [(28, .int .i64 x43), (34, .int .i64 x48)] 12 [some 5, some 11] rfl rfl (by kernel_rfl) rfl (by kernel_rfl) (by kernel_rfl) fun G a w S => ?_
          refine sBin (.int .i64 (w64 (x43 - x48))) S (wN rfl) rfl (by kernel_rfl) (by kernel_rfl) (bSub _ _ _ _ x43 x48) rfl (by decide) (fun a S => ?_)
          exact leafL ⟨rfl, S⟩
        · refine fI 36 (.pointer (some ⟨b10, 1, none⟩)) [(1, .pointer (some ⟨b10, 0, none⟩))] 13 [none] rfl rfl (by kernel_rfl) rfl (by kernel_rfl) (by kernel_rfl) fun G a w S => ?_
          refine sField (b := b10) (off := 0) 1 1 S (wN rfl) rfl (by kernel_rfl) (by kernel_rfl) rfl rfl (by decide) (fun a S => ?_)
          exact leafL ⟨rfl, S⟩
        · refine fI 37 (.slice ad7 p0.Right.length cp8) [(36, .pointer (some ⟨b10, 1, none⟩))] 14 [some 13] rfl rfl (by kernel_rfl) rfl (by kernel_rfl) (by kernel_rfl) fun G a w S => ?_
          refine sLoad1 (p := b10) (off := 1) (T := 36) (vs := [.slice ad5 p0.Left.length cp6, .slice ad7 p0.Right.length cp8]) 0 (.slice ad7 p0.Right.length cp8) S (wN rfl) rfl (by kernel_rfl) (by kernel_rfl) (by kernel_rfl) rfl rfl (by decide) (fun a S => ?_)
          exact leafL ⟨rfl, S⟩
        · refine fI 38 (.int .i64 s32) [(6, .int .i64 s32)] 15 [none] rfl rfl (by kernel_rfl) rfl (by kernel_rfl) (by kernel_rfl) fun G a w S => ?_
          refine sMove (.int .i64 s32) S (wN rfl) (.inl rfl) (by kernel_rfl) rfl (by decide) (fun a S => ?_)
          exact leafL ⟨rfl, S⟩
        · refine fI 39 q75 [(37, .slice ad7 p0.Right.length cp8), (38, .int .i64 s32)] 16 [some 14, some 15] rfl rfl (by kernel_rfl) rfl (by kernel_rfl) (by kernel_rfl) fun G a w S => ?_
          refine sIdxV (v := .slice ad7 p0.Right.length cp8) (k := .i64) (j := s32) S (wN rfl) rfl (by kernel_rfl) (by kernel_rfl) hq76 rfl (by decide) (fun a S => ?_)
          exact leafL ⟨rfl, S⟩
        · refine fI 40 (.int .i64 x53) [(39, q75)] 17 [some 16] rfl rfl (by kernel_rfl) rfl (by kernel_rfl) (by kernel_rfl) fun G a w S => ?_
          refine sLoadV1 (vq := q75) 3 (.int .i64 x53) S (wN rfl) rfl (by kernel_rfl) (by kernel_rfl) (by kernel_rfl) rfl (by decide) (fun a S => ?_)
          exact leafL ⟨rfl, S⟩
        · refine fI 41 (.pointer (some ⟨b10, 1, none⟩)) [(1, .pointer (some ⟨b10, 0, none⟩))] 18 [none] rfl rfl (by kernel_rfl) rfl (by kernel_rfl) (by kernel_rfl) fun G a w S => ?_
          refine sField (b := b10) (off := 0) 1 1 S (wN rfl) rfl (by kernel_rfl) (by kernel_rfl) rfl rfl (by decide) (fun a S => ?_)
          exact leafL ⟨rfl, S⟩
        · refine fI 42 (.slice ad7 p0.Right.length cp8) [(41, .pointer (some ⟨b10, 1, none⟩))] 19 [some 18] rfl rfl (by kernel_rfl) rfl (by kernel_rfl) (by kernel_rfl) fun G a w S => ?_
          refine sLoad1 (p := b10) (off := 1) (T := 36) (vs := [.slice ad5 p0.Left.length cp6, .slice ad7 p0.Right.length cp8]) 0 (.slice ad7 p0.Right.length cp8) S (wN rfl) rfl (by kernel_rfl) (by kernel_rfl) (by kernel_rfl) rfl rfl (by decide) (fun a S => ?_)
          exact leafL ⟨rfl, S⟩
        · refine fI 43 (.int .i64 s32) [(6, .int .i64 s32)] 20 [none] rfl rfl (by kernel_rfl) rfl (by kernel_rfl) (by kernel_rfl) fun G a w S => ?_
          refine sMove (.int .i64 s32) S (wN rfl) (.inl rfl) (by kernel_rfl) rfl (by decide) (fun a S => ?_)
          exact leafL ⟨rfl, S⟩
        · refine fI 44 (.int .i64 (w64 (s32 - 1))) [(43, .int .i64 s32)] 21 [some 20] rfl rfl (by kernel_rfl) rfl (by kernel_rfl) (by kernel_rfl) fun G a w S => ?_
          refine sBin (.int .i64 (w64 (s32 - 1))) S (wN rfl) rfl (by kernel_rfl) (by kernel_rfl) (bSub _ _ _ _ s32 1) rfl (by decide) (fun a S => ?_)
          exact leafL ⟨rfl, S⟩
        · refine fI 45 q78 [(42, .slice ad7 p0.Right.length cp8), (44, .int .i64 (w64 (s32 - 1)))] 22 [some 19, some 21] rfl rfl (by kernel_rfl) rfl (by kernel_rfl) (by kernel_rfl) fun G a w S => ?_
          refine sIdxV (v := .slice ad7 p0.Right.length cp8) (k := .i64) (j := w64 (s32 - 1)) S (wN rfl) rfl (by kernel_rfl) (by kernel_rfl) hq79 rfl (by decide) (fun a S => ?_)
          exact leafL ⟨rfl, S⟩
        · refine fI 46 (.int .i64 x58) [(45, q78)] 23 [some 22] rfl rfl (by kernel_rfl) rfl (by kernel_rfl) (by kernel_rfl) fun G a w S => ?_
          refine sLoadV1 (vq := q78) 0 (.int .i64 x58) S (wN rfl) rfl (by kernel_rfl) (by kernel_rfl) (by kernel_rfl) rfl (by decide) (fun a S => ?_)
          exact leafL ⟨rfl, S⟩
        · refine fI 47 (.int .i64 (w64 (x53 - x58))) [(40, .int .i64 x53), (46, .int .i64 x58)] 24 [some 17, some 23] rfl rfl (by kernel_rfl) rfl (by kernel_rfl) (by kernel_rfl) fun G a w S => ?_
          refine sBin (.int .i64 (w64 (x53 - x58))) S (wN rfl) rfl (by kernel_rfl) (by kernel_rfl) (bSub _ _ _ _ x53 x58) rfl (by decide) (fun a S => ?_)
          exact leafL ⟨rfl, S⟩
        · refine fI 48 (.agg #[.int .i64 (w64 (x43 - x48)), .int .i64 (w64 (x53 - x58))]) [(35, .int .i64 (w64 (x43 - x48))), (47, .int .i64 (w64 (x53 - x58)))] 25 [some 12, some 24] rfl rfl (by kernel_rfl) rfl (by kernel_rfl) (by kernel_rfl) fun G a w S => ?_
          refine sBuild [(0, .int .i64 (w64 (x43 - x48))), (1, .int .i64 (w64 (x53 - x58)))] [.int .i64 (w64 (x43 - x48)), .int .i64 (w64 (x53 - x58))] S (wN rfl) rfl (by kernel_rfl) (by kernel_rfl) rfl (by decide) (fun a S => ?_)
          exact leafL ⟨rfl, S⟩
        · refine ⟨_, [(48, .agg #[.int .i64 (w64 (x43 - x48)), .int .i64 (w64 (x53 - x58))])], rfl, (srcs_of [some 25] rfl (by kernel_rfl) (by kernel_rfl)), fun G a w S => ?_⟩
          have S := S.learn (fRep r_A2_Int (.agg #[.int .i64 (w64 (x43 - x48)), .int .i64 (w64 (x53 - x58))]) (w64 (x43 - x48), w64 (x53 - x58))) rfl
          refine sLit (r := r_A2_Int) (T := 53) (xs := [(w64 (x43 - x48), w64 (x53 - x58))]) [(0, .agg #[.int .i64 (w64 (x43 - x48)), .int .i64 (w64 (x53 - x58))])] 1 [.agg #[.int .i64 (w64 (x43 - x48)), .int .i64 (w64 (x53 - x58))]] [.int .i64 (w64 (x43 - x48)), .int .i64 (w64 (x53 - x58))] (.agg #[.int .i64 0, .int .i64 0]) 16 S (wN rfl) rfl (by kernel_rfl) Try.underlying43 (by kernel_rfl) (by decide) (by decide) (by kernel_rfl) rfl (fun E1 w1 hE => All.cons (r_A2_Int.mono hE (S.mem.know (i := 0) (e := fRep r_A2_Int (.agg #[.int .i64 (w64 (x43 - x48)), .int .i64 (w64 (x53 - x58))]) (w64 (x43 - x48), w64 (x53 - x58))) (by kernel_rfl))) (All.nil _ _ _)) rfl rfl (by decide) (fun a w ad81 cp82 S => ?_)
          refine leafL ⟨rfl, _, _, .inl ⟨49, (.slice ad81 [(w64 (x43 - x48), w64 (x53 - x58))].length cp82), [], rfl, S, hz_of (by kernel_rfl), ?_⟩⟩
          refine node_by (A := anc_piece_Changes_s0_0) (nf := [26, 27]) (Y := [26]) 29 (by kernel_rfl) (by kernel_rfl) (by kernel_rfl) (by kernel_rfl) (by kernel_rfl) [26, 0, 1, 2, 3, 4, 5, 6, 7, 8, 9, 10, 11, 12, 13, 14, 15, 16, 17, 18, 19, 20, 21, 22, 23, 24, 25] (by kernel_rfl) (by decide) (by decide) (aF 0 28 (by decide) ?_ (aD 1 27 26 (by decide) (aD 2 26 26 (by decide) (aD 3 25 26 (by decide) (aD 4 24 26 (by decide) (aD 5 23 26 (by decide) (aD 6 22 26 (by decide) (aD 7 21 26 (by decide) (aD 8 20 26 (by decide) (aD 9 19 26 (by decide) (aD 10 18 26 (by decide) (aD 11 17 26 (by decide) (aD 12 16 26 (by decide) (aD 13 15 26 (by decide) (aD 14 14 26 (by decide) (aD 15 13 26 (by decide) (aD 16 12 26 (by decide) (aD 17 11 26 (by decide) (aD 18 10 26 (by decide) (aD 19 9 26 (by decide) (aD 20 8 26 (by decide) (aD 21 7 26 (by decide) (aD 22 6 26 (by decide) (aD 23 5 26 (by decide) (aD 24 4 26 (by decide) (aD 25 3 26 (by decide) (aY 26 2 (by decide) (aN 27 1 (by decide) ?_ (aE 28 0 27 (by decide) (trivial)))))))))))))))))))))))))))))) [] (fun q hq => by cases hq) (fun hY => absurd (hY 27 (by decide)) (by decide))
          · refine fI 23 (.slice ad30 s29.length cp31) [(5, .slice ad30 s29.length cp31)] 1 [none] rfl rfl (by kernel_rfl) rfl (by kernel_rfl) (by kernel_rfl) fun G a w S => ?_
            refine sMove (.slice ad30 s29.length cp31) S (wN rfl) (.inl rfl) (by kernel_rfl) rfl (by decide) (fun a S => ?_)
            exact leafL ⟨rfl, S⟩
          · refine ⟨_, [(23, .slice ad30 s29.length cp31), (49, .slice ad81 [(w64 (x43 - x48), w64 (x53 - x58))].length cp82)], rfl, (srcs_of [some 1, some 0] rfl (by kernel_rfl) (by kernel_rfl)), fun G a w S => ?_⟩
            refine sApp (r := r_A2_Int) (T := 53) (xs := s29) (ys := [(w64 (x43 - x48), w64 (x53 - x58))]) (v := .slice ad30 s29.length cp31) (u := .slice ad81 [(w64 (x43 - x48), w64 (x53 - x58))].length cp82) 2 (.agg #[.int .i64 0, .int .i64 0]) 16 S (wN rfl) rfl Try.underlying43 (by kernel_rfl) rfl (by decide) (by kernel_rfl) (by kernel_rfl) (by kernel_rfl) (src_R (T := 53) 0 S.mem (by kernel_rfl)) hx66 rfl (by decide) (fun a w ad83 cp84 S => ?_)
            refine leafL ⟨rfl, _, _, .inl ⟨50, (.slice ad83 l65.length cp84), [(28, 5, .slice ad83 l65.length cp84)], rfl, S, hz_of (by kernel_rfl), ?_⟩⟩
            refine node_by (A := anc_piece_Changes_s0_0) (nf := [26, 27]) (Y := [27, 26]) 29 (by kernel_rfl) (by kernel_rfl) (by kernel_rfl) (by kernel_rfl) (by kernel_rfl) [28, 27, 26, 0, 1, 2, 3, 4, 5, 6, 7, 8, 9, 10, 11, 12, 13, 14, 15, 16, 17, 18, 19, 20, 21, 22, 23, 24, 25] (by kernel_rfl) (by decide) (by decide) (aD 0 28 27 (by decide) (aD 1 27 27 (by decide) (aD 2 26 27 (by decide) (aD 3 25 27 (by decide) (aD 4 24 27 (by decide) (aD 5 23 27 (by decide) (aD 6 22 27 (by decide) (aD 7 21 27 (by decide) (aD 8 20 27 (by decide) (aD 9 19 27 (by decide) (aD 10 18 27 (by decide) (aD 11 17 27 (by decide) (aD 12 16 27 (by decide) (aD 13 15 27 (by decide) (aD 14 14 27 (by decide) (aD 15 13 27 (by decide) (aD 16 12 27 (by decide) (aD 17 11 27 (by decide) (aD 18 10 27 (by decide) (aD 19 9 27 (by decide) (aD 20 8 27 (by decide) (aD 21 7 27 (by decide) (aD 22 6 27 (by decide) (aD 23 5 27 (by decide) (aD 24 4 27 (by decide) (aD 25 3 27 (by decide) (aY 26 2 (by decide) (aY 27 1 (by decide) (aF 28 0 (by decide) ?_ (trivial)))))))))))))))))))))))))))))) [(1, .pointer (some ⟨b10, 0, none⟩)), (5, .slice ad83 l65.length cp84), (6, .int .i64 s32)] (fin_of [none, some 0, none] rfl (by kernel_rfl) (by kernel_rfl)) (fun _ a w S => ?_)
            · refine fI 5 (.slice ad83 l65.length cp84) [(50, .slice ad83 l65.length cp84)] 0 [some 1] rfl rfl (by kernel_rfl) rfl (by kernel_rfl) (by kernel_rfl) fun G a w S => ?_
              refine sMove (.slice ad83 l65.length cp84) S (wN rfl) (.inr rfl) (by kernel_rfl) rfl (by decide) (fun a S => ?_)
              exact leafL ⟨rfl, S⟩
            · refine leafB (leafT (hK42 _ _ ?_))
              refine sRegion ?_
              refine sMove (.int .i64 s32) S (wN rfl) (.inl rfl) (by kernel_rfl) rfl (by decide) (fun a S => ?_)
              refine sBin (.int .i64 (w64 (s32 + 1))) S (wN rfl) rfl (by kernel_rfl) (by kernel_rfl) (bAdd _ _ _ _ s32 1) rfl (by decide) (fun a S => ?_)
              refine sMove (.int .i64 (w64 (s32 + 1))) S (wN rfl) (.inr rfl) (by kernel_rfl) rfl (by decide) (fun a S => ?_)
              exact leafL (leafT (⟨(l65, w64 (s32 + 1)), (Option.some.inj h).symm, ⟨ad83, cp84, S.fix [2, 0] [13, 14] (by decide) (by kernel_rfl) (by kernel_rfl) (by kernel_rfl)⟩⟩))
      · refine sCondF (b := decide (s32 < (p0.Left.length : Int))) S (by kernel_rfl) hc41 ?_
        obtain rfl := Option.some.inj h
        obtain rfl := hu33 _ rfl
        have h := g34
        clear g34
        try dsimp only at h
        exact wp_exit (xThen (xThen (xHit (leafT (⟨s29, Option.some.inj h, ad30, cp31, S.fix [1] [] (by decide) (by kernel_rfl) (by kernel_rfl) (by kernel_rfl)⟩)))))
    · obtain ⟨o23, rfl, ad24, cp25, S⟩ := hI
      have h := g27
      clear g27
      try dsimp only at h
      refine sSeq (fun K85 hK85 => ?_)
      refine sRegion ?_
      refine sMove (.slice ad24 o23.length cp25) S (wN rfl) (.inl rfl) (by kernel_rfl) rfl (by decide) (fun a S => ?_)
      refine sMove (.slice ad24 o23.length cp25) S (wN rfl) (.inr rfl) (by kernel_rfl) rfl (by decide) (fun a S => ?_)
      refine sMove (.int .i64 0) S (wN rfl) (.inr rfl) (by kernel_rfl) rfl (by decide) (fun a S => ?_)
      refine leafL (leafT (hK85 _ _ ?_))
      obtain rfl := Option.some.inj h
      exact wp_ret (sRet (.tuple #[.slice ad24 o23.length cp25, .int .i64 0]) S (rsl2 rfl (rvT (t := 2) (v := .slice ad24 o23.length cp25) S (by kernel_rfl)) (rvT (t := 3) (v := .int .i64 0) S (by kernel_rfl))) ⟨(ad24, cp25), rfl, S.mem.sel [0] [] (by decide) (by kernel_rfl) (by kernel_rfl)⟩)

end Go.Proofs.Ytmedbnjhgkcndaa
