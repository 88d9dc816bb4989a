import Derived.Test.YtmedbnjhgkcndaaGTy
import Derived.Test.YtmedbnjhgkcndaaG18
namespace Go.Proofs.Ytmedbnjhgkcndaa
open Go.RowKit
set_option linter.unusedVariables false

def anc_raddleref37_Changes_s0_0 : List (List Nat) := [[], [], [1], [], [1, 2, 3], [1, 2, 3, 4], [], [6], [], [8], [6, 7, 8, 9], [6, 7, 8, 9, 10], [1, 2, 3, 4, 5, 6, 7, 8, 9, 10, 11], [], [13], [], [13, 14, 15], [13, 14, 15, 16], [], [18], [], [20], [18, 19, 20, 21], [18, 19, 20, 21, 22], [13, 14, 15, 16, 17, 18, 19, 20, 21, 22, 23], [1, 2, 3, 4, 5, 6, 7, 8, 9, 10, 11, 12, 13, 14, 15, 16, 17, 18, 19, 20, 21, 22, 23, 24], [1, 2, 3, 4, 5, 6, 7, 8, 9, 10, 11, 12, 13, 14, 15, 16, 17, 18, 19, 20, 21, 22, 23, 24, 25], [0, 1, 2, 3, 4, 5, 6, 7, 8, 9, 10, 11, 12, 13, 14, 15, 16, 17, 18, 19, 20, 21, 22, 23, 24, 25, 26], [0, 1, 2, 3, 4, 5, 6, 7, 8, 9, 10, 11, 12, 13, 14, 15, 16, 17, 18, 19, 20, 21, 22, 23, 24, 25, 26, 27]]
noncomputable def raddleref37_Changes_s0_l1 (p0 : api_Piece) : (List (Int × Int) × Int) → Option ((List (Int × Int) × Int) ⊕ List (Int × Int)) := fun s0 => match s0 with
  | (s24, s27) =>
    if decide (s27 < (p0.Left.length : Int)) then
      Option.bind (idxO p0.Left s27) fun x38 =>
      Option.bind (idxO p0.Left (w64 (s27 - 1))) fun x43 =>
      Option.bind (idxO p0.Right s27) fun x48 =>
      Option.bind (idxO p0.Right (w64 (s27 - 1))) fun x53 =>
      Option.bind (appO s24 [(w64 (x38 - x43), w64 (x48 - x53))]) fun l60 =>
      some (.inl (l60, w64 (s27 + 1)))
    else
      some (.inr s24)
noncomputable def F_raddleref37_Changes_s0 (p0 : api_Piece) : Option ((List (Int × Int)) × Int) :=
  Option.bind (F_raddleref37_Check p0) fun r13 =>
  if r13 != 0 then
    some (([] : (List (Int × Int))), 8)
  else
    Option.bind (α := List (Int × Int)) (
      Option.bind (whileO (raddleref37_Changes_s0_l1 p0) (([] : List (Int × Int)), 1)) fun e31 =>
        some e31) fun o18 =>
    some (o18, 0)
set_option maxHeartbeats 4000000 in
set_option maxRecDepth 100000 in
theorem c_raddleref37_Changes_s0 (E : Nat → Prop) (w0 : World) (p0 : api_Piece) (v0 : Value) (r : ((List (Int × Int)) × Int)) (h : F_raddleref37_Changes_s0 p0 = some r) (S : St0 E [] w0 w0 [] [fRep r_api_Piece (v0) p0]) :
    Calls Try.prog 14 #[v0] w0 (Ret (X := Option Addr × Nat) E [] w0 (fun x => .tuple #[.slice x.1 r.1.length x.2, .int .i64 r.2]) (fun x => [eRow r_A2_Int 53 (.slice x.1 r.1.length x.2) r.1]) (fun _ => [])) := by
  unfold F_raddleref37_Changes_s0 at h
  obtain ⟨u1, u2, rfl, hu3, hu4⟩ := S.know (i := 0) (e := fRep r_api_Piece (v0) p0) (by kernel_rfl)
  have S := S.learn (fRep (rL (rI .i64)) u1 p0.Left) hu3
  obtain ⟨ad5, cp6, _, rfl, _⟩ := hu3
  have S := S.learn (fRep (rL (rI .i64)) u2 p0.Right) hu4
  obtain ⟨ad7, cp8, _, rfl, _⟩ := hu4
  refine sEnter (args := [.agg #[.slice ad5 p0.Left.length cp6, .slice ad7 p0.Right.length cp8]]) 45 Try.func14 rfl rfl (by simp) S (fun a S => ?_)
  refine sSeq (fun K9 hK9 => ?_)
  refine sRegion ?_
  refine sBox (v := .agg #[.slice ad5 p0.Left.length cp6, .slice ad7 p0.Right.length cp8]) S (wN rfl) rfl (by kernel_rfl) [.slice ad5 p0.Left.length cp6, .slice ad7 p0.Right.length cp8] rfl rfl (by decide) (fun a b10 w S => ?_)
  refine sMove (.slice none 0 0) S (wN rfl) (.inr rfl) (by kernel_rfl) rfl (by decide) (fun a S => ?_)
  refine sMove (.int .i64 0) S (wN rfl) (.inr rfl) (by kernel_rfl) rfl (by decide) (fun a S => ?_)
  refine leafL (leafT (hK9 _ _ ?_))
  refine sSeq (fun K11 hK11 => ?_)
  refine sSeq (fun K12 hK12 => ?_)
  refine sRegion ?_
  refine sLoadN (p := b10) (off := 0) (T := 36) (vs := [.slice ad5 p0.Left.length cp6, .slice ad7 p0.Right.length cp8]) 0 [.slice ad5 p0.Left.length cp6, .slice ad7 p0.Right.length cp8] S (wN rfl) rfl (by kernel_rfl) (by kernel_rfl) (by kernel_rfl) (by kernel_rfl) rfl rfl (by decide) (fun a S => ?_)
  obtain ⟨r13, hx14, h⟩ := bindSome h
  have S1 := S.mem
  refine sCallQ (X := Unit) (f := 18) (vs := [.agg #[.slice ad5 p0.Left.length cp6, .slice ad7 p0.Right.length cp8]]) (val := fun _ => .int .i64 r13) S (wN rfl) rfl callee18 (by kernel_rfl) (S1.quiet [2] (by kernel_rfl)) (fun E1 w1 S1 => c_raddleref37_Check E1 w1 p0 (.agg #[.slice ad5 p0.Left.length cp6, .slice ad7 p0.Right.length cp8]) r13 hx14 S1) rfl (by decide) (fun _ a w S => ?_)
  refine sBin (.bool (r13 != 0)) S (wN rfl) rfl (by kernel_rfl) (by kernel_rfl) (bNe _ _ _ _ .i64 r13 0) rfl (by decide) (fun a S => ?_)
  refine leafL (leafT (hK12 _ _ ?_))
  rcases iteSome h with ⟨hc15, h⟩ | ⟨hc15, h⟩
  · refine sCondT (b := r13 != 0) S (by kernel_rfl) hc15 ?_
    refine sSeq (fun K16 hK16 => ?_)
    refine sRegion ?_
    refine sMove (.slice none 0 0) S (wN rfl) (.inr rfl) (by kernel_rfl) rfl (by decide) (fun a S => ?_)
    refine sMove (.int .i64 8) S (wN rfl) (.inr rfl) (by kernel_rfl) rfl (by decide) (fun a S => ?_)
    refine leafL (leafT (hK16 _ _ ?_))
    obtain rfl := Option.some.inj h
    have S := S.nilRow r_A2_Int 53 (α := (Int × Int))
    exact wp_ret (rThen (sRet (.tuple #[.slice none 0 0, .int .i64 8]) S (rsl2 rfl (rvT (t := 2) (v := .slice none 0 0) S (by kernel_rfl)) (rvT (t := 3) (v := .int .i64 8) S (by kernel_rfl))) ⟨(none, 0), rfl, S.mem.sel [0] [] (by decide) (by kernel_rfl) (by kernel_rfl)⟩))
  · refine sCondF (b := r13 != 0) S (by kernel_rfl) hc15 ?_
    refine wp_skip (leafT (hK11 _ _ ?_))
    refine sSeq (fun K17 hK17 => ?_)
    refine sRegion ?_
    refine sMove (.slice none 0 0) S (wN rfl) (.inr rfl) (by kernel_rfl) rfl (by decide) (fun a S => ?_)
    refine leafL (leafT (hK17 _ _ ?_))
    obtain ⟨t21, h, g22⟩ := bindSome h
    refine sCut (fun a w => ∃ o18, o18 = t21 ∧ ∃ ad19, ∃ cp20, St E [] w0 45 a w [(4, .slice ad19 o18.length cp20)] [eRow r_A2_Int 53 (.slice ad19 o18.length cp20) o18] []) ?_ (fun a w hI => ?_)
    · refine sSeq (fun K23 hK23 => ?_)
      refine sRegion ?_
      refine sMove (.int .i64 1) S (wN rfl) (.inr rfl) (by kernel_rfl) rfl (by decide) (fun a S => ?_)
      refine leafL (leafT (hK23 _ _ ?_))
      refine wp_block ?_
      have S := S.nilRow r_A2_Int 53 (α := (Int × Int))
      obtain ⟨t30, hl, g29⟩ := bindSome h
      refine sLoop hl (fun s0 a w => match s0 with | (s24, s27) => ∃ ad25, ∃ cp26, St E [] w0 45 a w [(1, .pointer (some ⟨b10, 0, none⟩)), (4, .slice ad25 s24.length cp26), (5, .int .i64 s27)] [eBox b10 36 [.slice ad5 p0.Left.length cp6, .slice ad7 p0.Right.length cp8], eRow r_A2_Int 53 (.slice ad25 s24.length cp26) s24] [fRep (rL (rI .i64)) (.slice ad5 p0.Left.length cp6) p0.Left, fRep (rL (rI .i64)) (.slice ad7 p0.Right.length cp8) p0.Right]) ⟨none, 0, S.fix [1, 0] [1, 0] (by decide) (by kernel_rfl) (by kernel_rfl) (by kernel_rfl)⟩ ?_
      clear hl h
      intro s0 a w c0 hI h hu28
      obtain ⟨s24, s27⟩ := s0
      unfold raddleref37_Changes_s0_l1 at h
      dsimp only at h hI
      obtain ⟨ad25, cp26, S⟩ := hI
      refine sSeq (fun K34 hK34 => ?_)
      refine sSeq (fun K35 hK35 => ?_)
      refine sRegion ?_
      refine sMove (.int .i64 s27) S (wN rfl) (.inl rfl) (by kernel_rfl) rfl (by decide) (fun a S => ?_)
      refine sField (b := b10) (off := 0) 0 0 S (wN rfl) rfl (by kernel_rfl) (by kernel_rfl) rfl rfl (by decide) (fun a S => ?_)
      refine sLoad1 (p := b10) (off := 0) (T := 36) (vs := [.slice ad5 p0.Left.length cp6, .slice ad7 p0.Right.length cp8]) 0 (.slice ad5 p0.Left.length cp6) S (wN rfl) rfl (by kernel_rfl) (by kernel_rfl) (by kernel_rfl) rfl rfl (by decide) (fun a S => ?_)
      refine sLen (ad := ad5) (m := p0.Left.length) (c := cp6) S (wN rfl) rfl Try.underlying34 (by kernel_rfl) rfl (by decide) (fun a S => ?_)
      refine sBin (.bool (decide (s27 < (p0.Left.length : Int)))) S (wN rfl) rfl (by kernel_rfl) (by kernel_rfl) (bLt _ _ _ _ .i64 s27 (p0.Left.length : Int)) rfl (by decide) (fun a S => ?_)
      refine leafL (leafT (hK35 _ _ ?_))
      rcases iteSome h with ⟨hc36, h⟩ | ⟨hc36, h⟩
      · refine sCondT (b := decide (s27 < (p0.Left.length : Int))) S (by kernel_rfl) hc36 ?_
        refine wp_skip (leafT (hK34 _ _ ?_))
        refine sSeq (fun K37 hK37 => ?_)
        refine wp_block ?_
        obtain ⟨x38, hx39, h⟩ := bindSome h
        obtain ⟨x43, hx44, h⟩ := bindSome h
        obtain ⟨x48, hx49, h⟩ := bindSome h
        obtain ⟨x53, hx54, h⟩ := bindSome h
        obtain ⟨l60, hx61, h⟩ := bindSome h
        obtain ⟨q64, hq65, S⟩ := pIdx (P := Try.prog) (r := (rI .i64)) (v := .slice ad5 p0.Left.length cp6) (xs := p0.Left) (j := s27) 34 3 0 S Try.underlying34 (by kernel_rfl) (by kernel_rfl) hx39
        obtain ⟨u66, S⟩ := pLoad (r := (rI .i64)) (q := q64) (x := x38) 0 S (by kernel_rfl)
        obtain rfl : u66 = .int .i64 x38 := S.mem.know (i := 1) (e := fRep (rI .i64) (u66) x38) (by kernel_rfl)
        obtain ⟨q67, hq68, S⟩ := pIdx (P := Try.prog) (r := (rI .i64)) (v := .slice ad5 p0.Left.length cp6) (xs := p0.Left) (j := w64 (s27 - 1)) 34 3 3 S Try.underlying34 (by kernel_rfl) (by kernel_rfl) hx44
        obtain ⟨u69, S⟩ := pLoad (r := (rI .i64)) (q := q67) (x := x43) 0 S (by kernel_rfl)
        obtain rfl : u69 = .int .i64 x43 := S.mem.know (i := 1) (e := fRep (rI .i64) (u69) x43) (by kernel_rfl)
        obtain ⟨q70, hq71, S⟩ := pIdx (P := Try.prog) (r := (rI .i64)) (v := .slice ad7 p0.Right.length cp8) (xs := p0.Right) (j := s27) 34 3 7 S Try.underlying34 (by kernel_rfl) (by kernel_rfl) hx49
        obtain ⟨u72, S⟩ := pLoad (r := (rI .i64)) (q := q70) (x := x48) 0 S (by kernel_rfl)
        obtain rfl : u72 = .int .i64 x48 := S.mem.know (i := 1) (e := fRep (rI .i64) (u72) x48) (by kernel_rfl)
        obtain ⟨q73, hq74, S⟩ := pIdx (P := Try.prog) (r := (rI .i64)) (v := .slice ad7 p0.Right.length cp8) (xs := p0.Right) (j := w64 (s27 - 1)) 34 3 10 S Try.underlying34 (by kernel_rfl) (by kernel_rfl) hx54
        obtain ⟨u75, S⟩ := pLoad (r := (rI .i64)) (q := q73) (x := x53) 0 S (by kernel_rfl)
        obtain rfl : u75 = .int .i64 x53 := S.mem.know (i := 1) (e := fRep (rI .i64) (u75) x53) (by kernel_rfl)
        refine sDraw (nf := [26, 27]) (W := [(0, 16, .slice ad25 s24.length cp26), (1, 17, .pointer (some ⟨b10, 0, none⟩)), (2, 18, .slice ad5 p0.Left.length cp6), (3, 19, .int .i64 s27), (4, 20, q64), (5, 21, .int .i64 x38), (6, 22, .pointer (some ⟨b10, 0, none⟩)), (7, 23, .slice ad5 p0.Left.length cp6), (8, 24, .int .i64 s27), (9, 25, .int .i64 (w64 (s27 - 1))), (10, 26, q67), (11, 27, .int .i64 x43), (12, 28, .int .i64 (w64 (x38 - x43))), (13, 29, .pointer (some ⟨b10, 1, none⟩)), (14, 30, .slice ad7 p0.Right.length cp8), (15, 31, .int .i64 s27), (16, 32, q70), (17, 33, .int .i64 x48), (18, 34, .pointer (some ⟨b10, 1, none⟩)), (19, 35, .slice ad7 p0.Right.length cp8), (20, 36, .int .i64 s27), (21, 37, .int .i64 (w64 (s27 - 1))), (22, 38, q73), (23, 39, .int .i64 x53), (24, 40, .int .i64 (w64 (x48 - x53))), (25, 41, .agg #[.int .i64 (w64 (x38 - x43)), .int .i64 (w64 (x48 - x53))])]) (by kernel_rfl) S ?_
        refine node_by (A := anc_raddleref37_Changes_s0_0) (nf := [26, 27]) (Y := []) (W := [(0, 16, .slice ad25 s24.length cp26), (1, 17, .pointer (some ⟨b10, 0, none⟩)), (2, 18, .slice ad5 p0.Left.length cp6), (3, 19, .int .i64 s27), (4, 20, q64), (5, 21, .int .i64 x38), (6, 22, .pointer (some ⟨b10, 0, none⟩)), (7, 23, .slice ad5 p0.Left.length cp6), (8, 24, .int .i64 s27), (9, 25, .int .i64 (w64 (s27 - 1))), (10, 26, q67), (11, 27, .int .i64 x43), (12, 28, .int .i64 (w64 (x38 - x43))), (13, 29, .pointer (some ⟨b10, 1, none⟩)), (14, 30, .slice ad7 p0.Right.length cp8), (15, 31, .int .i64 s27), (16, 32, q70), (17, 33, .int .i64 x48), (18, 34, .pointer (some ⟨b10, 1, none⟩)), (19, 35, .slice ad7 p0.Right.length cp8), (20, 36, .int .i64 s27), (21, 37, .int .i64 (w64 (s27 - 1))), (22, 38, q73), (23, 39, .int .i64 x53), (24, 40, .int .i64 (w64 (x48 - x53))), (25, 41, .agg #[.int .i64 (w64 (x38 - x43)), .int .i64 (w64 (x48 - x53))])]) 29 (by kernel_rfl) (by kernel_rfl) (by kernel_rfl) (by kernel_rfl) (by kernel_rfl) [0, 1, 2, 3, 4, 5, 6, 7, 8, 9, 10, 11, 12, 13, 14, 15, 16, 17, 18, 19, 20, 21, 22, 23, 24, 25] (by kernel_rfl) (by decide) (by decide) (aF 0 28 (by decide) ?_ (aF 1 27 (by decide) ?_ (aF 2 26 (by decide) ?_ (aF 3 25 (by decide) ?_ (aF 4 24 (by decide) ?_ (aF 5 23 (by decide) ?_ (aF 6 22 (by decide) ?_ (aF 7 21 (by decide) ?_ (aF 8 20 (by decide) ?_ (aF 9 19 (by decide) ?_ (aF 10 18 (by decide) ?_ (aF 11 17 (by decide) ?_ (aF 12 16 (by decide) ?_ (aF 13 15 (by decide) ?_ (aF 14 14 (by decide) ?_ (aF 15 13 (by decide) ?_ (aF 16 12 (by decide) ?_ (aF 17 11 (by decide) ?_ (aF 18 10 (by decide) ?_ (aF 19 9 (by decide) ?_ (aF 20 8 (by decide) ?_ (aF 21 7 (by decide) ?_ (aF 22 6 (by decide) ?_ (aF 23 5 (by decide) ?_ (aF 24 4 (by decide) ?_ (aF 25 3 (by decide) ?_ (aN 26 2 (by decide) ?_ (aB 27 1 26 (by decide) (aE 28 0 26 (by decide) (trivial)))))))))))))))))))))))))))))) [] (fun q hq => by cases hq) (fun hY => absurd (hY 26 (by decide)) (by decide))
        · refine fI 16 (.slice ad25 s24.length cp26) [(4, .slice ad25 s24.length cp26)] 0 [none] rfl rfl (by kernel_rfl) rfl (by kernel_rfl) (by kernel_rfl) fun G a w S => ?_
          refine sMove (.slice ad25 s24.length cp26) S (wN rfl) (.inl rfl) (by kernel_rfl) rfl (by decide) (fun a S => ?_)
          exact leafL ⟨rfl, S⟩
        · refine fI 17 (.pointer (some ⟨b10, 0, none⟩)) [(1, .pointer (some ⟨b10, 0, none⟩))] 1 [none] rfl rfl (by kernel_rfl) rfl (by kernel_rfl) (by kernel_rfl) fun G a w S => ?_
          refine sField (b := b10) (off := 0) 0 0 S (wN rfl) rfl (by kernel_rfl) (by kernel_rfl) rfl rfl (by decide) (fun a S => ?_)
          exact leafL ⟨rfl, S⟩
        · refine fI 18 (.slice ad5 p0.Left.length cp6) [(17, .pointer (some ⟨b10, 0, none⟩))] 2 [some 1] rfl rfl (by kernel_rfl) rfl (by kernel_rfl) (by kernel_rfl) fun G a w S => ?_
          refine sLoad1 (p := b10) (off := 0) (T := 36) (vs := [.slice ad5 p0.Left.length cp6, .slice ad7 p0.Right.length cp8]) 0 (.slice ad5 p0.Left.length cp6) S (wN rfl) rfl (by kernel_rfl) (by kernel_rfl) (by kernel_rfl) rfl rfl (by decide) (fun a S => ?_)
          exact leafL ⟨rfl, S⟩
        · refine fI 19 (.int .i64 s27) [(5, .int .i64 s27)] 3 [none] rfl rfl (by kernel_rfl) rfl (by kernel_rfl) (by kernel_rfl) fun G a w S => ?_
          refine sMove (.int .i64 s27) S (wN rfl) (.inl rfl) (by kernel_rfl) rfl (by decide) (fun a S => ?_)
          exact leafL ⟨rfl, S⟩
        · refine fI 20 q64 [(18, .slice ad5 p0.Left.length cp6), (19, .int .i64 s27)] 4 [some 2, some 3] rfl rfl (by kernel_rfl) rfl (by kernel_rfl) (by kernel_rfl) fun G a w S => ?_
          refine sIdxV (v := .slice ad5 p0.Left.length cp6) (k := .i64) (j := s27) S (wN rfl) rfl (by kernel_rfl) (by kernel_rfl) hq65 rfl (by decide) (fun a S => ?_)
          exact leafL ⟨rfl, S⟩
        · refine fI 21 (.int .i64 x38) [(20, q64)] 5 [some 4] rfl rfl (by kernel_rfl) rfl (by kernel_rfl) (by kernel_rfl) fun G a w S => ?_
          refine sLoadV1 (vq := q64) 9 (.int .i64 x38) S (wN rfl) rfl (by kernel_rfl) (by kernel_rfl) (by kernel_rfl) rfl (by decide) (fun a S => ?_)
          exact leafL ⟨rfl, S⟩
        · refine fI 22 (.pointer (some ⟨b10, 0, none⟩)) [(1, .pointer (some ⟨b10, 0, none⟩))] 6 [none] rfl rfl (by kernel_rfl) rfl (by kernel_rfl) (by kernel_rfl) fun G a w S => ?_
          refine sField (b := b10) (off := 0) 0 0 S (wN rfl) rfl (by kernel_rfl) (by kernel_rfl) rfl rfl (by decide) (fun a S => ?_)
          exact leafL ⟨rfl, S⟩
        · refine fI 23 (.slice ad5 p0.Left.length cp6) [(22, .pointer (some ⟨b10, 0, none⟩))] 7 [some 6] rfl rfl (by kernel_rfl) rfl (by kernel_rfl) (by kernel_rfl) fun G a w S => ?_
          refine sLoad1 (p := b10) (off := 0) (T := 36) (vs := [.slice ad5 p0.Left.length cp6, .slice ad7 p0.Right.length cp8]) 0 (.slice ad5 p0.Left.length cp6) S (wN rfl) rfl (by kernel_rfl) (by kernel_rfl) (by kernel_rfl) rfl rfl (by decide) (fun a S => ?_)
          exact leafL ⟨rfl, S⟩
        · refine fI 24 (.int .i64 s27) [(5, .int .i64 s27)] 8 [none] rfl rfl (by kernel_rfl) rfl (by kernel_rfl) (by kernel_rfl) fun G a w S => ?_
          refine sMove (.int .i64 s27) S (wN rfl) (.inl rfl) (by kernel_rfl) rfl (by decide) (fun a S => ?_)
          exact leafL ⟨rfl, S⟩
        · refine fI 25 (.int .i64 (w64 (s27 - 1))) [(24, .int .i64 s27)] 9 [some 8] rfl rfl (by kernel_rfl) rfl (by kernel_rfl) (by kernel_rfl) fun G a w S => ?_
          refine sBin (.int .i64 (w64 (s27 - 1))) S (wN rfl) rfl (by kernel_rfl) (by kernel_rfl) (bSub _ _ _ _ s27 1) rfl (by decide) (fun a S => ?_)
          exact leafL ⟨rfl, S⟩
        · refine fI 26 q67 [(23, .slice ad5 p0.Left.length cp6), (25, .int .i64 (w64 (s27 - 1)))] 10 [some 7, some 9] rfl rfl (by kernel_rfl) rfl (by kernel_rfl) (by kernel_rfl) fun G a w S => ?_
          refine sIdxV (v := .slice ad5 p0.Left.length cp6) (k := .i64) (j := w64 (s27 - 1)) S (wN rfl) rfl (by kernel_rfl) (by kernel_rfl) hq68 rfl (by decide) (fun a S => ?_)
          exact leafL ⟨rfl, S⟩
        · refine fI 27 (.int .i64 x43) [(26, q67)] 11 [some 10] rfl rfl (by kernel_rfl) rfl (by kernel_rfl) (by kernel_rfl) fun G a w S => ?_
          refine sLoadV1 (vq := q67) 6 (.int .i64 x43) S (wN rfl) rfl (by kernel_rfl) (by kernel_rfl) (by kernel_rfl) rfl (by decide) (fun a S => ?_)
          exact leafL ⟨rfl, S⟩
        · refine fI 28 (.int .i64 (w64 (x38 - x43))) [(21, .int .i64 x38), (27, .int .i64 x43)] 12 [some 5, some 11] rfl rfl (by kernel_rfl) rfl (by kernel_rfl) (by kernel_rfl) fun G a w S => ?_
          refine sBin (.int .i64 (w64 (x38 - x43))) S (wN rfl) rfl (by kernel_rfl) (by kernel_rfl) (bSub _ _ _ _ x38 x43) rfl (by decide) (fun a S => ?_)
          exact leafL ⟨rfl, S⟩
        · refine fI 29 (.pointer (some ⟨b10, 1, none⟩)) [(1, .pointer (some ⟨b10, 0, none⟩))] 13 [none] rfl rfl (by kernel_rfl) rfl (by kernel_rfl) (by kernel_rfl) fun G a w S => ?_
          refine sField (b := b10) (off := 0) 1 1 S (wN rfl) rfl (by kernel_rfl) (by kernel_rfl) rfl rfl (by decide) (fun a S => ?_)
          exact leafL ⟨rfl, S⟩
        · refine fI 30 (.slice ad7 p0.Right.length cp8) [(29, .pointer (some ⟨b10, 1, none⟩))] 14 [some 13] rfl rfl (by kernel_rfl) rfl (by kernel_rfl) (by kernel_rfl) fun G a w S => ?_
          refine sLoad1 (p := b10) (off := 1) (T := 36) (vs := [.slice ad5 p0.Left.length cp6, .slice ad7 p0.Right.length cp8]) 0 (.slice ad7 p0.Right.length cp8) S (wN rfl) rfl (by kernel_rfl) (by kernel_rfl) (by kernel_rfl) rfl rfl (by decide) (fun a S => ?_)
          exact leafL ⟨rfl, S⟩
        · refine fI 31 (.int .i64 s27) [(5, .int .i64 s27)] 15 [none] rfl rfl (by kernel_rfl) rfl (by kernel_rfl) (by kernel_rfl) fun G a w S => ?_
          refine sMove (.int .i64 s27) S (wN rfl) (.inl rfl) (by kernel_rfl) rfl (by decide) (fun a S => ?_)
          exact leafL ⟨rfl, S⟩
        · refine fI 32 q70 [(30, .slice ad7 p0.Right.length cp8), (31, .int .i64 s27)] 16 [some 14, some 15] rfl rfl (by kernel_rfl) rfl (by kernel_rfl) (by kernel_rfl) fun G a w S => ?_
          refine sIdxV (v := .slice ad7 p0.Right.length cp8) (k := .i64) (j := s27) S (wN rfl) rfl (by kernel_rfl) (by kernel_rfl) hq71 rfl (by decide) (fun a S => ?_)
          exact leafL ⟨rfl, S⟩
        · refine fI 33 (.int .i64 x48) [(32, q70)] 17 [some 16] rfl rfl (by kernel_rfl) rfl (by kernel_rfl) (by kernel_rfl) fun G a w S => ?_
          refine sLoadV1 (vq := q70) 3 (.int .i64 x48) S (wN rfl) rfl (by kernel_rfl) (by kernel_rfl) (by kernel_rfl) rfl (by decide) (fun a S => ?_)
          exact leafL ⟨rfl, S⟩
        · refine fI 34 (.pointer (some ⟨b10, 1, none⟩)) [(1, .pointer (some ⟨b10, 0, none⟩))] 18 [none] rfl rfl (by kernel_rfl) rfl (by kernel_rfl) (by kernel_rfl) fun G a w S => ?_
          refine sField (b := b10) (off := 0) 1 1 S (wN rfl) rfl (by kernel_rfl) (by kernel_rfl) rfl rfl (by decide) (fun a S => ?_)
          exact leafL ⟨rfl, S⟩
        · refine fI 35 (.slice ad7 p0.Right.length cp8) [(34, .pointer (some ⟨b10, 1, none⟩))] 19 [some 18] rfl rfl (by kernel_rfl) rfl (by kernel_rfl) (by kernel_rfl) fun G a w S => ?_
          refine sLoad1 (p := b10) (off := 1) (T := 36) (vs := [.slice ad5 p0.Left.length cp6, .slice ad7 p0.Right.length cp8]) 0 (.slice ad7 p0.Right.length cp8) S (wN rfl) rfl (by kernel_rfl) (by kernel_rfl) (by kernel_rfl) rfl rfl (by decide) (fun a S => ?_)
          exact leafL ⟨rfl, S⟩
        · refine fI 36 (.int .i64 s27) [(5, .int .i64 s27)] 20 [none] rfl rfl (by kernel_rfl) rfl (by kernel_rfl) (by kernel_rfl) fun G a w S => ?_
          refine sMove (.int .i64 s27) S (wN rfl) (.inl rfl) (by kernel_rfl) rfl (by decide) (fun a S => ?_)
          exact leafL ⟨rfl, S⟩
        · refine fI 37 (.int .i64 (w64 (s27 - 1))) [(36, .int .i64 s27)] 21 [some 20] rfl rfl (by kernel_rfl) rfl (by kernel_rfl) (by kernel_rfl) fun G a w S => ?_
          refine sBin (.int .i64 (w64 (s27 - 1))) S (wN rfl) rfl (by kernel_rfl) (by kernel_rfl) (bSub _ _ _ _ s27 1) rfl (by decide) (fun a S => ?_)
          exact leafL ⟨rfl, S⟩
        · refine fI 38 q73 [(35, .slice ad7 p0.Right.length cp8), (37, .int .i64 (w64 (s27 - 1)))] 22 [some 19, some 21] rfl rfl (by kernel_rfl) rfl (by kernel_rfl) (by kernel_rfl) fun G a w S => ?_
          refine sIdxV (v := .slice ad7 p0.Right.length cp8) (k := .i64) (j := w64 (s27 - 1)) S (wN rfl) rfl (by kernel_rfl) (by kernel_rfl) hq74 rfl (by decide) (fun a S => ?_)
          exact leafL ⟨rfl, S⟩
        · refine fI 39 (.int .i64 x53) [(38, q73)] 23 [some 22] rfl rfl (by kernel_rfl) rfl (by kernel_rfl) (by kernel_rfl) fun G a w S => ?_
          refine sLoadV1 (vq := q73) 0 (.int .i64 x53) S (wN rfl) rfl (by kernel_rfl) (by kernel_rfl) (by kernel_rfl) rfl (by decide) (fun a S => ?_)
          exact leafL ⟨rfl, S⟩
        · refine fI 40 (.int .i64 (w64 (x48 - x53))) [(33, .int .i64 x48), (39, .int .i64 x53)] 24 [some 17, some 23] rfl rfl (by kernel_rfl) rfl (by kernel_rfl) (by kernel_rfl) fun G a w S => ?_
          refine sBin (.int .i64 (w64 (x48 - x53))) S (wN rfl) rfl (by kernel_rfl) (by kernel_rfl) (bSub _ _ _ _ x48 x53) rfl (by decide) (fun a S => ?_)
          exact leafL ⟨rfl, S⟩
        · refine fI 41 (.agg #[.int .i64 (w64 (x38 - x43)), .int .i64 (w64 (x48 - x53))]) [(28, .int .i64 (w64 (x38 - x43))), (40, .int .i64 (w64 (x48 - x53)))] 25 [some 12, some 24] rfl rfl (by kernel_rfl) rfl (by kernel_rfl) (by kernel_rfl) fun G a w S => ?_
          refine sBuild [(0, .int .i64 (w64 (x38 - x43))), (1, .int .i64 (w64 (x48 - x53)))] [.int .i64 (w64 (x38 - x43)), .int .i64 (w64 (x48 - x53))] S (wN rfl) rfl (by kernel_rfl) (by kernel_rfl) rfl (by decide) (fun a S => ?_)
          exact leafL ⟨rfl, S⟩
        · refine ⟨_, [(41, .agg #[.int .i64 (w64 (x38 - x43)), .int .i64 (w64 (x48 - x53))])], rfl, (srcs_of [some 25] rfl (by kernel_rfl) (by kernel_rfl)), fun G a w S => ?_⟩
          have S := S.learn (fRep r_A2_Int (.agg #[.int .i64 (w64 (x38 - x43)), .int .i64 (w64 (x48 - x53))]) (w64 (x38 - x43), w64 (x48 - x53))) rfl
          refine sLit (r := r_A2_Int) (T := 53) (xs := [(w64 (x38 - x43), w64 (x48 - x53))]) [(0, .agg #[.int .i64 (w64 (x38 - x43)), .int .i64 (w64 (x48 - x53))])] 1 [.agg #[.int .i64 (w64 (x38 - x43)), .int .i64 (w64 (x48 - x53))]] [.int .i64 (w64 (x38 - x43)), .int .i64 (w64 (x48 - x53))] (.agg #[.int .i64 0, .int .i64 0]) 16 S (wN rfl) rfl (by kernel_rfl) Try.underlying43 (by kernel_rfl) (by decide) (by decide) (by kernel_rfl) rfl (fun E1 w1 hE => All.cons (r_A2_Int.mono hE (S.mem.know (i := 0) (e := fRep r_A2_Int (.agg #[.int .i64 (w64 (x38 - x43)), .int .i64 (w64 (x48 - x53))]) (w64 (x38 - x43), w64 (x48 - x53))) (by kernel_rfl))) (All.nil _ _ _)) rfl rfl (by decide) (fun a w ad76 cp77 S => ?_)
          refine leafL ⟨rfl, _, _, .inl ⟨42, (.slice ad76 [(w64 (x38 - x43), w64 (x48 - x53))].length cp77), [], rfl, S, hz_of (by kernel_rfl), ?_⟩⟩
          refine node_by (A := anc_raddleref37_Changes_s0_0) (nf := [26, 27]) (Y := [26]) 29 (by kernel_rfl) (by kernel_rfl) (by kernel_rfl) (by kernel_rfl) (by kernel_rfl) [26, 0, 1, 2, 3, 4, 5, 6, 7, 8, 9, 10, 11, 12, 13, 14, 15, 16, 17, 18, 19, 20, 21, 22, 23, 24, 25] (by kernel_rfl) (by decide) (by decide) (aF 0 28 (by decide) ?_ (aD 1 27 26 (by decide) (aD 2 26 26 (by decide) (aD 3 25 26 (by decide) (aD 4 24 26 (by decide) (aD 5 23 26 (by decide) (aD 6 22 26 (by decide) (aD 7 21 26 (by decide) (aD 8 20 26 (by decide) (aD 9 19 26 (by decide) (aD 10 18 26 (by decide) (aD 11 17 26 (by decide) (aD 12 16 26 (by decide) (aD 13 15 26 (by decide) (aD 14 14 26 (by decide) (aD 15 13 26 (by decide) (aD 16 12 26 (by decide) (aD 17 11 26 (by decide) (aD 18 10 26 (by decide) (aD 19 9 26 (by decide) (aD 20 8 26 (by decide) (aD 21 7 26 (by decide) (aD 22 6 26 (by decide) (aD 23 5 26 (by decide) (aD 24 4 26 (by decide) (aD 25 3 26 (by decide) (aY 26 2 (by decide) (aN 27 1 (by decide) ?_ (aE 28 0 27 (by decide) (trivial)))))))))))))))))))))))))))))) [] (fun q hq => by cases hq) (fun hY => absurd (hY 27 (by decide)) (by decide))
          · refine fI 16 (.slice ad25 s24.length cp26) [(4, .slice ad25 s24.length cp26)] 1 [none] rfl rfl (by kernel_rfl) rfl (by kernel_rfl) (by kernel_rfl) fun G a w S => ?_
            refine sMove (.slice ad25 s24.length cp26) S (wN rfl) (.inl rfl) (by kernel_rfl) rfl (by decide) (fun a S => ?_)
            exact leafL ⟨rfl, S⟩
          · refine ⟨_, [(16, .slice ad25 s24.length cp26), (42, .slice ad76 [(w64 (x38 - x43), w64 (x48 - x53))].length cp77)], rfl, (srcs_of [some 1, some 0] rfl (by kernel_rfl) (by kernel_rfl)), fun G a w S => ?_⟩
            refine sApp (r := r_A2_Int) (T := 53) (xs := s24) (ys := [(w64 (x38 - x43), w64 (x48 - x53))]) (v := .slice ad25 s24.length cp26) (u := .slice ad76 [(w64 (x38 - x43), w64 (x48 - x53))].length cp77) 2 (.agg #[.int .i64 0, .int .i64 0]) 16 S (wN rfl) rfl Try.underlying43 (by kernel_rfl) rfl (by decide) (by kernel_rfl) (by kernel_rfl) (by kernel_rfl) (src_R (T := 53) 0 S.mem (by kernel_rfl)) hx61 rfl (by decide) (fun a w ad78 cp79 S => ?_)
            refine leafL ⟨rfl, _, _, .inl ⟨43, (.slice ad78 l60.length cp79), [(28, 4, .slice ad78 l60.length cp79)], rfl, S, hz_of (by kernel_rfl), ?_⟩⟩
            refine node_by (A := anc_raddleref37_Changes_s0_0) (nf := [26, 27]) (Y := [27, 26]) 29 (by kernel_rfl) (by kernel_rfl) (by kernel_rfl) (by kernel_rfl) (by kernel_rfl) [28, 27, 26, 0, 1, 2, 3, 4, 5, 6, 7, 8, 9, 10, 11, 12, 13, 14, 15, 16, 17, 18, 19, 20, 21, 22, 23, 24, 25] (by kernel_rfl) (by decide) (by decide) (aD 0 28 27 (by decide) (aD 1 27 27 (by decide) (aD 2 26 27 (by decide) (aD 3 25 27 (by decide) (aD 4 24 27 (by decide) (aD 5 23 27 (by decide) (aD 6 22 27 (by decide) (aD 7 21 27 (by decide) (aD 8 20 27 (by decide) (aD 9 19 27 (by decide) (aD 10 18 27 (by decide) (aD 11 17 27 (by decide) (aD 12 16 27 (by decide) (aD 13 15 27 (by decide) (aD 14 14 27 (by decide) (aD 15 13 27 (by decide) (aD 16 12 27 (by decide) (aD 17 11 27 (by decide) (aD 18 10 27 (by decide) (aD 19 9 27 (by decide) (aD 20 8 27 (by decide) (aD 21 7 27 (by decide) (aD 22 6 27 (by decide) (aD 23 5 27 (by decide) (aD 24 4 27 (by decide) (aD 25 3 27 (by decide) (aY 26 2 (by decide) (aY 27 1 (by decide) (aF 28 0 (by decide) ?_ (trivial)))))))))))))))))))))))))))))) [(1, .pointer (some ⟨b10, 0, none⟩)), (4, .slice ad78 l60.length cp79), (5, .int .i64 s27)] (fin_of [none, some 0, none] rfl (by kernel_rfl) (by kernel_rfl)) (fun _ a w S => ?_)
            · refine fI 4 (.slice ad78 l60.length cp79) [(43, .slice ad78 l60.length cp79)] 0 [some 1] rfl rfl (by kernel_rfl) rfl (by kernel_rfl) (by kernel_rfl) fun G a w S => ?_
              refine sMove (.slice ad78 l60.length cp79) S (wN rfl) (.inr rfl) (by kernel_rfl) rfl (by decide) (fun a S => ?_)
              exact leafL ⟨rfl, S⟩
            · refine leafB (leafT (hK37 _ _ ?_))
              refine sRegion ?_
              refine sMove (.int .i64 s27) S (wN rfl) (.inl rfl) (by kernel_rfl) rfl (by decide) (fun a S => ?_)
              refine sBin (.int .i64 (w64 (s27 + 1))) S (wN rfl) rfl (by kernel_rfl) (by kernel_rfl) (bAdd _ _ _ _ s27 1) rfl (by decide) (fun a S => ?_)
              refine sMove (.int .i64 (w64 (s27 + 1))) S (wN rfl) (.inr rfl) (by kernel_rfl) rfl (by decide) (fun a S => ?_)
              exact leafL (leafT (⟨(l60, w64 (s27 + 1)), (Option.some.inj h).symm, ⟨ad78, cp79, S.fix [2, 0] [13, 14] (by decide) (by kernel_rfl) (by kernel_rfl) (by kernel_rfl)⟩⟩))
      · refine sCondF (b := decide (s27 < (p0.Left.length : Int))) S (by kernel_rfl) hc36 ?_
        obtain rfl := Option.some.inj h
        obtain rfl := hu28 _ rfl
        have h := g29
        clear g29
        try dsimp only at h
        exact wp_exit (xThen (xThen (xHit (leafT (⟨s24, Option.some.inj h, ad25, cp26, S.fix [1] [] (by decide) (by kernel_rfl) (by kernel_rfl) (by kernel_rfl)⟩)))))
    · obtain ⟨o18, rfl, ad19, cp20, S⟩ := hI
      have h := g22
      clear g22
      try dsimp only at h
      refine sSeq (fun K80 hK80 => ?_)
      refine sRegion ?_
      refine sMove (.slice ad19 o18.length cp20) S (wN rfl) (.inl rfl) (by kernel_rfl) rfl (by decide) (fun a S => ?_)
      refine sMove (.slice ad19 o18.length cp20) S (wN rfl) (.inr rfl) (by kernel_rfl) rfl (by decide) (fun a S => ?_)
      refine sMove (.int .i64 0) S (wN rfl) (.inr rfl) (by kernel_rfl) rfl (by decide) (fun a S => ?_)
      refine leafL (leafT (hK80 _ _ ?_))
      obtain rfl := Option.some.inj h
      exact wp_ret (sRet (.tuple #[.slice ad19 o18.length cp20, .int .i64 0]) S (rsl2 rfl (rvT (t := 2) (v := .slice ad19 o18.length cp20) S (by kernel_rfl)) (rvT (t := 3) (v := .int .i64 0) S (by kernel_rfl))) ⟨(ad19, cp20), rfl, S.mem.sel [0] [] (by decide) (by kernel_rfl) (by kernel_rfl)⟩)

end Go.Proofs.Ytmedbnjhgkcndaa
