import Derived.Test.YtmedbnjhgkcndaaGTy
import Derived.Test.YtmedbnjhgkcndaaG18
namespace Go.Proofs.Ytmedbnjhgkcndaa
open Go.RowKit
set_option linter.unusedVariables false

def anc_raddleref37_Mirror_s0_0 : List (List Nat) := [[], [0], [], [2], [], [2, 3, 4], [2, 3, 4, 5], [2, 3, 4, 5, 6], [2, 3, 4, 5, 6, 7], [0, 1, 2, 3, 4, 5, 6, 7, 8], [0, 1, 2, 3, 4, 5, 6, 7, 8, 9], [0, 1, 2, 3, 4, 5, 6, 7, 8, 9, 10]]
noncomputable def raddleref37_Mirror_s0_l1 (p0 : api_Piece) : (Int × List Int × List Int) → Option ((Int × List Int × List Int) ⊕ (List Int × List Int)) := fun s0 => match s0 with
  | (s29, s30, s33) =>
    if decide (s29 < (p0.Left.length : Int)) then
      Option.bind (idxO p0.Right s29) fun x50 =>
      Option.bind (appO s30 ([w64 (0 - x50)] : List Int)) fun l57 =>
      Option.bind (idxO p0.Left s29) fun x68 =>
      Option.bind (appO s33 ([w64 (0 - x68)] : List Int)) fun l75 =>
      some (.inl (w64 (s29 + 1), l57, l75))
    else
      some (.inr (s30, s33))
noncomputable def F_raddleref37_Mirror_s0 (p0 : api_Piece) : Option (api_Piece × Int) :=
  Option.bind (F_raddleref37_Check p0) fun r14 =>
  if r14 != 0 then
    some ((api_Piece.mk ([] : (List Int)) ([] : (List Int))), 8)
  else
    Option.bind (α := (List Int × List Int)) (
      Option.bind (whileO (raddleref37_Mirror_s0_l1 p0) (0, ([] : List Int), ([] : List Int))) fun (e39, e42) =>
        some (e39, e42)) fun (o20, o23) =>
    some ((api_Piece.mk o20 o23), 0)
set_option maxHeartbeats 4000000 in
set_option maxRecDepth 100000 in
theorem c_raddleref37_Mirror_s0 (E : Nat → Prop) (w0 : World) (p0 : api_Piece) (v0 : Value) (r : (api_Piece × Int)) (h : F_raddleref37_Mirror_s0 p0 = some r) (S : St0 E [] w0 w0 [] [fRep r_api_Piece (v0) p0]) :
    Calls Try.prog 16 #[v0] w0 (Ret (X := Option Addr × Nat × Option Addr × Nat) E [] w0 (fun x => .tuple #[.agg #[.slice x.1 r.1.Left.length x.2.1, .slice x.2.2.1 r.1.Right.length x.2.2.2], .int .i64 r.2]) (fun x => [eRow (rI .i64) 3 (.slice x.1 r.1.Left.length x.2.1) r.1.Left, eRow (rI .i64) 3 (.slice x.2.2.1 r.1.Right.length x.2.2.2) r.1.Right]) (fun _ => [])) := by
  unfold F_raddleref37_Mirror_s0 at h
  obtain ⟨u1, u2, rfl, hu3, hu4⟩ := S.know (i := 0) (e := fRep r_api_Piece (v0) p0) (by kernel_rfl)
  have S := S.learn (fRep (rL (rI .i64)) u1 p0.Left) hu3
  obtain ⟨ad5, cp6, _, rfl, _⟩ := hu3
  have S := S.learn (fRep (rL (rI .i64)) u2 p0.Right) hu4
  obtain ⟨ad7, cp8, _, rfl, _⟩ := hu4
  refine sEnter (args := [.agg #[.slice ad5 p0.Left.length cp6, .slice ad7 p0.Right.length cp8]]) 40 Try.func16 rfl rfl (by simp) S (fun a S => ?_)
  refine sSeq (fun K9 hK9 => ?_)
  refine sRegion ?_
  refine sBox (v := .agg #[.slice ad5 p0.Left.length cp6, .slice ad7 p0.Right.length cp8]) S (wN rfl) rfl (by kernel_rfl) [.slice ad5 p0.Left.length cp6, .slice ad7 p0.Right.length cp8] rfl rfl (by decide) (fun a b10 w S => ?_)
  refine sAlloc (.agg #[.slice none 0 0, .slice none 0 0]) S (wN rfl) rfl (by kernel_rfl) [.slice none 0 0, .slice none 0 0] rfl rfl (by decide) (fun a b11 w S => ?_)
  refine sMove (.int .i64 0) S (wN rfl) (.inr rfl) (by kernel_rfl) rfl (by decide) (fun a S => ?_)
  refine leafL (leafT (hK9 _ _ ?_))
  refine sSeq (fun K12 hK12 => ?_)
  refine sSeq (fun K13 hK13 => ?_)
  refine sRegion ?_
  refine sLoadN (p := b10) (off := 0) (T := 36) (vs := [.slice ad5 p0.Left.length cp6, .slice ad7 p0.Right.length cp8]) 1 [.slice ad5 p0.Left.length cp6, .slice ad7 p0.Right.length cp8] S (wN rfl) rfl (by kernel_rfl) (by kernel_rfl) (by kernel_rfl) (by kernel_rfl) rfl rfl (by decide) (fun a S => ?_)
  obtain ⟨r14, hx15, h⟩ := bindSome h
  have S1 := S.mem
  refine sCallQ (X := Unit) (f := 18) (vs := [.agg #[.slice ad5 p0.Left.length cp6, .slice ad7 p0.Right.length cp8]]) (val := fun _ => .int .i64 r14) S (wN rfl) rfl callee18 (by kernel_rfl) (S1.quiet [2] (by kernel_rfl)) (fun E1 w1 S1 => c_raddleref37_Check E1 w1 p0 (.agg #[.slice ad5 p0.Left.length cp6, .slice ad7 p0.Right.length cp8]) r14 hx15 S1) rfl (by decide) (fun _ a w S => ?_)
  refine sBin (.bool (r14 != 0)) S (wN rfl) rfl (by kernel_rfl) (by kernel_rfl) (bNe _ _ _ _ .i64 r14 0) rfl (by decide) (fun a S => ?_)
  refine leafL (leafT (hK13 _ _ ?_))
  rcases iteSome h with ⟨hc16, h⟩ | ⟨hc16, h⟩
  · refine sCondT (b := r14 != 0) S (by kernel_rfl) hc16 ?_
    refine sSeq (fun K17 hK17 => ?_)
    refine sRegion ?_
    refine sBuild [] [.slice none 0 0, .slice none 0 0] S (wN rfl) rfl (by kernel_rfl) (by kernel_rfl) rfl (by decide) (fun a S => ?_)
    refine sStore (p := b11) (off := 0) (T := 36) (vs := [.slice none 0 0, .slice none 0 0]) (v := .agg #[.slice none 0 0, .slice none 0 0]) 0 [.slice none 0 0, .slice none 0 0] S (wN rfl) rfl (by kernel_rfl) (by kernel_rfl) rfl (by kernel_rfl) (by kernel_rfl) rfl (by simp) rfl (fun a w S => ?_)
    refine sMove (.int .i64 8) S (wN rfl) (.inr rfl) (by kernel_rfl) rfl (by decide) (fun a S => ?_)
    refine leafL (leafT (hK17 _ _ ?_))
    obtain rfl := Option.some.inj h
    have S := S.nilRow (rI .i64) 3 (α := Int)
    have S := S.nilRow (rI .i64) 3 (α := Int)
    exact wp_ret (rThen (sRet (.tuple #[.agg #[.slice none 0 0, .slice none 0 0], .int .i64 8]) S (rsl2 rfl (rvN (c := 2) (t := 36) (T := 36) (p := b11) 2 [.slice none 0 0, .slice none 0 0] S (by kernel_rfl) (by kernel_rfl) (by kernel_rfl) (by kernel_rfl)) (rvT (t := 3) (v := .int .i64 8) S (by kernel_rfl))) ⟨(none, 0, none, 0), rfl, S.mem.sel [1, 0] [] (by decide) (by kernel_rfl) (by kernel_rfl)⟩))
  · refine sCondF (b := r14 != 0) S (by kernel_rfl) hc16 ?_
    refine wp_skip (leafT (hK12 _ _ ?_))
    refine sSeq (fun K18 hK18 => ?_)
    refine sRegion ?_
    refine sAlloc (.agg #[.slice none 0 0, .slice none 0 0]) S (wN rfl) rfl (by kernel_rfl) [.slice none 0 0, .slice none 0 0] rfl rfl (by decide) (fun a b19 w S => ?_)
    refine leafL (leafT (hK18 _ _ ?_))
    obtain ⟨t26, h, g27⟩ := bindSome h
    refine sCut (fun a w => ∃ o20, ∃ o23, (o20, o23) = t26 ∧ ∃ ad21, ∃ cp22, ∃ ad24, ∃ cp25, St E [] w0 40 a w [(2, .pointer (some ⟨b11, 0, none⟩)), (4, .pointer (some ⟨b19, 0, none⟩))] [eBox b11 36 [.slice none 0 0, .slice none 0 0], eBox b19 36 [.slice ad21 o20.length cp22, .slice ad24 o23.length cp25], eRow (rI .i64) 3 (.slice ad21 o20.length cp22) o20, eRow (rI .i64) 3 (.slice ad24 o23.length cp25) o23] []) ?_ (fun a w hI => ?_)
    · refine sSeq (fun K28 hK28 => ?_)
      refine sRegion ?_
      refine sMove (.int .i64 0) S (wN rfl) (.inr rfl) (by kernel_rfl) rfl (by decide) (fun a S => ?_)
      refine leafL (leafT (hK28 _ _ ?_))
      refine wp_block ?_
      have S := S.nilRow (rI .i64) 3 (α := Int)
      have S := S.nilRow (rI .i64) 3 (α := Int)
      obtain ⟨t38, hl, g37⟩ := bindSome h
      refine sLoop hl (fun s0 a w => match s0 with | (s29, s30, s33) => ∃ ad31, ∃ cp32, ∃ ad34, ∃ cp35, St E [] w0 40 a w [(1, .pointer (some ⟨b10, 0, none⟩)), (2, .pointer (some ⟨b11, 0, none⟩)), (4, .pointer (some ⟨b19, 0, none⟩)), (5, .int .i64 s29)] [eBox b10 36 [.slice ad5 p0.Left.length cp6, .slice ad7 p0.Right.length cp8], eBox b11 36 [.slice none 0 0, .slice none 0 0], eBox b19 36 [.slice ad31 s30.length cp32, .slice ad34 s33.length cp35], eRow (rI .i64) 3 (.slice ad31 s30.length cp32) s30, eRow (rI .i64) 3 (.slice ad34 s33.length cp35) s33] [fRep (rL (rI .i64)) (.slice ad5 p0.Left.length cp6) p0.Left, fRep (rL (rI .i64)) (.slice ad7 p0.Right.length cp8) p0.Right]) ⟨none, 0, none, 0, S.fix [4, 3, 2, 0, 1] [1, 0] (by decide) (by kernel_rfl) (by kernel_rfl) (by kernel_rfl)⟩ ?_
      clear hl h
      intro s0 a w c0 hI h hu36
      obtain ⟨s29, s30, s33⟩ := s0
      unfold raddleref37_Mirror_s0_l1 at h
      dsimp only at h hI
      obtain ⟨ad31, cp32, ad34, cp35, S⟩ := hI
      refine sSeq (fun K45 hK45 => ?_)
      refine sSeq (fun K46 hK46 => ?_)
      refine sRegion ?_
      refine sMove (.int .i64 s29) S (wN rfl) (.inl rfl) (by kernel_rfl) rfl (by decide) (fun a S => ?_)
      refine sField (b := b10) (off := 0) 0 0 S (wN rfl) rfl (by kernel_rfl) (by kernel_rfl) rfl rfl (by decide) (fun a S => ?_)
      refine sLoad1 (p := b10) (off := 0) (T := 36) (vs := [.slice ad5 p0.Left.length cp6, .slice ad7 p0.Right.length cp8]) 0 (.slice ad5 p0.Left.length cp6) S (wN rfl) rfl (by kernel_rfl) (by kernel_rfl) (by kernel_rfl) rfl rfl (by decide) (fun a S => ?_)
      refine sLen (ad := ad5) (m := p0.Left.length) (c := cp6) S (wN rfl) rfl Try.underlying34 (by kernel_rfl) rfl (by decide) (fun a S => ?_)
      refine sBin (.bool (decide (s29 < (p0.Left.length : Int)))) S (wN rfl) rfl (by kernel_rfl) (by kernel_rfl) (bLt _ _ _ _ .i64 s29 (p0.Left.length : Int)) rfl (by decide) (fun a S => ?_)
      refine leafL (leafT (hK46 _ _ ?_))
      rcases iteSome h with ⟨hc47, h⟩ | ⟨hc47, h⟩
      · refine sCondT (b := decide (s29 < (p0.Left.length : Int))) S (by kernel_rfl) hc47 ?_
        refine wp_skip (leafT (hK45 _ _ ?_))
        refine sSeq (fun K48 hK48 => ?_)
        refine wp_block ?_
        refine sSeq (fun K49 hK49 => ?_)
        obtain ⟨x50, hx51, h⟩ := bindSome h
        obtain ⟨l57, hx58, h⟩ := bindSome h
        obtain ⟨q61, hq62, S⟩ := pIdx (P := Try.prog) (r := (rI .i64)) (v := .slice ad7 p0.Right.length cp8) (xs := p0.Right) (j := s29) 34 3 1 S Try.underlying34 (by kernel_rfl) (by kernel_rfl) hx51
        obtain ⟨u63, S⟩ := pLoad (r := (rI .i64)) (q := q61) (x := x50) 0 S (by kernel_rfl)
        obtain rfl : u63 = .int .i64 x50 := S.mem.know (i := 1) (e := fRep (rI .i64) (u63) x50) (by kernel_rfl)
        refine sDraw (nf := [8, 9, 11]) (W := [(0, 17, .pointer (some ⟨b19, 0, none⟩)), (1, 18, .slice ad31 s30.length cp32), (2, 19, .pointer (some ⟨b10, 1, none⟩)), (3, 20, .slice ad7 p0.Right.length cp8), (4, 21, .int .i64 s29), (5, 22, q61), (6, 23, .int .i64 x50), (7, 24, .int .i64 (w64 (0 - x50)))]) (by kernel_rfl) S ?_
        refine node_by (A := anc_raddleref37_Mirror_s0_0) (nf := [8, 9, 11]) (Y := []) (W := [(0, 17, .pointer (some ⟨b19, 0, none⟩)), (1, 18, .slice ad31 s30.length cp32), (2, 19, .pointer (some ⟨b10, 1, none⟩)), (3, 20, .slice ad7 p0.Right.length cp8), (4, 21, .int .i64 s29), (5, 22, q61), (6, 23, .int .i64 x50), (7, 24, .int .i64 (w64 (0 - x50)))]) 12 (by kernel_rfl) (by kernel_rfl) (by kernel_rfl) (by kernel_rfl) (by kernel_rfl) [0, 1, 2, 3, 4, 5, 6, 7] (by kernel_rfl) (by decide) (by decide) (aF 0 11 (by decide) ?_ (aF 1 10 (by decide) ?_ (aF 2 9 (by decide) ?_ (aF 3 8 (by decide) ?_ (aF 4 7 (by decide) ?_ (aF 5 6 (by decide) ?_ (aF 6 5 (by decide) ?_ (aF 7 4 (by decide) ?_ (aN 8 3 (by decide) ?_ (aB 9 2 8 (by decide) (aE 10 1 8 (by decide) (aB 11 0 8 (by decide) (trivial))))))))))))) [] (fun q hq => by cases hq) (fun hY => absurd (hY 8 (by decide)) (by decide))
        · refine fI 17 (.pointer (some ⟨b19, 0, none⟩)) [(4, .pointer (some ⟨b19, 0, none⟩))] 0 [none] rfl rfl (by kernel_rfl) rfl (by kernel_rfl) (by kernel_rfl) fun G a w S => ?_
          refine sField (b := b19) (off := 0) 0 0 S (wN rfl) rfl (by kernel_rfl) (by kernel_rfl) rfl rfl (by decide) (fun a S => ?_)
          exact leafL ⟨rfl, S⟩
        · refine fI 18 (.slice ad31 s30.length cp32) [(17, .pointer (some ⟨b19, 0, none⟩))] 1 [some 0] rfl rfl (by kernel_rfl) rfl (by kernel_rfl) (by kernel_rfl) fun G a w S => ?_
          refine sLoad1 (p := b19) (off := 0) (T := 36) (vs := [.slice ad31 s30.length cp32, .slice ad34 s33.length cp35]) 2 (.slice ad31 s30.length cp32) S (wN rfl) rfl (by kernel_rfl) (by kernel_rfl) (by kernel_rfl) rfl rfl (by decide) (fun a S => ?_)
          exact leafL ⟨rfl, S⟩
        · refine fI 19 (.pointer (some ⟨b10, 1, none⟩)) [(1, .pointer (some ⟨b10, 0, none⟩))] 2 [none] rfl rfl (by kernel_rfl) rfl (by kernel_rfl) (by kernel_rfl) fun G a w S => ?_
          refine sField (b := b10) (off := 0) 1 1 S (wN rfl) rfl (by kernel_rfl) (by kernel_rfl) rfl rfl (by decide) (fun a S => ?_)
          exact leafL ⟨rfl, S⟩
        · refine fI 20 (.slice ad7 p0.Right.length cp8) [(19, .pointer (some ⟨b10, 1, none⟩))] 3 [some 2] rfl rfl (by kernel_rfl) rfl (by kernel_rfl) (by kernel_rfl) fun G a w S => ?_
          refine sLoad1 (p := b10) (off := 1) (T := 36) (vs := [.slice ad5 p0.Left.length cp6, .slice ad7 p0.Right.length cp8]) 0 (.slice ad7 p0.Right.length cp8) S (wN rfl) rfl (by kernel_rfl) (by kernel_rfl) (by kernel_rfl) rfl rfl (by decide) (fun a S => ?_)
          exact leafL ⟨rfl, S⟩
        · refine fI 21 (.int .i64 s29) [(5, .int .i64 s29)] 4 [none] rfl rfl (by kernel_rfl) rfl (by kernel_rfl) (by kernel_rfl) fun G a w S => ?_
          refine sMove (.int .i64 s29) S (wN rfl) (.inl rfl) (by kernel_rfl) rfl (by decide) (fun a S => ?_)
          exact leafL ⟨rfl, S⟩
        · refine fI 22 q61 [(20, .slice ad7 p0.Right.length cp8), (21, .int .i64 s29)] 5 [some 3, some 4] rfl rfl (by kernel_rfl) rfl (by kernel_rfl) (by kernel_rfl) fun G a w S => ?_
          refine sIdxV (v := .slice ad7 p0.Right.length cp8) (k := .i64) (j := s29) S (wN rfl) rfl (by kernel_rfl) (by kernel_rfl) hq62 rfl (by decide) (fun a S => ?_)
          exact leafL ⟨rfl, S⟩
        · refine fI 23 (.int .i64 x50) [(22, q61)] 6 [some 5] rfl rfl (by kernel_rfl) rfl (by kernel_rfl) (by kernel_rfl) fun G a w S => ?_
          refine sLoadV1 (vq := q61) 0 (.int .i64 x50) S (wN rfl) rfl (by kernel_rfl) (by kernel_rfl) (by kernel_rfl) rfl (by decide) (fun a S => ?_)
          exact leafL ⟨rfl, S⟩
        · refine fI 24 (.int .i64 (w64 (0 - x50))) [(23, .int .i64 x50)] 7 [some 6] rfl rfl (by kernel_rfl) rfl (by kernel_rfl) (by kernel_rfl) fun G a w S => ?_
          refine sNeg (b := x50) S (wN rfl) rfl (by kernel_rfl) rfl (by decide) (fun a S => ?_)
          exact leafL ⟨rfl, S⟩
        · refine ⟨_, [(24, .int .i64 (w64 (0 - x50)))], rfl, (srcs_of [some 7] rfl (by kernel_rfl) (by kernel_rfl)), fun G a w S => ?_⟩
          refine sLit (r := (rI .i64)) (T := 3) (xs := ([w64 (0 - x50)] : List Int)) [(0, .int .i64 (w64 (0 - x50)))] 1 [.int .i64 (w64 (0 - x50))] [.int .i64 (w64 (0 - x50))] (.int .i64 0) 8 S (wN rfl) rfl (by kernel_rfl) Try.underlying34 (by kernel_rfl) (by decide) (by decide) (by kernel_rfl) rfl (fun E1 w1 hE => All.cons rfl (All.nil _ _ _)) rfl rfl (by decide) (fun a w ad64 cp65 S => ?_)
          refine leafL ⟨rfl, _, _, .inl ⟨25, (.slice ad64 ([w64 (0 - x50)] : List Int).length cp65), [], rfl, S, hz_of (by kernel_rfl), ?_⟩⟩
          refine node_by (A := anc_raddleref37_Mirror_s0_0) (nf := [8, 9, 11]) (Y := [8]) 12 (by kernel_rfl) (by kernel_rfl) (by kernel_rfl) (by kernel_rfl) (by kernel_rfl) [8, 0, 1, 2, 3, 4, 5, 6, 7] (by kernel_rfl) (by decide) (by decide) (aF 0 11 (by decide) ?_ (aF 1 10 (by decide) ?_ (aD 2 9 8 (by decide) (aD 3 8 8 (by decide) (aD 4 7 8 (by decide) (aD 5 6 8 (by decide) (aD 6 5 8 (by decide) (aD 7 4 8 (by decide) (aY 8 3 (by decide) (aN 9 2 (by decide) ?_ (aE 10 1 9 (by decide) (aB 11 0 9 (by decide) (trivial))))))))))))) [] (fun q hq => by cases hq) (fun hY => absurd (hY 9 (by decide)) (by decide))
          · refine fI 17 (.pointer (some ⟨b19, 0, none⟩)) [(4, .pointer (some ⟨b19, 0, none⟩))] 1 [none] rfl rfl (by kernel_rfl) rfl (by kernel_rfl) (by kernel_rfl) fun G a w S => ?_
            refine sField (b := b19) (off := 0) 0 0 S (wN rfl) rfl (by kernel_rfl) (by kernel_rfl) rfl rfl (by decide) (fun a S => ?_)
            exact leafL ⟨rfl, S⟩
          · refine fI 18 (.slice ad31 s30.length cp32) [(17, .pointer (some ⟨b19, 0, none⟩))] 2 [some 1] rfl rfl (by kernel_rfl) rfl (by kernel_rfl) (by kernel_rfl) fun G a w S => ?_
            refine sLoad1 (p := b19) (off := 0) (T := 36) (vs := [.slice ad31 s30.length cp32, .slice ad34 s33.length cp35]) 3 (.slice ad31 s30.length cp32) S (wN rfl) rfl (by kernel_rfl) (by kernel_rfl) (by kernel_rfl) rfl rfl (by decide) (fun a S => ?_)
            exact leafL ⟨rfl, S⟩
          · refine ⟨_, [(18, .slice ad31 s30.length cp32), (25, .slice ad64 ([w64 (0 - x50)] : List Int).length cp65)], rfl, (srcs_of [some 2, some 0] rfl (by kernel_rfl) (by kernel_rfl)), fun G a w S => ?_⟩
            refine sApp (r := (rI .i64)) (T := 3) (xs := s30) (ys := ([w64 (0 - x50)] : List Int)) (v := .slice ad31 s30.length cp32) (u := .slice ad64 ([w64 (0 - x50)] : List Int).length cp65) 4 (.int .i64 0) 8 S (wN rfl) rfl Try.underlying34 (by kernel_rfl) rfl (by decide) (by kernel_rfl) (by kernel_rfl) (by kernel_rfl) (src_R (T := 3) 0 S.mem (by kernel_rfl)) hx58 rfl (by decide) (fun a w ad66 cp67 S => ?_)
            refine leafL ⟨rfl, _, _, .inl ⟨26, (.slice ad66 l57.length cp67), [(10, 27, .pointer (some ⟨b19, 0, none⟩))], rfl, S, hz_of (by kernel_rfl), ?_⟩⟩
            refine node_by (A := anc_raddleref37_Mirror_s0_0) (nf := [8, 9, 11]) (Y := [9, 8]) 12 (by kernel_rfl) (by kernel_rfl) (by kernel_rfl) (by kernel_rfl) (by kernel_rfl) [10, 9, 8, 0, 1, 2, 3, 4, 5, 6, 7] (by kernel_rfl) (by decide) (by decide) (aD 0 11 9 (by decide) (aD 1 10 9 (by decide) (aD 2 9 9 (by decide) (aD 3 8 9 (by decide) (aD 4 7 9 (by decide) (aD 5 6 9 (by decide) (aD 6 5 9 (by decide) (aD 7 4 9 (by decide) (aY 8 3 (by decide) (aY 9 2 (by decide) (aF 10 1 (by decide) ?_ (aN 11 0 (by decide) ?_ (trivial))))))))))))) [] (fun q hq => by cases hq) (fun hY => absurd (hY 11 (by decide)) (by decide))
            · refine fI 27 (.pointer (some ⟨b19, 0, none⟩)) [(4, .pointer (some ⟨b19, 0, none⟩))] 0 [none] rfl rfl (by kernel_rfl) rfl (by kernel_rfl) (by kernel_rfl) fun G a w S => ?_
              refine sField (b := b19) (off := 0) 0 0 S (wN rfl) rfl (by kernel_rfl) (by kernel_rfl) rfl rfl (by decide) (fun a S => ?_)
              exact leafL ⟨rfl, S⟩
            · refine ⟨_, [(26, .slice ad66 l57.length cp67), (27, .pointer (some ⟨b19, 0, none⟩))], rfl, (srcs_of [some 1, some 0] rfl (by kernel_rfl) (by kernel_rfl)), fun G a w S => ?_⟩
              refine sStore (p := b19) (off := 0) (T := 36) (vs := [.slice ad31 s30.length cp32, .slice ad34 s33.length cp35]) (v := .slice ad66 l57.length cp67) 4 [.slice ad66 l57.length cp67] S (wN rfl) rfl (by kernel_rfl) (by kernel_rfl) rfl (by kernel_rfl) (by kernel_rfl) rfl (by simp) rfl (fun a w S => ?_)
              refine leafL ⟨rfl, _, _, .inr ⟨[], rfl, S, hz_of (by kernel_rfl), ?_⟩⟩
              refine node_by (A := anc_raddleref37_Mirror_s0_0) (nf := [8, 9, 11]) (Y := [11, 9, 8]) 12 (by kernel_rfl) (by kernel_rfl) (by kernel_rfl) (by kernel_rfl) (by kernel_rfl) [10, 9, 8, 0, 1, 2, 3, 4, 5, 6, 7] (by kernel_rfl) (by decide) (by decide) (aD 0 11 11 (by decide) (aD 1 10 11 (by decide) (aD 2 9 11 (by decide) (aD 3 8 11 (by decide) (aD 4 7 11 (by decide) (aD 5 6 11 (by decide) (aD 6 5 11 (by decide) (aD 7 4 11 (by decide) (aY 8 3 (by decide) (aY 9 2 (by decide) (aD 10 1 11 (by decide) (aY 11 0 (by decide) (trivial))))))))))))) [(1, .pointer (some ⟨b10, 0, none⟩)), (2, .pointer (some ⟨b11, 0, none⟩)), (4, .pointer (some ⟨b19, 0, none⟩)), (5, .int .i64 s29)] (fin_of [none, none, none, none] rfl (by kernel_rfl) (by kernel_rfl)) (fun _ a w S => ?_)
              · refine leafT (hK49 _ _ ?_)
                obtain ⟨x68, hx69, h⟩ := bindSome h
                obtain ⟨l75, hx76, h⟩ := bindSome h
                obtain ⟨q79, hq80, S⟩ := pIdx (P := Try.prog) (r := (rI .i64)) (v := .slice ad5 p0.Left.length cp6) (xs := p0.Left) (j := s29) 34 3 3 S Try.underlying34 (by kernel_rfl) (by kernel_rfl) hx69
                obtain ⟨u81, S⟩ := pLoad (r := (rI .i64)) (q := q79) (x := x68) 0 S (by kernel_rfl)
                obtain rfl : u81 = .int .i64 x68 := S.mem.know (i := 1) (e := fRep (rI .i64) (u81) x68) (by kernel_rfl)
                refine sDraw (nf := [8, 9, 11]) (W := [(0, 28, .pointer (some ⟨b19, 1, none⟩)), (1, 29, .slice ad34 s33.length cp35), (2, 30, .pointer (some ⟨b10, 0, none⟩)), (3, 31, .slice ad5 p0.Left.length cp6), (4, 32, .int .i64 s29), (5, 33, q79), (6, 34, .int .i64 x68), (7, 35, .int .i64 (w64 (0 - x68)))]) (by kernel_rfl) S ?_
                refine node_by (A := anc_raddleref37_Mirror_s0_0) (nf := [8, 9, 11]) (Y := []) (W := [(0, 28, .pointer (some ⟨b19, 1, none⟩)), (1, 29, .slice ad34 s33.length cp35), (2, 30, .pointer (some ⟨b10, 0, none⟩)), (3, 31, .slice ad5 p0.Left.length cp6), (4, 32, .int .i64 s29), (5, 33, q79), (6, 34, .int .i64 x68), (7, 35, .int .i64 (w64 (0 - x68)))]) 12 (by kernel_rfl) (by kernel_rfl) (by kernel_rfl) (by kernel_rfl) (by kernel_rfl) [0, 1, 2, 3, 4, 5, 6, 7] (by kernel_rfl) (by decide) (by decide) (aF 0 11 (by decide) ?_ (aF 1 10 (by decide) ?_ (aF 2 9 (by decide) ?_ (aF 3 8 (by decide) ?_ (aF 4 7 (by decide) ?_ (aF 5 6 (by decide) ?_ (aF 6 5 (by decide) ?_ (aF 7 4 (by decide) ?_ (aN 8 3 (by decide) ?_ (aB 9 2 8 (by decide) (aE 10 1 8 (by decide) (aB 11 0 8 (by decide) (trivial))))))))))))) [] (fun q hq => by cases hq) (fun hY => absurd (hY 8 (by decide)) (by decide))
                · refine fI 28 (.pointer (some ⟨b19, 1, none⟩)) [(4, .pointer (some ⟨b19, 0, none⟩))] 0 [none] rfl rfl (by kernel_rfl) rfl (by kernel_rfl) (by kernel_rfl) fun G a w S => ?_
                  refine sField (b := b19) (off := 0) 1 1 S (wN rfl) rfl (by kernel_rfl) (by kernel_rfl) rfl rfl (by decide) (fun a S => ?_)
                  exact leafL ⟨rfl, S⟩
                · refine fI 29 (.slice ad34 s33.length cp35) [(28, .pointer (some ⟨b19, 1, none⟩))] 1 [some 0] rfl rfl (by kernel_rfl) rfl (by kernel_rfl) (by kernel_rfl) fun G a w S => ?_
                  refine sLoad1 (p := b19) (off := 1) (T := 36) (vs := [.slice ad66 l57.length cp67, .slice ad34 s33.length cp35]) 0 (.slice ad34 s33.length cp35) S (wN rfl) rfl (by kernel_rfl) (by kernel_rfl) (by kernel_rfl) rfl rfl (by decide) (fun a S => ?_)
                  exact leafL ⟨rfl, S⟩
                · refine fI 30 (.pointer (some ⟨b10, 0, none⟩)) [(1, .pointer (some ⟨b10, 0, none⟩))] 2 [none] rfl rfl (by kernel_rfl) rfl (by kernel_rfl) (by kernel_rfl) fun G a w S => ?_
                  refine sField (b := b10) (off := 0) 0 0 S (wN rfl) rfl (by kernel_rfl) (by kernel_rfl) rfl rfl (by decide) (fun a S => ?_)
                  exact leafL ⟨rfl, S⟩
                · refine fI 31 (.slice ad5 p0.Left.length cp6) [(30, .pointer (some ⟨b10, 0, none⟩))] 3 [some 2] rfl rfl (by kernel_rfl) rfl (by kernel_rfl) (by kernel_rfl) fun G a w S => ?_
                  refine sLoad1 (p := b10) (off := 0) (T := 36) (vs := [.slice ad5 p0.Left.length cp6, .slice ad7 p0.Right.length cp8]) 3 (.slice ad5 p0.Left.length cp6) S (wN rfl) rfl (by kernel_rfl) (by kernel_rfl) (by kernel_rfl) rfl rfl (by decide) (fun a S => ?_)
                  exact leafL ⟨rfl, S⟩
                · refine fI 32 (.int .i64 s29) [(5, .int .i64 s29)] 4 [none] rfl rfl (by kernel_rfl) rfl (by kernel_rfl) (by kernel_rfl) fun G a w S => ?_
                  refine sMove (.int .i64 s29) S (wN rfl) (.inl rfl) (by kernel_rfl) rfl (by decide) (fun a S => ?_)
                  exact leafL ⟨rfl, S⟩
                · refine fI 33 q79 [(31, .slice ad5 p0.Left.length cp6), (32, .int .i64 s29)] 5 [some 3, some 4] rfl rfl (by kernel_rfl) rfl (by kernel_rfl) (by kernel_rfl) fun G a w S => ?_
                  refine sIdxV (v := .slice ad5 p0.Left.length cp6) (k := .i64) (j := s29) S (wN rfl) rfl (by kernel_rfl) (by kernel_rfl) hq80 rfl (by decide) (fun a S => ?_)
                  exact leafL ⟨rfl, S⟩
                · refine fI 34 (.int .i64 x68) [(33, q79)] 6 [some 5] rfl rfl (by kernel_rfl) rfl (by kernel_rfl) (by kernel_rfl) fun G a w S => ?_
                  refine sLoadV1 (vq := q79) 0 (.int .i64 x68) S (wN rfl) rfl (by kernel_rfl) (by kernel_rfl) (by kernel_rfl) rfl (by decide) (fun a S => ?_)
                  exact leafL ⟨rfl, S⟩
                · refine fI 35 (.int .i64 (w64 (0 - x68))) [(34, .int .i64 x68)] 7 [some 6] rfl rfl (by kernel_rfl) rfl (by kernel_rfl) (by kernel_rfl) fun G a w S => ?_
                  refine sNeg (b := x68) S (wN rfl) rfl (by kernel_rfl) rfl (by decide) (fun a S => ?_)
                  exact leafL ⟨rfl, S⟩
                · refine ⟨_, [(35, .int .i64 (w64 (0 - x68)))], rfl, (srcs_of [some 7] rfl (by kernel_rfl) (by kernel_rfl)), fun G a w S => ?_⟩
                  refine sLit (r := (rI .i64)) (T := 3) (xs := ([w64 (0 - x68)] : List Int)) [(0, .int .i64 (w64 (0 - x68)))] 1 [.int .i64 (w64 (0 - x68))] [.int .i64 (w64 (0 - x68))] (.int .i64 0) 8 S (wN rfl) rfl (by kernel_rfl) Try.underlying34 (by kernel_rfl) (by decide) (by decide) (by kernel_rfl) rfl (fun E1 w1 hE => All.cons rfl (All.nil _ _ _)) rfl rfl (by decide) (fun a w ad82 cp83 S => ?_)
                  refine leafL ⟨rfl, _, _, .inl ⟨36, (.slice ad82 ([w64 (0 - x68)] : List Int).length cp83), [], rfl, S, hz_of (by kernel_rfl), ?_⟩⟩
                  refine node_by (A := anc_raddleref37_Mirror_s0_0) (nf := [8, 9, 11]) (Y := [8]) 12 (by kernel_rfl) (by kernel_rfl) (by kernel_rfl) (by kernel_rfl) (by kernel_rfl) [8, 0, 1, 2, 3, 4, 5, 6, 7] (by kernel_rfl) (by decide) (by decide) (aF 0 11 (by decide) ?_ (aF 1 10 (by decide) ?_ (aD 2 9 8 (by decide) (aD 3 8 8 (by decide) (aD 4 7 8 (by decide) (aD 5 6 8 (by decide) (aD 6 5 8 (by decide) (aD 7 4 8 (by decide) (aY 8 3 (by decide) (aN 9 2 (by decide) ?_ (aE 10 1 9 (by decide) (aB 11 0 9 (by decide) (trivial))))))))))))) [] (fun q hq => by cases hq) (fun hY => absurd (hY 9 (by decide)) (by decide))
                  · refine fI 28 (.pointer (some ⟨b19, 1, none⟩)) [(4, .pointer (some ⟨b19, 0, none⟩))] 1 [none] rfl rfl (by kernel_rfl) rfl (by kernel_rfl) (by kernel_rfl) fun G a w S => ?_
                    refine sField (b := b19) (off := 0) 1 1 S (wN rfl) rfl (by kernel_rfl) (by kernel_rfl) rfl rfl (by decide) (fun a S => ?_)
                    exact leafL ⟨rfl, S⟩
                  · refine fI 29 (.slice ad34 s33.length cp35) [(28, .pointer (some ⟨b19, 1, none⟩))] 2 [some 1] rfl rfl (by kernel_rfl) rfl (by kernel_rfl) (by kernel_rfl) fun G a w S => ?_
                    refine sLoad1 (p := b19) (off := 1) (T := 36) (vs := [.slice ad66 l57.length cp67, .slice ad34 s33.length cp35]) 1 (.slice ad34 s33.length cp35) S (wN rfl) rfl (by kernel_rfl) (by kernel_rfl) (by kernel_rfl) rfl rfl (by decide) (fun a S => ?_)
                    exact leafL ⟨rfl, S⟩
                  · refine ⟨_, [(29, .slice ad34 s33.length cp35), (36, .slice ad82 ([w64 (0 - x68)] : List Int).length cp83)], rfl, (srcs_of [some 2, some 0] rfl (by kernel_rfl) (by kernel_rfl)), fun G a w S => ?_⟩
                    refine sApp (r := (rI .i64)) (T := 3) (xs := s33) (ys := ([w64 (0 - x68)] : List Int)) (v := .slice ad34 s33.length cp35) (u := .slice ad82 ([w64 (0 - x68)] : List Int).length cp83) 6 (.int .i64 0) 8 S (wN rfl) rfl Try.underlying34 (by kernel_rfl) rfl (by decide) (by kernel_rfl) (by kernel_rfl) (by kernel_rfl) (src_R (T := 3) 0 S.mem (by kernel_rfl)) hx76 rfl (by decide) (fun a w ad84 cp85 S => ?_)
                    refine leafL ⟨rfl, _, _, .inl ⟨37, (.slice ad84 l75.length cp85), [(10, 38, .pointer (some ⟨b19, 1, none⟩))], rfl, S, hz_of (by kernel_rfl), ?_⟩⟩
                    refine node_by (A := anc_raddleref37_Mirror_s0_0) (nf := [8, 9, 11]) (Y := [9, 8]) 12 (by kernel_rfl) (by kernel_rfl) (by kernel_rfl) (by kernel_rfl) (by kernel_rfl) [10, 9, 8, 0, 1, 2, 3, 4, 5, 6, 7] (by kernel_rfl) (by decide) (by decide) (aD 0 11 9 (by decide) (aD 1 10 9 (by decide) (aD 2 9 9 (by decide) (aD 3 8 9 (by decide) (aD 4 7 9 (by decide) (aD 5 6 9 (by decide) (aD 6 5 9 (by decide) (aD 7 4 9 (by decide) (aY 8 3 (by decide) (aY 9 2 (by decide) (aF 10 1 (by decide) ?_ (aN 11 0 (by decide) ?_ (trivial))))))))))))) [] (fun q hq => by cases hq) (fun hY => absurd (hY 11 (by decide)) (by decide))
                    · refine fI 38 (.pointer (some ⟨b19, 1, none⟩)) [(4, .pointer (some ⟨b19, 0, none⟩))] 0 [none] rfl rfl (by kernel_rfl) rfl (by kernel_rfl) (by kernel_rfl) fun G a w S => ?_
                      refine sField (b := b19) (off := 0) 1 1 S (wN rfl) rfl (by kernel_rfl) (by kernel_rfl) rfl rfl (by decide) (fun a S => ?_)
                      exact leafL ⟨rfl, S⟩
                    · refine ⟨_, [(37, .slice ad84 l75.length cp85), (38, .pointer (some ⟨b19, 1, none⟩))], rfl, (srcs_of [some 1, some 0] rfl (by kernel_rfl) (by kernel_rfl)), fun G a w S => ?_⟩
                      refine sStore (p := b19) (off := 1) (T := 36) (vs := [.slice ad66 l57.length cp67, .slice ad34 s33.length cp35]) (v := .slice ad84 l75.length cp85) 2 [.slice ad84 l75.length cp85] S (wN rfl) rfl (by kernel_rfl) (by kernel_rfl) rfl (by kernel_rfl) (by kernel_rfl) rfl (by simp) rfl (fun a w S => ?_)
                      refine leafL ⟨rfl, _, _, .inr ⟨[], rfl, S, hz_of (by kernel_rfl), ?_⟩⟩
                      refine node_by (A := anc_raddleref37_Mirror_s0_0) (nf := [8, 9, 11]) (Y := [11, 9, 8]) 12 (by kernel_rfl) (by kernel_rfl) (by kernel_rfl) (by kernel_rfl) (by kernel_rfl) [10, 9, 8, 0, 1, 2, 3, 4, 5, 6, 7] (by kernel_rfl) (by decide) (by decide) (aD 0 11 11 (by decide) (aD 1 10 11 (by decide) (aD 2 9 11 (by decide) (aD 3 8 11 (by decide) (aD 4 7 11 (by decide) (aD 5 6 11 (by decide) (aD 6 5 11 (by decide) (aD 7 4 11 (by decide) (aY 8 3 (by decide) (aY 9 2 (by decide) (aD 10 1 11 (by decide) (aY 11 0 (by decide) (trivial))))))))))))) [(1, .pointer (some ⟨b10, 0, none⟩)), (2, .pointer (some ⟨b11, 0, none⟩)), (4, .pointer (some ⟨b19, 0, none⟩)), (5, .int .i64 s29)] (fin_of [none, none, none, none] rfl (by kernel_rfl) (by kernel_rfl)) (fun _ a w S => ?_)
                      · refine leafB (leafT (hK48 _ _ ?_))
                        refine sRegion ?_
                        refine sMove (.int .i64 s29) S (wN rfl) (.inl rfl) (by kernel_rfl) rfl (by decide) (fun a S => ?_)
                        refine sBin (.int .i64 (w64 (s29 + 1))) S (wN rfl) rfl (by kernel_rfl) (by kernel_rfl) (bAdd _ _ _ _ s29 1) rfl (by decide) (fun a S => ?_)
                        refine sMove (.int .i64 (w64 (s29 + 1))) S (wN rfl) (.inr rfl) (by kernel_rfl) rfl (by decide) (fun a S => ?_)
                        exact leafL (leafT (⟨(w64 (s29 + 1), l57, l75), (Option.some.inj h).symm, ⟨ad66, cp67, ad84, cp85, S.fix [5, 6, 0, 3, 1] [6, 7] (by decide) (by kernel_rfl) (by kernel_rfl) (by kernel_rfl)⟩⟩))
      · refine sCondF (b := decide (s29 < (p0.Left.length : Int))) S (by kernel_rfl) hc47 ?_
        obtain rfl := Option.some.inj h
        obtain rfl := hu36 _ rfl
        have h := g37
        clear g37
        try dsimp only at h
        exact wp_exit (xThen (xThen (xHit (leafT (⟨s30, s33, Option.some.inj h, ad31, cp32, ad34, cp35, S.fix [1, 2, 3, 4] [] (by decide) (by kernel_rfl) (by kernel_rfl) (by kernel_rfl)⟩)))))
    · obtain ⟨o20, o23, rfl, ad21, cp22, ad24, cp25, S⟩ := hI
      have h := g27
      clear g27
      try dsimp only at h
      refine sSeq (fun K86 hK86 => ?_)
      refine sRegion ?_
      refine sLoadN (p := b19) (off := 0) (T := 36) (vs := [.slice ad21 o20.length cp22, .slice ad24 o23.length cp25]) 1 [.slice ad21 o20.length cp22, .slice ad24 o23.length cp25] S (wN rfl) rfl (by kernel_rfl) (by kernel_rfl) (by kernel_rfl) (by kernel_rfl) rfl rfl (by decide) (fun a S => ?_)
      refine sStore (p := b11) (off := 0) (T := 36) (vs := [.slice none 0 0, .slice none 0 0]) (v := .agg #[.slice ad21 o20.length cp22, .slice ad24 o23.length cp25]) 0 [.slice ad21 o20.length cp22, .slice ad24 o23.length cp25] S (wN rfl) rfl (by kernel_rfl) (by kernel_rfl) rfl (by kernel_rfl) (by kernel_rfl) rfl (by simp) rfl (fun a w S => ?_)
      refine sMove (.int .i64 0) S (wN rfl) (.inr rfl) (by kernel_rfl) rfl (by decide) (fun a S => ?_)
      refine leafL (leafT (hK86 _ _ ?_))
      obtain rfl := Option.some.inj h
      exact wp_ret (sRet (.tuple #[.agg #[.slice ad21 o20.length cp22, .slice ad24 o23.length cp25], .int .i64 0]) S (rsl2 rfl (rvN (c := 2) (t := 36) (T := 36) (p := b11) 0 [.slice ad21 o20.length cp22, .slice ad24 o23.length cp25] S (by kernel_rfl) (by kernel_rfl) (by kernel_rfl) (by kernel_rfl)) (rvT (t := 3) (v := .int .i64 0) S (by kernel_rfl))) ⟨(ad21, cp22, ad24, cp25), rfl, S.mem.sel [2, 3] [] (by decide) (by kernel_rfl) (by kernel_rfl)⟩)

end Go.Proofs.Ytmedbnjhgkcndaa
