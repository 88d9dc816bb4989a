import Derived.Test.YtmedbnjhgkcndaaGTy
import Derived.Test.YtmedbnjhgkcndaaG17
namespace Go.Proofs.Ytmedbnjhgkcndaa
open Go.RowKit
set_option linter.unusedVariables false

def anc_piece_Mirror_s0_0 : List (List Nat) := [[], [0], [0, 1], [0, 1, 2], [], [4], [4, 5], [4, 5, 6], [0, 1, 2, 3, 4, 5, 6, 7], [], [0, 1, 2, 3, 4, 5, 6, 7, 8, 9]]
def anc_piece_Mirror_s0_1 : List (List Nat) := [[], [0], [], [], [3], [], [], [6], [], [6, 7, 8], [6, 7, 8, 9], [6, 7, 8, 9, 10], [], [12], [], [12, 13, 14], [12, 13, 14, 15], [12, 13, 14, 15, 16], [0, 1, 2, 6, 7, 8, 9, 10, 11, 12, 13, 14, 15, 16], [0, 1, 2, 6, 7, 8, 9, 10, 11, 12, 13, 14, 15, 16, 18], [0, 1, 2, 3, 4, 5, 6, 7, 8, 9, 10, 11, 12, 13, 14, 15, 16, 17, 18, 19], [0, 1, 2, 3, 4, 5, 6, 7, 8, 9, 10, 11, 12, 13, 14, 15, 16, 17, 18, 19, 20]]
noncomputable def piece_Mirror_s0_l1 (p0 : api_Piece) : (Int × List Int × List Int) → Option ((Int × List Int × List Int) ⊕ (List Int × List Int)) := fun s0 => match s0 with
  | (s69, s70, s73) =>
    if decide (s69 < (p0.Left.length : Int)) then
      Option.bind (idxO p0.Right s69) fun x90 =>
      Option.bind (idxO p0.Left s69) fun x95 =>
      Option.bind (idxO s70 s69) fun x100 =>
      Option.bind (setO s70 s69 (w64 (0 - x90))) fun l105 =>
      Option.bind (idxO s73 s69) fun x107 =>
      Option.bind (setO s73 s69 (w64 (0 - x95))) fun l112 =>
      some (.inl (w64 (s69 + 1), l105, l112))
    else
      some (.inr (s70, s73))
noncomputable def F_piece_Mirror_s0 (p0 : api_Piece) : Option (api_Piece × Int) :=
  Option.bind (F_piece_Check p0) fun r14 =>
  if r14 != 0 then
    some ((api_Piece.mk ([] : (List Int)) ([] : (List Int))), r14)
  else
    Option.bind (α := (List Int × List Int)) (
      Option.bind (makeO (p0.Left.length : Int) (0 : Int)) fun m30 =>
      some (m30, m30)) fun (o20, o23) =>
    Option.bind (α := (List Int × List Int)) (
      Option.bind (whileO (piece_Mirror_s0_l1 p0) (0, o20, o23)) fun (e79, e82) =>
        some (e79, e82)) fun (o60, o63) =>
    some ((api_Piece.mk o60 o63), 0)
set_option maxHeartbeats 4000000 in
set_option maxRecDepth 100000 in
theorem c_piece_Mirror_s0 (E : Nat → Prop) (w0 : World) (p0 : api_Piece) (v0 : Value) (r : (api_Piece × Int)) (h : F_piece_Mirror_s0 p0 = some r) (S : St0 E [] w0 w0 [] [fRep r_api_Piece (v0) p0]) :
    Calls Try.prog 15 #[v0] w0 (Ret (X := Option Addr × Nat × Option Addr × Nat) E [] w0 (fun x => .tuple #[.agg #[.slice x.1 r.1.Left.length x.2.1, .slice x.2.2.1 r.1.Right.length x.2.2.2], .int .i64 r.2]) (fun x => [eRow (rI .i64) 3 (.slice x.1 r.1.Left.length x.2.1) r.1.Left, eRow (rI .i64) 3 (.slice x.2.2.1 r.1.Right.length x.2.2.2) r.1.Right]) (fun _ => [])) := by
  unfold F_piece_Mirror_s0 at h
  obtain ⟨u1, u2, rfl, hu3, hu4⟩ := S.know (i := 0) (e := fRep r_api_Piece (v0) p0) (by kernel_rfl)
  have S := S.learn (fRep (rL (rI .i64)) u1 p0.Left) hu3
  obtain ⟨ad5, cp6, _, rfl, _⟩ := hu3
  have S := S.learn (fRep (rL (rI .i64)) u2 p0.Right) hu4
  obtain ⟨ad7, cp8, _, rfl, _⟩ := hu4
  refine sEnter (args := [.agg #[.slice ad5 p0.Left.length cp6, .slice ad7 p0.Right.length cp8]]) 50 Try.func15 rfl rfl (by simp) S (fun a S => ?_)
  refine sSeq (fun K9 hK9 => ?_)
  refine sRegion ?_
  refine sBox (v := .agg #[.slice ad5 p0.Left.length cp6, .slice ad7 p0.Right.length cp8]) S (wN rfl) rfl (by kernel_rfl) [.slice ad5 p0.Left.length cp6, .slice ad7 p0.Right.length cp8] rfl rfl (by decide) (fun a b10 w S => ?_)
  refine sAlloc (.agg #[.slice none 0 0, .slice none 0 0]) S (wN rfl) rfl (by kernel_rfl) [.slice none 0 0, .slice none 0 0] rfl rfl (by decide) (fun a b11 w S => ?_)
  refine sMove (.int .i64 0) S (wN rfl) (.inr rfl) (by kernel_rfl) rfl (by decide) (fun a S => ?_)
  refine leafL (leafT (hK9 _ _ ?_))
  refine sSeq (fun K12 hK12 => ?_)
  refine sSeq (fun K13 hK13 => ?_)
  refine sRegion ?_
  refine sLoadN (p := b10) (off := 0) (T := 36) (vs := [.slice ad5 p0.Left.length cp6, .slice ad7 p0.Right.length cp8]) 1 [.slice ad5 p0.Left.length cp6, .slice ad7 p0.Right.length cp8] S (wN rfl) rfl (by kernel_rfl) (by kernel_rfl) (by kernel_rfl) (by kernel_rfl) rfl rfl (by decide) (fun a S => ?_)
  obtain ⟨r14, hx15, h⟩ := bindSome h
  have S1 := S.mem
  refine sCallQ (X := Unit) (f := 17) (vs := [.agg #[.slice ad5 p0.Left.length cp6, .slice ad7 p0.Right.length cp8]]) (val := fun _ => .int .i64 r14) S (wN rfl) rfl callee17 (by kernel_rfl) (S1.quiet [2] (by kernel_rfl)) (fun E1 w1 S1 => c_piece_Check E1 w1 p0 (.agg #[.slice ad5 p0.Left.length cp6, .slice ad7 p0.Right.length cp8]) r14 hx15 S1) rfl (by decide) (fun _ a w S => ?_)
  refine sMove (.int .i64 r14) S (wN rfl) (.inr rfl) (by kernel_rfl) rfl (by decide) (fun a S => ?_)
  refine leafL (leafT (hK13 _ _ ?_))
  refine sSeq (fun K16 hK16 => ?_)
  refine sRegion ?_
  refine sMove (.int .i64 r14) S (wN rfl) (.inl rfl) (by kernel_rfl) rfl (by decide) (fun a S => ?_)
  refine sBin (.bool (r14 != 0)) S (wN rfl) rfl (by kernel_rfl) (by kernel_rfl) (bNe _ _ _ _ .i64 r14 0) rfl (by decide) (fun a S => ?_)
  refine leafL (leafT (hK16 _ _ ?_))
  rcases iteSome h with ⟨hc17, h⟩ | ⟨hc17, h⟩
  · refine sCondT (b := r14 != 0) S (by kernel_rfl) hc17 ?_
    refine sSeq (fun K18 hK18 => ?_)
    refine sRegion ?_
    refine sBuild [] [.slice none 0 0, .slice none 0 0] S (wN rfl) rfl (by kernel_rfl) (by kernel_rfl) rfl (by decide) (fun a S => ?_)
    refine sMove (.int .i64 r14) S (wN rfl) (.inl rfl) (by kernel_rfl) rfl (by decide) (fun a S => ?_)
    refine sStore (p := b11) (off := 0) (T := 36) (vs := [.slice none 0 0, .slice none 0 0]) (v := .agg #[.slice none 0 0, .slice none 0 0]) 0 [.slice none 0 0, .slice none 0 0] S (wN rfl) rfl (by kernel_rfl) (by kernel_rfl) rfl (by kernel_rfl) (by kernel_rfl) rfl (by simp) rfl (fun a w S => ?_)
    refine sMove (.int .i64 r14) S (wN rfl) (.inr rfl) (by kernel_rfl) rfl (by decide) (fun a S => ?_)
    refine leafL (leafT (hK18 _ _ ?_))
    obtain rfl := Option.some.inj h
    have S := S.nilRow (rI .i64) 3 (α := Int)
    have S := S.nilRow (rI .i64) 3 (α := Int)
    exact wp_ret (rThen (sRet (.tuple #[.agg #[.slice none 0 0, .slice none 0 0], .int .i64 r14]) S (rsl2 rfl (rvN (c := 2) (t := 36) (T := 36) (p := b11) 2 [.slice none 0 0, .slice none 0 0] S (by kernel_rfl) (by kernel_rfl) (by kernel_rfl) (by kernel_rfl)) (rvT (t := 3) (v := .int .i64 r14) S (by kernel_rfl))) ⟨(none, 0, none, 0), rfl, S.mem.sel [1, 0] [] (by decide) (by kernel_rfl) (by kernel_rfl)⟩))
  · refine sCondF (b := r14 != 0) S (by kernel_rfl) hc17 ?_
    refine wp_skip (leafT (hK12 _ _ ?_))
    obtain ⟨t26, h, g27⟩ := bindSome h
    refine sCut (fun a w => ∃ o20, ∃ o23, (o20, o23) = t26 ∧ ∃ b19, ∃ ad21, ∃ cp22, ∃ ad24, ∃ cp25, St E [] w0 50 a w [(1, .pointer (some ⟨b10, 0, none⟩)), (2, .pointer (some ⟨b11, 0, none⟩)), (5, .pointer (some ⟨b19, 0, none⟩))] [eBox b10 36 [.slice ad5 p0.Left.length cp6, .slice ad7 p0.Right.length cp8], eBox b11 36 [.slice none 0 0, .slice none 0 0], eBox b19 36 [.slice ad21 o20.length cp22, .slice ad24 o23.length cp25], eRow (rI .i64) 3 (.slice ad21 o20.length cp22) o20, eRow (rI .i64) 3 (.slice ad24 o23.length cp25) o23] [fRep (rL (rI .i64)) (.slice ad5 p0.Left.length cp6) p0.Left, fRep (rL (rI .i64)) (.slice ad7 p0.Right.length cp8) p0.Right]) ?_ (fun a w hI => ?_)
    · obtain ⟨m30, hx31, h⟩ := bindSome h
      refine sDraw (nf := [3, 7, 9, 10]) (W := [(0, 13, .pointer (some ⟨b10, 0, none⟩)), (1, 14, .slice ad5 p0.Left.length cp6), (2, 15, .int .i64 (p0.Left.length : Int)), (4, 17, .pointer (some ⟨b10, 0, none⟩)), (5, 18, .slice ad5 p0.Left.length cp6), (6, 19, .int .i64 (p0.Left.length : Int))]) (by kernel_rfl) S ?_
      refine node_by (A := anc_piece_Mirror_s0_0) (nf := [3, 7, 9, 10]) (Y := []) (W := [(0, 13, .pointer (some ⟨b10, 0, none⟩)), (1, 14, .slice ad5 p0.Left.length cp6), (2, 15, .int .i64 (p0.Left.length : Int)), (4, 17, .pointer (some ⟨b10, 0, none⟩)), (5, 18, .slice ad5 p0.Left.length cp6), (6, 19, .int .i64 (p0.Left.length : Int))]) 11 (by kernel_rfl) (by kernel_rfl) (by kernel_rfl) (by kernel_rfl) (by kernel_rfl) [0, 1, 2, 4, 5, 6] (by kernel_rfl) (by decide) (by decide) (aF 0 10 (by decide) ?_ (aF 1 9 (by decide) ?_ (aF 2 8 (by decide) ?_ (aN 3 7 (by decide) ?_ (aF 4 6 (by decide) ?_ (aF 5 5 (by decide) ?_ (aF 6 4 (by decide) ?_ (aN 7 3 (by decide) ?_ (aE 8 2 3 (by decide) (aN 9 1 (by decide) ?_ (aB 10 0 3 (by decide) (trivial)))))))))))) [] (fun q hq => by cases hq) (fun hY => absurd (hY 3 (by decide)) (by decide))
      · refine fI 13 (.pointer (some ⟨b10, 0, none⟩)) [(1, .pointer (some ⟨b10, 0, none⟩))] 0 [none] rfl rfl (by kernel_rfl) rfl (by kernel_rfl) (by kernel_rfl) fun G a w S => ?_
        refine sField (b := b10) (off := 0) 0 0 S (wN rfl) rfl (by kernel_rfl) (by kernel_rfl) rfl rfl (by decide) (fun a S => ?_)
        exact leafL ⟨rfl, S⟩
      · refine fI 14 (.slice ad5 p0.Left.length cp6) [(13, .pointer (some ⟨b10, 0, none⟩))] 1 [some 0] rfl rfl (by kernel_rfl) rfl (by kernel_rfl) (by kernel_rfl) fun G a w S => ?_
        refine sLoad1 (p := b10) (off := 0) (T := 36) (vs := [.slice ad5 p0.Left.length cp6, .slice ad7 p0.Right.length cp8]) 1 (.slice ad5 p0.Left.length cp6) S (wN rfl) rfl (by kernel_rfl) (by kernel_rfl) (by kernel_rfl) rfl rfl (by decide) (fun a S => ?_)
        exact leafL ⟨rfl, S⟩
      · refine fI 15 (.int .i64 (p0.Left.length : Int)) [(14, .slice ad5 p0.Left.length cp6)] 2 [some 1] rfl rfl (by kernel_rfl) rfl (by kernel_rfl) (by kernel_rfl) fun G a w S => ?_
        refine sLen (ad := ad5) (m := p0.Left.length) (c := cp6) S (wN rfl) rfl Try.underlying34 (by kernel_rfl) rfl (by decide) (fun a S => ?_)
        exact leafL ⟨rfl, S⟩
      · refine ⟨_, [(15, .int .i64 (p0.Left.length : Int))], rfl, (srcs_of [some 2] rfl (by kernel_rfl) (by kernel_rfl)), fun G a w S => ?_⟩
        refine sMake (r := (rI .i64)) (m := (p0.Left.length : Int)) (xs := m30) (.int .i64 0) (0 : Int) 8 S (wN rfl) rfl Try.underlying34 (by kernel_rfl) rfl (by decide) (fun _ _ => rfl) (by kernel_rfl) (by kernel_rfl) hx31 rfl (by decide) (fun a w ad35 cp36 S => ?_)
        refine leafL ⟨rfl, _, _, .inl ⟨16, (.slice ad35 m30.length cp36), [], rfl, S, hz_of (by kernel_rfl), ?_⟩⟩
        refine node_by (A := anc_piece_Mirror_s0_0) (nf := [3, 7, 9, 10]) (Y := [3]) 11 (by kernel_rfl) (by kernel_rfl) (by kernel_rfl) (by kernel_rfl) (by kernel_rfl) [3, 0, 1, 2, 4, 5, 6] (by kernel_rfl) (by decide) (by decide) (aD 0 10 3 (by decide) (aD 1 9 3 (by decide) (aD 2 8 3 (by decide) (aY 3 7 (by decide) (aF 4 6 (by decide) ?_ (aF 5 5 (by decide) ?_ (aF 6 4 (by decide) ?_ (aN 7 3 (by decide) ?_ (aE 8 2 7 (by decide) (aN 9 1 (by decide) ?_ (aB 10 0 7 (by decide) (trivial)))))))))))) [] (fun q hq => by cases hq) (fun hY => absurd (hY 7 (by decide)) (by decide))
        · refine fI 17 (.pointer (some ⟨b10, 0, none⟩)) [(1, .pointer (some ⟨b10, 0, none⟩))] 4 [none] rfl rfl (by kernel_rfl) rfl (by kernel_rfl) (by kernel_rfl) fun G a w S => ?_
          refine sField (b := b10) (off := 0) 0 0 S (wN rfl) rfl (by kernel_rfl) (by kernel_rfl) rfl rfl (by decide) (fun a S => ?_)
          exact leafL ⟨rfl, S⟩
        · refine fI 18 (.slice ad5 p0.Left.length cp6) [(17, .pointer (some ⟨b10, 0, none⟩))] 5 [some 4] rfl rfl (by kernel_rfl) rfl (by kernel_rfl) (by kernel_rfl) fun G a w S => ?_
          refine sLoad1 (p := b10) (off := 0) (T := 36) (vs := [.slice ad5 p0.Left.length cp6, .slice ad7 p0.Right.length cp8]) 2 (.slice ad5 p0.Left.length cp6) S (wN rfl) rfl (by kernel_rfl) (by kernel_rfl) (by kernel_rfl) rfl rfl (by decide) (fun a S => ?_)
          exact leafL ⟨rfl, S⟩
        · refine fI 19 (.int .i64 (p0.Left.length : Int)) [(18, .slice ad5 p0.Left.length cp6)] 6 [some 5] rfl rfl (by kernel_rfl) rfl (by kernel_rfl) (by kernel_rfl) fun G a w S => ?_
          refine sLen (ad := ad5) (m := p0.Left.length) (c := cp6) S (wN rfl) rfl Try.underlying34 (by kernel_rfl) rfl (by decide) (fun a S => ?_)
          exact leafL ⟨rfl, S⟩
        · refine ⟨_, [(19, .int .i64 (p0.Left.length : Int))], rfl, (srcs_of [some 6] rfl (by kernel_rfl) (by kernel_rfl)), fun G a w S => ?_⟩
          refine sMake (r := (rI .i64)) (m := (p0.Left.length : Int)) (xs := m30) (.int .i64 0) (0 : Int) 8 S (wN rfl) rfl Try.underlying34 (by kernel_rfl) rfl (by decide) (fun _ _ => rfl) (by kernel_rfl) (by kernel_rfl) hx31 rfl (by decide) (fun a w ad37 cp38 S => ?_)
          refine leafL ⟨rfl, _, _, .inl ⟨20, (.slice ad37 m30.length cp38), [(8, 21, .agg #[.slice ad35 m30.length cp36, .slice ad37 m30.length cp38])], rfl, S, hz_of (by kernel_rfl), ?_⟩⟩
          refine node_by (A := anc_piece_Mirror_s0_0) (nf := [3, 7, 9, 10]) (Y := [7, 3]) 11 (by kernel_rfl) (by kernel_rfl) (by kernel_rfl) (by kernel_rfl) (by kernel_rfl) [8, 7, 3, 0, 1, 2, 4, 5, 6] (by kernel_rfl) (by decide) (by decide) (aD 0 10 3 (by decide) (aD 1 9 3 (by decide) (aD 2 8 3 (by decide) (aY 3 7 (by decide) (aD 4 6 7 (by decide) (aD 5 5 7 (by decide) (aD 6 4 7 (by decide) (aY 7 3 (by decide) (aF 8 2 (by decide) ?_ (aN 9 1 (by decide) ?_ (aB 10 0 9 (by decide) (trivial)))))))))))) [] (fun q hq => by cases hq) (fun hY => absurd (hY 9 (by decide)) (by decide))
          · refine fI 21 (.agg #[.slice ad35 m30.length cp36, .slice ad37 m30.length cp38]) [(16, .slice ad35 m30.length cp36), (20, .slice ad37 m30.length cp38)] 0 [some 2, some 1] rfl rfl (by kernel_rfl) rfl (by kernel_rfl) (by kernel_rfl) fun G a w S => ?_
            refine sBuild [(0, .slice ad35 m30.length cp36), (1, .slice ad37 m30.length cp38)] [.slice ad35 m30.length cp36, .slice ad37 m30.length cp38] S (wN rfl) rfl (by kernel_rfl) (by kernel_rfl) rfl (by decide) (fun a S => ?_)
            exact leafL ⟨rfl, S⟩
          · refine ⟨_, [], rfl, (srcs_of [] rfl (by kernel_rfl) (by kernel_rfl)), fun G a w S => ?_⟩
            refine sAlloc (.agg #[.slice none 0 0, .slice none 0 0]) S (wN rfl) rfl (by kernel_rfl) [.slice none 0 0, .slice none 0 0] rfl rfl (by decide) (fun a b39 w S => ?_)
            refine leafL ⟨rfl, _, _, .inl ⟨5, (.pointer (some ⟨b39, 0, none⟩)), [], rfl, S, hz_of (by kernel_rfl), ?_⟩⟩
            refine node_by (A := anc_piece_Mirror_s0_0) (nf := [3, 7, 9, 10]) (Y := [9, 7, 3]) 11 (by kernel_rfl) (by kernel_rfl) (by kernel_rfl) (by kernel_rfl) (by kernel_rfl) [9, 8, 7, 3, 0, 1, 2, 4, 5, 6] (by kernel_rfl) (by decide) (by decide) (aD 0 10 3 (by decide) (aD 1 9 3 (by decide) (aD 2 8 3 (by decide) (aY 3 7 (by decide) (aD 4 6 7 (by decide) (aD 5 5 7 (by decide) (aD 6 4 7 (by decide) (aY 7 3 (by decide) (aF 8 2 (by decide) ?_ (aY 9 1 (by decide) (aN 10 0 (by decide) ?_ (trivial)))))))))))) [] (fun q hq => by cases hq) (fun hY => absurd (hY 10 (by decide)) (by decide))
            · refine fI 21 (.agg #[.slice ad35 m30.length cp36, .slice ad37 m30.length cp38]) [(16, .slice ad35 m30.length cp36), (20, .slice ad37 m30.length cp38)] 1 [some 3, some 2] rfl rfl (by kernel_rfl) rfl (by kernel_rfl) (by kernel_rfl) fun G a w S => ?_
              refine sBuild [(0, .slice ad35 m30.length cp36), (1, .slice ad37 m30.length cp38)] [.slice ad35 m30.length cp36, .slice ad37 m30.length cp38] S (wN rfl) rfl (by kernel_rfl) (by kernel_rfl) rfl (by decide) (fun a S => ?_)
              exact leafL ⟨rfl, S⟩
            · refine ⟨_, [(5, .pointer (some ⟨b39, 0, none⟩)), (21, .agg #[.slice ad35 m30.length cp36, .slice ad37 m30.length cp38])], rfl, (srcs_of [some 0, some 1] rfl (by kernel_rfl) (by kernel_rfl)), fun G a w S => ?_⟩
              refine sStore (p := b39) (off := 0) (T := 36) (vs := [.slice none 0 0, .slice none 0 0]) (v := .agg #[.slice ad35 m30.length cp36, .slice ad37 m30.length cp38]) 0 [.slice ad35 m30.length cp36, .slice ad37 m30.length cp38] S (wN rfl) rfl (by kernel_rfl) (by kernel_rfl) rfl (by kernel_rfl) (by kernel_rfl) rfl (by simp) rfl (fun a w S => ?_)
              refine leafL ⟨rfl, _, _, .inr ⟨[], rfl, S, hz_of (by kernel_rfl), ?_⟩⟩
              refine node_by (A := anc_piece_Mirror_s0_0) (nf := [3, 7, 9, 10]) (Y := [10, 9, 7, 3]) 11 (by kernel_rfl) (by kernel_rfl) (by kernel_rfl) (by kernel_rfl) (by kernel_rfl) [9, 8, 7, 3, 0, 1, 2, 4, 5, 6] (by kernel_rfl) (by decide) (by decide) (aD 0 10 10 (by decide) (aD 1 9 10 (by decide) (aD 2 8 10 (by decide) (aY 3 7 (by decide) (aD 4 6 10 (by decide) (aD 5 5 10 (by decide) (aD 6 4 10 (by decide) (aY 7 3 (by decide) (aD 8 2 10 (by decide) (aY 9 1 (by decide) (aY 10 0 (by decide) (trivial)))))))))))) [(1, .pointer (some ⟨b10, 0, none⟩)), (2, .pointer (some ⟨b11, 0, none⟩)), (5, .pointer (some ⟨b39, 0, none⟩))] (fin_of [none, none, some 0] rfl (by kernel_rfl) (by kernel_rfl)) (fun _ a w S => ?_)
              · exact leafT (⟨m30, m30, Option.some.inj h, b39, ad35, cp36, ad37, cp38, S.fix [4, 3, 0, 2, 1] [1, 0] (by decide) (by kernel_rfl) (by kernel_rfl) (by kernel_rfl)⟩)
        · refine ⟨_, [], rfl, (srcs_of [] rfl (by kernel_rfl) (by kernel_rfl)), fun G a w S => ?_⟩
          refine sAlloc (.agg #[.slice none 0 0, .slice none 0 0]) S (wN rfl) rfl (by kernel_rfl) [.slice none 0 0, .slice none 0 0] rfl rfl (by decide) (fun a b40 w S => ?_)
          refine leafL ⟨rfl, _, _, .inl ⟨5, (.pointer (some ⟨b40, 0, none⟩)), [], rfl, S, hz_of (by kernel_rfl), ?_⟩⟩
          refine node_by (A := anc_piece_Mirror_s0_0) (nf := [3, 7, 9, 10]) (Y := [9, 3]) 11 (by kernel_rfl) (by kernel_rfl) (by kernel_rfl) (by kernel_rfl) (by kernel_rfl) [9, 3, 0, 1, 2, 4, 5, 6] (by kernel_rfl) (by decide) (by decide) (aD 0 10 3 (by decide) (aD 1 9 3 (by decide) (aD 2 8 3 (by decide) (aY 3 7 (by decide) (aF 4 6 (by decide) ?_ (aF 5 5 (by decide) ?_ (aF 6 4 (by decide) ?_ (aN 7 3 (by decide) ?_ (aE 8 2 7 (by decide) (aY 9 1 (by decide) (aB 10 0 7 (by decide) (trivial)))))))))))) [] (fun q hq => by cases hq) (fun hY => absurd (hY 7 (by decide)) (by decide))
          · refine fI 17 (.pointer (some ⟨b10, 0, none⟩)) [(1, .pointer (some ⟨b10, 0, none⟩))] 5 [none] rfl rfl (by kernel_rfl) rfl (by kernel_rfl) (by kernel_rfl) fun G a w S => ?_
            refine sField (b := b10) (off := 0) 0 0 S (wN rfl) rfl (by kernel_rfl) (by kernel_rfl) rfl rfl (by decide) (fun a S => ?_)
            exact leafL ⟨rfl, S⟩
          · refine fI 18 (.slice ad5 p0.Left.length cp6) [(17, .pointer (some ⟨b10, 0, none⟩))] 6 [some 5] rfl rfl (by kernel_rfl) rfl (by kernel_rfl) (by kernel_rfl) fun G a w S => ?_
            refine sLoad1 (p := b10) (off := 0) (T := 36) (vs := [.slice ad5 p0.Left.length cp6, .slice ad7 p0.Right.length cp8]) 3 (.slice ad5 p0.Left.length cp6) S (wN rfl) rfl (by kernel_rfl) (by kernel_rfl) (by kernel_rfl) rfl rfl (by decide) (fun a S => ?_)
            exact leafL ⟨rfl, S⟩
          · refine fI 19 (.int .i64 (p0.Left.length : Int)) [(18, .slice ad5 p0.Left.length cp6)] 7 [some 6] rfl rfl (by kernel_rfl) rfl (by kernel_rfl) (by kernel_rfl) fun G a w S => ?_
            refine sLen (ad := ad5) (m := p0.Left.length) (c := cp6) S (wN rfl) rfl Try.underlying34 (by kernel_rfl) rfl (by decide) (fun a S => ?_)
            exact leafL ⟨rfl, S⟩
          · refine ⟨_, [(19, .int .i64 (p0.Left.length : Int))], rfl, (srcs_of [some 7] rfl (by kernel_rfl) (by kernel_rfl)), fun G a w S => ?_⟩
            refine sMake (r := (rI .i64)) (m := (p0.Left.length : Int)) (xs := m30) (.int .i64 0) (0 : Int) 8 S (wN rfl) rfl Try.underlying34 (by kernel_rfl) rfl (by decide) (fun _ _ => rfl) (by kernel_rfl) (by kernel_rfl) hx31 rfl (by decide) (fun a w ad41 cp42 S => ?_)
            refine leafL ⟨rfl, _, _, .inl ⟨20, (.slice ad41 m30.length cp42), [(8, 21, .agg #[.slice ad35 m30.length cp36, .slice ad41 m30.length cp42])], rfl, S, hz_of (by kernel_rfl), ?_⟩⟩
            refine node_by (A := anc_piece_Mirror_s0_0) (nf := [3, 7, 9, 10]) (Y := [7, 9, 3]) 11 (by kernel_rfl) (by kernel_rfl) (by kernel_rfl) (by kernel_rfl) (by kernel_rfl) [8, 7, 9, 3, 0, 1, 2, 4, 5, 6] (by kernel_rfl) (by decide) (by decide) (aD 0 10 3 (by decide) (aD 1 9 3 (by decide) (aD 2 8 3 (by decide) (aY 3 7 (by decide) (aD 4 6 7 (by decide) (aD 5 5 7 (by decide) (aD 6 4 7 (by decide) (aY 7 3 (by decide) (aF 8 2 (by decide) ?_ (aY 9 1 (by decide) (aN 10 0 (by decide) ?_ (trivial)))))))))))) [] (fun q hq => by cases hq) (fun hY => absurd (hY 10 (by decide)) (by decide))
            · refine fI 21 (.agg #[.slice ad35 m30.length cp36, .slice ad41 m30.length cp42]) [(16, .slice ad35 m30.length cp36), (20, .slice ad41 m30.length cp42)] 0 [some 3, some 1] rfl rfl (by kernel_rfl) rfl (by kernel_rfl) (by kernel_rfl) fun G a w S => ?_
              refine sBuild [(0, .slice ad35 m30.length cp36), (1, .slice ad41 m30.length cp42)] [.slice ad35 m30.length cp36, .slice ad41 m30.length cp42] S (wN rfl) rfl (by kernel_rfl) (by kernel_rfl) rfl (by decide) (fun a S => ?_)
              exact leafL ⟨rfl, S⟩
            · refine ⟨_, [(5, .pointer (some ⟨b40, 0, none⟩)), (21, .agg #[.slice ad35 m30.length cp36, .slice ad41 m30.length cp42])], rfl, (srcs_of [some 2, some 0] rfl (by kernel_rfl) (by kernel_rfl)), fun G a w S => ?_⟩
              refine sStore (p := b40) (off := 0) (T := 36) (vs := [.slice none 0 0, .slice none 0 0]) (v := .agg #[.slice ad35 m30.length cp36, .slice ad41 m30.length cp42]) 1 [.slice ad35 m30.length cp36, .slice ad41 m30.length cp42] S (wN rfl) rfl (by kernel_rfl) (by kernel_rfl) rfl (by kernel_rfl) (by kernel_rfl) rfl (by simp) rfl (fun a w S => ?_)
              refine leafL ⟨rfl, _, _, .inr ⟨[], rfl, S, hz_of (by kernel_rfl), ?_⟩⟩
              refine node_by (A := anc_piece_Mirror_s0_0) (nf := [3, 7, 9, 10]) (Y := [10, 7, 9, 3]) 11 (by kernel_rfl) (by kernel_rfl) (by kernel_rfl) (by kernel_rfl) (by kernel_rfl) [8, 7, 9, 3, 0, 1, 2, 4, 5, 6] (by kernel_rfl) (by decide) (by decide) (aD 0 10 10 (by decide) (aD 1 9 10 (by decide) (aD 2 8 10 (by decide) (aY 3 7 (by decide) (aD 4 6 10 (by decide) (aD 5 5 10 (by decide) (aD 6 4 10 (by decide) (aY 7 3 (by decide) (aD 8 2 10 (by decide) (aY 9 1 (by decide) (aY 10 0 (by decide) (trivial)))))))))))) [(1, .pointer (some ⟨b10, 0, none⟩)), (2, .pointer (some ⟨b11, 0, none⟩)), (5, .pointer (some ⟨b40, 0, none⟩))] (fin_of [none, none, some 2] rfl (by kernel_rfl) (by kernel_rfl)) (fun _ a w S => ?_)
              · exact leafT (⟨m30, m30, Option.some.inj h, b40, ad35, cp36, ad41, cp42, S.fix [4, 3, 0, 2, 1] [1, 0] (by decide) (by kernel_rfl) (by kernel_rfl) (by kernel_rfl)⟩)
      · refine fI 17 (.pointer (some ⟨b10, 0, none⟩)) [(1, .pointer (some ⟨b10, 0, none⟩))] 3 [none] rfl rfl (by kernel_rfl) rfl (by kernel_rfl) (by kernel_rfl) fun G a w S => ?_
        refine sField (b := b10) (off := 0) 0 0 S (wN rfl) rfl (by kernel_rfl) (by kernel_rfl) rfl rfl (by decide) (fun a S => ?_)
        exact leafL ⟨rfl, S⟩
      · refine fI 18 (.slice ad5 p0.Left.length cp6) [(17, .pointer (some ⟨b10, 0, none⟩))] 4 [some 3] rfl rfl (by kernel_rfl) rfl (by kernel_rfl) (by kernel_rfl) fun G a w S => ?_
        refine sLoad1 (p := b10) (off := 0) (T := 36) (vs := [.slice ad5 p0.Left.length cp6, .slice ad7 p0.Right.length cp8]) 1 (.slice ad5 p0.Left.length cp6) S (wN rfl) rfl (by kernel_rfl) (by kernel_rfl) (by kernel_rfl) rfl rfl (by decide) (fun a S => ?_)
        exact leafL ⟨rfl, S⟩
      · refine fI 19 (.int .i64 (p0.Left.length : Int)) [(18, .slice ad5 p0.Left.length cp6)] 5 [some 4] rfl rfl (by kernel_rfl) rfl (by kernel_rfl) (by kernel_rfl) fun G a w S => ?_
        refine sLen (ad := ad5) (m := p0.Left.length) (c := cp6) S (wN rfl) rfl Try.underlying34 (by kernel_rfl) rfl (by decide) (fun a S => ?_)
        exact leafL ⟨rfl, S⟩
      · refine ⟨_, [(19, .int .i64 (p0.Left.length : Int))], rfl, (srcs_of [some 5] rfl (by kernel_rfl) (by kernel_rfl)), fun G a w S => ?_⟩
        refine sMake (r := (rI .i64)) (m := (p0.Left.length : Int)) (xs := m30) (.int .i64 0) (0 : Int) 8 S (wN rfl) rfl Try.underlying34 (by kernel_rfl) rfl (by decide) (fun _ _ => rfl) (by kernel_rfl) (by kernel_rfl) hx31 rfl (by decide) (fun a w ad43 cp44 S => ?_)
        refine leafL ⟨rfl, _, _, .inl ⟨20, (.slice ad43 m30.length cp44), [], rfl, S, hz_of (by kernel_rfl), ?_⟩⟩
        refine node_by (A := anc_piece_Mirror_s0_0) (nf := [3, 7, 9, 10]) (Y := [7]) 11 (by kernel_rfl) (by kernel_rfl) (by kernel_rfl) (by kernel_rfl) (by kernel_rfl) [7, 0, 1, 2, 4, 5, 6] (by kernel_rfl) (by decide) (by decide) (aF 0 10 (by decide) ?_ (aF 1 9 (by decide) ?_ (aF 2 8 (by decide) ?_ (aN 3 7 (by decide) ?_ (aD 4 6 7 (by decide) (aD 5 5 7 (by decide) (aD 6 4 7 (by decide) (aY 7 3 (by decide) (aE 8 2 3 (by decide) (aN 9 1 (by decide) ?_ (aB 10 0 3 (by decide) (trivial)))))))))))) [] (fun q hq => by cases hq) (fun hY => absurd (hY 3 (by decide)) (by decide))
        · refine fI 13 (.pointer (some ⟨b10, 0, none⟩)) [(1, .pointer (some ⟨b10, 0, none⟩))] 1 [none] rfl rfl (by kernel_rfl) rfl (by kernel_rfl) (by kernel_rfl) fun G a w S => ?_
          refine sField (b := b10) (off := 0) 0 0 S (wN rfl) rfl (by kernel_rfl) (by kernel_rfl) rfl rfl (by decide) (fun a S => ?_)
          exact leafL ⟨rfl, S⟩
        · refine fI 14 (.slice ad5 p0.Left.length cp6) [(13, .pointer (some ⟨b10, 0, none⟩))] 2 [some 1] rfl rfl (by kernel_rfl) rfl (by kernel_rfl) (by kernel_rfl) fun G a w S => ?_
          refine sLoad1 (p := b10) (off := 0) (T := 36) (vs := [.slice ad5 p0.Left.length cp6, .slice ad7 p0.Right.length cp8]) 2 (.slice ad5 p0.Left.length cp6) S (wN rfl) rfl (by kernel_rfl) (by kernel_rfl) (by kernel_rfl) rfl rfl (by decide) (fun a S => ?_)
          exact leafL ⟨rfl, S⟩
        · refine fI 15 (.int .i64 (p0.Left.length : Int)) [(14, .slice ad5 p0.Left.length cp6)] 3 [some 2] rfl rfl (by kernel_rfl) rfl (by kernel_rfl) (by kernel_rfl) fun G a w S => ?_
          refine sLen (ad := ad5) (m := p0.Left.length) (c := cp6) S (wN rfl) rfl Try.underlying34 (by kernel_rfl) rfl (by decide) (fun a S => ?_)
          exact leafL ⟨rfl, S⟩
        · refine ⟨_, [(15, .int .i64 (p0.Left.length : Int))], rfl, (srcs_of [some 3] rfl (by kernel_rfl) (by kernel_rfl)), fun G a w S => ?_⟩
          refine sMake (r := (rI .i64)) (m := (p0.Left.length : Int)) (xs := m30) (.int .i64 0) (0 : Int) 8 S (wN rfl) rfl Try.underlying34 (by kernel_rfl) rfl (by decide) (fun _ _ => rfl) (by kernel_rfl) (by kernel_rfl) hx31 rfl (by decide) (fun a w ad45 cp46 S => ?_)
          refine leafL ⟨rfl, _, _, .inl ⟨16, (.slice ad45 m30.length cp46), [(8, 21, .agg #[.slice ad45 m30.length cp46, .slice ad43 m30.length cp44])], rfl, S, hz_of (by kernel_rfl), ?_⟩⟩
          refine node_by (A := anc_piece_Mirror_s0_0) (nf := [3, 7, 9, 10]) (Y := [3, 7]) 11 (by kernel_rfl) (by kernel_rfl) (by kernel_rfl) (by kernel_rfl) (by kernel_rfl) [8, 3, 7, 0, 1, 2, 4, 5, 6] (by kernel_rfl) (by decide) (by decide) (aD 0 10 3 (by decide) (aD 1 9 3 (by decide) (aD 2 8 3 (by decide) (aY 3 7 (by decide) (aD 4 6 7 (by decide) (aD 5 5 7 (by decide) (aD 6 4 7 (by decide) (aY 7 3 (by decide) (aF 8 2 (by decide) ?_ (aN 9 1 (by decide) ?_ (aB 10 0 9 (by decide) (trivial)))))))))))) [] (fun q hq => by cases hq) (fun hY => absurd (hY 9 (by decide)) (by decide))
          · refine fI 21 (.agg #[.slice ad45 m30.length cp46, .slice ad43 m30.length cp44]) [(16, .slice ad45 m30.length cp46), (20, .slice ad43 m30.length cp44)] 0 [some 1, some 2] rfl rfl (by kernel_rfl) rfl (by kernel_rfl) (by kernel_rfl) fun G a w S => ?_
            refine sBuild [(0, .slice ad45 m30.length cp46), (1, .slice ad43 m30.length cp44)] [.slice ad45 m30.length cp46, .slice ad43 m30.length cp44] S (wN rfl) rfl (by kernel_rfl) (by kernel_rfl) rfl (by decide) (fun a S => ?_)
            exact leafL ⟨rfl, S⟩
          · refine ⟨_, [], rfl, (srcs_of [] rfl (by kernel_rfl) (by kernel_rfl)), fun G a w S => ?_⟩
            refine sAlloc (.agg #[.slice none 0 0, .slice none 0 0]) S (wN rfl) rfl (by kernel_rfl) [.slice none 0 0, .slice none 0 0] rfl rfl (by decide) (fun a b47 w S => ?_)
            refine leafL ⟨rfl, _, _, .inl ⟨5, (.pointer (some ⟨b47, 0, none⟩)), [], rfl, S, hz_of (by kernel_rfl), ?_⟩⟩
            refine node_by (A := anc_piece_Mirror_s0_0) (nf := [3, 7, 9, 10]) (Y := [9, 3, 7]) 11 (by kernel_rfl) (by kernel_rfl) (by kernel_rfl) (by kernel_rfl) (by kernel_rfl) [9, 8, 3, 7, 0, 1, 2, 4, 5, 6] (by kernel_rfl) (by decide) (by decide) (aD 0 10 3 (by decide) (aD 1 9 3 (by decide) (aD 2 8 3 (by decide) (aY 3 7 (by decide) (aD 4 6 7 (by decide) (aD 5 5 7 (by decide) (aD 6 4 7 (by decide) (aY 7 3 (by decide) (aF 8 2 (by decide) ?_ (aY 9 1 (by decide) (aN 10 0 (by decide) ?_ (trivial)))))))))))) [] (fun q hq => by cases hq) (fun hY => absurd (hY 10 (by decide)) (by decide))
            · refine fI 21 (.agg #[.slice ad45 m30.length cp46, .slice ad43 m30.length cp44]) [(16, .slice ad45 m30.length cp46), (20, .slice ad43 m30.length cp44)] 1 [some 2, some 3] rfl rfl (by kernel_rfl) rfl (by kernel_rfl) (by kernel_rfl) fun G a w S => ?_
              refine sBuild [(0, .slice ad45 m30.length cp46), (1, .slice ad43 m30.length cp44)] [.slice ad45 m30.length cp46, .slice ad43 m30.length cp44] S (wN rfl) rfl (by kernel_rfl) (by kernel_rfl) rfl (by decide) (fun a S => ?_)
              exact leafL ⟨rfl, S⟩
            · refine ⟨_, [(5, .pointer (some ⟨b47, 0, none⟩)), (21, .agg #[.slice ad45 m30.length cp46, .slice ad43 m30.length cp44])], rfl, (srcs_of [some 0, some 1] rfl (by kernel_rfl) (by kernel_rfl)), fun G a w S => ?_⟩
              refine sStore (p := b47) (off := 0) (T := 36) (vs := [.slice none 0 0, .slice none 0 0]) (v := .agg #[.slice ad45 m30.length cp46, .slice ad43 m30.length cp44]) 0 [.slice ad45 m30.length cp46, .slice ad43 m30.length cp44] S (wN rfl) rfl (by kernel_rfl) (by kernel_rfl) rfl (by kernel_rfl) (by kernel_rfl) rfl (by simp) rfl (fun a w S => ?_)
              refine leafL ⟨rfl, _, _, .inr ⟨[], rfl, S, hz_of (by kernel_rfl), ?_⟩⟩
              refine node_by (A := anc_piece_Mirror_s0_0) (nf := [3, 7, 9, 10]) (Y := [10, 9, 3, 7]) 11 (by kernel_rfl) (by kernel_rfl) (by kernel_rfl) (by kernel_rfl) (by kernel_rfl) [9, 8, 3, 7, 0, 1, 2, 4, 5, 6] (by kernel_rfl) (by decide) (by decide) (aD 0 10 10 (by decide) (aD 1 9 10 (by decide) (aD 2 8 10 (by decide) (aY 3 7 (by decide) (aD 4 6 10 (by decide) (aD 5 5 10 (by decide) (aD 6 4 10 (by decide) (aY 7 3 (by decide) (aD 8 2 10 (by decide) (aY 9 1 (by decide) (aY 10 0 (by decide) (trivial)))))))))))) [(1, .pointer (some ⟨b10, 0, none⟩)), (2, .pointer (some ⟨b11, 0, none⟩)), (5, .pointer (some ⟨b47, 0, none⟩))] (fin_of [none, none, some 0] rfl (by kernel_rfl) (by kernel_rfl)) (fun _ a w S => ?_)
              · exact leafT (⟨m30, m30, Option.some.inj h, b47, ad45, cp46, ad43, cp44, S.fix [4, 3, 0, 1, 2] [1, 0] (by decide) (by kernel_rfl) (by kernel_rfl) (by kernel_rfl)⟩)
        · refine ⟨_, [], rfl, (srcs_of [] rfl (by kernel_rfl) (by kernel_rfl)), fun G a w S => ?_⟩
          refine sAlloc (.agg #[.slice none 0 0, .slice none 0 0]) S (wN rfl) rfl (by kernel_rfl) [.slice none 0 0, .slice none 0 0] rfl rfl (by decide) (fun a b48 w S => ?_)
          refine leafL ⟨rfl, _, _, .inl ⟨5, (.pointer (some ⟨b48, 0, none⟩)), [], rfl, S, hz_of (by kernel_rfl), ?_⟩⟩
          refine node_by (A := anc_piece_Mirror_s0_0) (nf := [3, 7, 9, 10]) (Y := [9, 7]) 11 (by kernel_rfl) (by kernel_rfl) (by kernel_rfl) (by kernel_rfl) (by kernel_rfl) [9, 7, 0, 1, 2, 4, 5, 6] (by kernel_rfl) (by decide) (by decide) (aF 0 10 (by decide) ?_ (aF 1 9 (by decide) ?_ (aF 2 8 (by decide) ?_ (aN 3 7 (by decide) ?_ (aD 4 6 7 (by decide) (aD 5 5 7 (by decide) (aD 6 4 7 (by decide) (aY 7 3 (by decide) (aE 8 2 3 (by decide) (aY 9 1 (by decide) (aB 10 0 3 (by decide) (trivial)))))))))))) [] (fun q hq => by cases hq) (fun hY => absurd (hY 3 (by decide)) (by decide))
          · refine fI 13 (.pointer (some ⟨b10, 0, none⟩)) [(1, .pointer (some ⟨b10, 0, none⟩))] 2 [none] rfl rfl (by kernel_rfl) rfl (by kernel_rfl) (by kernel_rfl) fun G a w S => ?_
            refine sField (b := b10) (off := 0) 0 0 S (wN rfl) rfl (by kernel_rfl) (by kernel_rfl) rfl rfl (by decide) (fun a S => ?_)
            exact leafL ⟨rfl, S⟩
          · refine fI 14 (.slice ad5 p0.Left.length cp6) [(13, .pointer (some ⟨b10, 0, none⟩))] 3 [some 2] rfl rfl (by kernel_rfl) rfl (by kernel_rfl) (by kernel_rfl) fun G a w S => ?_
            refine sLoad1 (p := b10) (off := 0) (T := 36) (vs := [.slice ad5 p0.Left.length cp6, .slice ad7 p0.Right.length cp8]) 3 (.slice ad5 p0.Left.length cp6) S (wN rfl) rfl (by kernel_rfl) (by kernel_rfl) (by kernel_rfl) rfl rfl (by decide) (fun a S => ?_)
            exact leafL ⟨rfl, S⟩
          · refine fI 15 (.int .i64 (p0.Left.length : Int)) [(14, .slice ad5 p0.Left.length cp6)] 4 [some 3] rfl rfl (by kernel_rfl) rfl (by kernel_rfl) (by kernel_rfl) fun G a w S => ?_
            refine sLen (ad := ad5) (m := p0.Left.length) (c := cp6) S (wN rfl) rfl Try.underlying34 (by kernel_rfl) rfl (by decide) (fun a S => ?_)
            exact leafL ⟨rfl, S⟩
          · refine ⟨_, [(15, .int .i64 (p0.Left.length : Int))], rfl, (srcs_of [some 4] rfl (by kernel_rfl) (by kernel_rfl)), fun G a w S => ?_⟩
            refine sMake (r := (rI .i64)) (m := (p0.Left.length : Int)) (xs := m30) (.int .i64 0) (0 : Int) 8 S (wN rfl) rfl Try.underlying34 (by kernel_rfl) rfl (by decide) (fun _ _ => rfl) (by kernel_rfl) (by kernel_rfl) hx31 rfl (by decide) (fun a w ad49 cp50 S => ?_)
            refine leafL ⟨rfl, _, _, .inl ⟨16, (.slice ad49 m30.length cp50), [(8, 21, .agg #[.slice ad49 m30.length cp50, .slice ad43 m30.length cp44])], rfl, S, hz_of (by kernel_rfl), ?_⟩⟩
            refine node_by (A := anc_piece_Mirror_s0_0) (nf := [3, 7, 9, 10]) (Y := [3, 9, 7]) 11 (by kernel_rfl) (by kernel_rfl) (by kernel_rfl) (by kernel_rfl) (by kernel_rfl) [8, 3, 9, 7, 0, 1, 2, 4, 5, 6] (by kernel_rfl) (by decide) (by decide) (aD 0 10 3 (by decide) (aD 1 9 3 (by decide) (aD 2 8 3 (by decide) (aY 3 7 (by decide) (aD 4 6 7 (by decide) (aD 5 5 7 (by decide) (aD 6 4 7 (by decide) (aY 7 3 (by decide) (aF 8 2 (by decide) ?_ (aY 9 1 (by decide) (aN 10 0 (by decide) ?_ (trivial)))))))))))) [] (fun q hq => by cases hq) (fun hY => absurd (hY 10 (by decide)) (by decide))
            · refine fI 21 (.agg #[.slice ad49 m30.length cp50, .slice ad43 m30.length cp44]) [(16, .slice ad49 m30.length cp50), (20, .slice ad43 m30.length cp44)] 0 [some 1, some 3] rfl rfl (by kernel_rfl) rfl (by kernel_rfl) (by kernel_rfl) fun G a w S => ?_
              refine sBuild [(0, .slice ad49 m30.length cp50), (1, .slice ad43 m30.length cp44)] [.slice ad49 m30.length cp50, .slice ad43 m30.length cp44] S (wN rfl) rfl (by kernel_rfl) (by kernel_rfl) rfl (by decide) (fun a S => ?_)
              exact leafL ⟨rfl, S⟩
            · refine ⟨_, [(5, .pointer (some ⟨b48, 0, none⟩)), (21, .agg #[.slice ad49 m30.length cp50, .slice ad43 m30.length cp44])], rfl, (srcs_of [some 2, some 0] rfl (by kernel_rfl) (by kernel_rfl)), fun G a w S => ?_⟩
              refine sStore (p := b48) (off := 0) (T := 36) (vs := [.slice none 0 0, .slice none 0 0]) (v := .agg #[.slice ad49 m30.length cp50, .slice ad43 m30.length cp44]) 1 [.slice ad49 m30.length cp50, .slice ad43 m30.length cp44] S (wN rfl) rfl (by kernel_rfl) (by kernel_rfl) rfl (by kernel_rfl) (by kernel_rfl) rfl (by simp) rfl (fun a w S => ?_)
              refine leafL ⟨rfl, _, _, .inr ⟨[], rfl, S, hz_of (by kernel_rfl), ?_⟩⟩
              refine node_by (A := anc_piece_Mirror_s0_0) (nf := [3, 7, 9, 10]) (Y := [10, 3, 9, 7]) 11 (by kernel_rfl) (by kernel_rfl) (by kernel_rfl) (by kernel_rfl) (by kernel_rfl) [8, 3, 9, 7, 0, 1, 2, 4, 5, 6] (by kernel_rfl) (by decide) (by decide) (aD 0 10 10 (by decide) (aD 1 9 10 (by decide) (aD 2 8 10 (by decide) (aY 3 7 (by decide) (aD 4 6 10 (by decide) (aD 5 5 10 (by decide) (aD 6 4 10 (by decide) (aY 7 3 (by decide) (aD 8 2 10 (by decide) (aY 9 1 (by decide) (aY 10 0 (by decide) (trivial)))))))))))) [(1, .pointer (some ⟨b10, 0, none⟩)), (2, .pointer (some ⟨b11, 0, none⟩)), (5, .pointer (some ⟨b48, 0, none⟩))] (fin_of [none, none, some 2] rfl (by kernel_rfl) (by kernel_rfl)) (fun _ a w S => ?_)
              · exact leafT (⟨m30, m30, Option.some.inj h, b48, ad49, cp50, ad43, cp44, S.fix [4, 3, 0, 1, 2] [1, 0] (by decide) (by kernel_rfl) (by kernel_rfl) (by kernel_rfl)⟩)
      · refine ⟨_, [], rfl, (srcs_of [] rfl (by kernel_rfl) (by kernel_rfl)), fun G a w S => ?_⟩
        refine sAlloc (.agg #[.slice none 0 0, .slice none 0 0]) S (wN rfl) rfl (by kernel_rfl) [.slice none 0 0, .slice none 0 0] rfl rfl (by decide) (fun a b51 w S => ?_)
        refine leafL ⟨rfl, _, _, .inl ⟨5, (.pointer (some ⟨b51, 0, none⟩)), [], rfl, S, hz_of (by kernel_rfl), ?_⟩⟩
        refine node_by (A := anc_piece_Mirror_s0_0) (nf := [3, 7, 9, 10]) (Y := [9]) 11 (by kernel_rfl) (by kernel_rfl) (by kernel_rfl) (by kernel_rfl) (by kernel_rfl) [9, 0, 1, 2, 4, 5, 6] (by kernel_rfl) (by decide) (by decide) (aF 0 10 (by decide) ?_ (aF 1 9 (by decide) ?_ (aF 2 8 (by decide) ?_ (aN 3 7 (by decide) ?_ (aF 4 6 (by decide) ?_ (aF 5 5 (by decide) ?_ (aF 6 4 (by decide) ?_ (aN 7 3 (by decide) ?_ (aE 8 2 3 (by decide) (aY 9 1 (by decide) (aB 10 0 3 (by decide) (trivial)))))))))))) [] (fun q hq => by cases hq) (fun hY => absurd (hY 3 (by decide)) (by decide))
        · refine fI 13 (.pointer (some ⟨b10, 0, none⟩)) [(1, .pointer (some ⟨b10, 0, none⟩))] 1 [none] rfl rfl (by kernel_rfl) rfl (by kernel_rfl) (by kernel_rfl) fun G a w S => ?_
          refine sField (b := b10) (off := 0) 0 0 S (wN rfl) rfl (by kernel_rfl) (by kernel_rfl) rfl rfl (by decide) (fun a S => ?_)
          exact leafL ⟨rfl, S⟩
        · refine fI 14 (.slice ad5 p0.Left.length cp6) [(13, .pointer (some ⟨b10, 0, none⟩))] 2 [some 1] rfl rfl (by kernel_rfl) rfl (by kernel_rfl) (by kernel_rfl) fun G a w S => ?_
          refine sLoad1 (p := b10) (off := 0) (T := 36) (vs := [.slice ad5 p0.Left.length cp6, .slice ad7 p0.Right.length cp8]) 2 (.slice ad5 p0.Left.length cp6) S (wN rfl) rfl (by kernel_rfl) (by kernel_rfl) (by kernel_rfl) rfl rfl (by decide) (fun a S => ?_)
          exact leafL ⟨rfl, S⟩
        · refine fI 15 (.int .i64 (p0.Left.length : Int)) [(14, .slice ad5 p0.Left.length cp6)] 3 [some 2] rfl rfl (by kernel_rfl) rfl (by kernel_rfl) (by kernel_rfl) fun G a w S => ?_
          refine sLen (ad := ad5) (m := p0.Left.length) (c := cp6) S (wN rfl) rfl Try.underlying34 (by kernel_rfl) rfl (by decide) (fun a S => ?_)
          exact leafL ⟨rfl, S⟩
        · refine ⟨_, [(15, .int .i64 (p0.Left.length : Int))], rfl, (srcs_of [some 3] rfl (by kernel_rfl) (by kernel_rfl)), fun G a w S => ?_⟩
          refine sMake (r := (rI .i64)) (m := (p0.Left.length : Int)) (xs := m30) (.int .i64 0) (0 : Int) 8 S (wN rfl) rfl Try.underlying34 (by kernel_rfl) rfl (by decide) (fun _ _ => rfl) (by kernel_rfl) (by kernel_rfl) hx31 rfl (by decide) (fun a w ad52 cp53 S => ?_)
          refine leafL ⟨rfl, _, _, .inl ⟨16, (.slice ad52 m30.length cp53), [], rfl, S, hz_of (by kernel_rfl), ?_⟩⟩
          refine node_by (A := anc_piece_Mirror_s0_0) (nf := [3, 7, 9, 10]) (Y := [3, 9]) 11 (by kernel_rfl) (by kernel_rfl) (by kernel_rfl) (by kernel_rfl) (by kernel_rfl) [3, 9, 0, 1, 2, 4, 5, 6] (by kernel_rfl) (by decide) (by decide) (aD 0 10 3 (by decide) (aD 1 9 3 (by decide) (aD 2 8 3 (by decide) (aY 3 7 (by decide) (aF 4 6 (by decide) ?_ (aF 5 5 (by decide) ?_ (aF 6 4 (by decide) ?_ (aN 7 3 (by decide) ?_ (aE 8 2 7 (by decide) (aY 9 1 (by decide) (aB 10 0 7 (by decide) (trivial)))))))))))) [] (fun q hq => by cases hq) (fun hY => absurd (hY 7 (by decide)) (by decide))
          · refine fI 17 (.pointer (some ⟨b10, 0, none⟩)) [(1, .pointer (some ⟨b10, 0, none⟩))] 5 [none] rfl rfl (by kernel_rfl) rfl (by kernel_rfl) (by kernel_rfl) fun G a w S => ?_
            refine sField (b := b10) (off := 0) 0 0 S (wN rfl) rfl (by kernel_rfl) (by kernel_rfl) rfl rfl (by decide) (fun a S => ?_)
            exact leafL ⟨rfl, S⟩
          · refine fI 18 (.slice ad5 p0.Left.length cp6) [(17, .pointer (some ⟨b10, 0, none⟩))] 6 [some 5] rfl rfl (by kernel_rfl) rfl (by kernel_rfl) (by kernel_rfl) fun G a w S => ?_
            refine sLoad1 (p := b10) (off := 0) (T := 36) (vs := [.slice ad5 p0.Left.length cp6, .slice ad7 p0.Right.length cp8]) 3 (.slice ad5 p0.Left.length cp6) S (wN rfl) rfl (by kernel_rfl) (by kernel_rfl) (by kernel_rfl) rfl rfl (by decide) (fun a S => ?_)
            exact leafL ⟨rfl, S⟩
          · refine fI 19 (.int .i64 (p0.Left.length : Int)) [(18, .slice ad5 p0.Left.length cp6)] 7 [some 6] rfl rfl (by kernel_rfl) rfl (by kernel_rfl) (by kernel_rfl) fun G a w S => ?_
            refine sLen (ad := ad5) (m := p0.Left.length) (c := cp6) S (wN rfl) rfl Try.underlying34 (by kernel_rfl) rfl (by decide) (fun a S => ?_)
            exact leafL ⟨rfl, S⟩
          · refine ⟨_, [(19, .int .i64 (p0.Left.length : Int))], rfl, (srcs_of [some 7] rfl (by kernel_rfl) (by kernel_rfl)), fun G a w S => ?_⟩
            refine sMake (r := (rI .i64)) (m := (p0.Left.length : Int)) (xs := m30) (.int .i64 0) (0 : Int) 8 S (wN rfl) rfl Try.underlying34 (by kernel_rfl) rfl (by decide) (fun _ _ => rfl) (by kernel_rfl) (by kernel_rfl) hx31 rfl (by decide) (fun a w ad54 cp55 S => ?_)
            refine leafL ⟨rfl, _, _, .inl ⟨20, (.slice ad54 m30.length cp55), [(8, 21, .agg #[.slice ad52 m30.length cp53, .slice ad54 m30.length cp55])], rfl, S, hz_of (by kernel_rfl), ?_⟩⟩
            refine node_by (A := anc_piece_Mirror_s0_0) (nf := [3, 7, 9, 10]) (Y := [7, 3, 9]) 11 (by kernel_rfl) (by kernel_rfl) (by kernel_rfl) (by kernel_rfl) (by kernel_rfl) [8, 7, 3, 9, 0, 1, 2, 4, 5, 6] (by kernel_rfl) (by decide) (by decide) (aD 0 10 3 (by decide) (aD 1 9 3 (by decide) (aD 2 8 3 (by decide) (aY 3 7 (by decide) (aD 4 6 7 (by decide) (aD 5 5 7 (by decide) (aD 6 4 7 (by decide) (aY 7 3 (by decide) (aF 8 2 (by decide) ?_ (aY 9 1 (by decide) (aN 10 0 (by decide) ?_ (trivial)))))))))))) [] (fun q hq => by cases hq) (fun hY => absurd (hY 10 (by decide)) (by decide))
            · refine fI 21 (.agg #[.slice ad52 m30.length cp53, .slice ad54 m30.length cp55]) [(16, .slice ad52 m30.length cp53), (20, .slice ad54 m30.length cp55)] 0 [some 2, some 1] rfl rfl (by kernel_rfl) rfl (by kernel_rfl) (by kernel_rfl) fun G a w S => ?_
              refine sBuild [(0, .slice ad52 m30.length cp53), (1, .slice ad54 m30.length cp55)] [.slice ad52 m30.length cp53, .slice ad54 m30.length cp55] S (wN rfl) rfl (by kernel_rfl) (by kernel_rfl) rfl (by decide) (fun a S => ?_)
              exact leafL ⟨rfl, S⟩
            · refine ⟨_, [(5, .pointer (some ⟨b51, 0, none⟩)), (21, .agg #[.slice ad52 m30.length cp53, .slice ad54 m30.length cp55])], rfl, (srcs_of [some 3, some 0] rfl (by kernel_rfl) (by kernel_rfl)), fun G a w S => ?_⟩
              refine sStore (p := b51) (off := 0) (T := 36) (vs := [.slice none 0 0, .slice none 0 0]) (v := .agg #[.slice ad52 m30.length cp53, .slice ad54 m30.length cp55]) 2 [.slice ad52 m30.length cp53, .slice ad54 m30.length cp55] S (wN rfl) rfl (by kernel_rfl) (by kernel_rfl) rfl (by kernel_rfl) (by kernel_rfl) rfl (by simp) rfl (fun a w S => ?_)
              refine leafL ⟨rfl, _, _, .inr ⟨[], rfl, S, hz_of (by kernel_rfl), ?_⟩⟩
              refine node_by (A := anc_piece_Mirror_s0_0) (nf := [3, 7, 9, 10]) (Y := [10, 7, 3, 9]) 11 (by kernel_rfl) (by kernel_rfl) (by kernel_rfl) (by kernel_rfl) (by kernel_rfl) [8, 7, 3, 9, 0, 1, 2, 4, 5, 6] (by kernel_rfl) (by decide) (by decide) (aD 0 10 10 (by decide) (aD 1 9 10 (by decide) (aD 2 8 10 (by decide) (aY 3 7 (by decide) (aD 4 6 10 (by decide) (aD 5 5 10 (by decide) (aD 6 4 10 (by decide) (aY 7 3 (by decide) (aD 8 2 10 (by decide) (aY 9 1 (by decide) (aY 10 0 (by decide) (trivial)))))))))))) [(1, .pointer (some ⟨b10, 0, none⟩)), (2, .pointer (some ⟨b11, 0, none⟩)), (5, .pointer (some ⟨b51, 0, none⟩))] (fin_of [none, none, some 3] rfl (by kernel_rfl) (by kernel_rfl)) (fun _ a w S => ?_)
              · exact leafT (⟨m30, m30, Option.some.inj h, b51, ad52, cp53, ad54, cp55, S.fix [4, 3, 0, 2, 1] [1, 0] (by decide) (by kernel_rfl) (by kernel_rfl) (by kernel_rfl)⟩)
        · refine fI 17 (.pointer (some ⟨b10, 0, none⟩)) [(1, .pointer (some ⟨b10, 0, none⟩))] 4 [none] rfl rfl (by kernel_rfl) rfl (by kernel_rfl) (by kernel_rfl) fun G a w S => ?_
          refine sField (b := b10) (off := 0) 0 0 S (wN rfl) rfl (by kernel_rfl) (by kernel_rfl) rfl rfl (by decide) (fun a S => ?_)
          exact leafL ⟨rfl, S⟩
        · refine fI 18 (.slice ad5 p0.Left.length cp6) [(17, .pointer (some ⟨b10, 0, none⟩))] 5 [some 4] rfl rfl (by kernel_rfl) rfl (by kernel_rfl) (by kernel_rfl) fun G a w S => ?_
          refine sLoad1 (p := b10) (off := 0) (T := 36) (vs := [.slice ad5 p0.Left.length cp6, .slice ad7 p0.Right.length cp8]) 2 (.slice ad5 p0.Left.length cp6) S (wN rfl) rfl (by kernel_rfl) (by kernel_rfl) (by kernel_rfl) rfl rfl (by decide) (fun a S => ?_)
          exact leafL ⟨rfl, S⟩
        · refine fI 19 (.int .i64 (p0.Left.length : Int)) [(18, .slice ad5 p0.Left.length cp6)] 6 [some 5] rfl rfl (by kernel_rfl) rfl (by kernel_rfl) (by kernel_rfl) fun G a w S => ?_
          refine sLen (ad := ad5) (m := p0.Left.length) (c := cp6) S (wN rfl) rfl Try.underlying34 (by kernel_rfl) rfl (by decide) (fun a S => ?_)
          exact leafL ⟨rfl, S⟩
        · refine ⟨_, [(19, .int .i64 (p0.Left.length : Int))], rfl, (srcs_of [some 6] rfl (by kernel_rfl) (by kernel_rfl)), fun G a w S => ?_⟩
          refine sMake (r := (rI .i64)) (m := (p0.Left.length : Int)) (xs := m30) (.int .i64 0) (0 : Int) 8 S (wN rfl) rfl Try.underlying34 (by kernel_rfl) rfl (by decide) (fun _ _ => rfl) (by kernel_rfl) (by kernel_rfl) hx31 rfl (by decide) (fun a w ad56 cp57 S => ?_)
          refine leafL ⟨rfl, _, _, .inl ⟨20, (.slice ad56 m30.length cp57), [], rfl, S, hz_of (by kernel_rfl), ?_⟩⟩
          refine node_by (A := anc_piece_Mirror_s0_0) (nf := [3, 7, 9, 10]) (Y := [7, 9]) 11 (by kernel_rfl) (by kernel_rfl) (by kernel_rfl) (by kernel_rfl) (by kernel_rfl) [7, 9, 0, 1, 2, 4, 5, 6] (by kernel_rfl) (by decide) (by decide) (aF 0 10 (by decide) ?_ (aF 1 9 (by decide) ?_ (aF 2 8 (by decide) ?_ (aN 3 7 (by decide) ?_ (aD 4 6 7 (by decide) (aD 5 5 7 (by decide) (aD 6 4 7 (by decide) (aY 7 3 (by decide) (aE 8 2 3 (by decide) (aY 9 1 (by decide) (aB 10 0 3 (by decide) (trivial)))))))))))) [] (fun q hq => by cases hq) (fun hY => absurd (hY 3 (by decide)) (by decide))
          · refine fI 13 (.pointer (some ⟨b10, 0, none⟩)) [(1, .pointer (some ⟨b10, 0, none⟩))] 2 [none] rfl rfl (by kernel_rfl) rfl (by kernel_rfl) (by kernel_rfl) fun G a w S => ?_
            refine sField (b := b10) (off := 0) 0 0 S (wN rfl) rfl (by kernel_rfl) (by kernel_rfl) rfl rfl (by decide) (fun a S => ?_)
            exact leafL ⟨rfl, S⟩
          · refine fI 14 (.slice ad5 p0.Left.length cp6) [(13, .pointer (some ⟨b10, 0, none⟩))] 3 [some 2] rfl rfl (by kernel_rfl) rfl (by kernel_rfl) (by kernel_rfl) fun G a w S => ?_
            refine sLoad1 (p := b10) (off := 0) (T := 36) (vs := [.slice ad5 p0.Left.length cp6, .slice ad7 p0.Right.length cp8]) 3 (.slice ad5 p0.Left.length cp6) S (wN rfl) rfl (by kernel_rfl) (by kernel_rfl) (by kernel_rfl) rfl rfl (by decide) (fun a S => ?_)
            exact leafL ⟨rfl, S⟩
          · refine fI 15 (.int .i64 (p0.Left.length : Int)) [(14, .slice ad5 p0.Left.length cp6)] 4 [some 3] rfl rfl (by kernel_rfl) rfl (by kernel_rfl) (by kernel_rfl) fun G a w S => ?_
            refine sLen (ad := ad5) (m := p0.Left.length) (c := cp6) S (wN rfl) rfl Try.underlying34 (by kernel_rfl) rfl (by decide) (fun a S => ?_)
            exact leafL ⟨rfl, S⟩
          · refine ⟨_, [(15, .int .i64 (p0.Left.length : Int))], rfl, (srcs_of [some 4] rfl (by kernel_rfl) (by kernel_rfl)), fun G a w S => ?_⟩
            refine sMake (r := (rI .i64)) (m := (p0.Left.length : Int)) (xs := m30) (.int .i64 0) (0 : Int) 8 S (wN rfl) rfl Try.underlying34 (by kernel_rfl) rfl (by decide) (fun _ _ => rfl) (by kernel_rfl) (by kernel_rfl) hx31 rfl (by decide) (fun a w ad58 cp59 S => ?_)
            refine leafL ⟨rfl, _, _, .inl ⟨16, (.slice ad58 m30.length cp59), [(8, 21, .agg #[.slice ad58 m30.length cp59, .slice ad56 m30.length cp57])], rfl, S, hz_of (by kernel_rfl), ?_⟩⟩
            refine node_by (A := anc_piece_Mirror_s0_0) (nf := [3, 7, 9, 10]) (Y := [3, 7, 9]) 11 (by kernel_rfl) (by kernel_rfl) (by kernel_rfl) (by kernel_rfl) (by kernel_rfl) [8, 3, 7, 9, 0, 1, 2, 4, 5, 6] (by kernel_rfl) (by decide) (by decide) (aD 0 10 3 (by decide) (aD 1 9 3 (by decide) (aD 2 8 3 (by decide) (aY 3 7 (by decide) (aD 4 6 7 (by decide) (aD 5 5 7 (by decide) (aD 6 4 7 (by decide) (aY 7 3 (by decide) (aF 8 2 (by decide) ?_ (aY 9 1 (by decide) (aN 10 0 (by decide) ?_ (trivial)))))))))))) [] (fun q hq => by cases hq) (fun hY => absurd (hY 10 (by decide)) (by decide))
            · refine fI 21 (.agg #[.slice ad58 m30.length cp59, .slice ad56 m30.length cp57]) [(16, .slice ad58 m30.length cp59), (20, .slice ad56 m30.length cp57)] 0 [some 1, some 2] rfl rfl (by kernel_rfl) rfl (by kernel_rfl) (by kernel_rfl) fun G a w S => ?_
              refine sBuild [(0, .slice ad58 m30.length cp59), (1, .slice ad56 m30.length cp57)] [.slice ad58 m30.length cp59, .slice ad56 m30.length cp57] S (wN rfl) rfl (by kernel_rfl) (by kernel_rfl) rfl (by decide) (fun a S => ?_)
              exact leafL ⟨rfl, S⟩
            · refine ⟨_, [(5, .pointer (some ⟨b51, 0, none⟩)), (21, .agg #[.slice ad58 m30.length cp59, .slice ad56 m30.length cp57])], rfl, (srcs_of [some 3, some 0] rfl (by kernel_rfl) (by kernel_rfl)), fun G a w S => ?_⟩
              refine sStore (p := b51) (off := 0) (T := 36) (vs := [.slice none 0 0, .slice none 0 0]) (v := .agg #[.slice ad58 m30.length cp59, .slice ad56 m30.length cp57]) 2 [.slice ad58 m30.length cp59, .slice ad56 m30.length cp57] S (wN rfl) rfl (by kernel_rfl) (by kernel_rfl) rfl (by kernel_rfl) (by kernel_rfl) rfl (by simp) rfl (fun a w S => ?_)
              refine leafL ⟨rfl, _, _, .inr ⟨[], rfl, S, hz_of (by kernel_rfl), ?_⟩⟩
              refine node_by (A := anc_piece_Mirror_s0_0) (nf := [3, 7, 9, 10]) (Y := [10, 3, 7, 9]) 11 (by kernel_rfl) (by kernel_rfl) (by kernel_rfl) (by kernel_rfl) (by kernel_rfl) [8, 3, 7, 9, 0, 1, 2, 4, 5, 6] (by kernel_rfl) (by decide) (by decide) (aD 0 10 10 (by decide) (aD 1 9 10 (by decide) (aD 2 8 10 (by decide) (aY 3 7 (by decide) (aD 4 6 10 (by decide) (aD 5 5 10 (by decide) (aD 6 4 10 (by decide) (aY 7 3 (by decide) (aD 8 2 10 (by decide) (aY 9 1 (by decide) (aY 10 0 (by decide) (trivial)))))))))))) [(1, .pointer (some ⟨b10, 0, none⟩)), (2, .pointer (some ⟨b11, 0, none⟩)), (5, .pointer (some ⟨b51, 0, none⟩))] (fin_of [none, none, some 3] rfl (by kernel_rfl) (by kernel_rfl)) (fun _ a w S => ?_)
              · exact leafT (⟨m30, m30, Option.some.inj h, b51, ad58, cp59, ad56, cp57, S.fix [4, 3, 0, 1, 2] [1, 0] (by decide) (by kernel_rfl) (by kernel_rfl) (by kernel_rfl)⟩)
    · obtain ⟨o20, o23, rfl, b19, ad21, cp22, ad24, cp25, S⟩ := hI
      have h := g27
      clear g27
      try dsimp only at h
      obtain ⟨t66, h, g67⟩ := bindSome h
      refine sCut (fun a w => ∃ o60, ∃ o63, (o60, o63) = t66 ∧ ∃ ad61, ∃ cp62, ∃ ad64, ∃ cp65, St E [] w0 50 a w [(2, .pointer (some ⟨b11, 0, none⟩)), (5, .pointer (some ⟨b19, 0, none⟩))] [eBox b11 36 [.slice none 0 0, .slice none 0 0], eBox b19 36 [.slice ad61 o60.length cp62, .slice ad64 o63.length cp65], eRow (rI .i64) 3 (.slice ad61 o60.length cp62) o60, eRow (rI .i64) 3 (.slice ad64 o63.length cp65) o63] []) ?_ (fun a w hI => ?_)
      · refine sSeq (fun K68 hK68 => ?_)
        refine sRegion ?_
        refine sField (b := b10) (off := 0) 0 0 S (wN rfl) rfl (by kernel_rfl) (by kernel_rfl) rfl rfl (by decide) (fun a S => ?_)
        refine sLoad1 (p := b10) (off := 0) (T := 36) (vs := [.slice ad5 p0.Left.length cp6, .slice ad7 p0.Right.length cp8]) 0 (.slice ad5 p0.Left.length cp6) S (wN rfl) rfl (by kernel_rfl) (by kernel_rfl) (by kernel_rfl) rfl rfl (by decide) (fun a S => ?_)
        refine sLen (ad := ad5) (m := p0.Left.length) (c := cp6) S (wN rfl) rfl Try.underlying34 (by kernel_rfl) rfl (by decide) (fun a S => ?_)
        refine sMove (.int .i64 0) S (wN rfl) (.inl rfl) (by kernel_rfl) rfl (by decide) (fun a S => ?_)
        refine leafL (leafT (hK68 _ _ ?_))
        refine wp_block ?_
        obtain ⟨t78, hl, g77⟩ := bindSome h
        refine sLoop hl (fun s0 a w => match s0 with | (s69, s70, s73) => ∃ ad71, ∃ cp72, ∃ ad74, ∃ cp75, St E [] w0 50 a w [(1, .pointer (some ⟨b10, 0, none⟩)), (2, .pointer (some ⟨b11, 0, none⟩)), (5, .pointer (some ⟨b19, 0, none⟩)), (24, .int .i64 (p0.Left.length : Int)), (25, .int .i64 s69)] [eBox b10 36 [.slice ad5 p0.Left.length cp6, .slice ad7 p0.Right.length cp8], eBox b11 36 [.slice none 0 0, .slice none 0 0], eBox b19 36 [.slice ad71 s70.length cp72, .slice ad74 s73.length cp75], eRow (rI .i64) 3 (.slice ad71 s70.length cp72) s70, eRow (rI .i64) 3 (.slice ad74 s73.length cp75) s73] [fRep (rL (rI .i64)) (.slice ad5 p0.Left.length cp6) p0.Left, fRep (rL (rI .i64)) (.slice ad7 p0.Right.length cp8) p0.Right]) ⟨ad21, cp22, ad24, cp25, S.fix [0, 1, 2, 3, 4] [0, 1] (by decide) (by kernel_rfl) (by kernel_rfl) (by kernel_rfl)⟩ ?_
        clear hl h
        intro s0 a w c0 hI h hu76
        obtain ⟨s69, s70, s73⟩ := s0
        unfold piece_Mirror_s0_l1 at h
        dsimp only at h hI
        obtain ⟨ad71, cp72, ad74, cp75, S⟩ := hI
        refine sSeq (fun K85 hK85 => ?_)
        refine sRegion ?_
        refine sBin (.bool (decide (s69 < (p0.Left.length : Int)))) S (wN rfl) rfl (by kernel_rfl) (by kernel_rfl) (bLt _ _ _ _ .i64 s69 (p0.Left.length : Int)) rfl (by decide) (fun a S => ?_)
        refine leafL (leafT (hK85 _ _ ?_))
        refine sSeq (fun K86 hK86 => ?_)
        rcases iteSome h with ⟨hc87, h⟩ | ⟨hc87, h⟩
        · refine sCondT (b := decide (s69 < (p0.Left.length : Int))) S (by kernel_rfl) hc87 ?_
          refine wp_skip (leafT (hK86 _ _ ?_))
          refine sSeq (fun K88 hK88 => ?_)
          refine wp_block ?_
          refine sSeq (fun K89 hK89 => ?_)
          refine sRegion ?_
          refine sMove (.int .i64 s69) S (wN rfl) (.inl rfl) (by kernel_rfl) rfl (by decide) (fun a S => ?_)
          refine sMove (.int .i64 s69) S (wN rfl) (.inr rfl) (by kernel_rfl) rfl (by decide) (fun a S => ?_)
          refine leafL (leafT (hK89 _ _ ?_))
          obtain ⟨x90, hx91, h⟩ := bindSome h
          obtain ⟨x95, hx96, h⟩ := bindSome h
          obtain ⟨x100, hx101, h⟩ := bindSome h
          obtain ⟨l105, hx106, h⟩ := bindSome h
          obtain ⟨x107, hx108, h⟩ := bindSome h
          obtain ⟨l112, hx113, h⟩ := bindSome h
          obtain ⟨q114, hq115, S⟩ := pIdx (P := Try.prog) (r := (rI .i64)) (v := .slice ad7 p0.Right.length cp8) (xs := p0.Right) (j := s69) 34 3 1 S Try.underlying34 (by kernel_rfl) (by kernel_rfl) hx91
          obtain ⟨u116, S⟩ := pLoad (r := (rI .i64)) (q := q114) (x := x90) 0 S (by kernel_rfl)
          obtain rfl : u116 = .int .i64 x90 := S.mem.know (i := 1) (e := fRep (rI .i64) (u116) x90) (by kernel_rfl)
          obtain ⟨q117, hq118, S⟩ := pIdx (P := Try.prog) (r := (rI .i64)) (v := .slice ad5 p0.Left.length cp6) (xs := p0.Left) (j := s69) 34 3 3 S Try.underlying34 (by kernel_rfl) (by kernel_rfl) hx96
          obtain ⟨u119, S⟩ := pLoad (r := (rI .i64)) (q := q117) (x := x95) 0 S (by kernel_rfl)
          obtain rfl : u119 = .int .i64 x95 := S.mem.know (i := 1) (e := fRep (rI .i64) (u119) x95) (by kernel_rfl)
          obtain ⟨q120, hq121, hp122⟩ := pIdxR (P := Try.prog) (r := (rI .i64)) (T := 3) (v := .slice ad71 s70.length cp72) (xs := s70) (j := s69) 34 3 3 S Try.underlying34 (by kernel_rfl) (by kernel_rfl) hx101
          refine sDraw (nf := [19, 21]) (W := [(0, 28, .pointer (some ⟨b19, 0, none⟩)), (1, 29, .slice ad71 s70.length cp72), (2, 30, .int .i64 s69), (3, 31, .pointer (some ⟨b19, 1, none⟩)), (4, 32, .slice ad74 s73.length cp75), (5, 33, .int .i64 s69), (6, 34, .pointer (some ⟨b10, 1, none⟩)), (7, 35, .slice ad7 p0.Right.length cp8), (8, 36, .int .i64 s69), (9, 37, q114), (10, 38, .int .i64 x90), (11, 39, .int .i64 (w64 (0 - x90))), (12, 40, .pointer (some ⟨b10, 0, none⟩)), (13, 41, .slice ad5 p0.Left.length cp6), (14, 42, .int .i64 s69), (15, 43, q117), (16, 44, .int .i64 x95), (17, 45, .int .i64 (w64 (0 - x95))), (18, 46, q120)]) (by kernel_rfl) S ?_
          refine node_by (A := anc_piece_Mirror_s0_1) (nf := [19, 21]) (Y := []) (W := [(0, 28, .pointer (some ⟨b19, 0, none⟩)), (1, 29, .slice ad71 s70.length cp72), (2, 30, .int .i64 s69), (3, 31, .pointer (some ⟨b19, 1, none⟩)), (4, 32, .slice ad74 s73.length cp75), (5, 33, .int .i64 s69), (6, 34, .pointer (some ⟨b10, 1, none⟩)), (7, 35, .slice ad7 p0.Right.length cp8), (8, 36, .int .i64 s69), (9, 37, q114), (10, 38, .int .i64 x90), (11, 39, .int .i64 (w64 (0 - x90))), (12, 40, .pointer (some ⟨b10, 0, none⟩)), (13, 41, .slice ad5 p0.Left.length cp6), (14, 42, .int .i64 s69), (15, 43, q117), (16, 44, .int .i64 x95), (17, 45, .int .i64 (w64 (0 - x95))), (18, 46, q120)]) 22 (by kernel_rfl) (by kernel_rfl) (by kernel_rfl) (by kernel_rfl) (by kernel_rfl) [0, 1, 2, 3, 4, 5, 6, 7, 8, 9, 10, 11, 12, 13, 14, 15, 16, 17, 18] (by kernel_rfl) (by decide) (by decide) (aF 0 21 (by decide) ?_ (aF 1 20 (by decide) ?_ (aF 2 19 (by decide) ?_ (aF 3 18 (by decide) ?_ (aF 4 17 (by decide) ?_ (aF 5 16 (by decide) ?_ (aF 6 15 (by decide) ?_ (aF 7 14 (by decide) ?_ (aF 8 13 (by decide) ?_ (aF 9 12 (by decide) ?_ (aF 10 11 (by decide) ?_ (aF 11 10 (by decide) ?_ (aF 12 9 (by decide) ?_ (aF 13 8 (by decide) ?_ (aF 14 7 (by decide) ?_ (aF 15 6 (by decide) ?_ (aF 16 5 (by decide) ?_ (aF 17 4 (by decide) ?_ (aF 18 3 (by decide) ?_ (aN 19 2 (by decide) ?_ (aE 20 1 19 (by decide) (aB 21 0 19 (by decide) (trivial))))))))))))))))))))))) [] (fun q hq => by cases hq) (fun hY => absurd (hY 19 (by decide)) (by decide))
          · refine fI 28 (.pointer (some ⟨b19, 0, none⟩)) [(5, .pointer (some ⟨b19, 0, none⟩))] 0 [none] rfl rfl (by kernel_rfl) rfl (by kernel_rfl) (by kernel_rfl) fun G a w S => ?_
            refine sField (b := b19) (off := 0) 0 0 S (wN rfl) rfl (by kernel_rfl) (by kernel_rfl) rfl rfl (by decide) (fun a S => ?_)
            exact leafL ⟨rfl, S⟩
          · refine fI 29 (.slice ad71 s70.length cp72) [(28, .pointer (some ⟨b19, 0, none⟩))] 1 [some 0] rfl rfl (by kernel_rfl) rfl (by kernel_rfl) (by kernel_rfl) fun G a w S => ?_
            refine sLoad1 (p := b19) (off := 0) (T := 36) (vs := [.slice ad71 s70.length cp72, .slice ad74 s73.length cp75]) 2 (.slice ad71 s70.length cp72) S (wN rfl) rfl (by kernel_rfl) (by kernel_rfl) (by kernel_rfl) rfl rfl (by decide) (fun a S => ?_)
            exact leafL ⟨rfl, S⟩
          · refine fI 30 (.int .i64 s69) [(6, .int .i64 s69)] 2 [none] rfl rfl (by kernel_rfl) rfl (by kernel_rfl) (by kernel_rfl) fun G a w S => ?_
            refine sMove (.int .i64 s69) S (wN rfl) (.inl rfl) (by kernel_rfl) rfl (by decide) (fun a S => ?_)
            exact leafL ⟨rfl, S⟩
          · refine fI 31 (.pointer (some ⟨b19, 1, none⟩)) [(5, .pointer (some ⟨b19, 0, none⟩))] 3 [none] rfl rfl (by kernel_rfl) rfl (by kernel_rfl) (by kernel_rfl) fun G a w S => ?_
            refine sField (b := b19) (off := 0) 1 1 S (wN rfl) rfl (by kernel_rfl) (by kernel_rfl) rfl rfl (by decide) (fun a S => ?_)
            exact leafL ⟨rfl, S⟩
          · refine fI 32 (.slice ad74 s73.length cp75) [(31, .pointer (some ⟨b19, 1, none⟩))] 4 [some 3] rfl rfl (by kernel_rfl) rfl (by kernel_rfl) (by kernel_rfl) fun G a w S => ?_
            refine sLoad1 (p := b19) (off := 1) (T := 36) (vs := [.slice ad71 s70.length cp72, .slice ad74 s73.length cp75]) 2 (.slice ad74 s73.length cp75) S (wN rfl) rfl (by kernel_rfl) (by kernel_rfl) (by kernel_rfl) rfl rfl (by decide) (fun a S => ?_)
            exact leafL ⟨rfl, S⟩
          · refine fI 33 (.int .i64 s69) [(6, .int .i64 s69)] 5 [none] rfl rfl (by kernel_rfl) rfl (by kernel_rfl) (by kernel_rfl) fun G a w S => ?_
            refine sMove (.int .i64 s69) S (wN rfl) (.inl rfl) (by kernel_rfl) rfl (by decide) (fun a S => ?_)
            exact leafL ⟨rfl, S⟩
          · refine fI 34 (.pointer (some ⟨b10, 1, none⟩)) [(1, .pointer (some ⟨b10, 0, none⟩))] 6 [none] rfl rfl (by kernel_rfl) rfl (by kernel_rfl) (by kernel_rfl) fun G a w S => ?_
            refine sField (b := b10) (off := 0) 1 1 S (wN rfl) rfl (by kernel_rfl) (by kernel_rfl) rfl rfl (by decide) (fun a S => ?_)
            exact leafL ⟨rfl, S⟩
          · refine fI 35 (.slice ad7 p0.Right.length cp8) [(34, .pointer (some ⟨b10, 1, none⟩))] 7 [some 6] rfl rfl (by kernel_rfl) rfl (by kernel_rfl) (by kernel_rfl) fun G a w S => ?_
            refine sLoad1 (p := b10) (off := 1) (T := 36) (vs := [.slice ad5 p0.Left.length cp6, .slice ad7 p0.Right.length cp8]) 0 (.slice ad7 p0.Right.length cp8) S (wN rfl) rfl (by kernel_rfl) (by kernel_rfl) (by kernel_rfl) rfl rfl (by decide) (fun a S => ?_)
            exact leafL ⟨rfl, S⟩
          · refine fI 36 (.int .i64 s69) [(6, .int .i64 s69)] 8 [none] rfl rfl (by kernel_rfl) rfl (by kernel_rfl) (by kernel_rfl) fun G a w S => ?_
            refine sMove (.int .i64 s69) S (wN rfl) (.inl rfl) (by kernel_rfl) rfl (by decide) (fun a S => ?_)
            exact leafL ⟨rfl, S⟩
          · refine fI 37 q114 [(35, .slice ad7 p0.Right.length cp8), (36, .int .i64 s69)] 9 [some 7, some 8] rfl rfl (by kernel_rfl) rfl (by kernel_rfl) (by kernel_rfl) fun G a w S => ?_
            refine sIdxV (v := .slice ad7 p0.Right.length cp8) (k := .i64) (j := s69) S (wN rfl) rfl (by kernel_rfl) (by kernel_rfl) hq115 rfl (by decide) (fun a S => ?_)
            exact leafL ⟨rfl, S⟩
          · refine fI 38 (.int .i64 x90) [(37, q114)] 10 [some 9] rfl rfl (by kernel_rfl) rfl (by kernel_rfl) (by kernel_rfl) fun G a w S => ?_
            refine sLoadV1 (vq := q114) 3 (.int .i64 x90) S (wN rfl) rfl (by kernel_rfl) (by kernel_rfl) (by kernel_rfl) rfl (by decide) (fun a S => ?_)
            exact leafL ⟨rfl, S⟩
          · refine fI 39 (.int .i64 (w64 (0 - x90))) [(38, .int .i64 x90)] 11 [some 10] rfl rfl (by kernel_rfl) rfl (by kernel_rfl) (by kernel_rfl) fun G a w S => ?_
            refine sNeg (b := x90) S (wN rfl) rfl (by kernel_rfl) rfl (by decide) (fun a S => ?_)
            exact leafL ⟨rfl, S⟩
          · refine fI 40 (.pointer (some ⟨b10, 0, none⟩)) [(1, .pointer (some ⟨b10, 0, none⟩))] 12 [none] rfl rfl (by kernel_rfl) rfl (by kernel_rfl) (by kernel_rfl) fun G a w S => ?_
            refine sField (b := b10) (off := 0) 0 0 S (wN rfl) rfl (by kernel_rfl) (by kernel_rfl) rfl rfl (by decide) (fun a S => ?_)
            exact leafL ⟨rfl, S⟩
          · refine fI 41 (.slice ad5 p0.Left.length cp6) [(40, .pointer (some ⟨b10, 0, none⟩))] 13 [some 12] rfl rfl (by kernel_rfl) rfl (by kernel_rfl) (by kernel_rfl) fun G a w S => ?_
            refine sLoad1 (p := b10) (off := 0) (T := 36) (vs := [.slice ad5 p0.Left.length cp6, .slice ad7 p0.Right.length cp8]) 0 (.slice ad5 p0.Left.length cp6) S (wN rfl) rfl (by kernel_rfl) (by kernel_rfl) (by kernel_rfl) rfl rfl (by decide) (fun a S => ?_)
            exact leafL ⟨rfl, S⟩
          · refine fI 42 (.int .i64 s69) [(6, .int .i64 s69)] 14 [none] rfl rfl (by kernel_rfl) rfl (by kernel_rfl) (by kernel_rfl) fun G a w S => ?_
            refine sMove (.int .i64 s69) S (wN rfl) (.inl rfl) (by kernel_rfl) rfl (by decide) (fun a S => ?_)
            exact leafL ⟨rfl, S⟩
          · refine fI 43 q117 [(41, .slice ad5 p0.Left.length cp6), (42, .int .i64 s69)] 15 [some 13, some 14] rfl rfl (by kernel_rfl) rfl (by kernel_rfl) (by kernel_rfl) fun G a w S => ?_
            refine sIdxV (v := .slice ad5 p0.Left.length cp6) (k := .i64) (j := s69) S (wN rfl) rfl (by kernel_rfl) (by kernel_rfl) hq118 rfl (by decide) (fun a S => ?_)
            exact leafL ⟨rfl, S⟩
          · refine fI 44 (.int .i64 x95) [(43, q117)] 16 [some 15] rfl rfl (by kernel_rfl) rfl (by kernel_rfl) (by kernel_rfl) fun G a w S => ?_
            refine sLoadV1 (vq := q117) 0 (.int .i64 x95) S (wN rfl) rfl (by kernel_rfl) (by kernel_rfl) (by kernel_rfl) rfl (by decide) (fun a S => ?_)
            exact leafL ⟨rfl, S⟩
          · refine fI 45 (.int .i64 (w64 (0 - x95))) [(44, .int .i64 x95)] 17 [some 16] rfl rfl (by kernel_rfl) rfl (by kernel_rfl) (by kernel_rfl) fun G a w S => ?_
            refine sNeg (b := x95) S (wN rfl) rfl (by kernel_rfl) rfl (by decide) (fun a S => ?_)
            exact leafL ⟨rfl, S⟩
          · refine fI 46 q120 [(29, .slice ad71 s70.length cp72), (30, .int .i64 s69)] 18 [some 1, some 2] rfl rfl (by kernel_rfl) rfl (by kernel_rfl) (by kernel_rfl) fun G a w S => ?_
            refine sIdxV (v := .slice ad71 s70.length cp72) (k := .i64) (j := s69) S (wN rfl) rfl (by kernel_rfl) (by kernel_rfl) hq121 rfl (by decide) (fun a S => ?_)
            exact leafL ⟨rfl, S⟩
          · refine ⟨_, [(39, .int .i64 (w64 (0 - x90))), (46, q120)], rfl, (srcs_of [some 11, some 18] rfl (by kernel_rfl) (by kernel_rfl)), fun G a w S => ?_⟩
            refine sStoreR (r := (rI .i64)) (T := 3) (xs := s70) (ys := l105) (y := (w64 (0 - x90))) (v := .slice ad71 s70.length cp72) (vq := q120) (u := .int .i64 (w64 (0 - x90))) (j := s69) 3 S hp122 (wN rfl) rfl (by kernel_rfl) (by kernel_rfl) (by kernel_rfl) rfl hx106 (by kernel_rfl) rfl (fun a w S => ?_)
            obtain ⟨q123, hq124, hp125⟩ := pIdxR (P := Try.prog) (r := (rI .i64)) (T := 3) (v := .slice ad74 s73.length cp75) (xs := s73) (j := s69) 34 3 4 S Try.underlying34 (by kernel_rfl) (by kernel_rfl) hx108
            refine leafL ⟨rfl, _, _, .inr ⟨[(20, 47, q123)], rfl, S, hz_of (by kernel_rfl), ?_⟩⟩
            refine node_by (A := anc_piece_Mirror_s0_1) (nf := [19, 21]) (Y := [19]) 22 (by kernel_rfl) (by kernel_rfl) (by kernel_rfl) (by kernel_rfl) (by kernel_rfl) [20, 0, 1, 2, 3, 4, 5, 6, 7, 8, 9, 10, 11, 12, 13, 14, 15, 16, 17, 18] (by kernel_rfl) (by decide) (by decide) (aD 0 21 19 (by decide) (aD 1 20 19 (by decide) (aD 2 19 19 (by decide) (aF 3 18 (by decide) ?_ (aF 4 17 (by decide) ?_ (aF 5 16 (by decide) ?_ (aD 6 15 19 (by decide) (aD 7 14 19 (by decide) (aD 8 13 19 (by decide) (aD 9 12 19 (by decide) (aD 10 11 19 (by decide) (aD 11 10 19 (by decide) (aD 12 9 19 (by decide) (aD 13 8 19 (by decide) (aD 14 7 19 (by decide) (aD 15 6 19 (by decide) (aD 16 5 19 (by decide) (aF 17 4 (by decide) ?_ (aD 18 3 19 (by decide) (aY 19 2 (by decide) (aF 20 1 (by decide) ?_ (aN 21 0 (by decide) ?_ (trivial))))))))))))))))))))))) [] (fun q hq => by cases hq) (fun hY => absurd (hY 21 (by decide)) (by decide))
            · refine fI 31 (.pointer (some ⟨b19, 1, none⟩)) [(5, .pointer (some ⟨b19, 0, none⟩))] 4 [none] rfl rfl (by kernel_rfl) rfl (by kernel_rfl) (by kernel_rfl) fun G a w S => ?_
              refine sField (b := b19) (off := 0) 1 1 S (wN rfl) rfl (by kernel_rfl) (by kernel_rfl) rfl rfl (by decide) (fun a S => ?_)
              exact leafL ⟨rfl, S⟩
            · refine fI 32 (.slice ad74 s73.length cp75) [(31, .pointer (some ⟨b19, 1, none⟩))] 5 [some 4] rfl rfl (by kernel_rfl) rfl (by kernel_rfl) (by kernel_rfl) fun G a w S => ?_
              refine sLoad1 (p := b19) (off := 1) (T := 36) (vs := [.slice ad71 s70.length cp72, .slice ad74 s73.length cp75]) 3 (.slice ad74 s73.length cp75) S (wN rfl) rfl (by kernel_rfl) (by kernel_rfl) (by kernel_rfl) rfl rfl (by decide) (fun a S => ?_)
              exact leafL ⟨rfl, S⟩
            · refine fI 33 (.int .i64 s69) [(6, .int .i64 s69)] 6 [none] rfl rfl (by kernel_rfl) rfl (by kernel_rfl) (by kernel_rfl) fun G a w S => ?_
              refine sMove (.int .i64 s69) S (wN rfl) (.inl rfl) (by kernel_rfl) rfl (by decide) (fun a S => ?_)
              exact leafL ⟨rfl, S⟩
            · refine fI 45 (.int .i64 (w64 (0 - x95))) [(44, .int .i64 x95)] 18 [some 17] rfl rfl (by kernel_rfl) rfl (by kernel_rfl) (by kernel_rfl) fun G a w S => ?_
              refine sNeg (b := x95) S (wN rfl) rfl (by kernel_rfl) rfl (by decide) (fun a S => ?_)
              exact leafL ⟨rfl, S⟩
            · refine fI 47 q123 [(32, .slice ad74 s73.length cp75), (33, .int .i64 s69)] 0 [some 5, some 6] rfl rfl (by kernel_rfl) rfl (by kernel_rfl) (by kernel_rfl) fun G a w S => ?_
              refine sIdxV (v := .slice ad74 s73.length cp75) (k := .i64) (j := s69) S (wN rfl) rfl (by kernel_rfl) (by kernel_rfl) hq124 rfl (by decide) (fun a S => ?_)
              exact leafL ⟨rfl, S⟩
            · refine ⟨_, [(45, .int .i64 (w64 (0 - x95))), (47, q123)], rfl, (srcs_of [some 18, some 0] rfl (by kernel_rfl) (by kernel_rfl)), fun G a w S => ?_⟩
              refine sStoreR (r := (rI .i64)) (T := 3) (xs := s73) (ys := l112) (y := (w64 (0 - x95))) (v := .slice ad74 s73.length cp75) (vq := q123) (u := .int .i64 (w64 (0 - x95))) (j := s69) 4 S hp125 (wN rfl) rfl (by kernel_rfl) (by kernel_rfl) (by kernel_rfl) rfl hx113 (by kernel_rfl) rfl (fun a w S => ?_)
              refine leafL ⟨rfl, _, _, .inr ⟨[], rfl, S, hz_of (by kernel_rfl), ?_⟩⟩
              refine node_by (A := anc_piece_Mirror_s0_1) (nf := [19, 21]) (Y := [21, 19]) 22 (by kernel_rfl) (by kernel_rfl) (by kernel_rfl) (by kernel_rfl) (by kernel_rfl) [20, 0, 1, 2, 3, 4, 5, 6, 7, 8, 9, 10, 11, 12, 13, 14, 15, 16, 17, 18] (by kernel_rfl) (by decide) (by decide) (aD 0 21 21 (by decide) (aD 1 20 21 (by decide) (aD 2 19 21 (by decide) (aD 3 18 21 (by decide) (aD 4 17 21 (by decide) (aD 5 16 21 (by decide) (aD 6 15 21 (by decide) (aD 7 14 21 (by decide) (aD 8 13 21 (by decide) (aD 9 12 21 (by decide) (aD 10 11 21 (by decide) (aD 11 10 21 (by decide) (aD 12 9 21 (by decide) (aD 13 8 21 (by decide) (aD 14 7 21 (by decide) (aD 15 6 21 (by decide) (aD 16 5 21 (by decide) (aD 17 4 21 (by decide) (aD 18 3 21 (by decide) (aY 19 2 (by decide) (aD 20 1 21 (by decide) (aY 21 0 (by decide) (trivial))))))))))))))))))))))) [(1, .pointer (some ⟨b10, 0, none⟩)), (2, .pointer (some ⟨b11, 0, none⟩)), (5, .pointer (some ⟨b19, 0, none⟩)), (24, .int .i64 (p0.Left.length : Int)), (25, .int .i64 s69)] (fin_of [none, none, none, none, none] rfl (by kernel_rfl) (by kernel_rfl)) (fun _ a w S => ?_)
              · rw [setO_v hx106 ad71 cp72] at S
                rw [setO_v hx113 ad74 cp75] at S
                refine leafB (leafT (hK88 _ _ ?_))
                refine sRegion ?_
                refine sBin (.int .i64 (w64 (s69 + 1))) S (wN rfl) rfl (by kernel_rfl) (by kernel_rfl) (bAdd _ _ _ _ s69 1) rfl (by decide) (fun a S => ?_)
                refine sMove (.int .i64 (w64 (s69 + 1))) S (wN rfl) (.inl rfl) (by kernel_rfl) rfl (by decide) (fun a S => ?_)
                exact leafL (leafT (⟨(w64 (s69 + 1), l105, l112), (Option.some.inj h).symm, ⟨ad71, cp72, ad74, cp75, S.fix [2, 3, 4, 1, 0] [6, 7] (by decide) (by kernel_rfl) (by kernel_rfl) (by kernel_rfl)⟩⟩))
        · refine sCondF (b := decide (s69 < (p0.Left.length : Int))) S (by kernel_rfl) hc87 ?_
          obtain rfl := Option.some.inj h
          obtain rfl := hu76 _ rfl
          have h := g77
          clear g77
          try dsimp only at h
          exact wp_exit (xThen (xThen (xHit (leafT (⟨s70, s73, Option.some.inj h, ad71, cp72, ad74, cp75, S.fix [1, 2, 3, 4] [] (by decide) (by kernel_rfl) (by kernel_rfl) (by kernel_rfl)⟩)))))
      · obtain ⟨o60, o63, rfl, ad61, cp62, ad64, cp65, S⟩ := hI
        have h := g67
        clear g67
        try dsimp only at h
        refine sSeq (fun K126 hK126 => ?_)
        refine sRegion ?_
        refine sLoadN (p := b19) (off := 0) (T := 36) (vs := [.slice ad61 o60.length cp62, .slice ad64 o63.length cp65]) 1 [.slice ad61 o60.length cp62, .slice ad64 o63.length cp65] S (wN rfl) rfl (by kernel_rfl) (by kernel_rfl) (by kernel_rfl) (by kernel_rfl) rfl rfl (by decide) (fun a S => ?_)
        refine sStore (p := b11) (off := 0) (T := 36) (vs := [.slice none 0 0, .slice none 0 0]) (v := .agg #[.slice ad61 o60.length cp62, .slice ad64 o63.length cp65]) 0 [.slice ad61 o60.length cp62, .slice ad64 o63.length cp65] S (wN rfl) rfl (by kernel_rfl) (by kernel_rfl) rfl (by kernel_rfl) (by kernel_rfl) rfl (by simp) rfl (fun a w S => ?_)
        refine sMove (.int .i64 0) S (wN rfl) (.inr rfl) (by kernel_rfl) rfl (by decide) (fun a S => ?_)
        refine leafL (leafT (hK126 _ _ ?_))
        obtain rfl := Option.some.inj h
        exact wp_ret (sRet (.tuple #[.agg #[.slice ad61 o60.length cp62, .slice ad64 o63.length cp65], .int .i64 0]) S (rsl2 rfl (rvN (c := 2) (t := 36) (T := 36) (p := b11) 0 [.slice ad61 o60.length cp62, .slice ad64 o63.length cp65] S (by kernel_rfl) (by kernel_rfl) (by kernel_rfl) (by kernel_rfl)) (rvT (t := 3) (v := .int .i64 0) S (by kernel_rfl))) ⟨(ad61, cp62, ad64, cp65), rfl, S.mem.sel [2, 3] [] (by decide) (by kernel_rfl) (by kernel_rfl)⟩)

end Go.Proofs.Ytmedbnjhgkcndaa
