import Derived.Test.YtmedbnjhgkcndaaGTy
import Derived.Test.YtmedbnjhgkcndaaG17
import Derived.Test.YtmedbnjhgkcndaaG28
import Derived.Test.YtmedbnjhgkcndaaG31s0
namespace Go.Proofs.Ytmedbnjhgkcndaa
open Go.RowKit
set_option linter.unusedVariables false

def anc_piece_Make_s0_0 : List (List Nat) := [[], [0], [0, 1], [], [3], [0, 1, 2, 3, 4], [0, 1, 2, 3, 4, 5], [], [0, 1, 2, 3, 4, 5, 6, 7]]
noncomputable def F_piece_Make_s0 (p0 : api_Shape) : Option (api_Piece × Int) :=
  Option.bind (F_piece_shape p0) fun r14 =>
  if r14 != 0 then
    some ((api_Piece.mk ([] : (List Int)) ([] : (List Int))), r14)
  else
    Option.bind (α := (List Int × List Int)) (
      Option.bind (F_piece_columns_s0 p0.Left) fun r28 =>
      Option.bind (F_piece_columns_s0 p0.Right) fun r32 =>
      some (r28, r32)) fun (o20, o23) =>
    Option.bind (F_piece_Check (api_Piece.mk o20 o23)) fun r52 =>
    if r52 != 0 then
      some ((api_Piece.mk ([] : (List Int)) ([] : (List Int))), 16)
    else
      some ((api_Piece.mk o20 o23), 0)
set_option maxHeartbeats 4000000 in
set_option maxRecDepth 100000 in
theorem c_piece_Make_s0 (E : Nat → Prop) (w0 : World) (p0 : api_Shape) (v0 : Value) (r : (api_Piece × Int)) (h : F_piece_Make_s0 p0 = some r) (S : St0 E [] w0 w0 [] [fRep r_api_Shape (v0) p0]) :
    Calls Try.prog 11 #[v0] w0 (Ret (X := Option Addr × Nat × Option Addr × Nat) E [] w0 (fun x => .tuple #[.agg #[.slice x.1 r.1.Left.length x.2.1, .slice x.2.2.1 r.1.Right.length x.2.2.2], .int .i64 r.2]) (fun x => [eRow (rI .i64) 3 (.slice x.1 r.1.Left.length x.2.1) r.1.Left, eRow (rI .i64) 3 (.slice x.2.2.1 r.1.Right.length x.2.2.2) r.1.Right]) (fun _ => [])) := by
  unfold F_piece_Make_s0 at h
  obtain ⟨u1, u2, rfl, hu3, hu4⟩ := S.know (i := 0) (e := fRep r_api_Shape (v0) p0) (by kernel_rfl)
  have S := S.learn (fRep (rL r_api_Point) u1 p0.Left) hu3
  obtain ⟨ad5, cp6, _, rfl, _⟩ := hu3
  have S := S.learn (fRep (rL r_api_Point) u2 p0.Right) hu4
  obtain ⟨ad7, cp8, _, rfl, _⟩ := hu4
  refine sEnter (args := [.agg #[.slice ad5 p0.Left.length cp6, .slice ad7 p0.Right.length cp8]]) 24 Try.func11 rfl rfl (by simp) S (fun a S => ?_)
  refine sSeq (fun K9 hK9 => ?_)
  refine sRegion ?_
  refine sBox (v := .agg #[.slice ad5 p0.Left.length cp6, .slice ad7 p0.Right.length cp8]) S (wN rfl) rfl (by kernel_rfl) [.slice ad5 p0.Left.length cp6, .slice ad7 p0.Right.length cp8] rfl rfl (by decide) (fun a b10 w S => ?_)
  refine sAlloc (.agg #[.slice none 0 0, .slice none 0 0]) S (wN rfl) rfl (by kernel_rfl) [.slice none 0 0, .slice none 0 0] rfl rfl (by decide) (fun a b11 w S => ?_)
  refine sMove (.int .i64 0) S (wN rfl) (.inr rfl) (by kernel_rfl) rfl (by decide) (fun a S => ?_)
  refine leafL (leafT (hK9 _ _ ?_))
  refine sSeq (fun K12 hK12 => ?_)
  refine sSeq (fun K13 hK13 => ?_)
  refine sRegion ?_
  refine sLoadN (p := b10) (off := 0) (T := 26) (vs := [.slice ad5 p0.Left.length cp6, .slice ad7 p0.Right.length cp8]) 1 [.slice ad5 p0.Left.length cp6, .slice ad7 p0.Right.length cp8] S (wN rfl) rfl (by kernel_rfl) (by kernel_rfl) (by kernel_rfl) (by kernel_rfl) rfl rfl (by decide) (fun a S => ?_)
  obtain ⟨r14, hx15, h⟩ := bindSome h
  have S1 := S.mem
  refine sCallQ (X := Unit) (f := 28) (vs := [.agg #[.slice ad5 p0.Left.length cp6, .slice ad7 p0.Right.length cp8]]) (val := fun _ => .int .i64 r14) S (wN rfl) rfl callee28 (by kernel_rfl) (S1.quiet [2] (by kernel_rfl)) (fun E1 w1 S1 => c_piece_shape E1 w1 p0 (.agg #[.slice ad5 p0.Left.length cp6, .slice ad7 p0.Right.length cp8]) r14 hx15 S1) rfl (by decide) (fun _ a w S => ?_)
  refine sMove (.int .i64 r14) S (wN rfl) (.inr rfl) (by kernel_rfl) rfl (by decide) (fun a S => ?_)
  refine leafL (leafT (hK13 _ _ ?_))
  refine sSeq (fun K16 hK16 => ?_)
  refine sRegion ?_
  refine sMove (.int .i64 r14) S (wN rfl) (.inl rfl) (by kernel_rfl) rfl (by decide) (fun a S => ?_)
  refine sBin (.bool (r14 != 0)) S (wN rfl) rfl (by kernel_rfl) (by kernel_rfl) (bNe _ _ _ _ .i64 r14 0) rfl (by decide) (fun a S => ?_)
  refine leafL (leafT (hK16 _ _ ?_))
  rcases iteSome h with ⟨hc17, h⟩ | ⟨hc17, h⟩
  · refine sCondT (b := r14 != 0) S (by kernel_rfl) hc17 ?_
    refine sSeq (fun K18 hK18 => ?_)
    refine sRegion ?_
    refine sBuild [] [.slice none 0 0, .slice none 0 0] S (wN rfl) rfl (by kernel_rfl) (by kernel_rfl) rfl (by decide) (fun a S => ?_)
    refine sMove (.int .i64 r14) S (wN rfl) (.inl rfl) (by kernel_rfl) rfl (by decide) (fun a S => ?_)
    refine sStore (p := b11) (off := 0) (T := 36) (vs := [.slice none 0 0, .slice none 0 0]) (v := .agg #[.slice none 0 0, .slice none 0 0]) 0 [.slice none 0 0, .slice none 0 0] S (wN rfl) rfl (by kernel_rfl) (by kernel_rfl) rfl (by kernel_rfl) (by kernel_rfl) rfl (by simp) rfl (fun a w S => ?_)
    refine sMove (.int .i64 r14) S (wN rfl) (.inr rfl) (by kernel_rfl) rfl (by decide) (fun a S => ?_)
    refine leafL (leafT (hK18 _ _ ?_))
    obtain rfl := Option.some.inj h
    have S := S.nilRow (rI .i64) 3 (α := Int)
    have S := S.nilRow (rI .i64) 3 (α := Int)
    exact wp_ret (rThen (sRet (.tuple #[.agg #[.slice none 0 0, .slice none 0 0], .int .i64 r14]) S (rsl2 rfl (rvN (c := 2) (t := 36) (T := 36) (p := b11) 2 [.slice none 0 0, .slice none 0 0] S (by kernel_rfl) (by kernel_rfl) (by kernel_rfl) (by kernel_rfl)) (rvT (t := 3) (v := .int .i64 r14) S (by kernel_rfl))) ⟨(none, 0, none, 0), rfl, S.mem.sel [1, 0] [] (by decide) (by kernel_rfl) (by kernel_rfl)⟩))
  · refine sCondF (b := r14 != 0) S (by kernel_rfl) hc17 ?_
    refine wp_skip (leafT (hK12 _ _ ?_))
    obtain ⟨t26, h, g27⟩ := bindSome h
    refine sCut (fun a w => ∃ o20, ∃ o23, (o20, o23) = t26 ∧ ∃ b19, ∃ ad21, ∃ cp22, ∃ ad24, ∃ cp25, St E [] w0 24 a w [(2, .pointer (some ⟨b11, 0, none⟩)), (5, .pointer (some ⟨b19, 0, none⟩))] [eBox b11 36 [.slice none 0 0, .slice none 0 0], eBox b19 36 [.slice ad21 o20.length cp22, .slice ad24 o23.length cp25], eRow (rI .i64) 3 (.slice ad21 o20.length cp22) o20, eRow (rI .i64) 3 (.slice ad24 o23.length cp25) o23] []) ?_ (fun a w hI => ?_)
    · obtain ⟨r28, hx29, h⟩ := bindSome h
      obtain ⟨r32, hx33, h⟩ := bindSome h
      refine sDraw (nf := [2, 5, 7, 8]) (W := [(0, 12, .pointer (some ⟨b10, 0, none⟩)), (1, 13, .slice ad5 p0.Left.length cp6), (3, 15, .pointer (some ⟨b10, 1, none⟩)), (4, 16, .slice ad7 p0.Right.length cp8)]) (by kernel_rfl) S ?_
      refine node_by (A := anc_piece_Make_s0_0) (nf := [2, 5, 7, 8]) (Y := []) (W := [(0, 12, .pointer (some ⟨b10, 0, none⟩)), (1, 13, .slice ad5 p0.Left.length cp6), (3, 15, .pointer (some ⟨b10, 1, none⟩)), (4, 16, .slice ad7 p0.Right.length cp8)]) 9 (by kernel_rfl) (by kernel_rfl) (by kernel_rfl) (by kernel_rfl) (by kernel_rfl) [0, 1, 3, 4] (by kernel_rfl) (by decide) (by decide) (aF 0 8 (by decide) ?_ (aF 1 7 (by decide) ?_ (aN 2 6 (by decide) ?_ (aF 3 5 (by decide) ?_ (aF 4 4 (by decide) ?_ (aB 5 3 2 (by decide) (aE 6 2 2 (by decide) (aN 7 1 (by decide) ?_ (aB 8 0 2 (by decide) (trivial)))))))))) [] (fun q hq => by cases hq) (fun hY => absurd (hY 2 (by decide)) (by decide))
      · refine fI 12 (.pointer (some ⟨b10, 0, none⟩)) [(1, .pointer (some ⟨b10, 0, none⟩))] 0 [none] rfl rfl (by kernel_rfl) rfl (by kernel_rfl) (by kernel_rfl) fun G a w S => ?_
        refine sField (b := b10) (off := 0) 0 0 S (wN rfl) rfl (by kernel_rfl) (by kernel_rfl) rfl rfl (by decide) (fun a S => ?_)
        exact leafL ⟨rfl, S⟩
      · refine fI 13 (.slice ad5 p0.Left.length cp6) [(12, .pointer (some ⟨b10, 0, none⟩))] 1 [some 0] rfl rfl (by kernel_rfl) rfl (by kernel_rfl) (by kernel_rfl) fun G a w S => ?_
        refine sLoad1 (p := b10) (off := 0) (T := 26) (vs := [.slice ad5 p0.Left.length cp6, .slice ad7 p0.Right.length cp8]) 1 (.slice ad5 p0.Left.length cp6) S (wN rfl) rfl (by kernel_rfl) (by kernel_rfl) (by kernel_rfl) rfl rfl (by decide) (fun a S => ?_)
        exact leafL ⟨rfl, S⟩
      · refine ⟨_, [(13, .slice ad5 p0.Left.length cp6)], rfl, (srcs_of [some 1] rfl (by kernel_rfl) (by kernel_rfl)), fun G a w S => ?_⟩
        refine sCall (X := Option Addr × Nat) (f := 31) (vs := [.slice ad5 p0.Left.length cp6]) (val := fun x => .slice x.1 r28.length x.2) (B' := fun x => [eRow (rI .i64) 3 (.slice x.1 r28.length x.2) r28]) (D' := fun _ => []) [] [eBox b11 36 [.slice none 0 0, .slice none 0 0], eBox b10 26 [.slice ad5 p0.Left.length cp6, .slice ad7 p0.Right.length cp8]] [fRep (rL r_api_Point) (.slice ad5 p0.Left.length cp6) p0.Left] [0, 1] [1] S (wN rfl) rfl callee31 (by kernel_rfl) (by decide) (by kernel_rfl) (by kernel_rfl) (fun E1 w1 S1 => c_piece_columns_s0 E1 w1 p0.Left (.slice ad5 p0.Left.length cp6) r28 hx29 S1) rfl (by decide) (fun xx a w S => ?_)
        obtain ⟨ad37, cp38⟩ := xx
        dsimp only at S
        refine leafL ⟨rfl, _, _, .inl ⟨14, (.slice ad37 r28.length cp38), [], rfl, S, hz_of (by kernel_rfl), ?_⟩⟩
        refine node_by (A := anc_piece_Make_s0_0) (nf := [2, 5, 7, 8]) (Y := [2]) 9 (by kernel_rfl) (by kernel_rfl) (by kernel_rfl) (by kernel_rfl) (by kernel_rfl) [2, 0, 1, 3, 4] (by kernel_rfl) (by decide) (by decide) (aD 0 8 2 (by decide) (aD 1 7 2 (by decide) (aY 2 6 (by decide) (aF 3 5 (by decide) ?_ (aF 4 4 (by decide) ?_ (aN 5 3 (by decide) ?_ (aE 6 2 5 (by decide) (aN 7 1 (by decide) ?_ (aB 8 0 5 (by decide) (trivial)))))))))) [] (fun q hq => by cases hq) (fun hY => absurd (hY 5 (by decide)) (by decide))
        · refine fI 15 (.pointer (some ⟨b10, 1, none⟩)) [(1, .pointer (some ⟨b10, 0, none⟩))] 3 [none] rfl rfl (by kernel_rfl) rfl (by kernel_rfl) (by kernel_rfl) fun G a w S => ?_
          refine sField (b := b10) (off := 0) 1 1 S (wN rfl) rfl (by kernel_rfl) (by kernel_rfl) rfl rfl (by decide) (fun a S => ?_)
          exact leafL ⟨rfl, S⟩
        · refine fI 16 (.slice ad7 p0.Right.length cp8) [(15, .pointer (some ⟨b10, 1, none⟩))] 4 [some 3] rfl rfl (by kernel_rfl) rfl (by kernel_rfl) (by kernel_rfl) fun G a w S => ?_
          refine sLoad1 (p := b10) (off := 1) (T := 26) (vs := [.slice ad5 p0.Left.length cp6, .slice ad7 p0.Right.length cp8]) 2 (.slice ad7 p0.Right.length cp8) S (wN rfl) rfl (by kernel_rfl) (by kernel_rfl) (by kernel_rfl) rfl rfl (by decide) (fun a S => ?_)
          exact leafL ⟨rfl, S⟩
        · refine ⟨_, [(16, .slice ad7 p0.Right.length cp8)], rfl, (srcs_of [some 4] rfl (by kernel_rfl) (by kernel_rfl)), fun G a w S => ?_⟩
          refine sCall (X := Option Addr × Nat) (f := 31) (vs := [.slice ad7 p0.Right.length cp8]) (val := fun x => .slice x.1 r32.length x.2) (B' := fun x => [eRow (rI .i64) 3 (.slice x.1 r32.length x.2) r32]) (D' := fun _ => []) [] [eRow (rI .i64) 3 (.slice ad37 r28.length cp38) r28, eBox b11 36 [.slice none 0 0, .slice none 0 0], eBox b10 26 [.slice ad5 p0.Left.length cp6, .slice ad7 p0.Right.length cp8]] [fRep (rL r_api_Point) (.slice ad7 p0.Right.length cp8) p0.Right] [0, 1, 2] [0] S (wN rfl) rfl callee31 (by kernel_rfl) (by decide) (by kernel_rfl) (by kernel_rfl) (fun E1 w1 S1 => c_piece_columns_s0 E1 w1 p0.Right (.slice ad7 p0.Right.length cp8) r32 hx33 S1) rfl (by decide) (fun xx a w S => ?_)
          obtain ⟨ad39, cp40⟩ := xx
          dsimp only at S
          refine leafL ⟨rfl, _, _, .inl ⟨17, (.slice ad39 r32.length cp40), [(6, 18, .agg #[.slice ad37 r28.length cp38, .slice ad39 r32.length cp40])], rfl, S, hz_of (by kernel_rfl), ?_⟩⟩
          refine node_by (A := anc_piece_Make_s0_0) (nf := [2, 5, 7, 8]) (Y := [5, 2]) 9 (by kernel_rfl) (by kernel_rfl) (by kernel_rfl) (by kernel_rfl) (by kernel_rfl) [6, 5, 2, 0, 1, 3, 4] (by kernel_rfl) (by decide) (by decide) (aD 0 8 5 (by decide) (aD 1 7 5 (by decide) (aY 2 6 (by decide) (aD 3 5 5 (by decide) (aD 4 4 5 (by decide) (aY 5 3 (by decide) (aF 6 2 (by decide) ?_ (aN 7 1 (by decide) ?_ (aB 8 0 7 (by decide) (trivial)))))))))) [] (fun q hq => by cases hq) (fun hY => absurd (hY 7 (by decide)) (by decide))
          · refine fI 18 (.agg #[.slice ad37 r28.length cp38, .slice ad39 r32.length cp40]) [(14, .slice ad37 r28.length cp38), (17, .slice ad39 r32.length cp40)] 0 [some 2, some 1] rfl rfl (by kernel_rfl) rfl (by kernel_rfl) (by kernel_rfl) fun G a w S => ?_
            refine sBuild [(0, .slice ad37 r28.length cp38), (1, .slice ad39 r32.length cp40)] [.slice ad37 r28.length cp38, .slice ad39 r32.length cp40] S (wN rfl) rfl (by kernel_rfl) (by kernel_rfl) rfl (by decide) (fun a S => ?_)
            exact leafL ⟨rfl, S⟩
          · refine ⟨_, [], rfl, (srcs_of [] rfl (by kernel_rfl) (by kernel_rfl)), fun G a w S => ?_⟩
            refine sAlloc (.agg #[.slice none 0 0, .slice none 0 0]) S (wN rfl) rfl (by kernel_rfl) [.slice none 0 0, .slice none 0 0] rfl rfl (by decide) (fun a b41 w S => ?_)
            refine leafL ⟨rfl, _, _, .inl ⟨5, (.pointer (some ⟨b41, 0, none⟩)), [], rfl, S, hz_of (by kernel_rfl), ?_⟩⟩
            refine node_by (A := anc_piece_Make_s0_0) (nf := [2, 5, 7, 8]) (Y := [7, 5, 2]) 9 (by kernel_rfl) (by kernel_rfl) (by kernel_rfl) (by kernel_rfl) (by kernel_rfl) [7, 6, 5, 2, 0, 1, 3, 4] (by kernel_rfl) (by decide) (by decide) (aD 0 8 5 (by decide) (aD 1 7 5 (by decide) (aY 2 6 (by decide) (aD 3 5 5 (by decide) (aD 4 4 5 (by decide) (aY 5 3 (by decide) (aF 6 2 (by decide) ?_ (aY 7 1 (by decide) (aN 8 0 (by decide) ?_ (trivial)))))))))) [] (fun q hq => by cases hq) (fun hY => absurd (hY 8 (by decide)) (by decide))
            · refine fI 18 (.agg #[.slice ad37 r28.length cp38, .slice ad39 r32.length cp40]) [(14, .slice ad37 r28.length cp38), (17, .slice ad39 r32.length cp40)] 1 [some 3, some 2] rfl rfl (by kernel_rfl) rfl (by kernel_rfl) (by kernel_rfl) fun G a w S => ?_
              refine sBuild [(0, .slice ad37 r28.length cp38), (1, .slice ad39 r32.length cp40)] [.slice ad37 r28.length cp38, .slice ad39 r32.length cp40] S (wN rfl) rfl (by kernel_rfl) (by kernel_rfl) rfl (by decide) (fun a S => ?_)
              exact leafL ⟨rfl, S⟩
            · refine ⟨_, [(5, .pointer (some ⟨b41, 0, none⟩)), (18, .agg #[.slice ad37 r28.length cp38, .slice ad39 r32.length cp40])], rfl, (srcs_of [some 0, some 1] rfl (by kernel_rfl) (by kernel_rfl)), fun G a w S => ?_⟩
              refine sStore (p := b41) (off := 0) (T := 36) (vs := [.slice none 0 0, .slice none 0 0]) (v := .agg #[.slice ad37 r28.length cp38, .slice ad39 r32.length cp40]) 0 [.slice ad37 r28.length cp38, .slice ad39 r32.length cp40] S (wN rfl) rfl (by kernel_rfl) (by kernel_rfl) rfl (by kernel_rfl) (by kernel_rfl) rfl (by simp) rfl (fun a w S => ?_)
              refine leafL ⟨rfl, _, _, .inr ⟨[], rfl, S, hz_of (by kernel_rfl), ?_⟩⟩
              refine node_by (A := anc_piece_Make_s0_0) (nf := [2, 5, 7, 8]) (Y := [8, 7, 5, 2]) 9 (by kernel_rfl) (by kernel_rfl) (by kernel_rfl) (by kernel_rfl) (by kernel_rfl) [7, 6, 5, 2, 0, 1, 3, 4] (by kernel_rfl) (by decide) (by decide) (aD 0 8 8 (by decide) (aD 1 7 8 (by decide) (aY 2 6 (by decide) (aD 3 5 8 (by decide) (aD 4 4 8 (by decide) (aY 5 3 (by decide) (aD 6 2 8 (by decide) (aY 7 1 (by decide) (aY 8 0 (by decide) (trivial)))))))))) [(2, .pointer (some ⟨b11, 0, none⟩)), (5, .pointer (some ⟨b41, 0, none⟩))] (fin_of [none, some 0] rfl (by kernel_rfl) (by kernel_rfl)) (fun _ a w S => ?_)
              · exact leafT (⟨r28, r32, Option.some.inj h, b41, ad37, cp38, ad39, cp40, S.fix [3, 0, 2, 1] [] (by decide) (by kernel_rfl) (by kernel_rfl) (by kernel_rfl)⟩)
        · refine ⟨_, [], rfl, (srcs_of [] rfl (by kernel_rfl) (by kernel_rfl)), fun G a w S => ?_⟩
          refine sAlloc (.agg #[.slice none 0 0, .slice none 0 0]) S (wN rfl) rfl (by kernel_rfl) [.slice none 0 0, .slice none 0 0] rfl rfl (by decide) (fun a b42 w S => ?_)
          refine leafL ⟨rfl, _, _, .inl ⟨5, (.pointer (some ⟨b42, 0, none⟩)), [], rfl, S, hz_of (by kernel_rfl), ?_⟩⟩
          refine node_by (A := anc_piece_Make_s0_0) (nf := [2, 5, 7, 8]) (Y := [7, 2]) 9 (by kernel_rfl) (by kernel_rfl) (by kernel_rfl) (by kernel_rfl) (by kernel_rfl) [7, 2, 0, 1, 3, 4] (by kernel_rfl) (by decide) (by decide) (aD 0 8 2 (by decide) (aD 1 7 2 (by decide) (aY 2 6 (by decide) (aF 3 5 (by decide) ?_ (aF 4 4 (by decide) ?_ (aN 5 3 (by decide) ?_ (aE 6 2 5 (by decide) (aY 7 1 (by decide) (aB 8 0 5 (by decide) (trivial)))))))))) [] (fun q hq => by cases hq) (fun hY => absurd (hY 5 (by decide)) (by decide))
          · refine fI 15 (.pointer (some ⟨b10, 1, none⟩)) [(1, .pointer (some ⟨b10, 0, none⟩))] 4 [none] rfl rfl (by kernel_rfl) rfl (by kernel_rfl) (by kernel_rfl) fun G a w S => ?_
            refine sField (b := b10) (off := 0) 1 1 S (wN rfl) rfl (by kernel_rfl) (by kernel_rfl) rfl rfl (by decide) (fun a S => ?_)
            exact leafL ⟨rfl, S⟩
          · refine fI 16 (.slice ad7 p0.Right.length cp8) [(15, .pointer (some ⟨b10, 1, none⟩))] 5 [some 4] rfl rfl (by kernel_rfl) rfl (by kernel_rfl) (by kernel_rfl) fun G a w S => ?_
            refine sLoad1 (p := b10) (off := 1) (T := 26) (vs := [.slice ad5 p0.Left.length cp6, .slice ad7 p0.Right.length cp8]) 3 (.slice ad7 p0.Right.length cp8) S (wN rfl) rfl (by kernel_rfl) (by kernel_rfl) (by kernel_rfl) rfl rfl (by decide) (fun a S => ?_)
            exact leafL ⟨rfl, S⟩
          · refine ⟨_, [(16, .slice ad7 p0.Right.length cp8)], rfl, (srcs_of [some 5] rfl (by kernel_rfl) (by kernel_rfl)), fun G a w S => ?_⟩
            refine sCall (X := Option Addr × Nat) (f := 31) (vs := [.slice ad7 p0.Right.length cp8]) (val := fun x => .slice x.1 r32.length x.2) (B' := fun x => [eRow (rI .i64) 3 (.slice x.1 r32.length x.2) r32]) (D' := fun _ => []) [] [eBox b42 36 [.slice none 0 0, .slice none 0 0], eRow (rI .i64) 3 (.slice ad37 r28.length cp38) r28, eBox b11 36 [.slice none 0 0, .slice none 0 0], eBox b10 26 [.slice ad5 p0.Left.length cp6, .slice ad7 p0.Right.length cp8]] [fRep (rL r_api_Point) (.slice ad7 p0.Right.length cp8) p0.Right] [0, 1, 2, 3] [0] S (wN rfl) rfl callee31 (by kernel_rfl) (by decide) (by kernel_rfl) (by kernel_rfl) (fun E1 w1 S1 => c_piece_columns_s0 E1 w1 p0.Right (.slice ad7 p0.Right.length cp8) r32 hx33 S1) rfl (by decide) (fun xx a w S => ?_)
            obtain ⟨ad43, cp44⟩ := xx
            dsimp only at S
            refine leafL ⟨rfl, _, _, .inl ⟨17, (.slice ad43 r32.length cp44), [(6, 18, .agg #[.slice ad37 r28.length cp38, .slice ad43 r32.length cp44])], rfl, S, hz_of (by kernel_rfl), ?_⟩⟩
            refine node_by (A := anc_piece_Make_s0_0) (nf := [2, 5, 7, 8]) (Y := [5, 7, 2]) 9 (by kernel_rfl) (by kernel_rfl) (by kernel_rfl) (by kernel_rfl) (by kernel_rfl) [6, 5, 7, 2, 0, 1, 3, 4] (by kernel_rfl) (by decide) (by decide) (aD 0 8 5 (by decide) (aD 1 7 5 (by decide) (aY 2 6 (by decide) (aD 3 5 5 (by decide) (aD 4 4 5 (by decide) (aY 5 3 (by decide) (aF 6 2 (by decide) ?_ (aY 7 1 (by decide) (aN 8 0 (by decide) ?_ (trivial)))))))))) [] (fun q hq => by cases hq) (fun hY => absurd (hY 8 (by decide)) (by decide))
            · refine fI 18 (.agg #[.slice ad37 r28.length cp38, .slice ad43 r32.length cp44]) [(14, .slice ad37 r28.length cp38), (17, .slice ad43 r32.length cp44)] 0 [some 3, some 1] rfl rfl (by kernel_rfl) rfl (by kernel_rfl) (by kernel_rfl) fun G a w S => ?_
              refine sBuild [(0, .slice ad37 r28.length cp38), (1, .slice ad43 r32.length cp44)] [.slice ad37 r28.length cp38, .slice ad43 r32.length cp44] S (wN rfl) rfl (by kernel_rfl) (by kernel_rfl) rfl (by decide) (fun a S => ?_)
              exact leafL ⟨rfl, S⟩
            · refine ⟨_, [(5, .pointer (some ⟨b42, 0, none⟩)), (18, .agg #[.slice ad37 r28.length cp38, .slice ad43 r32.length cp44])], rfl, (srcs_of [some 2, some 0] rfl (by kernel_rfl) (by kernel_rfl)), fun G a w S => ?_⟩
              refine sStore (p := b42) (off := 0) (T := 36) (vs := [.slice none 0 0, .slice none 0 0]) (v := .agg #[.slice ad37 r28.length cp38, .slice ad43 r32.length cp44]) 1 [.slice ad37 r28.length cp38, .slice ad43 r32.length cp44] S (wN rfl) rfl (by kernel_rfl) (by kernel_rfl) rfl (by kernel_rfl) (by kernel_rfl) rfl (by simp) rfl (fun a w S => ?_)
              refine leafL ⟨rfl, _, _, .inr ⟨[], rfl, S, hz_of (by kernel_rfl), ?_⟩⟩
              refine node_by (A := anc_piece_Make_s0_0) (nf := [2, 5, 7, 8]) (Y := [8, 5, 7, 2]) 9 (by kernel_rfl) (by kernel_rfl) (by kernel_rfl) (by kernel_rfl) (by kernel_rfl) [6, 5, 7, 2, 0, 1, 3, 4] (by kernel_rfl) (by decide) (by decide) (aD 0 8 8 (by decide) (aD 1 7 8 (by decide) (aY 2 6 (by decide) (aD 3 5 8 (by decide) (aD 4 4 8 (by decide) (aY 5 3 (by decide) (aD 6 2 8 (by decide) (aY 7 1 (by decide) (aY 8 0 (by decide) (trivial)))))))))) [(2, .pointer (some ⟨b11, 0, none⟩)), (5, .pointer (some ⟨b42, 0, none⟩))] (fin_of [none, some 2] rfl (by kernel_rfl) (by kernel_rfl)) (fun _ a w S => ?_)
              · exact leafT (⟨r28, r32, Option.some.inj h, b42, ad37, cp38, ad43, cp44, S.fix [3, 0, 2, 1] [] (by decide) (by kernel_rfl) (by kernel_rfl) (by kernel_rfl)⟩)
      · refine fI 15 (.pointer (some ⟨b10, 1, none⟩)) [(1, .pointer (some ⟨b10, 0, none⟩))] 2 [none] rfl rfl (by kernel_rfl) rfl (by kernel_rfl) (by kernel_rfl) fun G a w S => ?_
        refine sField (b := b10) (off := 0) 1 1 S (wN rfl) rfl (by kernel_rfl) (by kernel_rfl) rfl rfl (by decide) (fun a S => ?_)
        exact leafL ⟨rfl, S⟩
      · refine fI 16 (.slice ad7 p0.Right.length cp8) [(15, .pointer (some ⟨b10, 1, none⟩))] 3 [some 2] rfl rfl (by kernel_rfl) rfl (by kernel_rfl) (by kernel_rfl) fun G a w S => ?_
        refine sLoad1 (p := b10) (off := 1) (T := 26) (vs := [.slice ad5 p0.Left.length cp6, .slice ad7 p0.Right.length cp8]) 1 (.slice ad7 p0.Right.length cp8) S (wN rfl) rfl (by kernel_rfl) (by kernel_rfl) (by kernel_rfl) rfl rfl (by decide) (fun a S => ?_)
        exact leafL ⟨rfl, S⟩
      · refine ⟨_, [], rfl, (srcs_of [] rfl (by kernel_rfl) (by kernel_rfl)), fun G a w S => ?_⟩
        refine sAlloc (.agg #[.slice none 0 0, .slice none 0 0]) S (wN rfl) rfl (by kernel_rfl) [.slice none 0 0, .slice none 0 0] rfl rfl (by decide) (fun a b45 w S => ?_)
        refine leafL ⟨rfl, _, _, .inl ⟨5, (.pointer (some ⟨b45, 0, none⟩)), [], rfl, S, hz_of (by kernel_rfl), ?_⟩⟩
        refine node_by (A := anc_piece_Make_s0_0) (nf := [2, 5, 7, 8]) (Y := [7]) 9 (by kernel_rfl) (by kernel_rfl) (by kernel_rfl) (by kernel_rfl) (by kernel_rfl) [7, 0, 1, 3, 4] (by kernel_rfl) (by decide) (by decide) (aF 0 8 (by decide) ?_ (aF 1 7 (by decide) ?_ (aN 2 6 (by decide) ?_ (aF 3 5 (by decide) ?_ (aF 4 4 (by decide) ?_ (aB 5 3 2 (by decide) (aE 6 2 2 (by decide) (aY 7 1 (by decide) (aB 8 0 2 (by decide) (trivial)))))))))) [] (fun q hq => by cases hq) (fun hY => absurd (hY 2 (by decide)) (by decide))
        · refine fI 12 (.pointer (some ⟨b10, 0, none⟩)) [(1, .pointer (some ⟨b10, 0, none⟩))] 1 [none] rfl rfl (by kernel_rfl) rfl (by kernel_rfl) (by kernel_rfl) fun G a w S => ?_
          refine sField (b := b10) (off := 0) 0 0 S (wN rfl) rfl (by kernel_rfl) (by kernel_rfl) rfl rfl (by decide) (fun a S => ?_)
          exact leafL ⟨rfl, S⟩
        · refine fI 13 (.slice ad5 p0.Left.length cp6) [(12, .pointer (some ⟨b10, 0, none⟩))] 2 [some 1] rfl rfl (by kernel_rfl) rfl (by kernel_rfl) (by kernel_rfl) fun G a w S => ?_
          refine sLoad1 (p := b10) (off := 0) (T := 26) (vs := [.slice ad5 p0.Left.length cp6, .slice ad7 p0.Right.length cp8]) 2 (.slice ad5 p0.Left.length cp6) S (wN rfl) rfl (by kernel_rfl) (by kernel_rfl) (by kernel_rfl) rfl rfl (by decide) (fun a S => ?_)
          exact leafL ⟨rfl, S⟩
        · refine ⟨_, [(13, .slice ad5 p0.Left.length cp6)], rfl, (srcs_of [some 2] rfl (by kernel_rfl) (by kernel_rfl)), fun G a w S => ?_⟩
          refine sCall (X := Option Addr × Nat) (f := 31) (vs := [.slice ad5 p0.Left.length cp6]) (val := fun x => .slice x.1 r28.length x.2) (B' := fun x => [eRow (rI .i64) 3 (.slice x.1 r28.length x.2) r28]) (D' := fun _ => []) [] [eBox b45 36 [.slice none 0 0, .slice none 0 0], eBox b11 36 [.slice none 0 0, .slice none 0 0], eBox b10 26 [.slice ad5 p0.Left.length cp6, .slice ad7 p0.Right.length cp8]] [fRep (rL r_api_Point) (.slice ad5 p0.Left.length cp6) p0.Left] [0, 1, 2] [1] S (wN rfl) rfl callee31 (by kernel_rfl) (by decide) (by kernel_rfl) (by kernel_rfl) (fun E1 w1 S1 => c_piece_columns_s0 E1 w1 p0.Left (.slice ad5 p0.Left.length cp6) r28 hx29 S1) rfl (by decide) (fun xx a w S => ?_)
          obtain ⟨ad46, cp47⟩ := xx
          dsimp only at S
          refine leafL ⟨rfl, _, _, .inl ⟨14, (.slice ad46 r28.length cp47), [], rfl, S, hz_of (by kernel_rfl), ?_⟩⟩
          refine node_by (A := anc_piece_Make_s0_0) (nf := [2, 5, 7, 8]) (Y := [2, 7]) 9 (by kernel_rfl) (by kernel_rfl) (by kernel_rfl) (by kernel_rfl) (by kernel_rfl) [2, 7, 0, 1, 3, 4] (by kernel_rfl) (by decide) (by decide) (aD 0 8 2 (by decide) (aD 1 7 2 (by decide) (aY 2 6 (by decide) (aF 3 5 (by decide) ?_ (aF 4 4 (by decide) ?_ (aN 5 3 (by decide) ?_ (aE 6 2 5 (by decide) (aY 7 1 (by decide) (aB 8 0 5 (by decide) (trivial)))))))))) [] (fun q hq => by cases hq) (fun hY => absurd (hY 5 (by decide)) (by decide))
          · refine fI 15 (.pointer (some ⟨b10, 1, none⟩)) [(1, .pointer (some ⟨b10, 0, none⟩))] 4 [none] rfl rfl (by kernel_rfl) rfl (by kernel_rfl) (by kernel_rfl) fun G a w S => ?_
            refine sField (b := b10) (off := 0) 1 1 S (wN rfl) rfl (by kernel_rfl) (by kernel_rfl) rfl rfl (by decide) (fun a S => ?_)
            exact leafL ⟨rfl, S⟩
          · refine fI 16 (.slice ad7 p0.Right.length cp8) [(15, .pointer (some ⟨b10, 1, none⟩))] 5 [some 4] rfl rfl (by kernel_rfl) rfl (by kernel_rfl) (by kernel_rfl) fun G a w S => ?_
            refine sLoad1 (p := b10) (off := 1) (T := 26) (vs := [.slice ad5 p0.Left.length cp6, .slice ad7 p0.Right.length cp8]) 3 (.slice ad7 p0.Right.length cp8) S (wN rfl) rfl (by kernel_rfl) (by kernel_rfl) (by kernel_rfl) rfl rfl (by decide) (fun a S => ?_)
            exact leafL ⟨rfl, S⟩
          · refine ⟨_, [(16, .slice ad7 p0.Right.length cp8)], rfl, (srcs_of [some 5] rfl (by kernel_rfl) (by kernel_rfl)), fun G a w S => ?_⟩
            refine sCall (X := Option Addr × Nat) (f := 31) (vs := [.slice ad7 p0.Right.length cp8]) (val := fun x => .slice x.1 r32.length x.2) (B' := fun x => [eRow (rI .i64) 3 (.slice x.1 r32.length x.2) r32]) (D' := fun _ => []) [] [eRow (rI .i64) 3 (.slice ad46 r28.length cp47) r28, eBox b45 36 [.slice none 0 0, .slice none 0 0], eBox b11 36 [.slice none 0 0, .slice none 0 0], eBox b10 26 [.slice ad5 p0.Left.length cp6, .slice ad7 p0.Right.length cp8]] [fRep (rL r_api_Point) (.slice ad7 p0.Right.length cp8) p0.Right] [0, 1, 2, 3] [0] S (wN rfl) rfl callee31 (by kernel_rfl) (by decide) (by kernel_rfl) (by kernel_rfl) (fun E1 w1 S1 => c_piece_columns_s0 E1 w1 p0.Right (.slice ad7 p0.Right.length cp8) r32 hx33 S1) rfl (by decide) (fun xx a w S => ?_)
            obtain ⟨ad48, cp49⟩ := xx
            dsimp only at S
            refine leafL ⟨rfl, _, _, .inl ⟨17, (.slice ad48 r32.length cp49), [(6, 18, .agg #[.slice ad46 r28.length cp47, .slice ad48 r32.length cp49])], rfl, S, hz_of (by kernel_rfl), ?_⟩⟩
            refine node_by (A := anc_piece_Make_s0_0) (nf := [2, 5, 7, 8]) (Y := [5, 2, 7]) 9 (by kernel_rfl) (by kernel_rfl) (by kernel_rfl) (by kernel_rfl) (by kernel_rfl) [6, 5, 2, 7, 0, 1, 3, 4] (by kernel_rfl) (by decide) (by decide) (aD 0 8 5 (by decide) (aD 1 7 5 (by decide) (aY 2 6 (by decide) (aD 3 5 5 (by decide) (aD 4 4 5 (by decide) (aY 5 3 (by decide) (aF 6 2 (by decide) ?_ (aY 7 1 (by decide) (aN 8 0 (by decide) ?_ (trivial)))))))))) [] (fun q hq => by cases hq) (fun hY => absurd (hY 8 (by decide)) (by decide))
            · refine fI 18 (.agg #[.slice ad46 r28.length cp47, .slice ad48 r32.length cp49]) [(14, .slice ad46 r28.length cp47), (17, .slice ad48 r32.length cp49)] 0 [some 2, some 1] rfl rfl (by kernel_rfl) rfl (by kernel_rfl) (by kernel_rfl) fun G a w S => ?_
              refine sBuild [(0, .slice ad46 r28.length cp47), (1, .slice ad48 r32.length cp49)] [.slice ad46 r28.length cp47, .slice ad48 r32.length cp49] S (wN rfl) rfl (by kernel_rfl) (by kernel_rfl) rfl (by decide) (fun a S => ?_)
              exact leafL ⟨rfl, S⟩
            · refine ⟨_, [(5, .pointer (some ⟨b45, 0, none⟩)), (18, .agg #[.slice ad46 r28.length cp47, .slice ad48 r32.length cp49])], rfl, (srcs_of [some 3, some 0] rfl (by kernel_rfl) (by kernel_rfl)), fun G a w S => ?_⟩
              refine sStore (p := b45) (off := 0) (T := 36) (vs := [.slice none 0 0, .slice none 0 0]) (v := .agg #[.slice ad46 r28.length cp47, .slice ad48 r32.length cp49]) 2 [.slice ad46 r28.length cp47, .slice ad48 r32.length cp49] S (wN rfl) rfl (by kernel_rfl) (by kernel_rfl) rfl (by kernel_rfl) (by kernel_rfl) rfl (by simp) rfl (fun a w S => ?_)
              refine leafL ⟨rfl, _, _, .inr ⟨[], rfl, S, hz_of (by kernel_rfl), ?_⟩⟩
              refine node_by (A := anc_piece_Make_s0_0) (nf := [2, 5, 7, 8]) (Y := [8, 5, 2, 7]) 9 (by kernel_rfl) (by kernel_rfl) (by kernel_rfl) (by kernel_rfl) (by kernel_rfl) [6, 5, 2, 7, 0, 1, 3, 4] (by kernel_rfl) (by decide) (by decide) (aD 0 8 8 (by decide) (aD 1 7 8 (by decide) (aY 2 6 (by decide) (aD 3 5 8 (by decide) (aD 4 4 8 (by decide) (aY 5 3 (by decide) (aD 6 2 8 (by decide) (aY 7 1 (by decide) (aY 8 0 (by decide) (trivial)))))))))) [(2, .pointer (some ⟨b11, 0, none⟩)), (5, .pointer (some ⟨b45, 0, none⟩))] (fin_of [none, some 3] rfl (by kernel_rfl) (by kernel_rfl)) (fun _ a w S => ?_)
              · exact leafT (⟨r28, r32, Option.some.inj h, b45, ad46, cp47, ad48, cp49, S.fix [3, 0, 2, 1] [] (by decide) (by kernel_rfl) (by kernel_rfl) (by kernel_rfl)⟩)
        · refine fI 15 (.pointer (some ⟨b10, 1, none⟩)) [(1, .pointer (some ⟨b10, 0, none⟩))] 3 [none] rfl rfl (by kernel_rfl) rfl (by kernel_rfl) (by kernel_rfl) fun G a w S => ?_
          refine sField (b := b10) (off := 0) 1 1 S (wN rfl) rfl (by kernel_rfl) (by kernel_rfl) rfl rfl (by decide) (fun a S => ?_)
          exact leafL ⟨rfl, S⟩
        · refine fI 16 (.slice ad7 p0.Right.length cp8) [(15, .pointer (some ⟨b10, 1, none⟩))] 4 [some 3] rfl rfl (by kernel_rfl) rfl (by kernel_rfl) (by kernel_rfl) fun G a w S => ?_
          refine sLoad1 (p := b10) (off := 1) (T := 26) (vs := [.slice ad5 p0.Left.length cp6, .slice ad7 p0.Right.length cp8]) 2 (.slice ad7 p0.Right.length cp8) S (wN rfl) rfl (by kernel_rfl) (by kernel_rfl) (by kernel_rfl) rfl rfl (by decide) (fun a S => ?_)
          exact leafL ⟨rfl, S⟩
    · obtain ⟨o20, o23, rfl, b19, ad21, cp22, ad24, cp25, S⟩ := hI
      have h := g27
      clear g27
      try dsimp only at h
      refine sSeq (fun K50 hK50 => ?_)
      refine sSeq (fun K51 hK51 => ?_)
      refine sRegion ?_
      refine sLoadN (p := b19) (off := 0) (T := 36) (vs := [.slice ad21 o20.length cp22, .slice ad24 o23.length cp25]) 1 [.slice ad21 o20.length cp22, .slice ad24 o23.length cp25] S (wN rfl) rfl (by kernel_rfl) (by kernel_rfl) (by kernel_rfl) (by kernel_rfl) rfl rfl (by decide) (fun a S => ?_)
      obtain ⟨r52, hx53, h⟩ := bindSome h
      have S1 := S.mem
      have S1 := S1.shutR (r := (rI .i64)) (T := 3) (v := .slice ad21 o20.length cp22) (xs := o20) 2 (by kernel_rfl)
      have S1 := S1.shutR (r := (rI .i64)) (T := 3) (v := .slice ad24 o23.length cp25) (xs := o23) 2 (by kernel_rfl)
      have S1 := S1.learn (fRep r_api_Piece (.agg #[.slice ad21 o20.length cp22, .slice ad24 o23.length cp25]) (api_Piece.mk o20 o23)) ⟨_, _, rfl, S1.know (i := 1) (e := fRep (rL (rI .i64)) (.slice ad21 o20.length cp22) o20) (by kernel_rfl), S1.know (i := 0) (e := fRep (rL (rI .i64)) (.slice ad24 o23.length cp25) o23) (by kernel_rfl)⟩
      refine sCallQ (X := Unit) (f := 17) (vs := [.agg #[.slice ad21 o20.length cp22, .slice ad24 o23.length cp25]]) (val := fun _ => .int .i64 r52) S (wN rfl) rfl callee17 (by kernel_rfl) (S1.quiet [0] (by kernel_rfl)) (fun E1 w1 S1 => c_piece_Check E1 w1 (api_Piece.mk o20 o23) (.agg #[.slice ad21 o20.length cp22, .slice ad24 o23.length cp25]) r52 hx53 S1) rfl (by decide) (fun _ a w S => ?_)
      refine sBin (.bool (r52 != 0)) S (wN rfl) rfl (by kernel_rfl) (by kernel_rfl) (bNe _ _ _ _ .i64 r52 0) rfl (by decide) (fun a S => ?_)
      refine leafL (leafT (hK51 _ _ ?_))
      rcases iteSome h with ⟨hc54, h⟩ | ⟨hc54, h⟩
      · refine sCondT (b := r52 != 0) S (by kernel_rfl) hc54 ?_
        refine sSeq (fun K55 hK55 => ?_)
        refine sRegion ?_
        refine sBuild [] [.slice none 0 0, .slice none 0 0] S (wN rfl) rfl (by kernel_rfl) (by kernel_rfl) rfl (by decide) (fun a S => ?_)
        refine sStore (p := b11) (off := 0) (T := 36) (vs := [.slice none 0 0, .slice none 0 0]) (v := .agg #[.slice none 0 0, .slice none 0 0]) 0 [.slice none 0 0, .slice none 0 0] S (wN rfl) rfl (by kernel_rfl) (by kernel_rfl) rfl (by kernel_rfl) (by kernel_rfl) rfl (by simp) rfl (fun a w S => ?_)
        refine sMove (.int .i64 16) S (wN rfl) (.inr rfl) (by kernel_rfl) rfl (by decide) (fun a S => ?_)
        refine leafL (leafT (hK55 _ _ ?_))
        obtain rfl := Option.some.inj h
        have S := S.nilRow (rI .i64) 3 (α := Int)
        have S := S.nilRow (rI .i64) 3 (α := Int)
        exact wp_ret (rThen (sRet (.tuple #[.agg #[.slice none 0 0, .slice none 0 0], .int .i64 16]) S (rsl2 rfl (rvN (c := 2) (t := 36) (T := 36) (p := b11) 2 [.slice none 0 0, .slice none 0 0] S (by kernel_rfl) (by kernel_rfl) (by kernel_rfl) (by kernel_rfl)) (rvT (t := 3) (v := .int .i64 16) S (by kernel_rfl))) ⟨(none, 0, none, 0), rfl, S.mem.sel [1, 0] [] (by decide) (by kernel_rfl) (by kernel_rfl)⟩))
      · refine sCondF (b := r52 != 0) S (by kernel_rfl) hc54 ?_
        refine wp_skip (leafT (hK50 _ _ ?_))
        refine sSeq (fun K56 hK56 => ?_)
        refine sRegion ?_
        refine sLoadN (p := b19) (off := 0) (T := 36) (vs := [.slice ad21 o20.length cp22, .slice ad24 o23.length cp25]) 1 [.slice ad21 o20.length cp22, .slice ad24 o23.length cp25] S (wN rfl) rfl (by kernel_rfl) (by kernel_rfl) (by kernel_rfl) (by kernel_rfl) rfl rfl (by decide) (fun a S => ?_)
        refine sStore (p := b11) (off := 0) (T := 36) (vs := [.slice none 0 0, .slice none 0 0]) (v := .agg #[.slice ad21 o20.length cp22, .slice ad24 o23.length cp25]) 0 [.slice ad21 o20.length cp22, .slice ad24 o23.length cp25] S (wN rfl) rfl (by kernel_rfl) (by kernel_rfl) rfl (by kernel_rfl) (by kernel_rfl) rfl (by simp) rfl (fun a w S => ?_)
        refine sMove (.int .i64 0) S (wN rfl) (.inr rfl) (by kernel_rfl) rfl (by decide) (fun a S => ?_)
        refine leafL (leafT (hK56 _ _ ?_))
        obtain rfl := Option.some.inj h
        exact wp_ret (sRet (.tuple #[.agg #[.slice ad21 o20.length cp22, .slice ad24 o23.length cp25], .int .i64 0]) S (rsl2 rfl (rvN (c := 2) (t := 36) (T := 36) (p := b11) 0 [.slice ad21 o20.length cp22, .slice ad24 o23.length cp25] S (by kernel_rfl) (by kernel_rfl) (by kernel_rfl) (by kernel_rfl)) (rvT (t := 3) (v := .int .i64 0) S (by kernel_rfl))) ⟨(ad21, cp22, ad24, cp25), rfl, S.mem.sel [2, 3] [] (by decide) (by kernel_rfl) (by kernel_rfl)⟩)

end Go.Proofs.Ytmedbnjhgkcndaa
