import Derived.Test.YtmedbnjhgkcndaaGTy
import Derived.Test.YtmedbnjhgkcndaaG18
import Derived.Test.YtmedbnjhgkcndaaG30
import Derived.Test.YtmedbnjhgkcndaaG32s0
namespace Go.Proofs.Ytmedbnjhgkcndaa
open Go.RowKit
set_option linter.unusedVariables false

def anc_raddleref37_Make_s0_0 : List (List Nat) := [[], [0], [0, 1], [], [3], [0, 1, 2, 3, 4], [0, 1, 2, 3, 4, 5], [], [0, 1, 2, 3, 4, 5, 6, 7]]
noncomputable def F_raddleref37_Make_s0 (p0 : api_Shape) : Option (api_Piece × Int) :=
  Option.bind (F_raddleref37_Shape p0) fun r14 =>
  if r14 != 0 then
    some ((api_Piece.mk ([] : (List Int)) ([] : (List Int))), 8)
  else
    Option.bind (α := (List Int × List Int)) (
      Option.bind (F_raddleref37_columns_s0 p0.Left) fun r27 =>
      Option.bind (F_raddleref37_columns_s0 p0.Right) fun r31 =>
      some (r27, r31)) fun (o19, o22) =>
    Option.bind (F_raddleref37_Check (api_Piece.mk o19 o22)) fun r51 =>
    if r51 != 0 then
      some ((api_Piece.mk ([] : (List Int)) ([] : (List Int))), 16)
    else
      some ((api_Piece.mk o19 o22), 0)
set_option maxHeartbeats 4000000 in
set_option maxRecDepth 100000 in
theorem c_raddleref37_Make_s0 (E : Nat → Prop) (w0 : World) (p0 : api_Shape) (v0 : Value) (r : (api_Piece × Int)) (h : F_raddleref37_Make_s0 p0 = some r) (S : St0 E [] w0 w0 [] [fRep r_api_Shape (v0) p0]) :
    Calls Try.prog 12 #[v0] w0 (Ret (X := Option Addr × Nat × Option Addr × Nat) E [] w0 (fun x => .tuple #[.agg #[.slice x.1 r.1.Left.length x.2.1, .slice x.2.2.1 r.1.Right.length x.2.2.2], .int .i64 r.2]) (fun x => [eRow (rI .i64) 3 (.slice x.1 r.1.Left.length x.2.1) r.1.Left, eRow (rI .i64) 3 (.slice x.2.2.1 r.1.Right.length x.2.2.2) r.1.Right]) (fun _ => [])) := by
  unfold F_raddleref37_Make_s0 at h
  obtain ⟨u1, u2, rfl, hu3, hu4⟩ := S.know (i := 0) (e := fRep r_api_Shape (v0) p0) (by kernel_rfl)
  have S := S.learn (fRep (rL r_api_Point) u1 p0.Left) hu3
  obtain ⟨ad5, cp6, _, rfl, _⟩ := hu3
  have S := S.learn (fRep (rL r_api_Point) u2 p0.Right) hu4
  obtain ⟨ad7, cp8, _, rfl, _⟩ := hu4
  refine sEnter (args := [.agg #[.slice ad5 p0.Left.length cp6, .slice ad7 p0.Right.length cp8]]) 21 Try.func12 rfl rfl (by simp) S (fun a S => ?_)
  refine sSeq (fun K9 hK9 => ?_)
  refine sRegion ?_
  refine sBox (v := .agg #[.slice ad5 p0.Left.length cp6, .slice ad7 p0.Right.length cp8]) S (wN rfl) rfl (by kernel_rfl) [.slice ad5 p0.Left.length cp6, .slice ad7 p0.Right.length cp8] rfl rfl (by decide) (fun a b10 w S => ?_)
  refine sAlloc (.agg #[.slice none 0 0, .slice none 0 0]) S (wN rfl) rfl (by kernel_rfl) [.slice none 0 0, .slice none 0 0] rfl rfl (by decide) (fun a b11 w S => ?_)
  refine sMove (.int .i64 0) S (wN rfl) (.inr rfl) (by kernel_rfl) rfl (by decide) (fun a S => ?_)
  refine leafL (leafT (hK9 _ _ ?_))
  refine sSeq (fun K12 hK12 => ?_)
  refine sSeq (fun K13 hK13 => ?_)
  refine sRegion ?_
  refine sLoadN (p := b10) (off := 0) (T := 26) (vs := [.slice ad5 p0.Left.length cp6, .slice ad7 p0.Right.length cp8]) 1 [.slice ad5 p0.Left.length cp6, .slice ad7 p0.Right.length cp8] S (wN rfl) rfl (by kernel_rfl) (by kernel_rfl) (by kernel_rfl) (by kernel_rfl) rfl rfl (by decide) (fun a S => ?_)
  obtain ⟨r14, hx15, h⟩ := bindSome h
  have S1 := S.mem
  refine sCallQ (X := Unit) (f := 30) (vs := [.agg #[.slice ad5 p0.Left.length cp6, .slice ad7 p0.Right.length cp8]]) (val := fun _ => .int .i64 r14) S (wN rfl) rfl callee30 (by kernel_rfl) (S1.quiet [2] (by kernel_rfl)) (fun E1 w1 S1 => c_raddleref37_Shape E1 w1 p0 (.agg #[.slice ad5 p0.Left.length cp6, .slice ad7 p0.Right.length cp8]) r14 hx15 S1) rfl (by decide) (fun _ a w S => ?_)
  refine sBin (.bool (r14 != 0)) S (wN rfl) rfl (by kernel_rfl) (by kernel_rfl) (bNe _ _ _ _ .i64 r14 0) rfl (by decide) (fun a S => ?_)
  refine leafL (leafT (hK13 _ _ ?_))
  rcases iteSome h with ⟨hc16, h⟩ | ⟨hc16, h⟩
  · refine sCondT (b := r14 != 0) S (by kernel_rfl) hc16 ?_
    refine sSeq (fun K17 hK17 => ?_)
    refine sRegion ?_
    refine sBuild [] [.slice none 0 0, .slice none 0 0] S (wN rfl) rfl (by kernel_rfl) (by kernel_rfl) rfl (by decide) (fun a S => ?_)
    refine sStore (p := b11) (off := 0) (T := 36) (vs := [.slice none 0 0, .slice none 0 0]) (v := .agg #[.slice none 0 0, .slice none 0 0]) 0 [.slice none 0 0, .slice none 0 0] S (wN rfl) rfl (by kernel_rfl) (by kernel_rfl) rfl (by kernel_rfl) (by kernel_rfl) rfl (by simp) rfl (fun a w S => ?_)
    refine sMove (.int .i64 8) S (wN rfl) (.inr rfl) (by kernel_rfl) rfl (by decide) (fun a S => ?_)
    refine leafL (leafT (hK17 _ _ ?_))
    obtain rfl := Option.some.inj h
    have S := S.nilRow (rI .i64) 3 (α := Int)
    have S := S.nilRow (rI .i64) 3 (α := Int)
    exact wp_ret (rThen (sRet (.tuple #[.agg #[.slice none 0 0, .slice none 0 0], .int .i64 8]) S (rsl2 rfl (rvN (c := 2) (t := 36) (T := 36) (p := b11) 2 [.slice none 0 0, .slice none 0 0] S (by kernel_rfl) (by kernel_rfl) (by kernel_rfl) (by kernel_rfl)) (rvT (t := 3) (v := .int .i64 8) S (by kernel_rfl))) ⟨(none, 0, none, 0), rfl, S.mem.sel [1, 0] [] (by decide) (by kernel_rfl) (by kernel_rfl)⟩))
  · refine sCondF (b := r14 != 0) S (by kernel_rfl) hc16 ?_
    refine wp_skip (leafT (hK12 _ _ ?_))
    obtain ⟨t25, h, g26⟩ := bindSome h
    refine sCut (fun a w => ∃ o19, ∃ o22, (o19, o22) = t25 ∧ ∃ b18, ∃ ad20, ∃ cp21, ∃ ad23, ∃ cp24, St E [] w0 21 a w [(2, .pointer (some ⟨b11, 0, none⟩)), (4, .pointer (some ⟨b18, 0, none⟩))] [eBox b11 36 [.slice none 0 0, .slice none 0 0], eBox b18 36 [.slice ad20 o19.length cp21, .slice ad23 o22.length cp24], eRow (rI .i64) 3 (.slice ad20 o19.length cp21) o19, eRow (rI .i64) 3 (.slice ad23 o22.length cp24) o22] []) ?_ (fun a w hI => ?_)
    · obtain ⟨r27, hx28, h⟩ := bindSome h
      obtain ⟨r31, hx32, h⟩ := bindSome h
      refine sDraw (nf := [2, 5, 7, 8]) (W := [(0, 9, .pointer (some ⟨b10, 0, none⟩)), (1, 10, .slice ad5 p0.Left.length cp6), (3, 12, .pointer (some ⟨b10, 1, none⟩)), (4, 13, .slice ad7 p0.Right.length cp8)]) (by kernel_rfl) S ?_
      refine node_by (A := anc_raddleref37_Make_s0_0) (nf := [2, 5, 7, 8]) (Y := []) (W := [(0, 9, .pointer (some ⟨b10, 0, none⟩)), (1, 10, .slice ad5 p0.Left.length cp6), (3, 12, .pointer (some ⟨b10, 1, none⟩)), (4, 13, .slice ad7 p0.Right.length cp8)]) 9 (by kernel_rfl) (by kernel_rfl) (by kernel_rfl) (by kernel_rfl) (by kernel_rfl) [0, 1, 3, 4] (by kernel_rfl) (by decide) (by decide) (aF 0 8 (by decide) ?_ (aF 1 7 (by decide) ?_ (aN 2 6 (by decide) ?_ (aF 3 5 (by decide) ?_ (aF 4 4 (by decide) ?_ (aB 5 3 2 (by decide) (aE 6 2 2 (by decide) (aN 7 1 (by decide) ?_ (aB 8 0 2 (by decide) (trivial)))))))))) [] (fun q hq => by cases hq) (fun hY => absurd (hY 2 (by decide)) (by decide))
      · refine fI 9 (.pointer (some ⟨b10, 0, none⟩)) [(1, .pointer (some ⟨b10, 0, none⟩))] 0 [none] rfl rfl (by kernel_rfl) rfl (by kernel_rfl) (by kernel_rfl) fun G a w S => ?_
        refine sField (b := b10) (off := 0) 0 0 S (wN rfl) rfl (by kernel_rfl) (by kernel_rfl) rfl rfl (by decide) (fun a S => ?_)
        exact leafL ⟨rfl, S⟩
      · refine fI 10 (.slice ad5 p0.Left.length cp6) [(9, .pointer (some ⟨b10, 0, none⟩))] 1 [some 0] rfl rfl (by kernel_rfl) rfl (by kernel_rfl) (by kernel_rfl) fun G a w S => ?_
        refine sLoad1 (p := b10) (off := 0) (T := 26) (vs := [.slice ad5 p0.Left.length cp6, .slice ad7 p0.Right.length cp8]) 1 (.slice ad5 p0.Left.length cp6) S (wN rfl) rfl (by kernel_rfl) (by kernel_rfl) (by kernel_rfl) rfl rfl (by decide) (fun a S => ?_)
        exact leafL ⟨rfl, S⟩
      · refine ⟨_, [(10, .slice ad5 p0.Left.length cp6)], rfl, (srcs_of [some 1] rfl (by kernel_rfl) (by kernel_rfl)), fun G a w S => ?_⟩
        refine sCall (X := Option Addr × Nat) (f := 32) (vs := [.slice ad5 p0.Left.length cp6]) (val := fun x => .slice x.1 r27.length x.2) (B' := fun x => [eRow (rI .i64) 3 (.slice x.1 r27.length x.2) r27]) (D' := fun _ => []) [] [eBox b11 36 [.slice none 0 0, .slice none 0 0], eBox b10 26 [.slice ad5 p0.Left.length cp6, .slice ad7 p0.Right.length cp8]] [fRep (rL r_api_Point) (.slice ad5 p0.Left.length cp6) p0.Left] [0, 1] [1] S (wN rfl) rfl callee32 (by kernel_rfl) (by decide) (by kernel_rfl) (by kernel_rfl) (fun E1 w1 S1 => c_raddleref37_columns_s0 E1 w1 p0.Left (.slice ad5 p0.Left.length cp6) r27 hx28 S1) rfl (by decide) (fun xx a w S => ?_)
        obtain ⟨ad36, cp37⟩ := xx
        dsimp only at S
        refine leafL ⟨rfl, _, _, .inl ⟨11, (.slice ad36 r27.length cp37), [], rfl, S, hz_of (by kernel_rfl), ?_⟩⟩
        refine node_by (A := anc_raddleref37_Make_s0_0) (nf := [2, 5, 7, 8]) (Y := [2]) 9 (by kernel_rfl) (by kernel_rfl) (by kernel_rfl) (by kernel_rfl) (by kernel_rfl) [2, 0, 1, 3, 4] (by kernel_rfl) (by decide) (by decide) (aD 0 8 2 (by decide) (aD 1 7 2 (by decide) (aY 2 6 (by decide) (aF 3 5 (by decide) ?_ (aF 4 4 (by decide) ?_ (aN 5 3 (by decide) ?_ (aE 6 2 5 (by decide) (aN 7 1 (by decide) ?_ (aB 8 0 5 (by decide) (trivial)))))))))) [] (fun q hq => by cases hq) (fun hY => absurd (hY 5 (by decide)) (by decide))
        · refine fI 12 (.pointer (some ⟨b10, 1, none⟩)) [(1, .pointer (some ⟨b10, 0, none⟩))] 3 [none] rfl rfl (by kernel_rfl) rfl (by kernel_rfl) (by kernel_rfl) fun G a w S => ?_
          refine sField (b := b10) (off := 0) 1 1 S (wN rfl) rfl (by kernel_rfl) (by kernel_rfl) rfl rfl (by decide) (fun a S => ?_)
          exact leafL ⟨rfl, S⟩
        · refine fI 13 (.slice ad7 p0.Right.length cp8) [(12, .pointer (some ⟨b10, 1, none⟩))] 4 [some 3] rfl rfl (by kernel_rfl) rfl (by kernel_rfl) (by kernel_rfl) fun G a w S => ?_
          refine sLoad1 (p := b10) (off := 1) (T := 26) (vs := [.slice ad5 p0.Left.length cp6, .slice ad7 p0.Right.length cp8]) 2 (.slice ad7 p0.Right.length cp8) S (wN rfl) rfl (by kernel_rfl) (by kernel_rfl) (by kernel_rfl) rfl rfl (by decide) (fun a S => ?_)
          exact leafL ⟨rfl, S⟩
        · refine ⟨_, [(13, .slice ad7 p0.Right.length cp8)], rfl, (srcs_of [some 4] rfl (by kernel_rfl) (by kernel_rfl)), fun G a w S => ?_⟩
          refine sCall (X := Option Addr × Nat) (f := 32) (vs := [.slice ad7 p0.Right.length cp8]) (val := fun x => .slice x.1 r31.length x.2) (B' := fun x => [eRow (rI .i64) 3 (.slice x.1 r31.length x.2) r31]) (D' := fun _ => []) [] [eRow (rI .i64) 3 (.slice ad36 r27.length cp37) r27, eBox b11 36 [.slice none 0 0, .slice none 0 0], eBox b10 26 [.slice ad5 p0.Left.length cp6, .slice ad7 p0.Right.length cp8]] [fRep (rL r_api_Point) (.slice ad7 p0.Right.length cp8) p0.Right] [0, 1, 2] [0] S (wN rfl) rfl callee32 (by kernel_rfl) (by decide) (by kernel_rfl) (by kernel_rfl) (fun E1 w1 S1 => c_raddleref37_columns_s0 E1 w1 p0.Right (.slice ad7 p0.Right.length cp8) r31 hx32 S1) rfl (by decide) (fun xx a w S => ?_)
          obtain ⟨ad38, cp39⟩ := xx
          dsimp only at S
          refine leafL ⟨rfl, _, _, .inl ⟨14, (.slice ad38 r31.length cp39), [(6, 15, .agg #[.slice ad36 r27.length cp37, .slice ad38 r31.length cp39])], rfl, S, hz_of (by kernel_rfl), ?_⟩⟩
          refine node_by (A := anc_raddleref37_Make_s0_0) (nf := [2, 5, 7, 8]) (Y := [5, 2]) 9 (by kernel_rfl) (by kernel_rfl) (by kernel_rfl) (by kernel_rfl) (by kernel_rfl) [6, 5, 2, 0, 1, 3, 4] (by kernel_rfl) (by decide) (by decide) (aD 0 8 5 (by decide) (aD 1 7 5 (by decide) (aY 2 6 (by decide) (aD 3 5 5 (by decide) (aD 4 4 5 (by decide) (aY 5 3 (by decide) (aF 6 2 (by decide) ?_ (aN 7 1 (by decide) ?_ (aB 8 0 7 (by decide) (trivial)))))))))) [] (fun q hq => by cases hq) (fun hY => absurd (hY 7 (by decide)) (by decide))
          · refine fI 15 (.agg #[.slice ad36 r27.length cp37, .slice ad38 r31.length cp39]) [(11, .slice ad36 r27.length cp37), (14, .slice ad38 r31.length cp39)] 0 [some 2, some 1] rfl rfl (by kernel_rfl) rfl (by kernel_rfl) (by kernel_rfl) fun G a w S => ?_
            refine sBuild [(0, .slice ad36 r27.length cp37), (1, .slice ad38 r31.length cp39)] [.slice ad36 r27.length cp37, .slice ad38 r31.length cp39] S (wN rfl) rfl (by kernel_rfl) (by kernel_rfl) rfl (by decide) (fun a S => ?_)
            exact leafL ⟨rfl, S⟩
          · refine ⟨_, [], rfl, (srcs_of [] rfl (by kernel_rfl) (by kernel_rfl)), fun G a w S => ?_⟩
            refine sAlloc (.agg #[.slice none 0 0, .slice none 0 0]) S (wN rfl) rfl (by kernel_rfl) [.slice none 0 0, .slice none 0 0] rfl rfl (by decide) (fun a b40 w S => ?_)
            refine leafL ⟨rfl, _, _, .inl ⟨4, (.pointer (some ⟨b40, 0, none⟩)), [], rfl, S, hz_of (by kernel_rfl), ?_⟩⟩
            refine node_by (A := anc_raddleref37_Make_s0_0) (nf := [2, 5, 7, 8]) (Y := [7, 5, 2]) 9 (by kernel_rfl) (by kernel_rfl) (by kernel_rfl) (by kernel_rfl) (by kernel_rfl) [7, 6, 5, 2, 0, 1, 3, 4] (by kernel_rfl) (by decide) (by decide) (aD 0 8 5 (by decide) (aD 1 7 5 (by decide) (aY 2 6 (by decide) (aD 3 5 5 (by decide) (aD 4 4 5 (by decide) (aY 5 3 (by decide) (aF 6 2 (by decide) ?_ (aY 7 1 (by decide) (aN 8 0 (by decide) ?_ (trivial)))))))))) [] (fun q hq => by cases hq) (fun hY => absurd (hY 8 (by decide)) (by decide))
            · refine fI 15 (.agg #[.slice ad36 r27.length cp37, .slice ad38 r31.length cp39]) [(11, .slice ad36 r27.length cp37), (14, .slice ad38 r31.length cp39)] 1 [some 3, some 2] rfl rfl (by kernel_rfl) rfl (by kernel_rfl) (by kernel_rfl) fun G a w S => ?_
              refine sBuild [(0, .slice ad36 r27.length cp37), (1, .slice ad38 r31.length cp39)] [.slice ad36 r27.length cp37, .slice ad38 r31.length cp39] S (wN rfl) rfl (by kernel_rfl) (by kernel_rfl) rfl (by decide) (fun a S => ?_)
              exact leafL ⟨rfl, S⟩
            · refine ⟨_, [(4, .pointer (some ⟨b40, 0, none⟩)), (15, .agg #[.slice ad36 r27.length cp37, .slice ad38 r31.length cp39])], rfl, (srcs_of [some 0, some 1] rfl (by kernel_rfl) (by kernel_rfl)), fun G a w S => ?_⟩
              refine sStore (p := b40) (off := 0) (T := 36) (vs := [.slice none 0 0, .slice none 0 0]) (v := .agg #[.slice ad36 r27.length cp37, .slice ad38 r31.length cp39]) 0 [.slice ad36 r27.length cp37, .slice ad38 r31.length cp39] S (wN rfl) rfl (by kernel_rfl) (by kernel_rfl) rfl (by kernel_rfl) (by kernel_rfl) rfl (by simp) rfl (fun a w S => ?_)
              refine leafL ⟨rfl, _, _, .inr ⟨[], rfl, S, hz_of (by kernel_rfl), ?_⟩⟩
              refine node_by (A := anc_raddleref37_Make_s0_0) (nf := [2, 5, 7, 8]) (Y := [8, 7, 5, 2]) 9 (by kernel_rfl) (by kernel_rfl) (by kernel_rfl) (by kernel_rfl) (by kernel_rfl) [7, 6, 5, 2, 0, 1, 3, 4] (by kernel_rfl) (by decide) (by decide) (aD 0 8 8 (by decide) (aD 1 7 8 (by decide) (aY 2 6 (by decide) (aD 3 5 8 (by decide) (aD 4 4 8 (by decide) (aY 5 3 (by decide) (aD 6 2 8 (by decide) (aY 7 1 (by decide) (aY 8 0 (by decide) (trivial)))))))))) [(2, .pointer (some ⟨b11, 0, none⟩)), (4, .pointer (some ⟨b40, 0, none⟩))] (fin_of [none, some 0] rfl (by kernel_rfl) (by kernel_rfl)) (fun _ a w S => ?_)
              · exact leafT (⟨r27, r31, Option.some.inj h, b40, ad36, cp37, ad38, cp39, S.fix [3, 0, 2, 1] [] (by decide) (by kernel_rfl) (by kernel_rfl) (by kernel_rfl)⟩)
        · refine ⟨_, [], rfl, (srcs_of [] rfl (by kernel_rfl) (by kernel_rfl)), fun G a w S => ?_⟩
          refine sAlloc (.agg #[.slice none 0 0, .slice none 0 0]) S (wN rfl) rfl (by kernel_rfl) [.slice none 0 0, .slice none 0 0] rfl rfl (by decide) (fun a b41 w S => ?_)
          refine leafL ⟨rfl, _, _, .inl ⟨4, (.pointer (some ⟨b41, 0, none⟩)), [], rfl, S, hz_of (by kernel_rfl), ?_⟩⟩
          refine node_by (A := anc_raddleref37_Make_s0_0) (nf := [2, 5, 7, 8]) (Y := [7, 2]) 9 (by kernel_rfl) (by kernel_rfl) (by kernel_rfl) (by kernel_rfl) (by kernel_rfl) [7, 2, 0, 1, 3, 4] (by kernel_rfl) (by decide) (by decide) (aD 0 8 2 (by decide) (aD 1 7 2 (by decide) (aY 2 6 (by decide) (aF 3 5 (by decide) ?_ (aF 4 4 (by decide) ?_ (aN 5 3 (by decide) ?_ (aE 6 2 5 (by decide) (aY 7 1 (by decide) (aB 8 0 5 (by decide) (trivial)))))))))) [] (fun q hq => by cases hq) (fun hY => absurd (hY 5 (by decide)) (by decide))
          · refine fI 12 (.pointer (some ⟨b10, 1, none⟩)) [(1, .pointer (some ⟨b10, 0, none⟩))] 4 [none] rfl rfl (by kernel_rfl) rfl (by kernel_rfl) (by kernel_rfl) fun G a w S => ?_
            refine sField (b := b10) (off := 0) 1 1 S (wN rfl) rfl (by kernel_rfl) (by kernel_rfl) rfl rfl (by decide) (fun a S => ?_)
            exact leafL ⟨rfl, S⟩
          · refine fI 13 (.slice ad7 p0.Right.length cp8) [(12, .pointer (some ⟨b10, 1, none⟩))] 5 [some 4] rfl rfl (by kernel_rfl) rfl (by kernel_rfl) (by kernel_rfl) fun G a w S => ?_
            refine sLoad1 (p := b10) (off := 1) (T := 26) (vs := [.slice ad5 p0.Left.length cp6, .slice ad7 p0.Right.length cp8]) 3 (.slice ad7 p0.Right.length cp8) S (wN rfl) rfl (by kernel_rfl) (by kernel_rfl) (by kernel_rfl) rfl rfl (by decide) (fun a S => ?_)
            exact leafL ⟨rfl, S⟩
          · refine ⟨_, [(13, .slice ad7 p0.Right.length cp8)], rfl, (srcs_of [some 5] rfl (by kernel_rfl) (by kernel_rfl)), fun G a w S => ?_⟩
            refine sCall (X := Option Addr × Nat) (f := 32) (vs := [.slice ad7 p0.Right.length cp8]) (val := fun x => .slice x.1 r31.length x.2) (B' := fun x => [eRow (rI .i64) 3 (.slice x.1 r31.length x.2) r31]) (D' := fun _ => []) [] [eBox b41 36 [.slice none 0 0, .slice none 0 0], eRow (rI .i64) 3 (.slice ad36 r27.length cp37) r27, eBox b11 36 [.slice none 0 0, .slice none 0 0], eBox b10 26 [.slice ad5 p0.Left.length cp6, .slice ad7 p0.Right.length cp8]] [fRep (rL r_api_Point) (.slice ad7 p0.Right.length cp8) p0.Right] [0, 1, 2, 3] [0] S (wN rfl) rfl callee32 (by kernel_rfl) (by decide) (by kernel_rfl) (by kernel_rfl) (fun E1 w1 S1 => c_raddleref37_columns_s0 E1 w1 p0.Right (.slice ad7 p0.Right.length cp8) r31 hx32 S1) rfl (by decide) (fun xx a w S => ?_)
            obtain ⟨ad42, cp43⟩ := xx
            dsimp only at S
            refine leafL ⟨rfl, _, _, .inl ⟨14, (.slice ad42 r31.length cp43), [(6, 15, .agg #[.slice ad36 r27.length cp37, .slice ad42 r31.length cp43])], rfl, S, hz_of (by kernel_rfl), ?_⟩⟩
            refine node_by (A := anc_raddleref37_Make_s0_0) (nf := [2, 5, 7, 8]) (Y := [5, 7, 2]) 9 (by kernel_rfl) (by kernel_rfl) (by kernel_rfl) (by kernel_rfl) (by kernel_rfl) [6, 5, 7, 2, 0, 1, 3, 4] (by kernel_rfl) (by decide) (by decide) (aD 0 8 5 (by decide) (aD 1 7 5 (by decide) (aY 2 6 (by decide) (aD 3 5 5 (by decide) (aD 4 4 5 (by decide) (aY 5 3 (by decide) (aF 6 2 (by decide) ?_ (aY 7 1 (by decide) (aN 8 0 (by decide) ?_ (trivial)))))))))) [] (fun q hq => by cases hq) (fun hY => absurd (hY 8 (by decide)) (by decide))
            · refine fI 15 (.agg #[.slice ad36 r27.length cp37, .slice ad42 r31.length cp43]) [(11, .slice ad36 r27.length cp37), (14, .slice ad42 r31.length cp43)] 0 [some 3, some 1] rfl rfl (by kernel_rfl) rfl (by kernel_rfl) (by kernel_rfl) fun G a w S => ?_
              refine sBuild [(0, .slice ad36 r27.length cp37), (1, .slice ad42 r31.length cp43)] [.slice ad36 r27.length cp37, .slice ad42 r31.length cp43] S (wN rfl) rfl (by kernel_rfl) (by kernel_rfl) rfl (by decide) (fun a S => ?_)
              exact leafL ⟨rfl, S⟩
            · refine ⟨_, [(4, .pointer (some ⟨b41, 0, none⟩)), (15, .agg #[.slice ad36 r27.length cp37, .slice ad42 r31.length cp43])], rfl, (srcs_of [some 2, some 0] rfl (by kernel_rfl) (by kernel_rfl)), fun G a w S => ?_⟩
              refine sStore (p := b41) (off := 0) (T := 36) (vs := [.slice none 0 0, .slice none 0 0]) (v := .agg #[.slice ad36 r27.length cp37, .slice ad42 r31.length cp43]) 1 [.slice ad36 r27.length cp37, .slice ad42 r31.length cp43] S (wN rfl) rfl (by kernel_rfl) (by kernel_rfl) rfl (by kernel_rfl) (by kernel_rfl) rfl (by simp) rfl (fun a w S => ?_)
              refine leafL ⟨rfl, _, _, .inr ⟨[], rfl, S, hz_of (by kernel_rfl), ?_⟩⟩
              refine node_by (A := anc_raddleref37_Make_s0_0) (nf := [2, 5, 7, 8]) (Y := [8, 5, 7, 2]) 9 (by kernel_rfl) (by kernel_rfl) (by kernel_rfl) (by kernel_rfl) (by kernel_rfl) [6, 5, 7, 2, 0, 1, 3, 4] (by kernel_rfl) (by decide) (by decide) (aD 0 8 8 (by decide) (aD 1 7 8 (by decide) (aY 2 6 (by decide) (aD 3 5 8 (by decide) (aD 4 4 8 (by decide) (aY 5 3 (by decide) (aD 6 2 8 (by decide) (aY 7 1 (by decide) (aY 8 0 (by decide) (trivial)))))))))) [(2, .pointer (some ⟨b11, 0, none⟩)), (4, .pointer (some ⟨b41, 0, none⟩))] (fin_of [none, some 2] rfl (by kernel_rfl) (by kernel_rfl)) (fun _ a w S => ?_)
              · exact leafT (⟨r27, r31, Option.some.inj h, b41, ad36, cp37, ad42, cp43, S.fix [3, 0, 2, 1] [] (by decide) (by kernel_rfl) (by kernel_rfl) (by kernel_rfl)⟩)
      · refine fI 12 (.pointer (some ⟨b10, 1, none⟩)) [(1, .pointer (some ⟨b10, 0, none⟩))] 2 [none] rfl rfl (by kernel_rfl) rfl (by kernel_rfl) (by kernel_rfl) fun G a w S => ?_
        refine sField (b := b10) (off := 0) 1 1 S (wN rfl) rfl (by kernel_rfl) (by kernel_rfl) rfl rfl (by decide) (fun a S => ?_)
        exact leafL ⟨rfl, S⟩
      · refine fI 13 (.slice ad7 p0.Right.length cp8) [(12, .pointer (some ⟨b10, 1, none⟩))] 3 [some 2] rfl rfl (by kernel_rfl) rfl (by kernel_rfl) (by kernel_rfl) fun G a w S => ?_
        refine sLoad1 (p := b10) (off := 1) (T := 26) (vs := [.slice ad5 p0.Left.length cp6, .slice ad7 p0.Right.length cp8]) 1 (.slice ad7 p0.Right.length cp8) S (wN rfl) rfl (by kernel_rfl) (by kernel_rfl) (by kernel_rfl) rfl rfl (by decide) (fun a S => ?_)
        exact leafL ⟨rfl, S⟩
      · refine ⟨_, [], rfl, (srcs_of [] rfl (by kernel_rfl) (by kernel_rfl)), fun G a w S => ?_⟩
        refine sAlloc (.agg #[.slice none 0 0, .slice none 0 0]) S (wN rfl) rfl (by kernel_rfl) [.slice none 0 0, .slice none 0 0] rfl rfl (by decide) (fun a b44 w S => ?_)
        refine leafL ⟨rfl, _, _, .inl ⟨4, (.pointer (some ⟨b44, 0, none⟩)), [], rfl, S, hz_of (by kernel_rfl), ?_⟩⟩
        refine node_by (A := anc_raddleref37_Make_s0_0) (nf := [2, 5, 7, 8]) (Y := [7]) 9 (by kernel_rfl) (by kernel_rfl) (by kernel_rfl) (by kernel_rfl) (by kernel_rfl) [7, 0, 1, 3, 4] (by kernel_rfl) (by decide) (by decide) (aF 0 8 (by decide) ?_ (aF 1 7 (by decide) ?_ (aN 2 6 (by decide) ?_ (aF 3 5 (by decide) ?_ (aF 4 4 (by decide) ?_ (aB 5 3 2 (by decide) (aE 6 2 2 (by decide) (aY 7 1 (by decide) (aB 8 0 2 (by decide) (trivial)))))))))) [] (fun q hq => by cases hq) (fun hY => absurd (hY 2 (by decide)) (by decide))
        · refine fI 9 (.pointer (some ⟨b10, 0, none⟩)) [(1, .pointer (some ⟨b10, 0, none⟩))] 1 [none] rfl rfl (by kernel_rfl) rfl (by kernel_rfl) (by kernel_rfl) fun G a w S => ?_
          refine sField (b := b10) (off := 0) 0 0 S (wN rfl) rfl (by kernel_rfl) (by kernel_rfl) rfl rfl (by decide) (fun a S => ?_)
          exact leafL ⟨rfl, S⟩
        · refine fI 10 (.slice ad5 p0.Left.length cp6) [(9, .pointer (some ⟨b10, 0, none⟩))] 2 [some 1] rfl rfl (by kernel_rfl) rfl (by kernel_rfl) (by kernel_rfl) fun G a w S => ?_
          refine sLoad1 (p := b10) (off := 0) (T := 26) (vs := [.slice ad5 p0.Left.length cp6, .slice ad7 p0.Right.length cp8]) 2 (.slice ad5 p0.Left.length cp6) S (wN rfl) rfl (by kernel_rfl) (by kernel_rfl) (by kernel_rfl) rfl rfl (by decide) (fun a S => ?_)
          exact leafL ⟨rfl, S⟩
        · refine ⟨_, [(10, .slice ad5 p0.Left.length cp6)], rfl, (srcs_of [some 2] rfl (by kernel_rfl) (by kernel_rfl)), fun G a w S => ?_⟩
          refine sCall (X := Option Addr × Nat) (f := 32) (vs := [.slice ad5 p0.Left.length cp6]) (val := fun x => .slice x.1 r27.length x.2) (B' := fun x => [eRow (rI .i64) 3 (.slice x.1 r27.length x.2) r27]) (D' := fun _ => []) [] [eBox b44 36 [.slice none 0 0, .slice none 0 0], eBox b11 36 [.slice none 0 0, .slice none 0 0], eBox b10 26 [.slice ad5 p0.Left.length cp6, .slice ad7 p0.Right.length cp8]] [fRep (rL r_api_Point) (.slice ad5 p0.Left.length cp6) p0.Left] [0, 1, 2] [1] S (wN rfl) rfl callee32 (by kernel_rfl) (by decide) (by kernel_rfl) (by kernel_rfl) (fun E1 w1 S1 => c_raddleref37_columns_s0 E1 w1 p0.Left (.slice ad5 p0.Left.length cp6) r27 hx28 S1) rfl (by decide) (fun xx a w S => ?_)
          obtain ⟨ad45, cp46⟩ := xx
          dsimp only at S
          refine leafL ⟨rfl, _, _, .inl ⟨11, (.slice ad45 r27.length cp46), [], rfl, S, hz_of (by kernel_rfl), ?_⟩⟩
          refine node_by (A := anc_raddleref37_Make_s0_0) (nf := [2, 5, 7, 8]) (Y := [2, 7]) 9 (by kernel_rfl) (by kernel_rfl) (by kernel_rfl) (by kernel_rfl) (by kernel_rfl) [2, 7, 0, 1, 3, 4] (by kernel_rfl) (by decide) (by decide) (aD 0 8 2 (by decide) (aD 1 7 2 (by decide) (aY 2 6 (by decide) (aF 3 5 (by decide) ?_ (aF 4 4 (by decide) ?_ (aN 5 3 (by decide) ?_ (aE 6 2 5 (by decide) (aY 7 1 (by decide) (aB 8 0 5 (by decide) (trivial)))))))))) [] (fun q hq => by cases hq) (fun hY => absurd (hY 5 (by decide)) (by decide))
          · refine fI 12 (.pointer (some ⟨b10, 1, none⟩)) [(1, .pointer (some ⟨b10, 0, none⟩))] 4 [none] rfl rfl (by kernel_rfl) rfl (by kernel_rfl) (by kernel_rfl) fun G a w S => ?_
            refine sField (b := b10) (off := 0) 1 1 S (wN rfl) rfl (by kernel_rfl) (by kernel_rfl) rfl rfl (by decide) (fun a S => ?_)
            exact leafL ⟨rfl, S⟩
          · refine fI 13 (.slice ad7 p0.Right.length cp8) [(12, .pointer (some ⟨b10, 1, none⟩))] 5 [some 4] rfl rfl (by kernel_rfl) rfl (by kernel_rfl) (by kernel_rfl) fun G a w S => ?_
            refine sLoad1 (p := b10) (off := 1) (T := 26) (vs := [.slice ad5 p0.Left.length cp6, .slice ad7 p0.Right.length cp8]) 3 (.slice ad7 p0.Right.length cp8) S (wN rfl) rfl (by kernel_rfl) (by kernel_rfl) (by kernel_rfl) rfl rfl (by decide) (fun a S => ?_)
            exact leafL ⟨rfl, S⟩
          · refine ⟨_, [(13, .slice ad7 p0.Right.length cp8)], rfl, (srcs_of [some 5] rfl (by kernel_rfl) (by kernel_rfl)), fun G a w S => ?_⟩
            refine sCall (X := Option Addr × Nat) (f := 32) (vs := [.slice ad7 p0.Right.length cp8]) (val := fun x => .slice x.1 r31.length x.2) (B' := fun x => [eRow (rI .i64) 3 (.slice x.1 r31.length x.2) r31]) (D' := fun _ => []) [] [eRow (rI .i64) 3 (.slice ad45 r27.length cp46) r27, eBox b44 36 [.slice none 0 0, .slice none 0 0], eBox b11 36 [.slice none 0 0, .slice none 0 0], eBox b10 26 [.slice ad5 p0.Left.length cp6, .slice ad7 p0.Right.length cp8]] [fRep (rL r_api_Point) (.slice ad7 p0.Right.length cp8) p0.Right] [0, 1, 2, 3] [0] S (wN rfl) rfl callee32 (by kernel_rfl) (by decide) (by kernel_rfl) (by kernel_rfl) (fun E1 w1 S1 => c_raddleref37_columns_s0 E1 w1 p0.Right (.slice ad7 p0.Right.length cp8) r31 hx32 S1) rfl (by decide) (fun xx a w S => ?_)
            obtain ⟨ad47, cp48⟩ := xx
            dsimp only at S
            refine leafL ⟨rfl, _, _, .inl ⟨14, (.slice ad47 r31.length cp48), [(6, 15, .agg #[.slice ad45 r27.length cp46, .slice ad47 r31.length cp48])], rfl, S, hz_of (by kernel_rfl), ?_⟩⟩
            refine node_by (A := anc_raddleref37_Make_s0_0) (nf := [2, 5, 7, 8]) (Y := [5, 2, 7]) 9 (by kernel_rfl) (by kernel_rfl) (by kernel_rfl) (by kernel_rfl) (by kernel_rfl) [6, 5, 2, 7, 0, 1, 3, 4] (by kernel_rfl) (by decide) (by decide) (aD 0 8 5 (by decide) (aD 1 7 5 (by decide) (aY 2 6 (by decide) (aD 3 5 5 (by decide) (aD 4 4 5 (by decide) (aY 5 3 (by decide) (aF 6 2 (by decide) ?_ (aY 7 1 (by decide) (aN 8 0 (by decide) ?_ (trivial)))))))))) [] (fun q hq => by cases hq) (fun hY => absurd (hY 8 (by decide)) (by decide))
            · refine fI 15 (.agg #[.slice ad45 r27.length cp46, .slice ad47 r31.length cp48]) [(11, .slice ad45 r27.length cp46), (14, .slice ad47 r31.length cp48)] 0 [some 2, some 1] rfl rfl (by kernel_rfl) rfl (by kernel_rfl) (by kernel_rfl) fun G a w S => ?_
              refine sBuild [(0, .slice ad45 r27.length cp46), (1, .slice ad47 r31.length cp48)] [.slice ad45 r27.length cp46, .slice ad47 r31.length cp48] S (wN rfl) rfl (by kernel_rfl) (by kernel_rfl) rfl (by decide) (fun a S => ?_)
              exact leafL ⟨rfl, S⟩
            · refine ⟨_, [(4, .pointer (some ⟨b44, 0, none⟩)), (15, .agg #[.slice ad45 r27.length cp46, .slice ad47 r31.length cp48])], rfl, (srcs_of [some 3, some 0] rfl (by kernel_rfl) (by kernel_rfl)), fun G a w S => ?_⟩
              refine sStore (p := b44) (off := 0) (T := 36) (vs := [.slice none 0 0, .slice none 0 0]) (v := .agg #[.slice ad45 r27.length cp46, .slice ad47 r31.length cp48]) 2 [.slice ad45 r27.length cp46, .slice ad47 r31.length cp48] S (wN rfl) rfl (by kernel_rfl) (by kernel_rfl) rfl (by kernel_rfl) (by kernel_rfl) rfl (by simp) rfl (fun a w S => ?_)
              refine leafL ⟨rfl, _, _, .inr ⟨[], rfl, S, hz_of (by kernel_rfl), ?_⟩⟩
              refine node_by (A := anc_raddleref37_Make_s0_0) (nf := [2, 5, 7, 8]) (Y := [8, 5, 2, 7]) 9 (by kernel_rfl) (by kernel_rfl) (by kernel_rfl) (by kernel_rfl) (by kernel_rfl) [6, 5, 2, 7, 0, 1, 3, 4] (by kernel_rfl) (by decide) (by decide) (aD 0 8 8 (by decide) (aD 1 7 8 (by decide) (aY 2 6 (by decide) (aD 3 5 8 (by decide) (aD 4 4 8 (by decide) (aY 5 3 (by decide) (aD 6 2 8 (by decide) (aY 7 1 (by decide) (aY 8 0 (by decide) (trivial)))))))))) [(2, .pointer (some ⟨b11, 0, none⟩)), (4, .pointer (some ⟨b44, 0, none⟩))] (fin_of [none, some 3] rfl (by kernel_rfl) (by kernel_rfl)) (fun _ a w S => ?_)
              · exact leafT (⟨r27, r31, Option.some.inj h, b44, ad45, cp46, ad47, cp48, S.fix [3, 0, 2, 1] [] (by decide) (by kernel_rfl) (by kernel_rfl) (by kernel_rfl)⟩)
        · refine fI 12 (.pointer (some ⟨b10, 1, none⟩)) [(1, .pointer (some ⟨b10, 0, none⟩))] 3 [none] rfl rfl (by kernel_rfl) rfl (by kernel_rfl) (by kernel_rfl) fun G a w S => ?_
          refine sField (b := b10) (off := 0) 1 1 S (wN rfl) rfl (by kernel_rfl) (by kernel_rfl) rfl rfl (by decide) (fun a S => ?_)
          exact leafL ⟨rfl, S⟩
        · refine fI 13 (.slice ad7 p0.Right.length cp8) [(12, .pointer (some ⟨b10, 1, none⟩))] 4 [some 3] rfl rfl (by kernel_rfl) rfl (by kernel_rfl) (by kernel_rfl) fun G a w S => ?_
          refine sLoad1 (p := b10) (off := 1) (T := 26) (vs := [.slice ad5 p0.Left.length cp6, .slice ad7 p0.Right.length cp8]) 2 (.slice ad7 p0.Right.length cp8) S (wN rfl) rfl (by kernel_rfl) (by kernel_rfl) (by kernel_rfl) rfl rfl (by decide) (fun a S => ?_)
          exact leafL ⟨rfl, S⟩
    · obtain ⟨o19, o22, rfl, b18, ad20, cp21, ad23, cp24, S⟩ := hI
      have h := g26
      clear g26
      try dsimp only at h
      refine sSeq (fun K49 hK49 => ?_)
      refine sSeq (fun K50 hK50 => ?_)
      refine sRegion ?_
      refine sLoadN (p := b18) (off := 0) (T := 36) (vs := [.slice ad20 o19.length cp21, .slice ad23 o22.length cp24]) 1 [.slice ad20 o19.length cp21, .slice ad23 o22.length cp24] S (wN rfl) rfl (by kernel_rfl) (by kernel_rfl) (by kernel_rfl) (by kernel_rfl) rfl rfl (by decide) (fun a S => ?_)
      obtain ⟨r51, hx52, h⟩ := bindSome h
      have S1 := S.mem
      have S1 := S1.shutR (r := (rI .i64)) (T := 3) (v := .slice ad20 o19.length cp21) (xs := o19) 2 (by kernel_rfl)
      have S1 := S1.shutR (r := (rI .i64)) (T := 3) (v := .slice ad23 o22.length cp24) (xs := o22) 2 (by kernel_rfl)
      have S1 := S1.learn (fRep r_api_Piece (.agg #[.slice ad20 o19.length cp21, .slice ad23 o22.length cp24]) (api_Piece.mk o19 o22)) ⟨_, _, rfl, S1.know (i := 1) (e := fRep (rL (rI .i64)) (.slice ad20 o19.length cp21) o19) (by kernel_rfl), S1.know (i := 0) (e := fRep (rL (rI .i64)) (.slice ad23 o22.length cp24) o22) (by kernel_rfl)⟩
      refine sCallQ (X := Unit) (f := 18) (vs := [.agg #[.slice ad20 o19.length cp21, .slice ad23 o22.length cp24]]) (val := fun _ => .int .i64 r51) S (wN rfl) rfl callee18 (by kernel_rfl) (S1.quiet [0] (by kernel_rfl)) (fun E1 w1 S1 => c_raddleref37_Check E1 w1 (api_Piece.mk o19 o22) (.agg #[.slice ad20 o19.length cp21, .slice ad23 o22.length cp24]) r51 hx52 S1) rfl (by decide) (fun _ a w S => ?_)
      refine sBin (.bool (r51 != 0)) S (wN rfl) rfl (by kernel_rfl) (by kernel_rfl) (bNe _ _ _ _ .i64 r51 0) rfl (by decide) (fun a S => ?_)
      refine leafL (leafT (hK50 _ _ ?_))
      rcases iteSome h with ⟨hc53, h⟩ | ⟨hc53, h⟩
      · refine sCondT (b := r51 != 0) S (by kernel_rfl) hc53 ?_
        refine sSeq (fun K54 hK54 => ?_)
        refine sRegion ?_
        refine sBuild [] [.slice none 0 0, .slice none 0 0] S (wN rfl) rfl (by kernel_rfl) (by kernel_rfl) rfl (by decide) (fun a S => ?_)
        refine sStore (p := b11) (off := 0) (T := 36) (vs := [.slice none 0 0, .slice none 0 0]) (v := .agg #[.slice none 0 0, .slice none 0 0]) 0 [.slice none 0 0, .slice none 0 0] S (wN rfl) rfl (by kernel_rfl) (by kernel_rfl) rfl (by kernel_rfl) (by kernel_rfl) rfl (by simp) rfl (fun a w S => ?_)
        refine sMove (.int .i64 16) S (wN rfl) (.inr rfl) (by kernel_rfl) rfl (by decide) (fun a S => ?_)
        refine leafL (leafT (hK54 _ _ ?_))
        obtain rfl := Option.some.inj h
        have S := S.nilRow (rI .i64) 3 (α := Int)
        have S := S.nilRow (rI .i64) 3 (α := Int)
        exact wp_ret (rThen (sRet (.tuple #[.agg #[.slice none 0 0, .slice none 0 0], .int .i64 16]) S (rsl2 rfl (rvN (c := 2) (t := 36) (T := 36) (p := b11) 2 [.slice none 0 0, .slice none 0 0] S (by kernel_rfl) (by kernel_rfl) (by kernel_rfl) (by kernel_rfl)) (rvT (t := 3) (v := .int .i64 16) S (by kernel_rfl))) ⟨(none, 0, none, 0), rfl, S.mem.sel [1, 0] [] (by decide) (by kernel_rfl) (by kernel_rfl)⟩))
      · refine sCondF (b := r51 != 0) S (by kernel_rfl) hc53 ?_
        refine wp_skip (leafT (hK49 _ _ ?_))
        refine sSeq (fun K55 hK55 => ?_)
        refine sRegion ?_
        refine sLoadN (p := b18) (off := 0) (T := 36) (vs := [.slice ad20 o19.length cp21, .slice ad23 o22.length cp24]) 1 [.slice ad20 o19.length cp21, .slice ad23 o22.length cp24] S (wN rfl) rfl (by kernel_rfl) (by kernel_rfl) (by kernel_rfl) (by kernel_rfl) rfl rfl (by decide) (fun a S => ?_)
        refine sStore (p := b11) (off := 0) (T := 36) (vs := [.slice none 0 0, .slice none 0 0]) (v := .agg #[.slice ad20 o19.length cp21, .slice ad23 o22.length cp24]) 0 [.slice ad20 o19.length cp21, .slice ad23 o22.length cp24] S (wN rfl) rfl (by kernel_rfl) (by kernel_rfl) rfl (by kernel_rfl) (by kernel_rfl) rfl (by simp) rfl (fun a w S => ?_)
        refine sMove (.int .i64 0) S (wN rfl) (.inr rfl) (by kernel_rfl) rfl (by decide) (fun a S => ?_)
        refine leafL (leafT (hK55 _ _ ?_))
        obtain rfl := Option.some.inj h
        exact wp_ret (sRet (.tuple #[.agg #[.slice ad20 o19.length cp21, .slice ad23 o22.length cp24], .int .i64 0]) S (rsl2 rfl (rvN (c := 2) (t := 36) (T := 36) (p := b11) 0 [.slice ad20 o19.length cp21, .slice ad23 o22.length cp24] S (by kernel_rfl) (by kernel_rfl) (by kernel_rfl) (by kernel_rfl)) (rvT (t := 3) (v := .int .i64 0) S (by kernel_rfl))) ⟨(ad20, cp21, ad23, cp24), rfl, S.mem.sel [2, 3] [] (by decide) (by kernel_rfl) (by kernel_rfl)⟩)

end Go.Proofs.Ytmedbnjhgkcndaa
