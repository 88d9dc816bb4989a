import Derived.Test.YtmedbnjhgkcndaaGTy
import Derived.Test.YtmedbnjhgkcndaaG49
namespace Go.Proofs.Ytmedbnjhgkcndaa
open Go.RowKit
set_option linter.unusedVariables false

noncomputable def F_raddleref37_Shape (p0 : api_Shape) : Option Int :=
  Option.bind (α := Bool) (
    Option.bind (F_raddleref37_side p0.Left) fun r15 =>
    if !r15 then
      some true
    else
      Option.bind (F_raddleref37_side p0.Right) fun r18 =>
      if !r18 then
        some true
      else
        Option.bind (idxO p0.Left (w64 ((p0.Left.length : Int) - 1))) fun x21 =>
        Option.bind (idxO p0.Right (w64 ((p0.Right.length : Int) - 1))) fun x28 =>
        some (x21.Y != x28.Y)) fun o12 =>
  if o12 then
    some 8
  else
    some 0
set_option maxHeartbeats 4000000 in
set_option maxRecDepth 100000 in
theorem c_raddleref37_Shape (E : Nat → Prop) (w0 : World) (p0 : api_Shape) (v0 : Value) (r : Int) (h : F_raddleref37_Shape p0 = some r) (S : St0 E [] w0 w0 [] [fRep r_api_Shape v0 p0]) :
    Calls Try.prog 30 #[v0] w0 (Ret (X := Unit) E [] w0 (fun _ => .int .i64 r) (fun _ => []) (fun _ => [])) := by
  unfold F_raddleref37_Shape at h
  obtain ⟨u1, u2, rfl, hu3, hu4⟩ := S.know (i := 0) (e := fRep r_api_Shape (v0) p0) (by kernel_rfl)
  have S := S.learn (fRep (rL r_api_Point) u1 p0.Left) hu3
  obtain ⟨ad5, cp6, _, rfl, _⟩ := hu3
  have S := S.learn (fRep (rL r_api_Point) u2 p0.Right) hu4
  obtain ⟨ad7, cp8, _, rfl, _⟩ := hu4
  refine sEnter (args := [.agg #[.slice ad5 p0.Left.length cp6, .slice ad7 p0.Right.length cp8]]) 34 Try.func30 rfl rfl (by simp) S (fun a S => ?_)
  refine sSeq (fun K9 hK9 => ?_)
  refine sRegion ?_
  refine sBox (v := .agg #[.slice ad5 p0.Left.length cp6, .slice ad7 p0.Right.length cp8]) S (wN rfl) rfl (by kernel_rfl) [.slice ad5 p0.Left.length cp6, .slice ad7 p0.Right.length cp8] rfl rfl (by decide) (fun a b10 w S => ?_)
  refine sMove (.int .i64 0) S (wN rfl) (.inr rfl) (by kernel_rfl) rfl (by decide) (fun a S => ?_)
  refine leafL (leafT (hK9 _ _ ?_))
  refine sSeq (fun K11 hK11 => ?_)
  obtain ⟨t13, h, g14⟩ := bindSome h
  refine sCut (fun a w => ∃ o12, o12 = t13 ∧ St E [] w0 34 a w [(33, .bool o12)] [] []) ?_ (fun a w hI => ?_)
  · obtain ⟨r15, hx16, h⟩ := bindSome h
    rcases iteSome h with ⟨hc17, h⟩ | ⟨hc17, h⟩
    · refine sDraw (nf := []) (W := [(0, 3, .pointer (some ⟨b10, 0, none⟩)), (1, 4, .slice ad5 p0.Left.length cp6), (2, 5, .bool r15), (3, 6, .bool (!r15)), (4, 7, .bool (!r15)), (5, 8, undef), (6, 9, undef), (7, 10, undef), (8, 11, undef), (9, 12, .bool true), (10, 13, .bool true), (11, 14, undef), (12, 15, undef), (13, 16, undef), (14, 17, undef), (15, 18, undef), (16, 19, undef), (17, 20, undef), (18, 21, undef), (19, 22, undef), (20, 23, undef), (21, 24, undef), (22, 25, undef), (23, 26, undef), (24, 27, undef), (25, 28, undef), (26, 29, undef), (27, 30, undef), (28, 31, undef), (29, 32, undef), (30, 33, .bool true)]) (by kernel_rfl) S ?_
      refine node_by (A := [[], [0], [0, 1], [0, 1, 2], [0, 1, 2, 3], [0, 1, 2, 3, 4], [0, 1, 2, 3, 4, 5], [0, 1, 2, 3, 4, 5, 6], [0, 1, 2, 3, 4, 5, 6, 7], [0, 1, 2, 3, 4, 5, 6, 7, 8], [0, 1, 2, 3, 4, 5, 6, 7, 8, 9], [0, 1, 2, 3, 4, 5, 6, 7, 8, 9, 10], [0, 1, 2, 3, 4, 5, 6, 7, 8, 9, 10, 11], [0, 1, 2, 3, 4, 5, 6, 7, 8, 9, 10], [0, 1, 2, 3, 4, 5, 6, 7, 8, 9, 10, 13], [0, 1, 2, 3, 4, 5, 6, 7, 8, 9, 10, 13, 14], [0, 1, 2, 3, 4, 5, 6, 7, 8, 9, 10, 13, 14, 15], [0, 1, 2, 3, 4, 5, 6, 7, 8, 9, 10, 11, 12, 13, 14, 15, 16], [0, 1, 2, 3, 4, 5, 6, 7, 8, 9, 10, 11, 12, 13, 14, 15, 16, 17], [0, 1, 2, 3, 4, 5, 6, 7, 8, 9, 10, 11, 12, 13, 14, 15, 16, 17, 18], [0, 1, 2, 3, 4, 5, 6, 7, 8, 9, 10], [0, 1, 2, 3, 4, 5, 6, 7, 8, 9, 10, 20], [0, 1, 2, 3, 4, 5, 6, 7, 8, 9, 10], [0, 1, 2, 3, 4, 5, 6, 7, 8, 9, 10, 22], [0, 1, 2, 3, 4, 5, 6, 7, 8, 9, 10, 22, 23], [0, 1, 2, 3, 4, 5, 6, 7, 8, 9, 10, 22, 23, 24], [0, 1, 2, 3, 4, 5, 6, 7, 8, 9, 10, 20, 21, 22, 23, 24, 25], [0, 1, 2, 3, 4, 5, 6, 7, 8, 9, 10, 20, 21, 22, 23, 24, 25, 26], [0, 1, 2, 3, 4, 5, 6, 7, 8, 9, 10, 20, 21, 22, 23, 24, 25, 26, 27], [0, 1, 2, 3, 4, 5, 6, 7, 8, 9, 10, 11, 12, 13, 14, 15, 16, 17, 18, 19, 20, 21, 22, 23, 24, 25, 26, 27, 28], [0, 1, 2, 3, 4, 5, 6, 7, 8, 9, 10, 11, 12, 13, 14, 15, 16, 17, 18, 19, 20, 21, 22, 23, 24, 25, 26, 27, 28, 29]]) (nf := []) (Y := []) (W := [(0, 3, .pointer (some ⟨b10, 0, none⟩)), (1, 4, .slice ad5 p0.Left.length cp6), (2, 5, .bool r15), (3, 6, .bool (!r15)), (4, 7, .bool (!r15)), (5, 8, undef), (6, 9, undef), (7, 10, undef), (8, 11, undef), (9, 12, .bool true), (10, 13, .bool true), (11, 14, undef), (12, 15, undef), (13, 16, undef), (14, 17, undef), (15, 18, undef), (16, 19, undef), (17, 20, undef), (18, 21, undef), (19, 22, undef), (20, 23, undef), (21, 24, undef), (22, 25, undef), (23, 26, undef), (24, 27, undef), (25, 28, undef), (26, 29, undef), (27, 30, undef), (28, 31, undef), (29, 32, undef), (30, 33, .bool true)]) 31 (by kernel_rfl) (by kernel_rfl) (by kernel_rfl) (by kernel_rfl) (by kernel_rfl) [0, 1, 2, 3, 4, 5, 6, 7, 8, 9, 10, 11, 12, 13, 14, 15, 16, 17, 18, 19, 20, 21, 22, 23, 24, 25, 26, 27, 28, 29, 30] (by kernel_rfl) (by decide) (by decide) (AllFrom.cons (k := 0) (m := 30) (.inr ⟨by decide, .inr (.inr ?_)⟩) (AllFrom.cons (k := 1) (m := 29) (.inr ⟨by decide, .inr (.inr ?_)⟩) (AllFrom.cons (k := 2) (m := 28) (.inr ⟨by decide, .inr (.inr ?_)⟩) (AllFrom.cons (k := 3) (m := 27) (.inr ⟨by decide, .inr (.inr ?_)⟩) (AllFrom.cons (k := 4) (m := 26) (.inr ⟨by decide, .inr (.inr ?_)⟩) (AllFrom.cons (k := 5) (m := 25) (.inr ⟨by decide, .inr (.inr ?_)⟩) (AllFrom.cons (k := 6) (m := 24) (.inr ⟨by decide, .inr (.inr ?_)⟩) (AllFrom.cons (k := 7) (m := 23) (.inr ⟨by decide, .inr (.inr ?_)⟩) (AllFrom.cons (k := 8) (m := 22) (.inr ⟨by decide, .inr (.inr ?_)⟩) (AllFrom.cons (k := 9) (m := 21) (.inr ⟨by decide, .inr (.inr ?_)⟩) (AllFrom.cons (k := 10) (m := 20) (.inr ⟨by decide, .inr (.inr ?_)⟩) (AllFrom.cons (k := 11) (m := 19) (.inr ⟨by decide, .inr (.inr ?_)⟩) (AllFrom.cons (k := 12) (m := 18) (.inr ⟨by decide, .inr (.inr ?_)⟩) (AllFrom.cons (k := 13) (m := 17) (.inr ⟨by decide, .inr (.inr ?_)⟩) (AllFrom.cons (k := 14) (m := 16) (.inr ⟨by decide, .inr (.inr ?_)⟩) (AllFrom.cons (k := 15) (m := 15) (.inr ⟨by decide, .inr (.inr ?_)⟩) (AllFrom.cons (k := 16) (m := 14) (.inr ⟨by decide, .inr (.inr ?_)⟩) (AllFrom.cons (k := 17) (m := 13) (.inr ⟨by decide, .inr (.inr ?_)⟩) (AllFrom.cons (k := 18) (m := 12) (.inr ⟨by decide, .inr (.inr ?_)⟩) (AllFrom.cons (k := 19) (m := 11) (.inr ⟨by decide, .inr (.inr ?_)⟩) (AllFrom.cons (k := 20) (m := 10) (.inr ⟨by decide, .inr (.inr ?_)⟩) (AllFrom.cons (k := 21) (m := 9) (.inr ⟨by decide, .inr (.inr ?_)⟩) (AllFrom.cons (k := 22) (m := 8) (.inr ⟨by decide, .inr (.inr ?_)⟩) (AllFrom.cons (k := 23) (m := 7) (.inr ⟨by decide, .inr (.inr ?_)⟩) (AllFrom.cons (k := 24) (m := 6) (.inr ⟨by decide, .inr (.inr ?_)⟩) (AllFrom.cons (k := 25) (m := 5) (.inr ⟨by decide, .inr (.inr ?_)⟩) (AllFrom.cons (k := 26) (m := 4) (.inr ⟨by decide, .inr (.inr ?_)⟩) (AllFrom.cons (k := 27) (m := 3) (.inr ⟨by decide, .inr (.inr ?_)⟩) (AllFrom.cons (k := 28) (m := 2) (.inr ⟨by decide, .inr (.inr ?_)⟩) (AllFrom.cons (k := 29) (m := 1) (.inr ⟨by decide, .inr (.inr ?_)⟩) (AllFrom.cons (k := 30) (m := 0) (.inr ⟨by decide, .inr (.inr ?_)⟩) (trivial)))))))))))))))))))))))))))))))) [(33, .bool true)] (fin_of [some 30] rfl (by kernel_rfl) (by kernel_rfl)) (fun _ a w S => ?_)
      · refine ⟨_, 3, (.pointer (some ⟨b10, 0, none⟩)), [(1, .pointer (some ⟨b10, 0, none⟩))], rfl, rfl, List.mem_of_getElem? (i := 0) (by kernel_rfl), (srcs_of [none] rfl (by kernel_rfl) (by kernel_rfl)), fun G a w S => ?_⟩
        refine sField (b := b10) (off := 0) 0 0 S (wN rfl) rfl (by kernel_rfl) (by kernel_rfl) rfl rfl (by decide) (fun a S => ?_)
        exact leafL ⟨rfl, S⟩
      · refine ⟨_, 4, (.slice ad5 p0.Left.length cp6), [(3, .pointer (some ⟨b10, 0, none⟩))], rfl, rfl, List.mem_of_getElem? (i := 1) (by kernel_rfl), (srcs_of [some 0] rfl (by kernel_rfl) (by kernel_rfl)), fun G a w S => ?_⟩
        refine sLoad1 (p := b10) (off := 0) (T := 26) (vs := [.slice ad5 p0.Left.length cp6, .slice ad7 p0.Right.length cp8]) 0 (.slice ad5 p0.Left.length cp6) S (wN rfl) rfl (by kernel_rfl) (by kernel_rfl) (by kernel_rfl) rfl rfl (by decide) (fun a S => ?_)
        exact leafL ⟨rfl, S⟩
      · refine ⟨_, 5, (.bool r15), [(4, .slice ad5 p0.Left.length cp6)], rfl, rfl, List.mem_of_getElem? (i := 2) (by kernel_rfl), (srcs_of [some 1] rfl (by kernel_rfl) (by kernel_rfl)), fun G a w S => ?_⟩
        have S1 := S.mem
        refine sCallQ (X := Unit) (f := 49) (vs := [.slice ad5 p0.Left.length cp6]) (val := fun _ => .bool r15) S (wN rfl) rfl callee49 (by kernel_rfl) (S1.quiet [1] (by kernel_rfl)) (fun E1 w1 S1 => c_raddleref37_side E1 w1 p0.Left (.slice ad5 p0.Left.length cp6) r15 hx16 S1) rfl (by decide) (fun _ a w S => ?_)
        exact leafL ⟨rfl, S⟩
      · refine ⟨_, 6, (.bool (!r15)), [(5, .bool r15)], rfl, rfl, List.mem_of_getElem? (i := 3) (by kernel_rfl), (srcs_of [some 2] rfl (by kernel_rfl) (by kernel_rfl)), fun G a w S => ?_⟩
        refine sNot (b := r15) S (wN rfl) rfl (by kernel_rfl) rfl (by decide) (fun a S => ?_)
        exact leafL ⟨rfl, S⟩
      · refine ⟨_, 7, (.bool (!r15)), [(6, .bool (!r15))], rfl, rfl, List.mem_of_getElem? (i := 4) (by kernel_rfl), (srcs_of [some 3] rfl (by kernel_rfl) (by kernel_rfl)), fun G a w S => ?_⟩
        refine sMove (.bool (!r15)) S (wN rfl) (.inl rfl) (by kernel_rfl) rfl (by decide) (fun a S => ?_)
        exact leafL ⟨rfl, S⟩
      · refine ⟨_, 8, undef, [(1, .pointer (some ⟨b10, 0, none⟩)), (7, .bool (!r15))], rfl, rfl, List.mem_of_getElem? (i := 5) (by kernel_rfl), (srcs_of [none, some 4] rfl (by kernel_rfl) (by kernel_rfl)), fun G a w S => ?_⟩
        refine sSkip (c := !r15) 4 false 7 8 S rfl rfl (by kernel_rfl) hc17 rfl (by decide) (fun a S => ?_)
        exact leafL ⟨rfl, S⟩
      · refine ⟨_, 9, undef, [(8, undef), (7, .bool (!r15))], rfl, rfl, List.mem_of_getElem? (i := 6) (by kernel_rfl), (srcs_of [some 5, some 4] rfl (by kernel_rfl) (by kernel_rfl)), fun G a w S => ?_⟩
        refine sSkip (c := !r15) 4 false 7 9 S rfl rfl (by kernel_rfl) hc17 rfl (by decide) (fun a S => ?_)
        exact leafL ⟨rfl, S⟩
      · refine ⟨_, 10, undef, [(9, undef), (7, .bool (!r15))], rfl, rfl, List.mem_of_getElem? (i := 7) (by kernel_rfl), (srcs_of [some 6, some 4] rfl (by kernel_rfl) (by kernel_rfl)), fun G a w S => ?_⟩
        refine sSkip (c := !r15) 4 false 7 10 S rfl rfl (by kernel_rfl) hc17 rfl (by decide) (fun a S => ?_)
        exact leafL ⟨rfl, S⟩
      · refine ⟨_, 11, undef, [(10, undef), (7, .bool (!r15))], rfl, rfl, List.mem_of_getElem? (i := 8) (by kernel_rfl), (srcs_of [some 7, some 4] rfl (by kernel_rfl) (by kernel_rfl)), fun G a w S => ?_⟩
        refine sSkip (c := !r15) 4 false 7 11 S rfl rfl (by kernel_rfl) hc17 rfl (by decide) (fun a S => ?_)
        exact leafL ⟨rfl, S⟩
      · refine ⟨_, 12, (.bool true), [(7, .bool (!r15)), (11, undef)], rfl, rfl, List.mem_of_getElem? (i := 9) (by kernel_rfl), (srcs_of [some 4, some 8] rfl (by kernel_rfl) (by kernel_rfl)), fun G a w S => ?_⟩
        refine sPickT (b := !r15) (.bool true) S (wN rfl) rfl (by kernel_rfl) hc17 (by kernel_rfl) rfl (by decide) (fun a S => ?_)
        exact leafL ⟨rfl, S⟩
      · refine ⟨_, 13, (.bool true), [(12, .bool true)], rfl, rfl, List.mem_of_getElem? (i := 10) (by kernel_rfl), (srcs_of [some 9] rfl (by kernel_rfl) (by kernel_rfl)), fun G a w S => ?_⟩
        refine sMove (.bool true) S (wN rfl) (.inl rfl) (by kernel_rfl) rfl (by decide) (fun a S => ?_)
        exact leafL ⟨rfl, S⟩
      · refine ⟨_, 14, undef, [(1, .pointer (some ⟨b10, 0, none⟩)), (13, .bool true)], rfl, rfl, List.mem_of_getElem? (i := 11) (by kernel_rfl), (srcs_of [none, some 10] rfl (by kernel_rfl) (by kernel_rfl)), fun G a w S => ?_⟩
        refine sSkip (c := true) 10 false 13 14 S rfl rfl (by kernel_rfl) rfl rfl (by decide) (fun a S => ?_)
        exact leafL ⟨rfl, S⟩
      · refine ⟨_, 15, undef, [(14, undef), (13, .bool true)], rfl, rfl, List.mem_of_getElem? (i := 12) (by kernel_rfl), (srcs_of [some 11, some 10] rfl (by kernel_rfl) (by kernel_rfl)), fun G a w S => ?_⟩
        refine sSkip (c := true) 10 false 13 15 S rfl rfl (by kernel_rfl) rfl rfl (by decide) (fun a S => ?_)
        exact leafL ⟨rfl, S⟩
      · refine ⟨_, 16, undef, [(1, .pointer (some ⟨b10, 0, none⟩)), (13, .bool true)], rfl, rfl, List.mem_of_getElem? (i := 13) (by kernel_rfl), (srcs_of [none, some 10] rfl (by kernel_rfl) (by kernel_rfl)), fun G a w S => ?_⟩
        refine sSkip (c := true) 10 false 13 16 S rfl rfl (by kernel_rfl) rfl rfl (by decide) (fun a S => ?_)
        exact leafL ⟨rfl, S⟩
      · refine ⟨_, 17, undef, [(16, undef), (13, .bool true)], rfl, rfl, List.mem_of_getElem? (i := 14) (by kernel_rfl), (srcs_of [some 13, some 10] rfl (by kernel_rfl) (by kernel_rfl)), fun G a w S => ?_⟩
        refine sSkip (c := true) 10 false 13 17 S rfl rfl (by kernel_rfl) rfl rfl (by decide) (fun a S => ?_)
        exact leafL ⟨rfl, S⟩
      · refine ⟨_, 18, undef, [(17, undef), (13, .bool true)], rfl, rfl, List.mem_of_getElem? (i := 15) (by kernel_rfl), (srcs_of [some 14, some 10] rfl (by kernel_rfl) (by kernel_rfl)), fun G a w S => ?_⟩
        refine sSkip (c := true) 10 false 13 18 S rfl rfl (by kernel_rfl) rfl rfl (by decide) (fun a S => ?_)
        exact leafL ⟨rfl, S⟩
      · refine ⟨_, 19, undef, [(18, undef), (13, .bool true)], rfl, rfl, List.mem_of_getElem? (i := 16) (by kernel_rfl), (srcs_of [some 15, some 10] rfl (by kernel_rfl) (by kernel_rfl)), fun G a w S => ?_⟩
        refine sSkip (c := true) 10 false 13 19 S rfl rfl (by kernel_rfl) rfl rfl (by decide) (fun a S => ?_)
        exact leafL ⟨rfl, S⟩
      · refine ⟨_, 20, undef, [(15, undef), (19, undef), (13, .bool true)], rfl, rfl, List.mem_of_getElem? (i := 17) (by kernel_rfl), (srcs_of [some 12, some 16, some 10] rfl (by kernel_rfl) (by kernel_rfl)), fun G a w S => ?_⟩
        refine sSkip (c := true) 10 false 13 20 S rfl rfl (by kernel_rfl) rfl rfl (by decide) (fun a S => ?_)
        exact leafL ⟨rfl, S⟩
      · refine ⟨_, 21, undef, [(20, undef), (13, .bool true)], rfl, rfl, List.mem_of_getElem? (i := 18) (by kernel_rfl), (srcs_of [some 17, some 10] rfl (by kernel_rfl) (by kernel_rfl)), fun G a w S => ?_⟩
        refine sSkip (c := true) 10 false 13 21 S rfl rfl (by kernel_rfl) rfl rfl (by decide) (fun a S => ?_)
        exact leafL ⟨rfl, S⟩
      · refine ⟨_, 22, undef, [(21, undef), (13, .bool true)], rfl, rfl, List.mem_of_getElem? (i := 19) (by kernel_rfl), (srcs_of [some 18, some 10] rfl (by kernel_rfl) (by kernel_rfl)), fun G a w S => ?_⟩
        refine sSkip (c := true) 10 false 13 22 S rfl rfl (by kernel_rfl) rfl rfl (by decide) (fun a S => ?_)
        exact leafL ⟨rfl, S⟩
      · refine ⟨_, 23, undef, [(1, .pointer (some ⟨b10, 0, none⟩)), (13, .bool true)], rfl, rfl, List.mem_of_getElem? (i := 20) (by kernel_rfl), (srcs_of [none, some 10] rfl (by kernel_rfl) (by kernel_rfl)), fun G a w S => ?_⟩
        refine sSkip (c := true) 10 false 13 23 S rfl rfl (by kernel_rfl) rfl rfl (by decide) (fun a S => ?_)
        exact leafL ⟨rfl, S⟩
      · refine ⟨_, 24, undef, [(23, undef), (13, .bool true)], rfl, rfl, List.mem_of_getElem? (i := 21) (by kernel_rfl), (srcs_of [some 20, some 10] rfl (by kernel_rfl) (by kernel_rfl)), fun G a w S => ?_⟩
        refine sSkip (c := true) 10 false 13 24 S rfl rfl (by kernel_rfl) rfl rfl (by decide) (fun a S => ?_)
        exact leafL ⟨rfl, S⟩
      · refine ⟨_, 25, undef, [(1, .pointer (some ⟨b10, 0, none⟩)), (13, .bool true)], rfl, rfl, List.mem_of_getElem? (i := 22) (by kernel_rfl), (srcs_of [none, some 10] rfl (by kernel_rfl) (by kernel_rfl)), fun G a w S => ?_⟩
        refine sSkip (c := true) 10 false 13 25 S rfl rfl (by kernel_rfl) rfl rfl (by decide) (fun a S => ?_)
        exact leafL ⟨rfl, S⟩
      · refine ⟨_, 26, undef, [(25, undef), (13, .bool true)], rfl, rfl, List.mem_of_getElem? (i := 23) (by kernel_rfl), (srcs_of [some 22, some 10] rfl (by kernel_rfl) (by kernel_rfl)), fun G a w S => ?_⟩
        refine sSkip (c := true) 10 false 13 26 S rfl rfl (by kernel_rfl) rfl rfl (by decide) (fun a S => ?_)
        exact leafL ⟨rfl, S⟩
      · refine ⟨_, 27, undef, [(26, undef), (13, .bool true)], rfl, rfl, List.mem_of_getElem? (i := 24) (by kernel_rfl), (srcs_of [some 23, some 10] rfl (by kernel_rfl) (by kernel_rfl)), fun G a w S => ?_⟩
        refine sSkip (c := true) 10 false 13 27 S rfl rfl (by kernel_rfl) rfl rfl (by decide) (fun a S => ?_)
        exact leafL ⟨rfl, S⟩
      · refine ⟨_, 28, undef, [(27, undef), (13, .bool true)], rfl, rfl, List.mem_of_getElem? (i := 25) (by kernel_rfl), (srcs_of [some 24, some 10] rfl (by kernel_rfl) (by kernel_rfl)), fun G a w S => ?_⟩
        refine sSkip (c := true) 10 false 13 28 S rfl rfl (by kernel_rfl) rfl rfl (by decide) (fun a S => ?_)
        exact leafL ⟨rfl, S⟩
      · refine ⟨_, 29, undef, [(24, undef), (28, undef), (13, .bool true)], rfl, rfl, List.mem_of_getElem? (i := 26) (by kernel_rfl), (srcs_of [some 21, some 25, some 10] rfl (by kernel_rfl) (by kernel_rfl)), fun G a w S => ?_⟩
        refine sSkip (c := true) 10 false 13 29 S rfl rfl (by kernel_rfl) rfl rfl (by decide) (fun a S => ?_)
        exact leafL ⟨rfl, S⟩
      · refine ⟨_, 30, undef, [(29, undef), (13, .bool true)], rfl, rfl, List.mem_of_getElem? (i := 27) (by kernel_rfl), (srcs_of [some 26, some 10] rfl (by kernel_rfl) (by kernel_rfl)), fun G a w S => ?_⟩
        refine sSkip (c := true) 10 false 13 30 S rfl rfl (by kernel_rfl) rfl rfl (by decide) (fun a S => ?_)
        exact leafL ⟨rfl, S⟩
      · refine ⟨_, 31, undef, [(30, undef), (13, .bool true)], rfl, rfl, List.mem_of_getElem? (i := 28) (by kernel_rfl), (srcs_of [some 27, some 10] rfl (by kernel_rfl) (by kernel_rfl)), fun G a w S => ?_⟩
        refine sSkip (c := true) 10 false 13 31 S rfl rfl (by kernel_rfl) rfl rfl (by decide) (fun a S => ?_)
        exact leafL ⟨rfl, S⟩
      · refine ⟨_, 32, undef, [(22, undef), (31, undef), (13, .bool true)], rfl, rfl, List.mem_of_getElem? (i := 29) (by kernel_rfl), (srcs_of [some 19, some 28, some 10] rfl (by kernel_rfl) (by kernel_rfl)), fun G a w S => ?_⟩
        refine sSkip (c := true) 10 false 13 32 S rfl rfl (by kernel_rfl) rfl rfl (by decide) (fun a S => ?_)
        exact leafL ⟨rfl, S⟩
      · refine ⟨_, 33, (.bool true), [(13, .bool true), (32, undef)], rfl, rfl, List.mem_of_getElem? (i := 30) (by kernel_rfl), (srcs_of [some 10, some 29] rfl (by kernel_rfl) (by kernel_rfl)), fun G a w S => ?_⟩
        refine sPickT (b := true) (.bool true) S (wN rfl) rfl (by kernel_rfl) rfl (by kernel_rfl) rfl (by decide) (fun a S => ?_)
        exact leafL ⟨rfl, S⟩
      · exact leafT (⟨true, Option.some.inj h, S.fix [] [] (by decide) (by kernel_rfl) (by kernel_rfl) (by kernel_rfl)⟩)
    · obtain ⟨r18, hx19, h⟩ := bindSome h
      rcases iteSome h with ⟨hc20, h⟩ | ⟨hc20, h⟩
      · refine sDraw (nf := []) (W := [(0, 3, .pointer (some ⟨b10, 0, none⟩)), (1, 4, .slice ad5 p0.Left.length cp6), (2, 5, .bool r15), (3, 6, .bool (!r15)), (4, 7, .bool (!r15)), (5, 8, .pointer (some ⟨b10, 1, none⟩)), (6, 9, .slice ad7 p0.Right.length cp8), (7, 10, .bool r18), (8, 11, .bool (!r18)), (9, 12, .bool (!r18)), (10, 13, .bool (!r18)), (11, 14, undef), (12, 15, undef), (13, 16, undef), (14, 17, undef), (15, 18, undef), (16, 19, undef), (17, 20, undef), (18, 21, undef), (19, 22, undef), (20, 23, undef), (21, 24, undef), (22, 25, undef), (23, 26, undef), (24, 27, undef), (25, 28, undef), (26, 29, undef), (27, 30, undef), (28, 31, undef), (29, 32, undef), (30, 33, .bool true)]) (by kernel_rfl) S ?_
        refine node_by (A := [[], [0], [0, 1], [0, 1, 2], [0, 1, 2, 3], [0, 1, 2, 3, 4], [0, 1, 2, 3, 4, 5], [0, 1, 2, 3, 4, 5, 6], [0, 1, 2, 3, 4, 5, 6, 7], [0, 1, 2, 3, 4, 5, 6, 7, 8], [0, 1, 2, 3, 4, 5, 6, 7, 8, 9], [0, 1, 2, 3, 4, 5, 6, 7, 8, 9, 10], [0, 1, 2, 3, 4, 5, 6, 7, 8, 9, 10, 11], [0, 1, 2, 3, 4, 5, 6, 7, 8, 9, 10], [0, 1, 2, 3, 4, 5, 6, 7, 8, 9, 10, 13], [0, 1, 2, 3, 4, 5, 6, 7, 8, 9, 10, 13, 14], [0, 1, 2, 3, 4, 5, 6, 7, 8, 9, 10, 13, 14, 15], [0, 1, 2, 3, 4, 5, 6, 7, 8, 9, 10, 11, 12, 13, 14, 15, 16], [0, 1, 2, 3, 4, 5, 6, 7, 8, 9, 10, 11, 12, 13, 14, 15, 16, 17], [0, 1, 2, 3, 4, 5, 6, 7, 8, 9, 10, 11, 12, 13, 14, 15, 16, 17, 18], [0, 1, 2, 3, 4, 5, 6, 7, 8, 9, 10], [0, 1, 2, 3, 4, 5, 6, 7, 8, 9, 10, 20], [0, 1, 2, 3, 4, 5, 6, 7, 8, 9, 10], [0, 1, 2, 3, 4, 5, 6, 7, 8, 9, 10, 22], [0, 1, 2, 3, 4, 5, 6, 7, 8, 9, 10, 22, 23], [0, 1, 2, 3, 4, 5, 6, 7, 8, 9, 10, 22, 23, 24], [0, 1, 2, 3, 4, 5, 6, 7, 8, 9, 10, 20, 21, 22, 23, 24, 25], [0, 1, 2, 3, 4, 5, 6, 7, 8, 9, 10, 20, 21, 22, 23, 24, 25, 26], [0, 1, 2, 3, 4, 5, 6, 7, 8, 9, 10, 20, 21, 22, 23, 24, 25, 26, 27], [0, 1, 2, 3, 4, 5, 6, 7, 8, 9, 10, 11, 12, 13, 14, 15, 16, 17, 18, 19, 20, 21, 22, 23, 24, 25, 26, 27, 28], [0, 1, 2, 3, 4, 5, 6, 7, 8, 9, 10, 11, 12, 13, 14, 15, 16, 17, 18, 19, 20, 21, 22, 23, 24, 25, 26, 27, 28, 29]]) (nf := []) (Y := []) (W := [(0, 3, .pointer (some ⟨b10, 0, none⟩)), (1, 4, .slice ad5 p0.Left.length cp6), (2, 5, .bool r15), (3, 6, .bool (!r15)), (4, 7, .bool (!r15)), (5, 8, .pointer (some ⟨b10, 1, none⟩)), (6, 9, .slice ad7 p0.Right.length cp8), (7, 10, .bool r18), (8, 11, .bool (!r18)), (9, 12, .bool (!r18)), (10, 13, .bool (!r18)), (11, 14, undef), (12, 15, undef), (13, 16, undef), (14, 17, undef), (15, 18, undef), (16, 19, undef), (17, 20, undef), (18, 21, undef), (19, 22, undef), (20, 23, undef), (21, 24, undef), (22, 25, undef), (23, 26, undef), (24, 27, undef), (25, 28, undef), (26, 29, undef), (27, 30, undef), (28, 31, undef), (29, 32, undef), (30, 33, .bool true)]) 31 (by kernel_rfl) (by kernel_rfl) (by kernel_rfl) (by kernel_rfl) (by kernel_rfl) [0, 1, 2, 3, 4, 5, 6, 7, 8, 9, 10, 11, 12, 13, 14, 15, 16, 17, 18, 19, 20, 21, 22, 23, 24, 25, 26, 27, 28, 29, 30] (by kernel_rfl) (by decide) (by decide) (AllFrom.cons (k := 0) (m := 30) (.inr ⟨by decide, .inr (.inr ?_)⟩) (AllFrom.cons (k := 1) (m := 29) (.inr ⟨by decide, .inr (.inr ?_)⟩) (AllFrom.cons (k := 2) (m := 28) (.inr ⟨by decide, .inr (.inr ?_)⟩) (AllFrom.cons (k := 3) (m := 27) (.inr ⟨by decide, .inr (.inr ?_)⟩) (AllFrom.cons (k := 4) (m := 26) (.inr ⟨by decide, .inr (.inr ?_)⟩) (AllFrom.cons (k := 5) (m := 25) (.inr ⟨by decide, .inr (.inr ?_)⟩) (AllFrom.cons (k := 6) (m := 24) (.inr ⟨by decide, .inr (.inr ?_)⟩) (AllFrom.cons (k := 7) (m := 23) (.inr ⟨by decide, .inr (.inr ?_)⟩) (AllFrom.cons (k := 8) (m := 22) (.inr ⟨by decide, .inr (.inr ?_)⟩) (AllFrom.cons (k := 9) (m := 21) (.inr ⟨by decide, .inr (.inr ?_)⟩) (AllFrom.cons (k := 10) (m := 20) (.inr ⟨by decide, .inr (.inr ?_)⟩) (AllFrom.cons (k := 11) (m := 19) (.inr ⟨by decide, .inr (.inr ?_)⟩) (AllFrom.cons (k := 12) (m := 18) (.inr ⟨by decide, .inr (.inr ?_)⟩) (AllFrom.cons (k := 13) (m := 17) (.inr ⟨by decide, .inr (.inr ?_)⟩) (AllFrom.cons (k := 14) (m := 16) (.inr ⟨by decide, .inr (.inr ?_)⟩) (AllFrom.cons (k := 15) (m := 15) (.inr ⟨by decide, .inr (.inr ?_)⟩) (AllFrom.cons (k := 16) (m := 14) (.inr ⟨by decide, .inr (.inr ?_)⟩) (AllFrom.cons (k := 17) (m := 13) (.inr ⟨by decide, .inr (.inr ?_)⟩) (AllFrom.cons (k := 18) (m := 12) (.inr ⟨by decide, .inr (.inr ?_)⟩) (AllFrom.cons (k := 19) (m := 11) (.inr ⟨by decide, .inr (.inr ?_)⟩) (AllFrom.cons (k := 20) (m := 10) (.inr ⟨by decide, .inr (.inr ?_)⟩) (AllFrom.cons (k := 21) (m := 9) (.inr ⟨by decide, .inr (.inr ?_)⟩) (AllFrom.cons (k := 22) (m := 8) (.inr ⟨by decide, .inr (.inr ?_)⟩) (AllFrom.cons (k := 23) (m := 7) (.inr ⟨by decide, .inr (.inr ?_)⟩) (AllFrom.cons (k := 24) (m := 6) (.inr ⟨by decide, .inr (.inr ?_)⟩) (AllFrom.cons (k := 25) (m := 5) (.inr ⟨by decide, .inr (.inr ?_)⟩) (AllFrom.cons (k := 26) (m := 4) (.inr ⟨by decide, .inr (.inr ?_)⟩) (AllFrom.cons (k := 27) (m := 3) (.inr ⟨by decide, .inr (.inr ?_)⟩) (AllFrom.cons (k := 28) (m := 2) (.inr ⟨by decide, .inr (.inr ?_)⟩) (AllFrom.cons (k := 29) (m := 1) (.inr ⟨by decide, .inr (.inr ?_)⟩) (AllFrom.cons (k := 30) (m := 0) (.inr ⟨by decide, .inr (.inr ?_)⟩) (trivial)))))))))))))))))))))))))))))))) [(33, .bool true)] (fin_of [some 30] rfl (by kernel_rfl) (by kernel_rfl)) (fun _ a w S => ?_)
        · refine ⟨_, 3, (.pointer (some ⟨b10, 0, none⟩)), [(1, .pointer (some ⟨b10, 0, none⟩))], rfl, rfl, List.mem_of_getElem? (i := 0) (by kernel_rfl), (srcs_of [none] rfl (by kernel_rfl) (by kernel_rfl)), fun G a w S => ?_⟩
          refine sField (b := b10) (off := 0) 0 0 S (wN rfl) rfl (by kernel_rfl) (by kernel_rfl) rfl rfl (by decide) (fun a S => ?_)
          exact leafL ⟨rfl, S⟩
        · refine ⟨_, 4, (.slice ad5 p0.Left.length cp6), [(3, .pointer (some ⟨b10, 0, none⟩))], rfl, rfl, List.mem_of_getElem? (i := 1) (by kernel_rfl), (srcs_of [some 0] rfl (by kernel_rfl) (by kernel_rfl)), fun G a w S => ?_⟩
          refine sLoad1 (p := b10) (off := 0) (T := 26) (vs := [.slice ad5 p0.Left.length cp6, .slice ad7 p0.Right.length cp8]) 0 (.slice ad5 p0.Left.length cp6) S (wN rfl) rfl (by kernel_rfl) (by kernel_rfl) (by kernel_rfl) rfl rfl (by decide) (fun a S => ?_)
          exact leafL ⟨rfl, S⟩
        · refine ⟨_, 5, (.bool r15), [(4, .slice ad5 p0.Left.length cp6)], rfl, rfl, List.mem_of_getElem? (i := 2) (by kernel_rfl), (srcs_of [some 1] rfl (by kernel_rfl) (by kernel_rfl)), fun G a w S => ?_⟩
          have S1 := S.mem
          refine sCallQ (X := Unit) (f := 49) (vs := [.slice ad5 p0.Left.length cp6]) (val := fun _ => .bool r15) S (wN rfl) rfl callee49 (by kernel_rfl) (S1.quiet [1] (by kernel_rfl)) (fun E1 w1 S1 => c_raddleref37_side E1 w1 p0.Left (.slice ad5 p0.Left.length cp6) r15 hx16 S1) rfl (by decide) (fun _ a w S => ?_)
          exact leafL ⟨rfl, S⟩
        · refine ⟨_, 6, (.bool (!r15)), [(5, .bool r15)], rfl, rfl, List.mem_of_getElem? (i := 3) (by kernel_rfl), (srcs_of [some 2] rfl (by kernel_rfl) (by kernel_rfl)), fun G a w S => ?_⟩
          refine sNot (b := r15) S (wN rfl) rfl (by kernel_rfl) rfl (by decide) (fun a S => ?_)
          exact leafL ⟨rfl, S⟩
        · refine ⟨_, 7, (.bool (!r15)), [(6, .bool (!r15))], rfl, rfl, List.mem_of_getElem? (i := 4) (by kernel_rfl), (srcs_of [some 3] rfl (by kernel_rfl) (by kernel_rfl)), fun G a w S => ?_⟩
          refine sMove (.bool (!r15)) S (wN rfl) (.inl rfl) (by kernel_rfl) rfl (by decide) (fun a S => ?_)
          exact leafL ⟨rfl, S⟩
        · refine ⟨_, 8, (.pointer (some ⟨b10, 1, none⟩)), [(1, .pointer (some ⟨b10, 0, none⟩)), (7, .bool (!r15))], rfl, rfl, List.mem_of_getElem? (i := 5) (by kernel_rfl), (srcs_of [none, some 4] rfl (by kernel_rfl) (by kernel_rfl)), fun G a w S => ?_⟩
          refine sField (b := b10) (off := 0) 1 1 S (wG (c := !r15) 4 false 7 rfl rfl (by kernel_rfl) hc17) rfl (by kernel_rfl) (by kernel_rfl) rfl rfl (by decide) (fun a S => ?_)
          exact leafL ⟨rfl, S⟩
        · refine ⟨_, 9, (.slice ad7 p0.Right.length cp8), [(8, .pointer (some ⟨b10, 1, none⟩)), (7, .bool (!r15))], rfl, rfl, List.mem_of_getElem? (i := 6) (by kernel_rfl), (srcs_of [some 5, some 4] rfl (by kernel_rfl) (by kernel_rfl)), fun G a w S => ?_⟩
          refine sLoad1 (p := b10) (off := 1) (T := 26) (vs := [.slice ad5 p0.Left.length cp6, .slice ad7 p0.Right.length cp8]) 0 (.slice ad7 p0.Right.length cp8) S (wG (c := !r15) 4 false 7 rfl rfl (by kernel_rfl) hc17) rfl (by kernel_rfl) (by kernel_rfl) (by kernel_rfl) rfl rfl (by decide) (fun a S => ?_)
          exact leafL ⟨rfl, S⟩
        · refine ⟨_, 10, (.bool r18), [(9, .slice ad7 p0.Right.length cp8), (7, .bool (!r15))], rfl, rfl, List.mem_of_getElem? (i := 7) (by kernel_rfl), (srcs_of [some 6, some 4] rfl (by kernel_rfl) (by kernel_rfl)), fun G a w S => ?_⟩
          have S1 := S.mem
          refine sCallQ (X := Unit) (f := 49) (vs := [.slice ad7 p0.Right.length cp8]) (val := fun _ => .bool r18) S (wG (c := !r15) 4 false 7 rfl rfl (by kernel_rfl) hc17) rfl callee49 (by kernel_rfl) (S1.quiet [0] (by kernel_rfl)) (fun E1 w1 S1 => c_raddleref37_side E1 w1 p0.Right (.slice ad7 p0.Right.length cp8) r18 hx19 S1) rfl (by decide) (fun _ a w S => ?_)
          exact leafL ⟨rfl, S⟩
        · refine ⟨_, 11, (.bool (!r18)), [(10, .bool r18), (7, .bool (!r15))], rfl, rfl, List.mem_of_getElem? (i := 8) (by kernel_rfl), (srcs_of [some 7, some 4] rfl (by kernel_rfl) (by kernel_rfl)), fun G a w S => ?_⟩
          refine sNot (b := r18) S (wG (c := !r15) 4 false 7 rfl rfl (by kernel_rfl) hc17) rfl (by kernel_rfl) rfl (by decide) (fun a S => ?_)
          exact leafL ⟨rfl, S⟩
        · refine ⟨_, 12, (.bool (!r18)), [(7, .bool (!r15)), (11, .bool (!r18))], rfl, rfl, List.mem_of_getElem? (i := 9) (by kernel_rfl), (srcs_of [some 4, some 8] rfl (by kernel_rfl) (by kernel_rfl)), fun G a w S => ?_⟩
          refine sPickF (b := !r15) (.bool (!r18)) S (wN rfl) rfl (by kernel_rfl) hc17 (by kernel_rfl) rfl (by decide) (fun a S => ?_)
          exact leafL ⟨rfl, S⟩
        · refine ⟨_, 13, (.bool (!r18)), [(12, .bool (!r18))], rfl, rfl, List.mem_of_getElem? (i := 10) (by kernel_rfl), (srcs_of [some 9] rfl (by kernel_rfl) (by kernel_rfl)), fun G a w S => ?_⟩
          refine sMove (.bool (!r18)) S (wN rfl) (.inl rfl) (by kernel_rfl) rfl (by decide) (fun a S => ?_)
          exact leafL ⟨rfl, S⟩
        · refine ⟨_, 14, undef, [(1, .pointer (some ⟨b10, 0, none⟩)), (13, .bool (!r18))], rfl, rfl, List.mem_of_getElem? (i := 11) (by kernel_rfl), (srcs_of [none, some 10] rfl (by kernel_rfl) (by kernel_rfl)), fun G a w S => ?_⟩
          refine sSkip (c := !r18) 10 false 13 14 S rfl rfl (by kernel_rfl) hc20 rfl (by decide) (fun a S => ?_)
          exact leafL ⟨rfl, S⟩
        · refine ⟨_, 15, undef, [(14, undef), (13, .bool (!r18))], rfl, rfl, List.mem_of_getElem? (i := 12) (by kernel_rfl), (srcs_of [some 11, some 10] rfl (by kernel_rfl) (by kernel_rfl)), fun G a w S => ?_⟩
          refine sSkip (c := !r18) 10 false 13 15 S rfl rfl (by kernel_rfl) hc20 rfl (by decide) (fun a S => ?_)
          exact leafL ⟨rfl, S⟩
        · refine ⟨_, 16, undef, [(1, .pointer (some ⟨b10, 0, none⟩)), (13, .bool (!r18))], rfl, rfl, List.mem_of_getElem? (i := 13) (by kernel_rfl), (srcs_of [none, some 10] rfl (by kernel_rfl) (by kernel_rfl)), fun G a w S => ?_⟩
          refine sSkip (c := !r18) 10 false 13 16 S rfl rfl (by kernel_rfl) hc20 rfl (by decide) (fun a S => ?_)
          exact leafL ⟨rfl, S⟩
        · refine ⟨_, 17, undef, [(16, undef), (13, .bool (!r18))], rfl, rfl, List.mem_of_getElem? (i := 14) (by kernel_rfl), (srcs_of [some 13, some 10] rfl (by kernel_rfl) (by kernel_rfl)), fun G a w S => ?_⟩
          refine sSkip (c := !r18) 10 false 13 17 S rfl rfl (by kernel_rfl) hc20 rfl (by decide) (fun a S => ?_)
          exact leafL ⟨rfl, S⟩
        · refine ⟨_, 18, undef, [(17, undef), (13, .bool (!r18))], rfl, rfl, List.mem_of_getElem? (i := 15) (by kernel_rfl), (srcs_of [some 14, some 10] rfl (by kernel_rfl) (by kernel_rfl)), fun G a w S => ?_⟩
          refine sSkip (c := !r18) 10 false 13 18 S rfl rfl (by kernel_rfl) hc20 rfl (by decide) (fun a S => ?_)
          exact leafL ⟨rfl, S⟩
        · refine ⟨_, 19, undef, [(18, undef), (13, .bool (!r18))], rfl, rfl, List.mem_of_getElem? (i := 16) (by kernel_rfl), (srcs_of [some 15, some 10] rfl (by kernel_rfl) (by kernel_rfl)), fun G a w S => ?_⟩
          refine sSkip (c := !r18) 10 false 13 19 S rfl rfl (by kernel_rfl) hc20 rfl (by decide) (fun a S => ?_)
          exact leafL ⟨rfl, S⟩
        · refine ⟨_, 20, undef, [(15, undef), (19, undef), (13, .bool (!r18))], rfl, rfl, List.mem_of_getElem? (i := 17) (by kernel_rfl), (srcs_of [some 12, some 16, some 10] rfl (by kernel_rfl) (by kernel_rfl)), fun G a w S => ?_⟩
          refine sSkip (c := !r18) 10 false 13 20 S rfl rfl (by kernel_rfl) hc20 rfl (by decide) (fun a S => ?_)
          exact leafL ⟨rfl, S⟩
        · refine ⟨_, 21, undef, [(20, undef), (13, .bool (!r18))], rfl, rfl, List.mem_of_getElem? (i := 18) (by kernel_rfl), (srcs_of [some 17, some 10] rfl (by kernel_rfl) (by kernel_rfl)), fun G a w S => ?_⟩
          refine sSkip (c := !r18) 10 false 13 21 S rfl rfl (by kernel_rfl) hc20 rfl (by decide) (fun a S => ?_)
          exact leafL ⟨rfl, S⟩
        · refine ⟨_, 22, undef, [(21, undef), (13, .bool (!r18))], rfl, rfl, List.mem_of_getElem? (i := 19) (by kernel_rfl), (srcs_of [some 18, some 10] rfl (by kernel_rfl) (by kernel_rfl)), fun G a w S => ?_⟩
          refine sSkip (c := !r18) 10 false 13 22 S rfl rfl (by kernel_rfl) hc20 rfl (by decide) (fun a S => ?_)
          exact leafL ⟨rfl, S⟩
        · refine ⟨_, 23, undef, [(1, .pointer (some ⟨b10, 0, none⟩)), (13, .bool (!r18))], rfl, rfl, List.mem_of_getElem? (i := 20) (by kernel_rfl), (srcs_of [none, some 10] rfl (by kernel_rfl) (by kernel_rfl)), fun G a w S => ?_⟩
          refine sSkip (c := !r18) 10 false 13 23 S rfl rfl (by kernel_rfl) hc20 rfl (by decide) (fun a S => ?_)
          exact leafL ⟨rfl, S⟩
        · refine ⟨_, 24, undef, [(23, undef), (13, .bool (!r18))], rfl, rfl, List.mem_of_getElem? (i := 21) (by kernel_rfl), (srcs_of [some 20, some 10] rfl (by kernel_rfl) (by kernel_rfl)), fun G a w S => ?_⟩
          refine sSkip (c := !r18) 10 false 13 24 S rfl rfl (by kernel_rfl) hc20 rfl (by decide) (fun a S => ?_)
          exact leafL ⟨rfl, S⟩
        · refine ⟨_, 25, undef, [(1, .pointer (some ⟨b10, 0, none⟩)), (13, .bool (!r18))], rfl, rfl, List.mem_of_getElem? (i := 22) (by kernel_rfl), (srcs_of [none, some 10] rfl (by kernel_rfl) (by kernel_rfl)), fun G a w S => ?_⟩
          refine sSkip (c := !r18) 10 false 13 25 S rfl rfl (by kernel_rfl) hc20 rfl (by decide) (fun a S => ?_)
          exact leafL ⟨rfl, S⟩
        · refine ⟨_, 26, undef, [(25, undef), (13, .bool (!r18))], rfl, rfl, List.mem_of_getElem? (i := 23) (by kernel_rfl), (srcs_of [some 22, some 10] rfl (by kernel_rfl) (by kernel_rfl)), fun G a w S => ?_⟩
          refine sSkip (c := !r18) 10 false 13 26 S rfl rfl (by kernel_rfl) hc20 rfl (by decide) (fun a S => ?_)
          exact leafL ⟨rfl, S⟩
        · refine ⟨_, 27, undef, [(26, undef), (13, .bool (!r18))], rfl, rfl, List.mem_of_getElem? (i := 24) (by kernel_rfl), (srcs_of [some 23, some 10] rfl (by kernel_rfl) (by kernel_rfl)), fun G a w S => ?_⟩
          refine sSkip (c := !r18) 10 false 13 27 S rfl rfl (by kernel_rfl) hc20 rfl (by decide) (fun a S => ?_)
          exact leafL ⟨rfl, S⟩
        · refine ⟨_, 28, undef, [(27, undef), (13, .bool (!r18))], rfl, rfl, List.mem_of_getElem? (i := 25) (by kernel_rfl), (srcs_of [some 24, some 10] rfl (by kernel_rfl) (by kernel_rfl)), fun G a w S => ?_⟩
          refine sSkip (c := !r18) 10 false 13 28 S rfl rfl (by kernel_rfl) hc20 rfl (by decide) (fun a S => ?_)
          exact leafL ⟨rfl, S⟩
        · refine ⟨_, 29, undef, [(24, undef), (28, undef), (13, .bool (!r18))], rfl, rfl, List.mem_of_getElem? (i := 26) (by kernel_rfl), (srcs_of [some 21, some 25, some 10] rfl (by kernel_rfl) (by kernel_rfl)), fun G a w S => ?_⟩
          refine sSkip (c := !r18) 10 false 13 29 S rfl rfl (by kernel_rfl) hc20 rfl (by decide) (fun a S => ?_)
          exact leafL ⟨rfl, S⟩
        · refine ⟨_, 30, undef, [(29, undef), (13, .bool (!r18))], rfl, rfl, List.mem_of_getElem? (i := 27) (by kernel_rfl), (srcs_of [some 26, some 10] rfl (by kernel_rfl) (by kernel_rfl)), fun G a w S => ?_⟩
          refine sSkip (c := !r18) 10 false 13 30 S rfl rfl (by kernel_rfl) hc20 rfl (by decide) (fun a S => ?_)
          exact leafL ⟨rfl, S⟩
        · refine ⟨_, 31, undef, [(30, undef), (13, .bool (!r18))], rfl, rfl, List.mem_of_getElem? (i := 28) (by kernel_rfl), (srcs_of [some 27, some 10] rfl (by kernel_rfl) (by kernel_rfl)), fun G a w S => ?_⟩
          refine sSkip (c := !r18) 10 false 13 31 S rfl rfl (by kernel_rfl) hc20 rfl (by decide) (fun a S => ?_)
          exact leafL ⟨rfl, S⟩
        · refine ⟨_, 32, undef, [(22, undef), (31, undef), (13, .bool (!r18))], rfl, rfl, List.mem_of_getElem? (i := 29) (by kernel_rfl), (srcs_of [some 19, some 28, some 10] rfl (by kernel_rfl) (by kernel_rfl)), fun G a w S => ?_⟩
          refine sSkip (c := !r18) 10 false 13 32 S rfl rfl (by kernel_rfl) hc20 rfl (by decide) (fun a S => ?_)
          exact leafL ⟨rfl, S⟩
        · refine ⟨_, 33, (.bool true), [(13, .bool (!r18)), (32, undef)], rfl, rfl, List.mem_of_getElem? (i := 30) (by kernel_rfl), (srcs_of [some 10, some 29] rfl (by kernel_rfl) (by kernel_rfl)), fun G a w S => ?_⟩
          refine sPickT (b := !r18) (.bool true) S (wN rfl) rfl (by kernel_rfl) hc20 (by kernel_rfl) rfl (by decide) (fun a S => ?_)
          exact leafL ⟨rfl, S⟩
        · exact leafT (⟨true, Option.some.inj h, S.fix [] [] (by decide) (by kernel_rfl) (by kernel_rfl) (by kernel_rfl)⟩)
      · obtain ⟨x21, hx22, h⟩ := bindSome h
        obtain ⟨x28, hx29, h⟩ := bindSome h
        obtain ⟨q35, hq36, S⟩ := pIdx (P := Try.prog) (r := r_api_Point) (v := .slice ad5 p0.Left.length cp6) (xs := p0.Left) (j := w64 ((p0.Left.length : Int) - 1)) 24 75 1 S Try.underlying24 (by kernel_rfl) (by kernel_rfl) hx22
        obtain ⟨q37, hq38, S⟩ := pFld (P := Try.prog) (r := r_api_Point) (s2 := (rI .i64)) (g := (·.Y)) (q := q35) (z := x21) 75 1 0 1 S (by kernel_rfl) (by kernel_rfl) comp_api_Point_Y
        obtain ⟨u39, S⟩ := pLoad (r := (rI .i64)) (q := q37) (x := x21.Y) 0 S (by kernel_rfl)
        obtain rfl : u39 = .int .i64 x21.Y := S.mem.know (i := 1) (e := fRep (rI .i64) (u39) x21.Y) (by kernel_rfl)
        obtain ⟨q40, hq41, S⟩ := pIdx (P := Try.prog) (r := r_api_Point) (v := .slice ad7 p0.Right.length cp8) (xs := p0.Right) (j := w64 ((p0.Right.length : Int) - 1)) 24 75 4 S Try.underlying24 (by kernel_rfl) (by kernel_rfl) hx29
        obtain ⟨q42, hq43, S⟩ := pFld (P := Try.prog) (r := r_api_Point) (s2 := (rI .i64)) (g := (·.Y)) (q := q40) (z := x28) 75 1 0 1 S (by kernel_rfl) (by kernel_rfl) comp_api_Point_Y
        obtain ⟨u44, S⟩ := pLoad (r := (rI .i64)) (q := q42) (x := x28.Y) 0 S (by kernel_rfl)
        obtain rfl : u44 = .int .i64 x28.Y := S.mem.know (i := 1) (e := fRep (rI .i64) (u44) x28.Y) (by kernel_rfl)
        refine sDraw (nf := []) (W := [(0, 3, .pointer (some ⟨b10, 0, none⟩)), (1, 4, .slice ad5 p0.Left.length cp6), (2, 5, .bool r15), (3, 6, .bool (!r15)), (4, 7, .bool (!r15)), (5, 8, .pointer (some ⟨b10, 1, none⟩)), (6, 9, .slice ad7 p0.Right.length cp8), (7, 10, .bool r18), (8, 11, .bool (!r18)), (9, 12, .bool (!r18)), (10, 13, .bool (!r18)), (11, 14, .pointer (some ⟨b10, 0, none⟩)), (12, 15, .slice ad5 p0.Left.length cp6), (13, 16, .pointer (some ⟨b10, 0, none⟩)), (14, 17, .slice ad5 p0.Left.length cp6), (15, 18, .int .i64 (p0.Left.length : Int)), (16, 19, .int .i64 (w64 ((p0.Left.length : Int) - 1))), (17, 20, q35), (18, 21, q37), (19, 22, .int .i64 x21.Y), (20, 23, .pointer (some ⟨b10, 1, none⟩)), (21, 24, .slice ad7 p0.Right.length cp8), (22, 25, .pointer (some ⟨b10, 1, none⟩)), (23, 26, .slice ad7 p0.Right.length cp8), (24, 27, .int .i64 (p0.Right.length : Int)), (25, 28, .int .i64 (w64 ((p0.Right.length : Int) - 1))), (26, 29, q40), (27, 30, q42), (28, 31, .int .i64 x28.Y), (29, 32, .bool (x21.Y != x28.Y)), (30, 33, .bool (x21.Y != x28.Y))]) (by kernel_rfl) S ?_
        refine node_by (A := [[], [0], [0, 1], [0, 1, 2], [0, 1, 2, 3], [0, 1, 2, 3, 4], [0, 1, 2, 3, 4, 5], [0, 1, 2, 3, 4, 5, 6], [0, 1, 2, 3, 4, 5, 6, 7], [0, 1, 2, 3, 4, 5, 6, 7, 8], [0, 1, 2, 3, 4, 5, 6, 7, 8, 9], [0, 1, 2, 3, 4, 5, 6, 7, 8, 9, 10], [0, 1, 2, 3, 4, 5, 6, 7, 8, 9, 10, 11], [0, 1, 2, 3, 4, 5, 6, 7, 8, 9, 10], [0, 1, 2, 3, 4, 5, 6, 7, 8, 9, 10, 13], [0, 1, 2, 3, 4, 5, 6, 7, 8, 9, 10, 13, 14], [0, 1, 2, 3, 4, 5, 6, 7, 8, 9, 10, 13, 14, 15], [0, 1, 2, 3, 4, 5, 6, 7, 8, 9, 10, 11, 12, 13, 14, 15, 16], [0, 1, 2, 3, 4, 5, 6, 7, 8, 9, 10, 11, 12, 13, 14, 15, 16, 17], [0, 1, 2, 3, 4, 5, 6, 7, 8, 9, 10, 11, 12, 13, 14, 15, 16, 17, 18], [0, 1, 2, 3, 4, 5, 6, 7, 8, 9, 10], [0, 1, 2, 3, 4, 5, 6, 7, 8, 9, 10, 20], [0, 1, 2, 3, 4, 5, 6, 7, 8, 9, 10], [0, 1, 2, 3, 4, 5, 6, 7, 8, 9, 10, 22], [0, 1, 2, 3, 4, 5, 6, 7, 8, 9, 10, 22, 23], [0, 1, 2, 3, 4, 5, 6, 7, 8, 9, 10, 22, 23, 24], [0, 1, 2, 3, 4, 5, 6, 7, 8, 9, 10, 20, 21, 22, 23, 24, 25], [0, 1, 2, 3, 4, 5, 6, 7, 8, 9, 10, 20, 21, 22, 23, 24, 25, 26], [0, 1, 2, 3, 4, 5, 6, 7, 8, 9, 10, 20, 21, 22, 23, 24, 25, 26, 27], [0, 1, 2, 3, 4, 5, 6, 7, 8, 9, 10, 11, 12, 13, 14, 15, 16, 17, 18, 19, 20, 21, 22, 23, 24, 25, 26, 27, 28], [0, 1, 2, 3, 4, 5, 6, 7, 8, 9, 10, 11, 12, 13, 14, 15, 16, 17, 18, 19, 20, 21, 22, 23, 24, 25, 26, 27, 28, 29]]) (nf := []) (Y := []) (W := [(0, 3, .pointer (some ⟨b10, 0, none⟩)), (1, 4, .slice ad5 p0.Left.length cp6), (2, 5, .bool r15), (3, 6, .bool (!r15)), (4, 7, .bool (!r15)), (5, 8, .pointer (some ⟨b10, 1, none⟩)), (6, 9, .slice ad7 p0.Right.length cp8), (7, 10, .bool r18), (8, 11, .bool (!r18)), (9, 12, .bool (!r18)), (10, 13, .bool (!r18)), (11, 14, .pointer (some ⟨b10, 0, none⟩)), (12, 15, .slice ad5 p0.Left.length cp6), (13, 16, .pointer (some ⟨b10, 0, none⟩)), (14, 17, .slice ad5 p0.Left.length cp6), (15, 18, .int .i64 (p0.Left.length : Int)), (16, 19, .int .i64 (w64 ((p0.Left.length : Int) - 1))), (17, 20, q35), (18, 21, q37), (19, 22, .int .i64 x21.Y), (20, 23, .pointer (some ⟨b10, 1, none⟩)), (21, 24, .slice ad7 p0.Right.length cp8), (22, 25, .pointer (some ⟨b10, 1, none⟩)), (23, 26, .slice ad7 p0.Right.length cp8), (24, 27, .int .i64 (p0.Right.length : Int)), (25, 28, .int .i64 (w64 ((p0.Right.length : Int) - 1))), (26, 29, q40), (27, 30, q42), (28, 31, .int .i64 x28.Y), (29, 32, .bool (x21.Y != x28.Y)), (30, 33, .bool (x21.Y != x28.Y))]) 31 (by kernel_rfl) (by kernel_rfl) (by kernel_rfl) (by kernel_rfl) (by kernel_rfl) [0, 1, 2, 3, 4, 5, 6, 7, 8, 9, 10, 11, 12, 13, 14, 15, 16, 17, 18, 19, 20, 21, 22, 23, 24, 25, 26, 27, 28, 29, 30] (by kernel_rfl) (by decide) (by decide) (AllFrom.cons (k := 0) (m := 30) (.inr ⟨by decide, .inr (.inr ?_)⟩) (AllFrom.cons (k := 1) (m := 29) (.inr ⟨by decide, .inr (.inr ?_)⟩) (AllFrom.cons (k := 2) (m := 28) (.inr ⟨by decide, .inr (.inr ?_)⟩) (AllFrom.cons (k := 3) (m := 27) (.inr ⟨by decide, .inr (.inr ?_)⟩) (AllFrom.cons (k := 4) (m := 26) (.inr ⟨by decide, .inr (.inr ?_)⟩) (AllFrom.cons (k := 5) (m := 25) (.inr ⟨by decide, .inr (.inr ?_)⟩) (AllFrom.cons (k := 6) (m := 24) (.inr ⟨by decide, .inr (.inr ?_)⟩) (AllFrom.cons (k := 7) (m := 23) (.inr ⟨by decide, .inr (.inr ?_)⟩) (AllFrom.cons (k := 8) (m := 22) (.inr ⟨by decide, .inr (.inr ?_)⟩) (AllFrom.cons (k := 9) (m := 21) (.inr ⟨by decide, .inr (.inr ?_)⟩) (AllFrom.cons (k := 10) (m := 20) (.inr ⟨by decide, .inr (.inr ?_)⟩) (AllFrom.cons (k := 11) (m := 19) (.inr ⟨by decide, .inr (.inr ?_)⟩) (AllFrom.cons (k := 12) (m := 18) (.inr ⟨by decide, .inr (.inr ?_)⟩) (AllFrom.cons (k := 13) (m := 17) (.inr ⟨by decide, .inr (.inr ?_)⟩) (AllFrom.cons (k := 14) (m := 16) (.inr ⟨by decide, .inr (.inr ?_)⟩) (AllFrom.cons (k := 15) (m := 15) (.inr ⟨by decide, .inr (.inr ?_)⟩) (AllFrom.cons (k := 16) (m := 14) (.inr ⟨by decide, .inr (.inr ?_)⟩) (AllFrom.cons (k := 17) (m := 13) (.inr ⟨by decide, .inr (.inr ?_)⟩) (AllFrom.cons (k := 18) (m := 12) (.inr ⟨by decide, .inr (.inr ?_)⟩) (AllFrom.cons (k := 19) (m := 11) (.inr ⟨by decide, .inr (.inr ?_)⟩) (AllFrom.cons (k := 20) (m := 10) (.inr ⟨by decide, .inr (.inr ?_)⟩) (AllFrom.cons (k := 21) (m := 9) (.inr ⟨by decide, .inr (.inr ?_)⟩) (AllFrom.cons (k := 22) (m := 8) (.inr ⟨by decide, .inr (.inr ?_)⟩) (AllFrom.cons (k := 23) (m := 7) (.inr ⟨by decide, .inr (.inr ?_)⟩) (AllFrom.cons (k := 24) (m := 6) (.inr ⟨by decide, .inr (.inr ?_)⟩) (AllFrom.cons (k := 25) (m := 5) (.inr ⟨by decide, .inr (.inr ?_)⟩) (AllFrom.cons (k := 26) (m := 4) (.inr ⟨by decide, .inr (.inr ?_)⟩) (AllFrom.cons (k := 27) (m := 3) (.inr ⟨by decide, .inr (.inr ?_)⟩) (AllFrom.cons (k := 28) (m := 2) (.inr ⟨by decide, .inr (.inr ?_)⟩) (AllFrom.cons (k := 29) (m := 1) (.inr ⟨by decide, .inr (.inr ?_)⟩) (AllFrom.cons (k := 30) (m := 0) (.inr ⟨by decide, .inr (.inr ?_)⟩) (trivial)))))))))))))))))))))))))))))))) [(33, .bool (x21.Y != x28.Y))] (fin_of [some 30] rfl (by kernel_rfl) (by kernel_rfl)) (fun _ a w S => ?_)
        · refine ⟨_, 3, (.pointer (some ⟨b10, 0, none⟩)), [(1, .pointer (some ⟨b10, 0, none⟩))], rfl, rfl, List.mem_of_getElem? (i := 0) (by kernel_rfl), (srcs_of [none] rfl (by kernel_rfl) (by kernel_rfl)), fun G a w S => ?_⟩
          refine sField (b := b10) (off := 0) 0 0 S (wN rfl) rfl (by kernel_rfl) (by kernel_rfl) rfl rfl (by decide) (fun a S => ?_)
          exact leafL ⟨rfl, S⟩
        · refine ⟨_, 4, (.slice ad5 p0.Left.length cp6), [(3, .pointer (some ⟨b10, 0, none⟩))], rfl, rfl, List.mem_of_getElem? (i := 1) (by kernel_rfl), (srcs_of [some 0] rfl (by kernel_rfl) (by kernel_rfl)), fun G a w S => ?_⟩
          refine sLoad1 (p := b10) (off := 0) (T := 26) (vs := [.slice ad5 p0.Left.length cp6, .slice ad7 p0.Right.length cp8]) 0 (.slice ad5 p0.Left.length cp6) S (wN rfl) rfl (by kernel_rfl) (by kernel_rfl) (by kernel_rfl) rfl rfl (by decide) (fun a S => ?_)
          exact leafL ⟨rfl, S⟩
        · refine ⟨_, 5, (.bool r15), [(4, .slice ad5 p0.Left.length cp6)], rfl, rfl, List.mem_of_getElem? (i := 2) (by kernel_rfl), (srcs_of [some 1] rfl (by kernel_rfl) (by kernel_rfl)), fun G a w S => ?_⟩
          have S1 := S.mem
          refine sCallQ (X := Unit) (f := 49) (vs := [.slice ad5 p0.Left.length cp6]) (val := fun _ => .bool r15) S (wN rfl) rfl callee49 (by kernel_rfl) (S1.quiet [9] (by kernel_rfl)) (fun E1 w1 S1 => c_raddleref37_side E1 w1 p0.Left (.slice ad5 p0.Left.length cp6) r15 hx16 S1) rfl (by decide) (fun _ a w S => ?_)
          exact leafL ⟨rfl, S⟩
        · refine ⟨_, 6, (.bool (!r15)), [(5, .bool r15)], rfl, rfl, List.mem_of_getElem? (i := 3) (by kernel_rfl), (srcs_of [some 2] rfl (by kernel_rfl) (by kernel_rfl)), fun G a w S => ?_⟩
          refine sNot (b := r15) S (wN rfl) rfl (by kernel_rfl) rfl (by decide) (fun a S => ?_)
          exact leafL ⟨rfl, S⟩
        · refine ⟨_, 7, (.bool (!r15)), [(6, .bool (!r15))], rfl, rfl, List.mem_of_getElem? (i := 4) (by kernel_rfl), (srcs_of [some 3] rfl (by kernel_rfl) (by kernel_rfl)), fun G a w S => ?_⟩
          refine sMove (.bool (!r15)) S (wN rfl) (.inl rfl) (by kernel_rfl) rfl (by decide) (fun a S => ?_)
          exact leafL ⟨rfl, S⟩
        · refine ⟨_, 8, (.pointer (some ⟨b10, 1, none⟩)), [(1, .pointer (some ⟨b10, 0, none⟩)), (7, .bool (!r15))], rfl, rfl, List.mem_of_getElem? (i := 5) (by kernel_rfl), (srcs_of [none, some 4] rfl (by kernel_rfl) (by kernel_rfl)), fun G a w S => ?_⟩
          refine sField (b := b10) (off := 0) 1 1 S (wG (c := !r15) 4 false 7 rfl rfl (by kernel_rfl) hc17) rfl (by kernel_rfl) (by kernel_rfl) rfl rfl (by decide) (fun a S => ?_)
          exact leafL ⟨rfl, S⟩
        · refine ⟨_, 9, (.slice ad7 p0.Right.length cp8), [(8, .pointer (some ⟨b10, 1, none⟩)), (7, .bool (!r15))], rfl, rfl, List.mem_of_getElem? (i := 6) (by kernel_rfl), (srcs_of [some 5, some 4] rfl (by kernel_rfl) (by kernel_rfl)), fun G a w S => ?_⟩
          refine sLoad1 (p := b10) (off := 1) (T := 26) (vs := [.slice ad5 p0.Left.length cp6, .slice ad7 p0.Right.length cp8]) 0 (.slice ad7 p0.Right.length cp8) S (wG (c := !r15) 4 false 7 rfl rfl (by kernel_rfl) hc17) rfl (by kernel_rfl) (by kernel_rfl) (by kernel_rfl) rfl rfl (by decide) (fun a S => ?_)
          exact leafL ⟨rfl, S⟩
        · refine ⟨_, 10, (.bool r18), [(9, .slice ad7 p0.Right.length cp8), (7, .bool (!r15))], rfl, rfl, List.mem_of_getElem? (i := 7) (by kernel_rfl), (srcs_of [some 6, some 4] rfl (by kernel_rfl) (by kernel_rfl)), fun G a w S => ?_⟩
          have S1 := S.mem
          refine sCallQ (X := Unit) (f := 49) (vs := [.slice ad7 p0.Right.length cp8]) (val := fun _ => .bool r18) S (wG (c := !r15) 4 false 7 rfl rfl (by kernel_rfl) hc17) rfl callee49 (by kernel_rfl) (S1.quiet [8] (by kernel_rfl)) (fun E1 w1 S1 => c_raddleref37_side E1 w1 p0.Right (.slice ad7 p0.Right.length cp8) r18 hx19 S1) rfl (by decide) (fun _ a w S => ?_)
          exact leafL ⟨rfl, S⟩
        · refine ⟨_, 11, (.bool (!r18)), [(10, .bool r18), (7, .bool (!r15))], rfl, rfl, List.mem_of_getElem? (i := 8) (by kernel_rfl), (srcs_of [some 7, some 4] rfl (by kernel_rfl) (by kernel_rfl)), fun G a w S => ?_⟩
          refine sNot (b := r18) S (wG (c := !r15) 4 false 7 rfl rfl (by kernel_rfl) hc17) rfl (by kernel_rfl) rfl (by decide) (fun a S => ?_)
          exact leafL ⟨rfl, S⟩
        · refine ⟨_, 12, (.bool (!r18)), [(7, .bool (!r15)), (11, .bool (!r18))], rfl, rfl, List.mem_of_getElem? (i := 9) (by kernel_rfl), (srcs_of [some 4, some 8] rfl (by kernel_rfl) (by kernel_rfl)), fun G a w S => ?_⟩
          refine sPickF (b := !r15) (.bool (!r18)) S (wN rfl) rfl (by kernel_rfl) hc17 (by kernel_rfl) rfl (by decide) (fun a S => ?_)
          exact leafL ⟨rfl, S⟩
        · refine ⟨_, 13, (.bool (!r18)), [(12, .bool (!r18))], rfl, rfl, List.mem_of_getElem? (i := 10) (by kernel_rfl), (srcs_of [some 9] rfl (by kernel_rfl) (by kernel_rfl)), fun G a w S => ?_⟩
          refine sMove (.bool (!r18)) S (wN rfl) (.inl rfl) (by kernel_rfl) rfl (by decide) (fun a S => ?_)
          exact leafL ⟨rfl, S⟩
        · refine ⟨_, 14, (.pointer (some ⟨b10, 0, none⟩)), [(1, .pointer (some ⟨b10, 0, none⟩)), (13, .bool (!r18))], rfl, rfl, List.mem_of_getElem? (i := 11) (by kernel_rfl), (srcs_of [none, some 10] rfl (by kernel_rfl) (by kernel_rfl)), fun G a w S => ?_⟩
          refine sField (b := b10) (off := 0) 0 0 S (wG (c := !r18) 10 false 13 rfl rfl (by kernel_rfl) hc20) rfl (by kernel_rfl) (by kernel_rfl) rfl rfl (by decide) (fun a S => ?_)
          exact leafL ⟨rfl, S⟩
        · refine ⟨_, 15, (.slice ad5 p0.Left.length cp6), [(14, .pointer (some ⟨b10, 0, none⟩)), (13, .bool (!r18))], rfl, rfl, List.mem_of_getElem? (i := 12) (by kernel_rfl), (srcs_of [some 11, some 10] rfl (by kernel_rfl) (by kernel_rfl)), fun G a w S => ?_⟩
          refine sLoad1 (p := b10) (off := 0) (T := 26) (vs := [.slice ad5 p0.Left.length cp6, .slice ad7 p0.Right.length cp8]) 0 (.slice ad5 p0.Left.length cp6) S (wG (c := !r18) 10 false 13 rfl rfl (by kernel_rfl) hc20) rfl (by kernel_rfl) (by kernel_rfl) (by kernel_rfl) rfl rfl (by decide) (fun a S => ?_)
          exact leafL ⟨rfl, S⟩
        · refine ⟨_, 16, (.pointer (some ⟨b10, 0, none⟩)), [(1, .pointer (some ⟨b10, 0, none⟩)), (13, .bool (!r18))], rfl, rfl, List.mem_of_getElem? (i := 13) (by kernel_rfl), (srcs_of [none, some 10] rfl (by kernel_rfl) (by kernel_rfl)), fun G a w S => ?_⟩
          refine sField (b := b10) (off := 0) 0 0 S (wG (c := !r18) 10 false 13 rfl rfl (by kernel_rfl) hc20) rfl (by kernel_rfl) (by kernel_rfl) rfl rfl (by decide) (fun a S => ?_)
          exact leafL ⟨rfl, S⟩
        · refine ⟨_, 17, (.slice ad5 p0.Left.length cp6), [(16, .pointer (some ⟨b10, 0, none⟩)), (13, .bool (!r18))], rfl, rfl, List.mem_of_getElem? (i := 14) (by kernel_rfl), (srcs_of [some 13, some 10] rfl (by kernel_rfl) (by kernel_rfl)), fun G a w S => ?_⟩
          refine sLoad1 (p := b10) (off := 0) (T := 26) (vs := [.slice ad5 p0.Left.length cp6, .slice ad7 p0.Right.length cp8]) 0 (.slice ad5 p0.Left.length cp6) S (wG (c := !r18) 10 false 13 rfl rfl (by kernel_rfl) hc20) rfl (by kernel_rfl) (by kernel_rfl) (by kernel_rfl) rfl rfl (by decide) (fun a S => ?_)
          exact leafL ⟨rfl, S⟩
        · refine ⟨_, 18, (.int .i64 (p0.Left.length : Int)), [(17, .slice ad5 p0.Left.length cp6), (13, .bool (!r18))], rfl, rfl, List.mem_of_getElem? (i := 15) (by kernel_rfl), (srcs_of [some 14, some 10] rfl (by kernel_rfl) (by kernel_rfl)), fun G a w S => ?_⟩
          refine sLen (ad := ad5) (m := p0.Left.length) (c := cp6) S (wG (c := !r18) 10 false 13 rfl rfl (by kernel_rfl) hc20) rfl Try.underlying24 (by kernel_rfl) rfl (by decide) (fun a S => ?_)
          exact leafL ⟨rfl, S⟩
        · refine ⟨_, 19, (.int .i64 (w64 ((p0.Left.length : Int) - 1))), [(18, .int .i64 (p0.Left.length : Int)), (13, .bool (!r18))], rfl, rfl, List.mem_of_getElem? (i := 16) (by kernel_rfl), (srcs_of [some 15, some 10] rfl (by kernel_rfl) (by kernel_rfl)), fun G a w S => ?_⟩
          refine sBin (.int .i64 (w64 ((p0.Left.length : Int) - 1))) S (wG (c := !r18) 10 false 13 rfl rfl (by kernel_rfl) hc20) rfl (by kernel_rfl) (by kernel_rfl) (bSub _ _ _ _ (p0.Left.length : Int) 1) rfl (by decide) (fun a S => ?_)
          exact leafL ⟨rfl, S⟩
        · refine ⟨_, 20, q35, [(15, .slice ad5 p0.Left.length cp6), (19, .int .i64 (w64 ((p0.Left.length : Int) - 1))), (13, .bool (!r18))], rfl, rfl, List.mem_of_getElem? (i := 17) (by kernel_rfl), (srcs_of [some 12, some 16, some 10] rfl (by kernel_rfl) (by kernel_rfl)), fun G a w S => ?_⟩
          refine sIdxV (v := .slice ad5 p0.Left.length cp6) (k := .i64) (j := w64 ((p0.Left.length : Int) - 1)) S (wG (c := !r18) 10 false 13 rfl rfl (by kernel_rfl) hc20) rfl (by kernel_rfl) (by kernel_rfl) hq36 rfl (by decide) (fun a S => ?_)
          exact leafL ⟨rfl, S⟩
        · refine ⟨_, 21, q37, [(20, q35), (13, .bool (!r18))], rfl, rfl, List.mem_of_getElem? (i := 18) (by kernel_rfl), (srcs_of [some 17, some 10] rfl (by kernel_rfl) (by kernel_rfl)), fun G a w S => ?_⟩
          refine sFldV (q := q35) S (wG (c := !r18) 10 false 13 rfl rfl (by kernel_rfl) hc20) rfl (by kernel_rfl) hq38 rfl (by decide) (fun a S => ?_)
          exact leafL ⟨rfl, S⟩
        · refine ⟨_, 22, (.int .i64 x21.Y), [(21, q37), (13, .bool (!r18))], rfl, rfl, List.mem_of_getElem? (i := 19) (by kernel_rfl), (srcs_of [some 18, some 10] rfl (by kernel_rfl) (by kernel_rfl)), fun G a w S => ?_⟩
          refine sLoadV1 (vq := q37) 4 (.int .i64 x21.Y) S (wG (c := !r18) 10 false 13 rfl rfl (by kernel_rfl) hc20) rfl (by kernel_rfl) (by kernel_rfl) (by kernel_rfl) rfl (by decide) (fun a S => ?_)
          exact leafL ⟨rfl, S⟩
        · refine ⟨_, 23, (.pointer (some ⟨b10, 1, none⟩)), [(1, .pointer (some ⟨b10, 0, none⟩)), (13, .bool (!r18))], rfl, rfl, List.mem_of_getElem? (i := 20) (by kernel_rfl), (srcs_of [none, some 10] rfl (by kernel_rfl) (by kernel_rfl)), fun G a w S => ?_⟩
          refine sField (b := b10) (off := 0) 1 1 S (wG (c := !r18) 10 false 13 rfl rfl (by kernel_rfl) hc20) rfl (by kernel_rfl) (by kernel_rfl) rfl rfl (by decide) (fun a S => ?_)
          exact leafL ⟨rfl, S⟩
        · refine ⟨_, 24, (.slice ad7 p0.Right.length cp8), [(23, .pointer (some ⟨b10, 1, none⟩)), (13, .bool (!r18))], rfl, rfl, List.mem_of_getElem? (i := 21) (by kernel_rfl), (srcs_of [some 20, some 10] rfl (by kernel_rfl) (by kernel_rfl)), fun G a w S => ?_⟩
          refine sLoad1 (p := b10) (off := 1) (T := 26) (vs := [.slice ad5 p0.Left.length cp6, .slice ad7 p0.Right.length cp8]) 0 (.slice ad7 p0.Right.length cp8) S (wG (c := !r18) 10 false 13 rfl rfl (by kernel_rfl) hc20) rfl (by kernel_rfl) (by kernel_rfl) (by kernel_rfl) rfl rfl (by decide) (fun a S => ?_)
          exact leafL ⟨rfl, S⟩
        · refine ⟨_, 25, (.pointer (some ⟨b10, 1, none⟩)), [(1, .pointer (some ⟨b10, 0, none⟩)), (13, .bool (!r18))], rfl, rfl, List.mem_of_getElem? (i := 22) (by kernel_rfl), (srcs_of [none, some 10] rfl (by kernel_rfl) (by kernel_rfl)), fun G a w S => ?_⟩
          refine sField (b := b10) (off := 0) 1 1 S (wG (c := !r18) 10 false 13 rfl rfl (by kernel_rfl) hc20) rfl (by kernel_rfl) (by kernel_rfl) rfl rfl (by decide) (fun a S => ?_)
          exact leafL ⟨rfl, S⟩
        · refine ⟨_, 26, (.slice ad7 p0.Right.length cp8), [(25, .pointer (some ⟨b10, 1, none⟩)), (13, .bool (!r18))], rfl, rfl, List.mem_of_getElem? (i := 23) (by kernel_rfl), (srcs_of [some 22, some 10] rfl (by kernel_rfl) (by kernel_rfl)), fun G a w S => ?_⟩
          refine sLoad1 (p := b10) (off := 1) (T := 26) (vs := [.slice ad5 p0.Left.length cp6, .slice ad7 p0.Right.length cp8]) 0 (.slice ad7 p0.Right.length cp8) S (wG (c := !r18) 10 false 13 rfl rfl (by kernel_rfl) hc20) rfl (by kernel_rfl) (by kernel_rfl) (by kernel_rfl) rfl rfl (by decide) (fun a S => ?_)
          exact leafL ⟨rfl, S⟩
        · refine ⟨_, 27, (.int .i64 (p0.Right.length : Int)), [(26, .slice ad7 p0.Right.length cp8), (13, .bool (!r18))], rfl, rfl, List.mem_of_getElem? (i := 24) (by kernel_rfl), (srcs_of [some 23, some 10] rfl (by kernel_rfl) (by kernel_rfl)), fun G a w S => ?_⟩
          refine sLen (ad := ad7) (m := p0.Right.length) (c := cp8) S (wG (c := !r18) 10 false 13 rfl rfl (by kernel_rfl) hc20) rfl Try.underlying24 (by kernel_rfl) rfl (by decide) (fun a S => ?_)
          exact leafL ⟨rfl, S⟩
        · refine ⟨_, 28, (.int .i64 (w64 ((p0.Right.length : Int) - 1))), [(27, .int .i64 (p0.Right.length : Int)), (13, .bool (!r18))], rfl, rfl, List.mem_of_getElem? (i := 25) (by kernel_rfl), (srcs_of [some 24, some 10] rfl (by kernel_rfl) (by kernel_rfl)), fun G a w S => ?_⟩
          refine sBin (.int .i64 (w64 ((p0.Right.length : Int) - 1))) S (wG (c := !r18) 10 false 13 rfl rfl (by kernel_rfl) hc20) rfl (by kernel_rfl) (by kernel_rfl) (bSub _ _ _ _ (p0.Right.length : Int) 1) rfl (by decide) (fun a S => ?_)
          exact leafL ⟨rfl, S⟩
        · refine ⟨_, 29, q40, [(24, .slice ad7 p0.Right.length cp8), (28, .int .i64 (w64 ((p0.Right.length : Int) - 1))), (13, .bool (!r18))], rfl, rfl, List.mem_of_getElem? (i := 26) (by kernel_rfl), (srcs_of [some 21, some 25, some 10] rfl (by kernel_rfl) (by kernel_rfl)), fun G a w S => ?_⟩
          refine sIdxV (v := .slice ad7 p0.Right.length cp8) (k := .i64) (j := w64 ((p0.Right.length : Int) - 1)) S (wG (c := !r18) 10 false 13 rfl rfl (by kernel_rfl) hc20) rfl (by kernel_rfl) (by kernel_rfl) hq41 rfl (by decide) (fun a S => ?_)
          exact leafL ⟨rfl, S⟩
        · refine ⟨_, 30, q42, [(29, q40), (13, .bool (!r18))], rfl, rfl, List.mem_of_getElem? (i := 27) (by kernel_rfl), (srcs_of [some 26, some 10] rfl (by kernel_rfl) (by kernel_rfl)), fun G a w S => ?_⟩
          refine sFldV (q := q40) S (wG (c := !r18) 10 false 13 rfl rfl (by kernel_rfl) hc20) rfl (by kernel_rfl) hq43 rfl (by decide) (fun a S => ?_)
          exact leafL ⟨rfl, S⟩
        · refine ⟨_, 31, (.int .i64 x28.Y), [(30, q42), (13, .bool (!r18))], rfl, rfl, List.mem_of_getElem? (i := 28) (by kernel_rfl), (srcs_of [some 27, some 10] rfl (by kernel_rfl) (by kernel_rfl)), fun G a w S => ?_⟩
          refine sLoadV1 (vq := q42) 0 (.int .i64 x28.Y) S (wG (c := !r18) 10 false 13 rfl rfl (by kernel_rfl) hc20) rfl (by kernel_rfl) (by kernel_rfl) (by kernel_rfl) rfl (by decide) (fun a S => ?_)
          exact leafL ⟨rfl, S⟩
        · refine ⟨_, 32, (.bool (x21.Y != x28.Y)), [(22, .int .i64 x21.Y), (31, .int .i64 x28.Y), (13, .bool (!r18))], rfl, rfl, List.mem_of_getElem? (i := 29) (by kernel_rfl), (srcs_of [some 19, some 28, some 10] rfl (by kernel_rfl) (by kernel_rfl)), fun G a w S => ?_⟩
          refine sBin (.bool (x21.Y != x28.Y)) S (wG (c := !r18) 10 false 13 rfl rfl (by kernel_rfl) hc20) rfl (by kernel_rfl) (by kernel_rfl) (bNe _ _ _ _ .i64 x21.Y x28.Y) rfl (by decide) (fun a S => ?_)
          exact leafL ⟨rfl, S⟩
        · refine ⟨_, 33, (.bool (x21.Y != x28.Y)), [(13, .bool (!r18)), (32, .bool (x21.Y != x28.Y))], rfl, rfl, List.mem_of_getElem? (i := 30) (by kernel_rfl), (srcs_of [some 10, some 29] rfl (by kernel_rfl) (by kernel_rfl)), fun G a w S => ?_⟩
          refine sPickF (b := !r18) (.bool (x21.Y != x28.Y)) S (wN rfl) rfl (by kernel_rfl) hc20 (by kernel_rfl) rfl (by decide) (fun a S => ?_)
          exact leafL ⟨rfl, S⟩
        · exact leafT (⟨x21.Y != x28.Y, Option.some.inj h, S.fix [] [] (by decide) (by kernel_rfl) (by kernel_rfl) (by kernel_rfl)⟩)
  · obtain ⟨o12, rfl, S⟩ := hI
    have h := g14
    clear g14
    try dsimp only at h
    rcases iteSome h with ⟨hc45, h⟩ | ⟨hc45, h⟩
    · refine sCondT (b := o12) S (by kernel_rfl) hc45 ?_
      refine sSeq (fun K46 hK46 => ?_)
      refine sRegion ?_
      refine sMove (.int .i64 8) S (wN rfl) (.inr rfl) (by kernel_rfl) rfl (by decide) (fun a S => ?_)
      refine leafL (leafT (hK46 _ _ ?_))
      obtain rfl := Option.some.inj h
      exact wp_ret (rThen (sRet (.int .i64 8) S (rsl1 rfl (rvT (t := 2) (v := .int .i64 8) S (by kernel_rfl))) ⟨(), rfl, S.mem.sel [] [] (by decide) (by kernel_rfl) (by kernel_rfl)⟩))
    · refine sCondF (b := o12) S (by kernel_rfl) hc45 ?_
      refine wp_skip (leafT (hK11 _ _ ?_))
      refine sSeq (fun K47 hK47 => ?_)
      refine sRegion ?_
      refine sMove (.int .i64 0) S (wN rfl) (.inr rfl) (by kernel_rfl) rfl (by decide) (fun a S => ?_)
      refine leafL (leafT (hK47 _ _ ?_))
      obtain rfl := Option.some.inj h
      exact wp_ret (sRet (.int .i64 0) S (rsl1 rfl (rvT (t := 2) (v := .int .i64 0) S (by kernel_rfl))) ⟨(), rfl, S.mem.sel [] [] (by decide) (by kernel_rfl) (by kernel_rfl)⟩)

end Go.Proofs.Ytmedbnjhgkcndaa
