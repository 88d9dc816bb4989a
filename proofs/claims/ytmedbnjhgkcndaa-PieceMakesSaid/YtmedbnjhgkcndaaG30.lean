import Derived.Test.YtmedbnjhgkcndaaGTy
import Derived.Test.YtmedbnjhgkcndaaG49
namespace Go.Proofs.Ytmedbnjhgkcndaa
open Go.RowKit
set_option linter.unusedVariables false

def anc_raddleref37_Shape_0 : List (List Nat) := [[], [0], [0, 1], [0, 1, 2], [0, 1, 2, 3], [0, 1, 2, 3, 4], [0, 1, 2, 3, 4, 5], [0, 1, 2, 3, 4, 5, 6], [0, 1, 2, 3, 4, 5, 6, 7], [0, 1, 2, 3, 4, 5, 6, 7, 8], [0, 1, 2, 3, 4, 5, 6, 7, 8, 9], [0, 1, 2, 3, 4, 5, 6, 7, 8, 9, 10], [0, 1, 2, 3, 4, 5, 6, 7, 8, 9, 10, 11], [0, 1, 2, 3, 4, 5, 6, 7, 8, 9, 10], [0, 1, 2, 3, 4, 5, 6, 7, 8, 9, 10, 13], [0, 1, 2, 3, 4, 5, 6, 7, 8, 9, 10, 13, 14], [0, 1, 2, 3, 4, 5, 6, 7, 8, 9, 10, 13, 14, 15], [0, 1, 2, 3, 4, 5, 6, 7, 8, 9, 10, 11, 12, 13, 14, 15, 16], [0, 1, 2, 3, 4, 5, 6, 7, 8, 9, 10, 11, 12, 13, 14, 15, 16, 17], [0, 1, 2, 3, 4, 5, 6, 7, 8, 9, 10, 11, 12, 13, 14, 15, 16, 17, 18], [0, 1, 2, 3, 4, 5, 6, 7, 8, 9, 10], [0, 1, 2, 3, 4, 5, 6, 7, 8, 9, 10, 20], [0, 1, 2, 3, 4, 5, 6, 7, 8, 9, 10], [0, 1, 2, 3, 4, 5, 6, 7, 8, 9, 10, 22], [0, 1, 2, 3, 4, 5, 6, 7, 8, 9, 10, 22, 23], [0, 1, 2, 3, 4, 5, 6, 7, 8, 9, 10, 22, 23, 24], [0, 1, 2, 3, 4, 5, 6, 7, 8, 9, 10, 20, 21, 22, 23, 24, 25], [0, 1, 2, 3, 4, 5, 6, 7, 8, 9, 10, 20, 21, 22, 23, 24, 25, 26], [0, 1, 2, 3, 4, 5, 6, 7, 8, 9, 10, 20, 21, 22, 23, 24, 25, 26, 27], [0, 1, 2, 3, 4, 5, 6, 7, 8, 9, 10, 11, 12, 13, 14, 15, 16, 17, 18, 19, 20, 21, 22, 23, 24, 25, 26, 27, 28], [0, 1, 2, 3, 4, 5, 6, 7, 8, 9, 10, 11, 12, 13, 14, 15, 16, 17, 18, 19, 20, 21, 22, 23, 24, 25, 26, 27, 28, 29]]
noncomputable def F_raddleref37_Shape (p0 : api_Shape) : Option Int :=
  Option.bind (α := Bool) (
    Option.bind (F_raddleref37_side p0.Left) fun r15 =>
    if !r15 then
      some true
    else
      Option.bind (F_raddleref37_side p0.Right) fun r18 =>
      if !r18 then
        some true
      else
        Option.bind (idxO p0.Left (w64 ((p0.Left.length : Int) - 1))) fun x21 =>
        Option.bind (idxO p0.Right (w64 ((p0.Right.length : Int) - 1))) fun x28 =>
        some (x21.Y != x28.Y)) fun o12 =>
  if o12 then
    some 8
  else
    some 0
set_option maxHeartbeats 4000000 in
set_option maxRecDepth 100000 in
theorem c_raddleref37_Shape (E : Nat → Prop) (w0 : World) (p0 : api_Shape) (v0 : Value) (r : Int) (h : F_raddleref37_Shape p0 = some r) (S : St0 E [] w0 w0 [] [fRep r_api_Shape (v0) p0]) :
    Calls Try.prog 30 #[v0] w0 (Ret (X := Unit) E [] w0 (fun _ => .int .i64 r) (fun _ => []) (fun _ => [])) := by
  unfold F_raddleref37_Shape at h
  obtain ⟨u1, u2, rfl, hu3, hu4⟩ := S.know (i := 0) (e := fRep r_api_Shape (v0) p0) (by kernel_rfl)
  have S := S.learn (fRep (rL r_api_Point) u1 p0.Left) hu3
  obtain ⟨ad5, cp6, _, rfl, _⟩ := hu3
  have S := S.learn (fRep (rL r_api_Point) u2 p0.Right) hu4
  obtain ⟨ad7, cp8, _, rfl, _⟩ := hu4
  refine sEnter (args := [.agg #[.slice ad5 p0.Left.length cp6, .slice ad7 p0.Right.length cp8]]) 34 Try.func30 rfl rfl (by simp) S (fun a S => ?_)
  refine sSeq (fun K9 hK9 => ?_)
  refine sRegion ?_
  refine sBox (v := .agg #[.slice ad5 p0.Left.length cp6, .slice ad7 p0.Right.length cp8]) S (wN rfl) rfl (by kernel_rfl) [.slice ad5 p0.Left.length cp6, .slice ad7 p0.Right.length cp8] rfl rfl (by decide) (fun a b10 w S => ?_)
  refine sMove (.int .i64 0) S (wN rfl) (.inr rfl) (by kernel_rfl) rfl (by decide) (fun a S => ?_)
  refine leafL (leafT (hK9 _ _ ?_))
  refine sSeq (fun K11 hK11 => ?_)
  obtain ⟨t13, h, g14⟩ := bindSome h
  refine sCut (fun a w => ∃ o12, o12 = t13 ∧ St E [] w0 34 a w [(33, .bool o12)] [] []) ?_ (fun a w hI => ?_)
  · obtain ⟨r15, hx16, h⟩ := bindSome h
    rcases iteSome h with ⟨hc17, h⟩ | ⟨hc17, h⟩
    · refine sDraw (nf := []) (W := [(0, 3, .pointer (some ⟨b10, 0, none⟩)), (1, 4, .slice ad5 p0.Left.length cp6), (2, 5, .bool r15), (3, 6, .bool (!r15)), (4, 7, .bool (!r15)), (5, 8, undef), (6, 9, undef), (7, 10, undef), (8, 11, undef), (9, 12, .bool true), (10, 13, .bool true), (11, 14, undef), (12, 15, undef), (13, 16, undef), (14, 17, undef), (15, 18, undef), (16, 19, undef), (17, 20, undef), (18, 21, undef), (19, 22, undef), (20, 23, undef), (21, 24, undef), (22, 25, undef), (23, 26, undef), (24, 27, undef), (25, 28, undef), (26, 29, undef), (27, 30, undef), (28, 31, undef), (29, 32, undef), (30, 33, .bool true)]) (by kernel_rfl) S ?_
      refine node_by (A := anc_raddleref37_Shape_0) (nf := []) (Y := []) (W := [(0, 3, .pointer (some ⟨b10, 0, none⟩)), (1, 4, .slice ad5 p0.Left.length cp6), (2, 5, .bool r15), (3, 6, .bool (!r15)), (4, 7, .bool (!r15)), (5, 8, undef), (6, 9, undef), (7, 10, undef), (8, 11, undef), (9, 12, .bool true), (10, 13, .bool true), (11, 14, undef), (12, 15, undef), (13, 16, undef), (14, 17, undef), (15, 18, undef), (16, 19, undef), (17, 20, undef), (18, 21, undef), (19, 22, undef), (20, 23, undef), (21, 24, undef), (22, 25, undef), (23, 26, undef), (24, 27, undef), (25, 28, undef), (26, 29, undef), (27, 30, undef), (28, 31, undef), (29, 32, undef), (30, 33, .bool true)]) 31 (by kernel_rfl) (by kernel_rfl) (by kernel_rfl) (by kernel_rfl) (by kernel_rfl) [0, 1, 2, 3, 4, 5, 6, 7, 8, 9, 10, 11, 12, 13, 14, 15, 16, 17, 18, 19, 20, 21, 22, 23, 24, 25, 26, 27, 28, 29, 30] (by kernel_rfl) (by decide) (by decide) (aF 0 30 (by decide) ?_ (aF 1 29 (by decide) ?_ (aF 2 28 (by decide) ?_ (aF 3 27 (by decide) ?_ (aF 4 26 (by decide) ?_ (aF 5 25 (by decide) ?_ (aF 6 24 (by decide) ?_ (aF 7 23 (by decide) ?_ (aF 8 22 (by decide) ?_ (aF 9 21 (by decide) ?_ (aF 10 20 (by decide) ?_ (aF 11 19 (by decide) ?_ (aF 12 18 (by decide) ?_ (aF 13 17 (by decide) ?_ (aF 14 16 (by decide) ?_ (aF 15 15 (by decide) ?_ (aF 16 14 (by decide) ?_ (aF 17 13 (by decide) ?_ (aF 18 12 (by decide) ?_ (aF 19 11 (by decide) ?_ (aF 20 10 (by decide) ?_ (aF 21 9 (by decide) ?_ (aF 22 8 (by decide) ?_ (aF 23 7 (by decide) ?_ (aF 24 6 (by decide) ?_ (aF 25 5 (by decide) ?_ (aF 26 4 (by decide) ?_ (aF 27 3 (by decide) ?_ (aF 28 2 (by decide) ?_ (aF 29 1 (by decide) ?_ (aF 30 0 (by decide) ?_ (trivial)))))))))))))))))))))))))))))))) [(33, .bool true)] (fin_of [some 30] rfl (by kernel_rfl) (by kernel_rfl)) (fun _ a w S => ?_)
      · refine fI 3 (.pointer (some ⟨b10, 0, none⟩)) [(1, .pointer (some ⟨b10, 0, none⟩))] 0 [none] rfl rfl (by kernel_rfl) rfl (by kernel_rfl) (by kernel_rfl) fun G a w S => ?_
        refine sField (b := b10) (off := 0) 0 0 S (wN rfl) rfl (by kernel_rfl) (by kernel_rfl) rfl rfl (by decide) (fun a S => ?_)
        exact leafL ⟨rfl, S⟩
      · refine fI 4 (.slice ad5 p0.Left.length cp6) [(3, .pointer (some ⟨b10, 0, none⟩))] 1 [some 0] rfl rfl (by kernel_rfl) rfl (by kernel_rfl) (by kernel_rfl) fun G a w S => ?_
        refine sLoad1 (p := b10) (off := 0) (T := 26) (vs := [.slice ad5 p0.Left.length cp6, .slice ad7 p0.Right.length cp8]) 0 (.slice ad5 p0.Left.length cp6) S (wN rfl) rfl (by kernel_rfl) (by kernel_rfl) (by kernel_rfl) rfl rfl (by decide) (fun a S => ?_)
        exact leafL ⟨rfl, S⟩
      · refine fI 5 (.bool r15) [(4, .slice ad5 p0.Left.length cp6)] 2 [some 1] rfl rfl (by kernel_rfl) rfl (by kernel_rfl) (by kernel_rfl) fun G a w S => ?_
        have S1 := S.mem
        refine sCallQ (X := Unit) (f := 49) (vs := [.slice ad5 p0.Left.length cp6]) (val := fun _ => .bool r15) S (wN rfl) rfl callee49 (by kernel_rfl) (S1.quiet [1] (by kernel_rfl)) (fun E1 w1 S1 => c_raddleref37_side E1 w1 p0.Left (.slice ad5 p0.Left.length cp6) r15 hx16 S1) rfl (by decide) (fun _ a w S => ?_)
        exact leafL ⟨rfl, S⟩
      · refine fI 6 (.bool (!r15)) [(5, .bool r15)] 3 [some 2] rfl rfl (by kernel_rfl) rfl (by kernel_rfl) (by kernel_rfl) fun G a w S => ?_
        refine sNot (b := r15) S (wN rfl) rfl (by kernel_rfl) rfl (by decide) (fun a S => ?_)
        exact leafL ⟨rfl, S⟩
      · refine fI 7 (.bool (!r15)) [(6, .bool (!r15))] 4 [some 3] rfl rfl (by kernel_rfl) rfl (by kernel_rfl) (by kernel_rfl) fun G a w S => ?_
        refine sMove (.bool (!r15)) S (wN rfl) (.inl rfl) (by kernel_rfl) rfl (by decide) (fun a S => ?_)
        exact leafL ⟨rfl, S⟩
      · refine fI 8 undef [(1, .pointer (some ⟨b10, 0, none⟩)), (7, .bool (!r15))] 5 [none, some 4] rfl rfl (by kernel_rfl) rfl (by kernel_rfl) (by kernel_rfl) fun G a w S => ?_
        refine sSkip (c := !r15) 4 false 7 8 S rfl rfl (by kernel_rfl) hc17 rfl (by decide) (fun a S => ?_)
        exact leafL ⟨rfl, S⟩
      · refine fI 9 undef [(8, undef), (7, .bool (!r15))] 6 [some 5, some 4] rfl rfl (by kernel_rfl) rfl (by kernel_rfl) (by kernel_rfl) fun G a w S => ?_
        refine sSkip (c := !r15) 4 false 7 9 S rfl rfl (by kernel_rfl) hc17 rfl (by decide) (fun a S => ?_)
        exact leafL ⟨rfl, S⟩
      · refine fI 10 undef [(9, undef), (7, .bool (!r15))] 7 [some 6, some 4] rfl rfl (by kernel_rfl) rfl (by kernel_rfl) (by kernel_rfl) fun G a w S => ?_
        refine sSkip (c := !r15) 4 false 7 10 S rfl rfl (by kernel_rfl) hc17 rfl (by decide) (fun a S => ?_)
        exact leafL ⟨rfl, S⟩
      · refine fI 11 undef [(10, undef), (7, .bool (!r15))] 8 [some 7, some 4] rfl rfl (by kernel_rfl) rfl (by kernel_rfl) (by kernel_rfl) fun G a w S => ?_
        refine sSkip (c := !r15) 4 false 7 11 S rfl rfl (by kernel_rfl) hc17 rfl (by decide) (fun a S => ?_)
        exact leafL ⟨rfl, S⟩
      · refine fI 12 (.bool true) [(7, .bool (!r15)), (11, undef)] 9 [some 4, some 8] rfl rfl (by kernel_rfl) rfl (by kernel_rfl) (by kernel_rfl) fun G a w S => ?_
        refine sPickT (b := !r15) (.bool true) S (wN rfl) rfl (by kernel_rfl) hc17 (by kernel_rfl) rfl (by decide) (fun a S => ?_)
        exact leafL ⟨rfl, S⟩
      · refine fI 13 (.bool true) [(12, .bool true)] 10 [some 9] rfl rfl (by kernel_rfl) rfl (by kernel_rfl) (by kernel_rfl) fun G a w S => ?_
        refine sMove (.bool true) S (wN rfl) (.inl rfl) (by kernel_rfl) rfl (by decide) (fun a S => ?_)
        exact leafL ⟨rfl, S⟩
      · refine fI 14 undef [(1, .pointer (some ⟨b10, 0, none⟩)), (13, .bool true)] 11 [none, some 10] rfl rfl (by kernel_rfl) rfl (by kernel_rfl) (by kernel_rfl) fun G a w S => ?_
        refine sSkip (c := true) 10 false 13 14 S rfl rfl (by kernel_rfl) rfl rfl (by decide) (fun a S => ?_)
        exact leafL ⟨rfl, S⟩
      · refine fI 15 undef [(14, undef), (13, .bool true)] 12 [some 11, some 10] rfl rfl (by kernel_rfl) rfl (by kernel_rfl) (by kernel_rfl) fun G a w S => ?_
        refine sSkip (c := true) 10 false 13 15 S rfl rfl (by kernel_rfl) rfl rfl (by decide) (fun a S => ?_)
        exact leafL ⟨rfl, S⟩
      · refine fI 16 undef [(1, .pointer (some ⟨b10, 0, none⟩)), (13, .bool true)] 13 [none, some 10] rfl rfl (by kernel_rfl) rfl (by kernel_rfl) (by kernel_rfl) fun G a w S => ?_
        refine sSkip (c := true) 10 false 13 16 S rfl rfl (by kernel_rfl) rfl rfl (by decide) (fun a S => ?_)
        exact leafL ⟨rfl, S⟩
      · refine fI 17 undef [(16, undef), (13, .bool true)] 14 [some 13, some 10] rfl rfl (by kernel_rfl) rfl (by kernel_rfl) (by kernel_rfl) fun G a w S => ?_
        refine sSkip (c := true) 10 false 13 17 S rfl rfl (by kernel_rfl) rfl rfl (by decide) (fun a S => ?_)
        exact leafL ⟨rfl, S⟩
      · refine fI 18 undef [(17, undef), (13, .bool true)] 15 [some 14, some 10] rfl rfl (by kernel_rfl) rfl (by kernel_rfl) (by kernel_rfl) fun G a w S => ?_
        refine sSkip (c := true) 10 false 13 18 S rfl rfl (by kernel_rfl) rfl rfl (by decide) (fun a S => ?_)
        exact leafL ⟨rfl, S⟩
      · refine fI 19 undef [(18, undef), (13, .bool true)] 16 [some 15, some 10] rfl rfl (by kernel_rfl) rfl (by kernel_rfl) (by kernel_rfl) fun G a w S => ?_
        refine sSkip (c := true) 10 false 13 19 S rfl rfl (by kernel_rfl) rfl rfl (by decide) (fun a S => ?_)
        exact leafL ⟨rfl, S⟩
      · refine fI 20 undef [(15, undef), (19, undef), (13, .bool true)] 17 [some 12, some 16, some 10] rfl rfl (by kernel_rfl) rfl (by kernel_rfl) (by kernel_rfl) fun G a w S => ?_
        refine sSkip (c := true) 10 false 13 20 S rfl rfl (by kernel_rfl) rfl rfl (by decide) (fun a S => ?_)
        exact leafL ⟨rfl, S⟩
      · refine fI 21 undef [(20, undef), (13, .bool true)] 18 [some 17, some 10] rfl rfl (by kernel_rfl) rfl (by kernel_rfl) (by kernel_rfl) fun G a w S => ?_
        refine sSkip (c := true) 10 false 13 21 S rfl rfl (by kernel_rfl) rfl rfl (by decide) (fun a S => ?_)
        exact leafL ⟨rfl, S⟩
      · refine fI 22 undef [(21, undef), (13, .bool true)] 19 [some 18, some 10] rfl rfl (by kernel_rfl) rfl (by kernel_rfl) (by kernel_rfl) fun G a w S => ?_
        refine sSkip (c := true) 10 false 13 22 S rfl rfl (by kernel_rfl) rfl rfl (by decide) (fun a S => ?_)
        exact leafL ⟨rfl, S⟩
      · refine fI 23 undef [(1, .pointer (some ⟨b10, 0, none⟩)), (13, .bool true)] 20 [none, some 10] rfl rfl (by kernel_rfl) rfl (by kernel_rfl) (by kernel_rfl) fun G a w S => ?_
        refine sSkip (c := true) 10 false 13 23 S rfl rfl (by kernel_rfl) rfl rfl (by decide) (fun a S => ?_)
        exact leafL ⟨rfl, S⟩
      · refine fI 24 undef [(23, undef), (13, .bool true)] 21 [some 20, some 10] rfl rfl (by kernel_rfl) rfl (by kernel_rfl) (by kernel_rfl) fun G a w S => ?_
        refine sSkip (c := true) 10 false 13 24 S rfl rfl (by kernel_rfl) rfl rfl (by decide) (fun a S => ?_)
        exact leafL ⟨rfl, S⟩
      · refine fI 25 undef [(1, .pointer (some ⟨b10, 0, none⟩)), (13, .bool true)] 22 [none, some 10] rfl rfl (by kernel_rfl) rfl (by kernel_rfl) (by kernel_rfl) fun G a w S => ?_
        refine sSkip (c := true) 10 false 13 25 S rfl rfl (by kernel_rfl) rfl rfl (by decide) (fun a S => ?_)
        exact leafL ⟨rfl, S⟩
      · refine fI 26 undef [(25, undef), (13, .bool true)] 23 [some 22, some 10] rfl rfl (by kernel_rfl) rfl (by kernel_rfl) (by kernel_rfl) fun G a w S => ?_
        refine sSkip (c := true) 10 false 13 26 S rfl rfl (by kernel_rfl) rfl rfl (by decide) (fun a S => ?_)
        exact leafL ⟨rfl, S⟩
      · refine fI 27 undef [(26, undef), (13, .bool true)] 24 [some 23, some 10] rfl rfl (by kernel_rfl) rfl (by kernel_rfl) (by kernel_rfl) fun G a w S => ?_
        refine sSkip (c := true) 10 false 13 27 S rfl rfl (by kernel_rfl) rfl rfl (by decide) (fun a S => ?_)
        exact leafL ⟨rfl, S⟩
      · refine fI 28 undef [(27, undef), (13, .bool true)] 25 [some 24, some 10] rfl rfl (by kernel_rfl) rfl (by kernel_rfl) (by kernel_rfl) fun G a w S => ?_
        refine sSkip (c := true) 10 false 13 28 S rfl rfl (by kernel_rfl) rfl rfl (by decide) (fun a S => ?_)
        exact leafL ⟨rfl, S⟩
      · refine fI 29 undef [(24, undef), (28, undef), (13, .bool true)] 26 [some 21, some 25, some 10] rfl rfl (by kernel_rfl) rfl (by kernel_rfl) (by kernel_rfl) fun G a w S => ?_
        refine sSkip (c := true) 10 false 13 29 S rfl rfl (by kernel_rfl) rfl rfl (by decide) (fun a S => ?_)
        exact leafL ⟨rfl, S⟩
      · refine fI 30 undef [(29, undef), (13, .bool true)] 27 [some 26, some 10] rfl rfl (by kernel_rfl) rfl (by kernel_rfl) (by kernel_rfl) fun G a w S => ?_
        refine sSkip (c := true) 10 false 13 30 S rfl rfl (by kernel_rfl) rfl rfl (by decide) (fun a S => ?_)
        exact leafL ⟨rfl, S⟩
      · refine fI 31 undef [(30, undef), (13, .bool true)] 28 [some 27, some 10] rfl rfl (by kernel_rfl) rfl (by kernel_rfl) (by kernel_rfl) fun G a w S => ?_
        refine sSkip (c := true) 10 false 13 31 S rfl rfl (by kernel_rfl) rfl rfl (by decide) (fun a S => ?_)
        exact leafL ⟨rfl, S⟩
      · refine fI 32 undef [(22, undef), (31, undef), (13, .bool true)] 29 [some 19, some 28, some 10] rfl rfl (by kernel_rfl) rfl (by kernel_rfl) (by kernel_rfl) fun G a w S => ?_
        refine sSkip (c := true) 10 false 13 32 S rfl rfl (by kernel_rfl) rfl rfl (by decide) (fun a S => ?_)
        exact leafL ⟨rfl, S⟩
      · refine fI 33 (.bool true) [(13, .bool true), (32, undef)] 30 [some 10, some 29] rfl rfl (by kernel_rfl) rfl (by kernel_rfl) (by kernel_rfl) fun G a w S => ?_
        refine sPickT (b := true) (.bool true) S (wN rfl) rfl (by kernel_rfl) rfl (by kernel_rfl) rfl (by decide) (fun a S => ?_)
        exact leafL ⟨rfl, S⟩
      · exact leafT (⟨true, Option.some.inj h, S.fix [] [] (by decide) (by kernel_rfl) (by kernel_rfl) (by kernel_rfl)⟩)
    · obtain ⟨r18, hx19, h⟩ := bindSome h
      rcases iteSome h with ⟨hc20, h⟩ | ⟨hc20, h⟩
      · refine sDraw (nf := []) (W := [(0, 3, .pointer (some ⟨b10, 0, none⟩)), (1, 4, .slice ad5 p0.Left.length cp6), (2, 5, .bool r15), (3, 6, .bool (!r15)), (4, 7, .bool (!r15)), (5, 8, .pointer (some ⟨b10, 1, none⟩)), (6, 9, .slice ad7 p0.Right.length cp8), (7, 10, .bool r18), (8, 11, .bool (!r18)), (9, 12, .bool (!r18)), (10, 13, .bool (!r18)), (11, 14, undef), (12, 15, undef), (13, 16, undef), (14, 17, undef), (15, 18, undef), (16, 19, undef), (17, 20, undef), (18, 21, undef), (19, 22, undef), (20, 23, undef), (21, 24, undef), (22, 25, undef), (23, 26, undef), (24, 27, undef), (25, 28, undef), (26, 29, undef), (27, 30, undef), (28, 31, undef), (29, 32, undef), (30, 33, .bool true)]) (by kernel_rfl) S ?_
        refine node_by (A := anc_raddleref37_Shape_0) (nf := []) (Y := []) (W := [(0, 3, .pointer (some ⟨b10, 0, none⟩)), (1, 4, .slice ad5 p0.Left.length cp6), (2, 5, .bool r15), (3, 6, .bool (!r15)), (4, 7, .bool (!r15)), (5, 8, .pointer (some ⟨b10, 1, none⟩)), (6, 9, .slice ad7 p0.Right.length cp8), (7, 10, .bool r18), (8, 11, .bool (!r18)), (9, 12, .bool (!r18)), (10, 13, .bool (!r18)), (11, 14, undef), (12, 15, undef), (13, 16, undef), (14, 17, undef), (15, 18, undef), (16, 19, undef), (17, 20, undef), (18, 21, undef), (19, 22, undef), (20, 23, undef), (21, 24, undef), (22, 25, undef), (23, 26, undef), (24, 27, undef), (25, 28, undef), (26, 29, undef), (27, 30, undef), (28, 31, undef), (29, 32, undef), (30, 33, .bool true)]) 31 (by kernel_rfl) (by kernel_rfl) (by kernel_rfl) (by kernel_rfl) (by kernel_rfl) [0, 1, 2, 3, 4, 5, 6, 7, 8, 9, 10, 11, 12, 13, 14, 15, 16, 17, 18, 19, 20, 21, 22, 23, 24, 25, 26, 27, 28, 29, 30] (by kernel_rfl) (by decide) (by decide) (aF 0 30 (by decide) ?_ (aF 1 29 (by decide) ?_ (aF 2 28 (by decide) ?_ (aF 3 27 (by decide) ?_ (aF 4 26 (by decide) ?_ (aF 5 25 (by decide) ?_ (aF 6 24 (by decide) ?_ (aF 7 23 (by decide) ?_ (aF 8 22 (by decide) ?_ (aF 9 21 (by decide) ?_ (aF 10 20 (by decide) ?_ (aF 11 19 (by decide) ?_ (aF 12 18 (by decide) ?_ (aF 13 17 (by decide) ?_ (aF 14 16 (by decide) ?_ (aF 15 15 (by decide) ?_ (aF 16 14 (by decide) ?_ (aF 17 13 (by decide) ?_ (aF 18 12 (by decide) ?_ (aF 19 11 (by decide) ?_ (aF 20 10 (by decide) ?_ (aF 21 9 (by decide) ?_ (aF 22 8 (by decide) ?_ (aF 23 7 (by decide) ?_ (aF 24 6 (by decide) ?_ (aF 25 5 (by decide) ?_ (aF 26 4 (by decide) ?_ (aF 27 3 (by decide) ?_ (aF 28 2 (by decide) ?_ (aF 29 1 (by decide) ?_ (aF 30 0 (by decide) ?_ (trivial)))))))))))))))))))))))))))))))) [(33, .bool true)] (fin_of [some 30] rfl (by kernel_rfl) (by kernel_rfl)) (fun _ a w S => ?_)
        · refine fI 3 (.pointer (some ⟨b10, 0, none⟩)) [(1, .pointer (some ⟨b10, 0, none⟩))] 0 [none] rfl rfl (by kernel_rfl) rfl (by kernel_rfl) (by kernel_rfl) fun G a w S => ?_
          refine sField (b := b10) (off := 0) 0 0 S (wN rfl) rfl (by kernel_rfl) (by kernel_rfl) rfl rfl (by decide) (fun a S => ?_)
          exact leafL ⟨rfl, S⟩
        · refine fI 4 (.slice ad5 p0.Left.length cp6) [(3, .pointer (some ⟨b10, 0, none⟩))] 1 [some 0] rfl rfl (by kernel_rfl) rfl (by kernel_rfl) (by kernel_rfl) fun G a w S => ?_
          refine sLoad1 (p := b10) (off := 0) (T := 26) (vs := [.slice ad5 p0.Left.length cp6, .slice ad7 p0.Right.length cp8]) 0 (.slice ad5 p0.Left.length cp6) S (wN rfl) rfl (by kernel_rfl) (by kernel_rfl) (by kernel_rfl) rfl rfl (by decide) (fun a S => ?_)
          exact leafL ⟨rfl, S⟩
        · refine fI 5 (.bool r15) [(4, .slice ad5 p0.Left.length cp6)] 2 [some 1] rfl rfl (by kernel_rfl) rfl (by kernel_rfl) (by kernel_rfl) fun G a w S => ?_
          have S1 := S.mem
          refine sCallQ (X := Unit) (f := 49) (vs := [.slice ad5 p0.Left.length cp6]) (val := fun _ => .bool r15) S (wN rfl) rfl callee49 (by kernel_rfl) (S1.quiet [1] (by kernel_rfl)) (fun E1 w1 S1 => c_raddleref37_side E1 w1 p0.Left (.slice ad5 p0.Left.length cp6) r15 hx16 S1) rfl (by decide) (fun _ a w S => ?_)
          exact leafL ⟨rfl, S⟩
        · refine fI 6 (.bool (!r15)) [(5, .bool r15)] 3 [some 2] rfl rfl (by kernel_rfl) rfl (by kernel_rfl) (by kernel_rfl) fun G a w S => ?_
          refine sNot (b := r15) S (wN rfl) rfl (by kernel_rfl) rfl (by decide) (fun a S => ?_)
          exact leafL ⟨rfl, S⟩
        · refine fI 7 (.bool (!r15)) [(6, .bool (!r15))] 4 [some 3] rfl rfl (by kernel_rfl) rfl (by kernel_rfl) (by kernel_rfl) fun G a w S => ?_
          refine sMove (.bool (!r15)) S (wN rfl) (.inl rfl) (by kernel_rfl) rfl (by decide) (fun a S => ?_)
          exact leafL ⟨rfl, S⟩
        · refine fI 8 (.pointer (some ⟨b10, 1, none⟩)) [(1, .pointer (some ⟨b10, 0, none⟩)), (7, .bool (!r15))] 5 [none, some 4] rfl rfl (by kernel_rfl) rfl (by kernel_rfl) (by kernel_rfl) fun G a w S => ?_
          refine sField (b := b10) (off := 0) 1 1 S (wG (c := !r15) 4 false 7 rfl rfl (by kernel_rfl) hc17) rfl (by kernel_rfl) (by kernel_rfl) rfl rfl (by decide) (fun a S => ?_)
          exact leafL ⟨rfl, S⟩
        · refine fI 9 (.slice ad7 p0.Right.length cp8) [(8, .pointer (some ⟨b10, 1, none⟩)), (7, .bool (!r15))] 6 [some 5, some 4] rfl rfl (by kernel_rfl) rfl (by kernel_rfl) (by kernel_rfl) fun G a w S => ?_
          refine sLoad1 (p := b10) (off := 1) (T := 26) (vs := [.slice ad5 p0.Left.length cp6, .slice ad7 p0.Right.length cp8]) 0 (.slice ad7 p0.Right.length cp8) S (wG (c := !r15) 4 false 7 rfl rfl (by kernel_rfl) hc17) rfl (by kernel_rfl) (by kernel_rfl) (by kernel_rfl) rfl rfl (by decide) (fun a S => ?_)
          exact leafL ⟨rfl, S⟩
        · refine fI 10 (.bool r18) [(9, .slice ad7 p0.Right.length cp8), (7, .bool (!r15))] 7 [some 6, some 4] rfl rfl (by kernel_rfl) rfl (by kernel_rfl) (by kernel_rfl) fun G a w S => ?_
          have S1 := S.mem
          refine sCallQ (X := Unit) (f := 49) (vs := [.slice ad7 p0.Right.length cp8]) (val := fun _ => .bool r18) S (wG (c := !r15) 4 false 7 rfl rfl (by kernel_rfl) hc17) rfl callee49 (by kernel_rfl) (S1.quiet [0] (by kernel_rfl)) (fun E1 w1 S1 => c_raddleref37_side E1 w1 p0.Right (.slice ad7 p0.Right.length cp8) r18 hx19 S1) rfl (by decide) (fun _ a w S => ?_)
          exact leafL ⟨rfl, S⟩
        · refine fI 11 (.bool (!r18)) [(10, .bool r18), (7, .bool (!r15))] 8 [some 7, some 4] rfl rfl (by kernel_rfl) rfl (by kernel_rfl) (by kernel_rfl) fun G a w S => ?_
          refine sNot (b := r18) S (wG (c := !r15) 4 false 7 rfl rfl (by kernel_rfl) hc17) rfl (by kernel_rfl) rfl (by decide) (fun a S => ?_)
          exact leafL ⟨rfl, S⟩
        · refine fI 12 (.bool (!r18)) [(7, .bool (!r15)), (11, .bool (!r18))] 9 [some 4, some 8] rfl rfl (by kernel_rfl) rfl (by kernel_rfl) (by kernel_rfl) fun G a w S => ?_
          refine sPickF (b := !r15) (.bool (!r18)) S (wN rfl) rfl (by kernel_rfl) hc17 (by kernel_rfl) rfl (by decide) (fun a S => ?_)
          exact leafL ⟨rfl, S⟩
        · refine fI 13 (.bool (!r18)) [(12, .bool (!r18))] 10 [some 9] rfl rfl (by kernel_rfl) rfl (by kernel_rfl) (by kernel_rfl) fun G a w S => ?_
          refine sMove (.bool (!r18)) S (wN rfl) (.inl rfl) (by kernel_rfl) rfl (by decide) (fun a S => ?_)
          exact leafL ⟨rfl, S⟩
        · refine fI 14 undef [(1, .pointer (some ⟨b10, 0, none⟩)), (13, .bool (!r18))] 11 [none, some 10] rfl rfl (by kernel_rfl) rfl (by kernel_rfl) (by kernel_rfl) fun G a w S => ?_
          refine sSkip (c := !r18) 10 false 13 14 S rfl rfl (by kernel_rfl) hc20 rfl (by decide) (fun a S => ?_)
          exact leafL ⟨rfl, S⟩
        · refine fI 15 undef [(14, undef), (13, .bool (!r18))] 12 [some 11, some 10] rfl rfl (by kernel_rfl) rfl (by kernel_rfl) (by kernel_rfl) fun G a w S => ?_
          refine sSkip (c := !r18) 10 false 13 15 S rfl rfl (by kernel_rfl) hc20 rfl (by decide) (fun a S => ?_)
          exact leafL ⟨rfl, S⟩
        · refine fI 16 undef [(1, .pointer (some ⟨b10, 0, none⟩)), (13, .bool (!r18))] 13 [none, some 10] rfl rfl (by kernel_rfl) rfl (by kernel_rfl) (by kernel_rfl) fun G a w S => ?_
          refine sSkip (c := !r18) 10 false 13 16 S rfl rfl (by kernel_rfl) hc20 rfl (by decide) (fun a S => ?_)
          exact leafL ⟨rfl, S⟩
        · refine fI 17 undef [(16, undef), (13, .bool (!r18))] 14 [some 13, some 10] rfl rfl (by kernel_rfl) rfl (by kernel_rfl) (by kernel_rfl) fun G a w S => ?_
          refine sSkip (c := !r18) 10 false 13 17 S rfl rfl (by kernel_rfl) hc20 rfl (by decide) (fun a S => ?_)
          exact leafL ⟨rfl, S⟩
        · refine fI 18 undef [(17, undef), (13, .bool (!r18))] 15 [some 14, some 10] rfl rfl (by kernel_rfl) rfl (by kernel_rfl) (by kernel_rfl) fun G a w S => ?_
          refine sSkip (c := !r18) 10 false 13 18 S rfl rfl (by kernel_rfl) hc20 rfl (by decide) (fun a S => ?_)
          exact leafL ⟨rfl, S⟩
        · refine fI 19 undef [(18, undef), (13, .bool (!r18))] 16 [some 15, some 10] rfl rfl (by kernel_rfl) rfl (by kernel_rfl) (by kernel_rfl) fun G a w S => ?_
          refine sSkip (c := !r18) 10 false 13 19 S rfl rfl (by kernel_rfl) hc20 rfl (by decide) (fun a S => ?_)
          exact leafL ⟨rfl, S⟩
        · refine fI 20 undef [(15, undef), (19, undef), (13, .bool (!r18))] 17 [some 12, some 16, some 10] rfl rfl (by kernel_rfl) rfl (by kernel_rfl) (by kernel_rfl) fun G a w S => ?_
          refine sSkip (c := !r18) 10 false 13 20 S rfl rfl (by kernel_rfl) hc20 rfl (by decide) (fun a S => ?_)
          exact leafL ⟨rfl, S⟩
        · refine fI 21 undef [(20, undef), (13, .bool (!r18))] 18 [some 17, some 10] rfl rfl (by kernel_rfl) rfl (by kernel_rfl) (by kernel_rfl) fun G a w S => ?_
          refine sSkip (c := !r18) 10 false 13 21 S rfl rfl (by kernel_rfl) hc20 rfl (by decide) (fun a S => ?_)
          exact leafL ⟨rfl, S⟩
        · refine fI 22 undef [(21, undef), (13, .bool (!r18))] 19 [some 18, some 10] rfl rfl (by kernel_rfl) rfl (by kernel_rfl) (by kernel_rfl) fun G a w S => ?_
          refine sSkip (c := !r18) 10 false 13 22 S rfl rfl (by kernel_rfl) hc20 rfl (by decide) (fun a S => ?_)
          exact leafL ⟨rfl, S⟩
        · refine fI 23 undef [(1, .pointer (some ⟨b10, 0, none⟩)), (13, .bool (!r18))] 20 [none, some 10] rfl rfl (by kernel_rfl) rfl (by kernel_rfl) (by kernel_rfl) fun G a w S => ?_
          refine sSkip (c := !r18) 10 false 13 23 S rfl rfl (by kernel_rfl) hc20 rfl (by decide) (fun a S => ?_)
          exact leafL ⟨rfl, S⟩
        · refine fI 24 undef [(23, undef), (13, .bool (!r18))] 21 [some 20, some 10] rfl rfl (by kernel_rfl) rfl (by kernel_rfl) (by kernel_rfl) fun G a w S => ?_
          refine sSkip (c := !r18) 10 false 13 24 S rfl rfl (by kernel_rfl) hc20 rfl (by decide) (fun a S => ?_)
          exact leafL ⟨rfl, S⟩
        · refine fI 25 undef [(1, .pointer (some ⟨b10, 0, none⟩)), (13, .bool (!r18))] 22 [none, some 10] rfl rfl (by kernel_rfl) rfl (by kernel_rfl) (by kernel_rfl) fun G a w S => ?_
          refine sSkip (c := !r18) 10 false 13 25 S rfl rfl (by kernel_rfl) hc20 rfl (by decide) (fun a S => ?_)
          exact leafL ⟨rfl, S⟩
        · refine fI 26 undef [(25, undef), (13, .bool (!r18))] 23 [some 22, some 10] rfl rfl (by kernel_rfl) rfl (by kernel_rfl) (by kernel_rfl) fun G a w S => ?_
          refine sSkip (c := !r18) 10 false 13 26 S rfl rfl (by kernel_rfl) hc20 rfl (by decide) (fun a S => ?_)
          exact leafL ⟨rfl, S⟩
        · refine fI 27 undef [(26, undef), (13, .bool (!r18))] 24 [some 23, some 10] rfl rfl (by kernel_rfl) rfl (by kernel_rfl) (by kernel_rfl) fun G a w S => ?_
          refine sSkip (c := !r18) 10 false 13 27 S rfl rfl (by kernel_rfl) hc20 rfl (by decide) (fun a S => ?_)
          exact leafL ⟨rfl, S⟩
        · refine fI 28 undef [(27, undef), (13, .bool (!r18))] 25 [some 24, some 10] rfl rfl (by kernel_rfl) rfl (by kernel_rfl) (by kernel_rfl) fun G a w S => ?_
          refine sSkip (c := !r18) 10 false 13 28 S rfl rfl (by kernel_rfl) hc20 rfl (by decide) (fun a S => ?_)
          exact leafL ⟨rfl, S⟩
        · refine fI 29 undef [(24, undef), (28, undef), (13, .bool (!r18))] 26 [some 21, some 25, some 10] rfl rfl (by kernel_rfl) rfl (by kernel_rfl) (by kernel_rfl) fun G a w S => ?_
          refine sSkip (c := !r18) 10 false 13 29 S rfl rfl (by kernel_rfl) hc20 rfl (by decide) (fun a S => ?_)
          exact leafL ⟨rfl, S⟩
        · refine fI 30 undef [(29, undef), (13, .bool (!r18))] 27 [some 26, some 10] rfl rfl (by kernel_rfl) rfl (by kernel_rfl) (by kernel_rfl) fun G a w S => ?_
          refine sSkip (c := !r18) 10 false 13 30 S rfl rfl (by kernel_rfl) hc20 rfl (by decide) (fun a S => ?_)
          exact leafL ⟨rfl, S⟩
        · refine fI 31 undef [(30, undef), (13, .bool (!r18))] 28 [some 27, some 10] rfl rfl (by kernel_rfl) rfl (by kernel_rfl) (by kernel_rfl) fun G a w S => ?_
          refine sSkip (c := !r18) 10 false 13 31 S rfl rfl (by kernel_rfl) hc20 rfl (by decide) (fun a S => ?_)
          exact leafL ⟨rfl, S⟩
        · refine fI 32 undef [(22, undef), (31, undef), (13, .bool (!r18))] 29 [some 19, some 28, some 10] rfl rfl (by kernel_rfl) rfl (by kernel_rfl) (by kernel_rfl) fun G a w S => ?_
          refine sSkip (c := !r18) 10 false 13 32 S rfl rfl (by kernel_rfl) hc20 rfl (by decide) (fun a S => ?_)
          exact leafL ⟨rfl, S⟩
        · refine fI 33 (.bool true) [(13, .bool (!r18)), (32, undef)] 30 [some 10, some 29] rfl rfl (by kernel_rfl) rfl (by kernel_rfl) (by kernel_rfl) fun G a w S => ?_
          refine sPickT (b := !r18) (.bool true) S (wN rfl) rfl (by kernel_rfl) hc20 (by kernel_rfl) rfl (by decide) (fun a S => ?_)
          exact leafL ⟨rfl, S⟩
        · exact leafT (⟨true, Option.some.inj h, S.fix [] [] (by decide) (by kernel_rfl) (by kernel_rfl) (by kernel_rfl)⟩)
      · obtain ⟨x21, hx22, h⟩ := bindSome h
        obtain ⟨x28, hx29, h⟩ := bindSome h
        obtain ⟨q35, hq36, S⟩ := pIdx (P := Try.prog) (r := r_api_Point) (v := .slice ad5 p0.Left.length cp6) (xs := p0.Left) (j := w64 ((p0.Left.length : Int) - 1)) 24 75 1 S Try.underlying24 (by kernel_rfl) (by kernel_rfl) hx22
        obtain ⟨q37, hq38, S⟩ := pFld (P := Try.prog) (r := r_api_Point) (s2 := (rI .i64)) (g := (·.Y)) (q := q35) (z := x21) 75 1 0 1 S (by kernel_rfl) (by kernel_rfl) comp_api_Point_Y
        obtain ⟨u39, S⟩ := pLoad (r := (rI .i64)) (q := q37) (x := x21.Y) 0 S (by kernel_rfl)
        obtain rfl : u39 = .int .i64 x21.Y := S.mem.know (i := 1) (e := fRep (rI .i64) (u39) x21.Y) (by kernel_rfl)
        obtain ⟨q40, hq41, S⟩ := pIdx (P := Try.prog) (r := r_api_Point) (v := .slice ad7 p0.Right.length cp8) (xs := p0.Right) (j := w64 ((p0.Right.length : Int) - 1)) 24 75 4 S Try.underlying24 (by kernel_rfl) (by kernel_rfl) hx29
        obtain ⟨q42, hq43, S⟩ := pFld (P := Try.prog) (r := r_api_Point) (s2 := (rI .i64)) (g := (·.Y)) (q := q40) (z := x28) 75 1 0 1 S (by kernel_rfl) (by kernel_rfl) comp_api_Point_Y
        obtain ⟨u44, S⟩ := pLoad (r := (rI .i64)) (q := q42) (x := x28.Y) 0 S (by kernel_rfl)
        obtain rfl : u44 = .int .i64 x28.Y := S.mem.know (i := 1) (e := fRep (rI .i64) (u44) x28.Y) (by kernel_rfl)
        refine sDraw (nf := []) (W := [(0, 3, .pointer (some ⟨b10, 0, none⟩)), (1, 4, .slice ad5 p0.Left.length cp6), (2, 5, .bool r15), (3, 6, .bool (!r15)), (4, 7, .bool (!r15)), (5, 8, .pointer (some ⟨b10, 1, none⟩)), (6, 9, .slice ad7 p0.Right.length cp8), (7, 10, .bool r18), (8, 11, .bool (!r18)), (9, 12, .bool (!r18)), (10, 13, .bool (!r18)), (11, 14, .pointer (some ⟨b10, 0, none⟩)), (12, 15, .slice ad5 p0.Left.length cp6), (13, 16, .pointer (some ⟨b10, 0, none⟩)), (14, 17, .slice ad5 p0.Left.length cp6), (15, 18, .int .i64 (p0.Left.length : Int)), (16, 19, .int .i64 (w64 ((p0.Left.length : Int) - 1))), (17, 20, q35), (18, 21, q37), (19, 22, .int .i64 x21.Y), (20, 23, .pointer (some ⟨b10, 1, none⟩)), (21, 24, .slice ad7 p0.Right.length cp8), (22, 25, .pointer (some ⟨b10, 1, none⟩)), (23, 26, .slice ad7 p0.Right.length cp8), (24, 27, .int .i64 (p0.Right.length : Int)), (25, 28, .int .i64 (w64 ((p0.Right.length : Int) - 1))), (26, 29, q40), (27, 30, q42), (28, 31, .int .i64 x28.Y), (29, 32, .bool (x21.Y != x28.Y)), (30, 33, .bool (x21.Y != x28.Y))]) (by kernel_rfl) S ?_
        refine node_by (A := anc_raddleref37_Shape_0) (nf := []) (Y := []) (W := [(0, 3, .pointer (some ⟨b10, 0, none⟩)), (1, 4, .slice ad5 p0.Left.length cp6), (2, 5, .bool r15), (3, 6, .bool (!r15)), (4, 7, .bool (!r15)), (5, 8, .pointer (some ⟨b10, 1, none⟩)), (6, 9, .slice ad7 p0.Right.length cp8), (7, 10, .bool r18), (8, 11, .bool (!r18)), (9, 12, .bool (!r18)), (10, 13, .bool (!r18)), (11, 14, .pointer (some ⟨b10, 0, none⟩)), (12, 15, .slice ad5 p0.Left.length cp6), (13, 16, .pointer (some ⟨b10, 0, none⟩)), (14, 17, .slice ad5 p0.Left.length cp6), (15, 18, .int .i64 (p0.Left.length : Int)), (16, 19, .int .i64 (w64 ((p0.Left.length : Int) - 1))), (17, 20, q35), (18, 21, q37), (19, 22, .int .i64 x21.Y), (20, 23, .pointer (some ⟨b10, 1, none⟩)), (21, 24, .slice ad7 p0.Right.length cp8), (22, 25, .pointer (some ⟨b10, 1, none⟩)), (23, 26, .slice ad7 p0.Right.length cp8), (24, 27, .int .i64 (p0.Right.length : Int)), (25, 28, .int .i64 (w64 ((p0.Right.length : Int) - 1))), (26, 29, q40), (27, 30, q42), (28, 31, .int .i64 x28.Y), (29, 32, .bool (x21.Y != x28.Y)), (30, 33, .bool (x21.Y != x28.Y))]) 31 (by kernel_rfl) (by kernel_rfl) (by kernel_rfl) (by kernel_rfl) (by kernel_rfl) [0, 1, 2, 3, 4, 5, 6, 7, 8, 9, 10, 11, 12, 13, 14, 15, 16, 17, 18, 19, 20, 21, 22, 23, 24, 25, 26, 27, 28, 29, 30] (by kernel_rfl) (by decide) (by decide) (aF 0 30 (by decide) ?_ (aF 1 29 (by decide) ?_ (aF 2 28 (by decide) ?_ (aF 3 27 (by decide) ?_ (aF 4 26 (by decide) ?_ (aF 5 25 (by decide) ?_ (aF 6 24 (by decide) ?_ (aF 7 23 (by decide) ?_ (aF 8 22 (by decide) ?_ (aF 9 21 (by decide) ?_ (aF 10 20 (by decide) ?_ (aF 11 19 (by decide) ?_ (aF 12 18 (by decide) ?_ (aF 13 17 (by decide) ?_ (aF 14 16 (by decide) ?_ (aF 15 15 (by decide) ?_ (aF 16 14 (by decide) ?_ (aF 17 13 (by decide) ?_ (aF 18 12 (by decide) ?_ (aF 19 11 (by decide) ?_ (aF 20 10 (by decide) ?_ (aF 21 9 (by decide) ?_ (aF 22 8 (by decide) ?_ (aF 23 7 (by decide) ?_ (aF 24 6 (by decide) ?_ (aF 25 5 (by decide) ?_ (aF 26 4 (by decide) ?_ (aF 27 3 (by decide) ?_ (aF 28 2 (by decide) ?_ (aF 29 1 (by decide) ?_ (aF 30 0 (by decide) ?_ (trivial)))))))))))))))))))))))))))))))) [(33, .bool (x21.Y != x28.Y))] (fin_of [some 30] rfl (by kernel_rfl) (by kernel_rfl)) (fun _ a w S => ?_)
        · refine fI 3 (.pointer (some ⟨b10, 0, none⟩)) [(1, .pointer (some ⟨b10, 0, none⟩))] 0 [none] rfl rfl (by kernel_rfl) rfl (by kernel_rfl) (by kernel_rfl) fun G a w S => ?_
          refine sField (b := b10) (off := 0) 0 0 S (wN rfl) rfl (by kernel_rfl) (by kernel_rfl) rfl rfl (by decide) (fun a S => ?_)
          exact leafL ⟨rfl, S⟩
        · refine fI 4 (.slice ad5 p0.Left.length cp6) [(3, .pointer (some ⟨b10, 0, none⟩))] 1 [some 0] rfl rfl (by kernel_rfl) rfl (by kernel_rfl) (by kernel_rfl) fun G a w S => ?_
          refine sLoad1 (p := b10) (off := 0) (T := 26) (vs := [.slice ad5 p0.Left.length cp6, .slice ad7 p0.Right.length cp8]) 0 (.slice ad5 p0.Left.length cp6) S (wN rfl) rfl (by kernel_rfl) (by kernel_rfl) (by kernel_rfl) rfl rfl (by decide) (fun a S => ?_)
          exact leafL ⟨rfl, S⟩
        · refine fI 5 (.bool r15) [(4, .slice ad5 p0.Left.length cp6)] 2 [some 1] rfl rfl (by kernel_rfl) rfl (by kernel_rfl) (by kernel_rfl) fun G a w S => ?_
          have S1 := S.mem
          refine sCallQ (X := Unit) (f := 49) (vs := [.slice ad5 p0.Left.length cp6]) (val := fun _ => .bool r15) S (wN rfl) rfl callee49 (by kernel_rfl) (S1.quiet [9] (by kernel_rfl)) (fun E1 w1 S1 => c_raddleref37_side E1 w1 p0.Left (.slice ad5 p0.Left.length cp6) r15 hx16 S1) rfl (by decide) (fun _ a w S => ?_)
          exact leafL ⟨rfl, S⟩
        · refine fI 6 (.bool (!r15)) [(5, .bool r15)] 3 [some 2] rfl rfl (by kernel_rfl) rfl (by kernel_rfl) (by kernel_rfl) fun G a w S => ?_
          refine sNot (b := r15) S (wN rfl) rfl (by kernel_rfl) rfl (by decide) (fun a S => ?_)
          exact leafL ⟨rfl, S⟩
        · refine fI 7 (.bool (!r15)) [(6, .bool (!r15))] 4 [some 3] rfl rfl (by kernel_rfl) rfl (by kernel_rfl) (by kernel_rfl) fun G a w S => ?_
          refine sMove (.bool (!r15)) S (wN rfl) (.inl rfl) (by kernel_rfl) rfl (by decide) (fun a S => ?_)
          exact leafL ⟨rfl, S⟩
        · refine fI 8 (.pointer (some ⟨b10, 1, none⟩)) [(1, .pointer (some ⟨b10, 0, none⟩)), (7, .bool (!r15))] 5 [none, some 4] rfl rfl (by kernel_rfl) rfl (by kernel_rfl) (by kernel_rfl) fun G a w S => ?_
          refine sField (b := b10) (off := 0) 1 1 S (wG (c := !r15) 4 false 7 rfl rfl (by kernel_rfl) hc17) rfl (by kernel_rfl) (by kernel_rfl) rfl rfl (by decide) (fun a S => ?_)
          exact leafL ⟨rfl, S⟩
        · refine fI 9 (.slice ad7 p0.Right.length cp8) [(8, .pointer (some ⟨b10, 1, none⟩)), (7, .bool (!r15))] 6 [some 5, some 4] rfl rfl (by kernel_rfl) rfl (by kernel_rfl) (by kernel_rfl) fun G a w S => ?_
          refine sLoad1 (p := b10) (off := 1) (T := 26) (vs := [.slice ad5 p0.Left.length cp6, .slice ad7 p0.Right.length cp8]) 0 (.slice ad7 p0.Right.length cp8) S (wG (c := !r15) 4 false 7 rfl rfl (by kernel_rfl) hc17) rfl (by kernel_rfl) (by kernel_rfl) (by kernel_rfl) rfl rfl (by decide) (fun a S => ?_)
          exact leafL ⟨rfl, S⟩
        · refine fI 10 (.bool r18) [(9, .slice ad7 p0.Right.length cp8), (7, .bool (!r15))] 7 [some 6, some 4] rfl rfl (by kernel_rfl) rfl (by kernel_rfl) (by kernel_rfl) fun G a w S => ?_
          have S1 := S.mem
          refine sCallQ (X := Unit) (f := 49) (vs := [.slice ad7 p0.Right.length cp8]) (val := fun _ => .bool r18) S (wG (c := !r15) 4 false 7 rfl rfl (by kernel_rfl) hc17) rfl callee49 (by kernel_rfl) (S1.quiet [8] (by kernel_rfl)) (fun E1 w1 S1 => c_raddleref37_side E1 w1 p0.Right (.slice ad7 p0.Right.length cp8) r18 hx19 S1) rfl (by decide) (fun _ a w S => ?_)
          exact leafL ⟨rfl, S⟩
        · refine fI 11 (.bool (!r18)) [(10, .bool r18), (7, .bool (!r15))] 8 [some 7, some 4] rfl rfl (by kernel_rfl) rfl (by kernel_rfl) (by kernel_rfl) fun G a w S => ?_
          refine sNot (b := r18) S (wG (c := !r15) 4 false 7 rfl rfl (by kernel_rfl) hc17) rfl (by kernel_rfl) rfl (by decide) (fun a S => ?_)
          exact leafL ⟨rfl, S⟩
        · refine fI 12 (.bool (!r18)) [(7, .bool (!r15)), (11, .bool (!r18))] 9 [some 4, some 8] rfl rfl (by kernel_rfl) rfl (by kernel_rfl) (by kernel_rfl) fun G a w S => ?_
          refine sPickF (b := !r15) (.bool (!r18)) S (wN rfl) rfl (by kernel_rfl) hc17 (by kernel_rfl) rfl (by decide) (fun a S => ?_)
          exact leafL ⟨rfl, S⟩
        · refine fI 13 (.bool (!r18)) [(12, .bool (!r18))] 10 [some 9] rfl rfl (by kernel_rfl) rfl (by kernel_rfl) (by kernel_rfl) fun G a w S => ?_
          refine sMove (.bool (!r18)) S (wN rfl) (.inl rfl) (by kernel_rfl) rfl (by decide) (fun a S => ?_)
          exact leafL ⟨rfl, S⟩
        · refine fI 14 (.pointer (some ⟨b10, 0, none⟩)) [(1, .pointer (some ⟨b10, 0, none⟩)), (13, .bool (!r18))] 11 [none, some 10] rfl rfl (by kernel_rfl) rfl (by kernel_rfl) (by kernel_rfl) fun G a w S => ?_
          refine sField (b := b10) (off := 0) 0 0 S (wG (c := !r18) 10 false 13 rfl rfl (by kernel_rfl) hc20) rfl (by kernel_rfl) (by kernel_rfl) rfl rfl (by decide) (fun a S => ?_)
          exact leafL ⟨rfl, S⟩
        · refine fI 15 (.slice ad5 p0.Left.length cp6) [(14, .pointer (some ⟨b10, 0, none⟩)), (13, .bool (!r18))] 12 [some 11, some 10] rfl rfl (by kernel_rfl) rfl (by kernel_rfl) (by kernel_rfl) fun G a w S => ?_
          refine sLoad1 (p := b10) (off := 0) (T := 26) (vs := [.slice ad5 p0.Left.length cp6, .slice ad7 p0.Right.length cp8]) 0 (.slice ad5 p0.Left.length cp6) S (wG (c := !r18) 10 false 13 rfl rfl (by kernel_rfl) hc20) rfl (by kernel_rfl) (by kernel_rfl) (by kernel_rfl) rfl rfl (by decide) (fun a S => ?_)
          exact leafL ⟨rfl, S⟩
        · refine fI 16 (.pointer (some ⟨b10, 0, none⟩)) [(1, .pointer (some ⟨b10, 0, none⟩)), (13, .bool (!r18))] 13 [none, some 10] rfl rfl (by kernel_rfl) rfl (by kernel_rfl) (by kernel_rfl) fun G a w S => ?_
          refine sField (b := b10) (off := 0) 0 0 S (wG (c := !r18) 10 false 13 rfl rfl (by kernel_rfl) hc20) rfl (by kernel_rfl) (by kernel_rfl) rfl rfl (by decide) (fun a S => ?_)
          exact leafL ⟨rfl, S⟩
        · refine fI 17 (.slice ad5 p0.Left.length cp6) [(16, .pointer (some ⟨b10, 0, none⟩)), (13, .bool (!r18))] 14 [some 13, some 10] rfl rfl (by kernel_rfl) rfl (by kernel_rfl) (by kernel_rfl) fun G a w S => ?_
          refine sLoad1 (p := b10) (off := 0) (T := 26) (vs := [.slice ad5 p0.Left.length cp6, .slice ad7 p0.Right.length cp8]) 0 (.slice ad5 p0.Left.length cp6) S (wG (c := !r18) 10 false 13 rfl rfl (by kernel_rfl) hc20) rfl (by kernel_rfl) (by kernel_rfl) (by kernel_rfl) rfl rfl (by decide) (fun a S => ?_)
          exact leafL ⟨rfl, S⟩
        · refine fI 18 (.int .i64 (p0.Left.length : Int)) [(17, .slice ad5 p0.Left.length cp6), (13, .bool (!r18))] 15 [some 14, some 10] rfl rfl (by kernel_rfl) rfl (by kernel_rfl) (by kernel_rfl) fun G a w S => ?_
          refine sLen (ad := ad5) (m := p0.Left.length) (c := cp6) S (wG (c := !r18) 10 false 13 rfl rfl (by kernel_rfl) hc20) rfl Try.underlying24 (by kernel_rfl) rfl (by decide) (fun a S => ?_)
          exact leafL ⟨rfl, S⟩
        · refine fI 19 (.int .i64 (w64 ((p0.Left.length : Int) - 1))) [(18, .int .i64 (p0.Left.length : Int)), (13, .bool (!r18))] 16 [some 15, some 10] rfl rfl (by kernel_rfl) rfl (by kernel_rfl) (by kernel_rfl) fun G a w S => ?_
          refine sBin (.int .i64 (w64 ((p0.Left.length : Int) - 1))) S (wG (c := !r18) 10 false 13 rfl rfl (by kernel_rfl) hc20) rfl (by kernel_rfl) (by kernel_rfl) (bSub _ _ _ _ (p0.Left.length : Int) 1) rfl (by decide) (fun a S => ?_)
          exact leafL ⟨rfl, S⟩
        · refine fI 20 q35 [(15, .slice ad5 p0.Left.length cp6), (19, .int .i64 (w64 ((p0.Left.length : Int) - 1))), (13, .bool (!r18))] 17 [some 12, some 16, some 10] rfl rfl (by kernel_rfl) rfl (by kernel_rfl) (by kernel_rfl) fun G a w S => ?_
          refine sIdxV (v := .slice ad5 p0.Left.length cp6) (k := .i64) (j := w64 ((p0.Left.length : Int) - 1)) S (wG (c := !r18) 10 false 13 rfl rfl (by kernel_rfl) hc20) rfl (by kernel_rfl) (by kernel_rfl) hq36 rfl (by decide) (fun a S => ?_)
          exact leafL ⟨rfl, S⟩
        · refine fI 21 q37 [(20, q35), (13, .bool (!r18))] 18 [some 17, some 10] rfl rfl (by kernel_rfl) rfl (by kernel_rfl) (by kernel_rfl) fun G a w S => ?_
          refine sFldV (q := q35) S (wG (c := !r18) 10 false 13 rfl rfl (by kernel_rfl) hc20) rfl (by kernel_rfl) hq38 rfl (by decide) (fun a S => ?_)
          exact leafL ⟨rfl, S⟩
        · refine fI 22 (.int .i64 x21.Y) [(21, q37), (13, .bool (!r18))] 19 [some 18, some 10] rfl rfl (by kernel_rfl) rfl (by kernel_rfl) (by kernel_rfl) fun G a w S => ?_
          refine sLoadV1 (vq := q37) 4 (.int .i64 x21.Y) S (wG (c := !r18) 10 false 13 rfl rfl (by kernel_rfl) hc20) rfl (by kernel_rfl) (by kernel_rfl) (by kernel_rfl) rfl (by decide) (fun a S => ?_)
          exact leafL ⟨rfl, S⟩
        · refine fI 23 (.pointer (some ⟨b10, 1, none⟩)) [(1, .pointer (some ⟨b10, 0, none⟩)), (13, .bool (!r18))] 20 [none, some 10] rfl rfl (by kernel_rfl) rfl (by kernel_rfl) (by kernel_rfl) fun G a w S => ?_
          refine sField (b := b10) (off := 0) 1 1 S (wG (c := !r18) 10 false 13 rfl rfl (by kernel_rfl) hc20) rfl (by kernel_rfl) (by kernel_rfl) rfl rfl (by decide) (fun a S => ?_)
          exact leafL ⟨rfl, S⟩
        · refine fI 24 (.slice ad7 p0.Right.length cp8) [(23, .pointer (some ⟨b10, 1, none⟩)), (13, .bool (!r18))] 21 [some 20, some 10] rfl rfl (by kernel_rfl) rfl (by kernel_rfl) (by kernel_rfl) fun G a w S => ?_
          refine sLoad1 (p := b10) (off := 1) (T := 26) (vs := [.slice ad5 p0.Left.length cp6, .slice ad7 p0.Right.length cp8]) 0 (.slice ad7 p0.Right.length cp8) S (wG (c := !r18) 10 false 13 rfl rfl (by kernel_rfl) hc20) rfl (by kernel_rfl) (by kernel_rfl) (by kernel_rfl) rfl rfl (by decide) (fun a S => ?_)
          exact leafL ⟨rfl, S⟩
        · refine fI 25 (.pointer (some ⟨b10, 1, none⟩)) [(1, .pointer (some ⟨b10, 0, none⟩)), (13, .bool (!r18))] 22 [none, some 10] rfl rfl (by kernel_rfl) rfl (by kernel_rfl) (by kernel_rfl) fun G a w S => ?_
          refine sField (b := b10) (off := 0) 1 1 S (wG (c := !r18) 10 false 13 rfl rfl (by kernel_rfl) hc20) rfl (by kernel_rfl) (by kernel_rfl) rfl rfl (by decide) (fun a S => ?_)
          exact leafL ⟨rfl, S⟩
        · refine fI 26 (.slice ad7 p0.Right.length cp8) [(25, .pointer (some ⟨b10, 1, none⟩)), (13, .bool (!r18))] 23 [some 22, some 10] rfl rfl (by kernel_rfl) rfl (by kernel_rfl) (by kernel_rfl) fun G a w S => ?_
          refine sLoad1 (p := b10) (off := 1) (T := 26) (vs := [.slice ad5 p0.Left.length cp6, .slice ad7 p0.Right.length cp8]) 0 (.slice ad7 p0.Right.length cp8) S (wG (c := !r18) 10 false 13 rfl rfl (by kernel_rfl) hc20) rfl (by kernel_rfl) (by kernel_rfl) (by kernel_rfl) rfl rfl (by decide) (fun a S => ?_)
          exact leafL ⟨rfl, S⟩
        · refine fI 27 (.int .i64 (p0.Right.length : Int)) [(26, .slice ad7 p0.Right.length cp8), (13, .bool (!r18))] 24 [some 23, some 10] rfl rfl (by kernel_rfl) rfl (by kernel_rfl) (by kernel_rfl) fun G a w S => ?_
          refine sLen (ad := ad7) (m := p0.Right.length) (c := cp8) S (wG (c := !r18) 10 false 13 rfl rfl (by kernel_rfl) hc20) rfl Try.underlying24 (by kernel_rfl) rfl (by decide) (fun a S => ?_)
          exact leafL ⟨rfl, S⟩
        · refine fI 28 (.int .i64 (w64 ((p0.Right.length : Int) - 1))) [(27, .int .i64 (p0.Right.length : Int)), (13, .bool (!r18))] 25 [some 24, some 10] rfl rfl (by kernel_rfl) rfl (by kernel_rfl) (by kernel_rfl) fun G a w S => ?_
          refine sBin (.int .i64 (w64 ((p0.Right.length : Int) - 1))) S (wG (c := !r18) 10 false 13 rfl rfl (by kernel_rfl) hc20) rfl (by kernel_rfl) (by kernel_rfl) (bSub _ _ _ _ (p0.Right.length : Int) 1) rfl (by decide) (fun a S => ?_)
          exact leafL ⟨rfl, S⟩
        · refine fI 29 q40 [(24, .slice ad7 p0.Right.length cp8), (28, .int .i64 (w64 ((p0.Right.length : Int) - 1))), (13, .bool (!r18))] 26 [some 21, some 25, some 10] rfl rfl (by kernel_rfl) rfl (by kernel_rfl) (by kernel_rfl) fun G a w S => ?_
          refine sIdxV (v := .slice ad7 p0.Right.length cp8) (k := .i64) (j := w64 ((p0.Right.length : Int) - 1)) S (wG (c := !r18) 10 false 13 rfl rfl (by kernel_rfl) hc20) rfl (by kernel_rfl) (by kernel_rfl) hq41 rfl (by decide) (fun a S => ?_)
          exact leafL ⟨rfl, S⟩
        · refine fI 30 q42 [(29, q40), (13, .bool (!r18))] 27 [some 26, some 10] rfl rfl (by kernel_rfl) rfl (by kernel_rfl) (by kernel_rfl) fun G a w S => ?_
          refine sFldV (q := q40) S (wG (c := !r18) 10 false 13 rfl rfl (by kernel_rfl) hc20) rfl (by kernel_rfl) hq43 rfl (by decide) (fun a S => ?_)
          exact leafL ⟨rfl, S⟩
        · refine fI 31 (.int .i64 x28.Y) [(30, q42), (13, .bool (!r18))] 28 [some 27, some 10] rfl rfl (by kernel_rfl) rfl (by kernel_rfl) (by kernel_rfl) fun G a w S => ?_
          refine sLoadV1 (vq := q42) 0 (.int .i64 x28.Y) S (wG (c := !r18) 10 false 13 rfl rfl (by kernel_rfl) hc20) rfl (by kernel_rfl) (by kernel_rfl) (by kernel_rfl) rfl (by decide) (fun a S => ?_)
          exact leafL ⟨rfl, S⟩
        · refine fI 32 (.bool (x21.Y != x28.Y)) [(22, .int .i64 x21.Y), (31, .int .i64 x28.Y), (13, .bool (!r18))] 29 [some 19, some 28, some 10] rfl rfl (by kernel_rfl) rfl (by kernel_rfl) (by kernel_rfl) fun G a w S => ?_
          refine sBin (.bool (x21.Y != x28.Y)) S (wG (c := !r18) 10 false 13 rfl rfl (by kernel_rfl) hc20) rfl (by kernel_rfl) (by kernel_rfl) (bNe _ _ _ _ .i64 x21.Y x28.Y) rfl (by decide) (fun a S => ?_)
          exact leafL ⟨rfl, S⟩
        · refine fI 33 (.bool (x21.Y != x28.Y)) [(13, .bool (!r18)), (32, .bool (x21.Y != x28.Y))] 30 [some 10, some 29] rfl rfl (by kernel_rfl) rfl (by kernel_rfl) (by kernel_rfl) fun G a w S => ?_
          refine sPickF (b := !r18) (.bool (x21.Y != x28.Y)) S (wN rfl) rfl (by kernel_rfl) hc20 (by kernel_rfl) rfl (by decide) (fun a S => ?_)
          exact leafL ⟨rfl, S⟩
        · exact leafT (⟨x21.Y != x28.Y, Option.some.inj h, S.fix [] [] (by decide) (by kernel_rfl) (by kernel_rfl) (by kernel_rfl)⟩)
  · obtain ⟨o12, rfl, S⟩ := hI
    have h := g14
    clear g14
    try dsimp only at h
    rcases iteSome h with ⟨hc45, h⟩ | ⟨hc45, h⟩
    · refine sCondT (b := o12) S (by kernel_rfl) hc45 ?_
      refine sSeq (fun K46 hK46 => ?_)
      refine sRegion ?_
      refine sMove (.int .i64 8) S (wN rfl) (.inr rfl) (by kernel_rfl) rfl (by decide) (fun a S => ?_)
      refine leafL (leafT (hK46 _ _ ?_))
      obtain rfl := Option.some.inj h
      exact wp_ret (rThen (sRet (.int .i64 8) S (rsl1 rfl (rvT (t := 2) (v := .int .i64 8) S (by kernel_rfl))) ⟨(), rfl, S.mem.sel [] [] (by decide) (by kernel_rfl) (by kernel_rfl)⟩))
    · refine sCondF (b := o12) S (by kernel_rfl) hc45 ?_
      refine wp_skip (leafT (hK11 _ _ ?_))
      refine sSeq (fun K47 hK47 => ?_)
      refine sRegion ?_
      refine sMove (.int .i64 0) S (wN rfl) (.inr rfl) (by kernel_rfl) rfl (by decide) (fun a S => ?_)
      refine leafL (leafT (hK47 _ _ ?_))
      obtain rfl := Option.some.inj h
      exact wp_ret (sRet (.int .i64 0) S (rsl1 rfl (rvT (t := 2) (v := .int .i64 0) S (by kernel_rfl))) ⟨(), rfl, S.mem.sel [] [] (by decide) (by kernel_rfl) (by kernel_rfl)⟩)

end Go.Proofs.Ytmedbnjhgkcndaa
