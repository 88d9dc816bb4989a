import Derived.Test.YtmedbnjhgkcndaaGTy
import Derived.Test.YtmedbnjhgkcndaaG70
import Derived.Test.YtmedbnjhgkcndaaG71
namespace Go.Proofs.Ytmedbnjhgkcndaa
open Go.RowKit
set_option linter.unusedVariables false

noncomputable def raddleref36_Line_s0_l1 (p2 : Int) (p1 : Int) (p0 : Int) : (List Int × Int) → Option ((List Int × Int) ⊕ List Int) := fun s0 => match s0 with
  | (s22, s25) =>
    if decide (s25 ≤ p2) then
      Option.bind (F_raddleref36_down (w64 ((w64 ((w64 (2 * (w64 (p1 - p0)))) * s25)) + p2)) (w64 (2 * p2))) fun r36 =>
      Option.bind (appO s22 ([w64 (p0 + r36)] : List Int)) fun l40 =>
      some (.inl (l40, w64 (s25 + 1)))
    else
      some (.inr s22)
noncomputable def F_raddleref36_Line_s0 (p0 : Int) (p1 : Int) (p2 : Int) : Option ((List Int) × Int) :=
  Option.bind (α := Bool) (
    Option.bind (F_raddleref36_in p0) fun r6 =>
    if !r6 then
      some true
    else
      Option.bind (F_raddleref36_in p1) fun r9 =>
      if !r9 then
        some true
      else
        if decide (p2 < 1) then
          some true
        else
          some (decide (1000 < p2))) fun o3 =>
  if o3 then
    some (([] : (List Int)), 2)
  else
    Option.bind (α := List Int) (
      Option.bind (whileO (raddleref36_Line_s0_l1 p2 p1 p0) (([] : List Int), 0)) fun e29 =>
        some e29) fun o16 =>
    some (o16, 0)
set_option maxHeartbeats 4000000 in
set_option maxRecDepth 100000 in
theorem c_raddleref36_Line_s0 (E : Nat → Prop) (w0 : World) (p0 : Int) (p1 : Int) (p2 : Int) (r : ((List Int) × Int)) (h : F_raddleref36_Line_s0 p0 p1 p2 = some r) (S : St0 E [] w0 w0 [] []) :
    Calls Try.prog 51 #[.int .i64 p0, .int .i64 p1, .int .i64 p2] w0 (Ret (X := Option Addr × Nat) E [] w0 (fun x => .tuple #[.slice x.1 r.1.length x.2, .int .i64 r.2]) (fun x => [eRow (rI .i64) 3 (.slice x.1 r.1.length x.2) r.1]) (fun _ => [])) := by
  unfold F_raddleref36_Line_s0 at h
  refine sEnter (args := [.int .i64 p0, .int .i64 p1, .int .i64 p2]) 48 Try.func51 rfl rfl (by simp) S (fun a S => ?_)
  refine sSeq (fun K1 hK1 => ?_)
  refine sRegion ?_
  refine sMove (.slice none 0 0) S (wN rfl) (.inr rfl) (by kernel_rfl) rfl (by decide) (fun a S => ?_)
  refine sMove (.int .i64 0) S (wN rfl) (.inr rfl) (by kernel_rfl) rfl (by decide) (fun a S => ?_)
  refine leafL (leafT (hK1 _ _ ?_))
  refine sSeq (fun K2 hK2 => ?_)
  obtain ⟨t4, h, g5⟩ := bindSome h
  refine sCut (fun a w => ∃ o3, o3 = t4 ∧ St E [] w0 48 a w [(0, .int .i64 p0), (1, .int .i64 p1), (2, .int .i64 p2), (25, .bool o3)] [] []) ?_ (fun a w hI => ?_)
  · refine sRegion ?_
    refine sMove (.int .i64 p0) S (wN rfl) (.inl rfl) (by kernel_rfl) rfl (by decide) (fun a S => ?_)
    obtain ⟨r6, hx7, h⟩ := bindSome h
    have S1 := S.mem
    refine sCallQ (X := Unit) (f := 70) (vs := [.int .i64 p0]) (val := fun _ => .bool r6) S (wN rfl) rfl callee70 (by kernel_rfl) (S1.quiet [] (by kernel_rfl)) (fun E1 w1 S1 => c_raddleref36_in E1 w1 p0 r6 hx7 S1) rfl (by decide) (fun _ a w S => ?_)
    refine sNot (b := r6) S (wN rfl) rfl (by kernel_rfl) rfl (by decide) (fun a S => ?_)
    refine sMove (.bool (!r6)) S (wN rfl) (.inl rfl) (by kernel_rfl) rfl (by decide) (fun a S => ?_)
    rcases iteSome h with ⟨hc8, h⟩ | ⟨hc8, h⟩
    · refine sSkip (c := !r6) 3 false 13 14 S rfl rfl (by kernel_rfl) hc8 rfl (by decide) (fun a S => ?_)
      refine sSkip (c := !r6) 3 false 13 15 S rfl rfl (by kernel_rfl) hc8 rfl (by decide) (fun a S => ?_)
      refine sSkip (c := !r6) 3 false 13 16 S rfl rfl (by kernel_rfl) hc8 rfl (by decide) (fun a S => ?_)
      refine sPickT (b := !r6) (.bool true) S (wN rfl) rfl (by kernel_rfl) hc8 (by kernel_rfl) rfl (by decide) (fun a S => ?_)
      refine sMove (.bool true) S (wN rfl) (.inl rfl) (by kernel_rfl) rfl (by decide) (fun a S => ?_)
      refine sSkip (c := true) 8 false 18 19 S rfl rfl (by kernel_rfl) rfl rfl (by decide) (fun a S => ?_)
      refine sSkip (c := true) 8 false 18 20 S rfl rfl (by kernel_rfl) rfl rfl (by decide) (fun a S => ?_)
      refine sPickT (b := true) (.bool true) S (wN rfl) rfl (by kernel_rfl) rfl (by kernel_rfl) rfl (by decide) (fun a S => ?_)
      refine sMove (.bool true) S (wN rfl) (.inl rfl) (by kernel_rfl) rfl (by decide) (fun a S => ?_)
      refine sSkip (c := true) 12 false 22 23 S rfl rfl (by kernel_rfl) rfl rfl (by decide) (fun a S => ?_)
      refine sSkip (c := true) 12 false 22 24 S rfl rfl (by kernel_rfl) rfl rfl (by decide) (fun a S => ?_)
      refine sPickT (b := true) (.bool true) S (wN rfl) rfl (by kernel_rfl) rfl (by kernel_rfl) rfl (by decide) (fun a S => ?_)
      exact leafL (leafT (⟨true, Option.some.inj h, S.fix [] [] (by decide) (by kernel_rfl) (by kernel_rfl) (by kernel_rfl)⟩))
    · refine sMove (.int .i64 p1) S (wG (c := !r6) 3 false 13 rfl rfl (by kernel_rfl) hc8) (.inl rfl) (by kernel_rfl) rfl (by decide) (fun a S => ?_)
      obtain ⟨r9, hx10, h⟩ := bindSome h
      have S1 := S.mem
      refine sCallQ (X := Unit) (f := 70) (vs := [.int .i64 p1]) (val := fun _ => .bool r9) S (wG (c := !r6) 3 false 13 rfl rfl (by kernel_rfl) hc8) rfl callee70 (by kernel_rfl) (S1.quiet [] (by kernel_rfl)) (fun E1 w1 S1 => c_raddleref36_in E1 w1 p1 r9 hx10 S1) rfl (by decide) (fun _ a w S => ?_)
      refine sNot (b := r9) S (wG (c := !r6) 3 false 13 rfl rfl (by kernel_rfl) hc8) rfl (by kernel_rfl) rfl (by decide) (fun a S => ?_)
      refine sPickF (b := !r6) (.bool (!r9)) S (wN rfl) rfl (by kernel_rfl) hc8 (by kernel_rfl) rfl (by decide) (fun a S => ?_)
      refine sMove (.bool (!r9)) S (wN rfl) (.inl rfl) (by kernel_rfl) rfl (by decide) (fun a S => ?_)
      rcases iteSome h with ⟨hc11, h⟩ | ⟨hc11, h⟩
      · refine sSkip (c := !r9) 8 false 18 19 S rfl rfl (by kernel_rfl) hc11 rfl (by decide) (fun a S => ?_)
        refine sSkip (c := !r9) 8 false 18 20 S rfl rfl (by kernel_rfl) hc11 rfl (by decide) (fun a S => ?_)
        refine sPickT (b := !r9) (.bool true) S (wN rfl) rfl (by kernel_rfl) hc11 (by kernel_rfl) rfl (by decide) (fun a S => ?_)
        refine sMove (.bool true) S (wN rfl) (.inl rfl) (by kernel_rfl) rfl (by decide) (fun a S => ?_)
        refine sSkip (c := true) 12 false 22 23 S rfl rfl (by kernel_rfl) rfl rfl (by decide) (fun a S => ?_)
        refine sSkip (c := true) 12 false 22 24 S rfl rfl (by kernel_rfl) rfl rfl (by decide) (fun a S => ?_)
        refine sPickT (b := true) (.bool true) S (wN rfl) rfl (by kernel_rfl) rfl (by kernel_rfl) rfl (by decide) (fun a S => ?_)
        exact leafL (leafT (⟨true, Option.some.inj h, S.fix [] [] (by decide) (by kernel_rfl) (by kernel_rfl) (by kernel_rfl)⟩))
      · refine sMove (.int .i64 p2) S (wG (c := !r9) 8 false 18 rfl rfl (by kernel_rfl) hc11) (.inl rfl) (by kernel_rfl) rfl (by decide) (fun a S => ?_)
        refine sBin (.bool (decide (p2 < 1))) S (wG (c := !r9) 8 false 18 rfl rfl (by kernel_rfl) hc11) rfl (by kernel_rfl) (by kernel_rfl) (bLt _ _ _ _ .i64 p2 1) rfl (by decide) (fun a S => ?_)
        refine sPickF (b := !r9) (.bool (decide (p2 < 1))) S (wN rfl) rfl (by kernel_rfl) hc11 (by kernel_rfl) rfl (by decide) (fun a S => ?_)
        refine sMove (.bool (decide (p2 < 1))) S (wN rfl) (.inl rfl) (by kernel_rfl) rfl (by decide) (fun a S => ?_)
        rcases iteSome h with ⟨hc12, h⟩ | ⟨hc12, h⟩
        · refine sSkip (c := decide (p2 < 1)) 12 false 22 23 S rfl rfl (by kernel_rfl) hc12 rfl (by decide) (fun a S => ?_)
          refine sSkip (c := decide (p2 < 1)) 12 false 22 24 S rfl rfl (by kernel_rfl) hc12 rfl (by decide) (fun a S => ?_)
          refine sPickT (b := decide (p2 < 1)) (.bool true) S (wN rfl) rfl (by kernel_rfl) hc12 (by kernel_rfl) rfl (by decide) (fun a S => ?_)
          exact leafL (leafT (⟨true, Option.some.inj h, S.fix [] [] (by decide) (by kernel_rfl) (by kernel_rfl) (by kernel_rfl)⟩))
        · refine sMove (.int .i64 p2) S (wG (c := decide (p2 < 1)) 12 false 22 rfl rfl (by kernel_rfl) hc12) (.inl rfl) (by kernel_rfl) rfl (by decide) (fun a S => ?_)
          refine sBin (.bool (decide (1000 < p2))) S (wG (c := decide (p2 < 1)) 12 false 22 rfl rfl (by kernel_rfl) hc12) rfl (by kernel_rfl) (by kernel_rfl) (bGt _ _ _ _ .i64 p2 1000) rfl (by decide) (fun a S => ?_)
          refine sPickF (b := decide (p2 < 1)) (.bool (decide (1000 < p2))) S (wN rfl) rfl (by kernel_rfl) hc12 (by kernel_rfl) rfl (by decide) (fun a S => ?_)
          exact leafL (leafT (⟨decide (1000 < p2), Option.some.inj h, S.fix [] [] (by decide) (by kernel_rfl) (by kernel_rfl) (by kernel_rfl)⟩))
  · obtain ⟨o3, rfl, S⟩ := hI
    have h := g5
    clear g5
    try dsimp only at h
    rcases iteSome h with ⟨hc13, h⟩ | ⟨hc13, h⟩
    · refine sCondT (b := o3) S (by kernel_rfl) hc13 ?_
      refine sSeq (fun K14 hK14 => ?_)
      refine sRegion ?_
      refine sMove (.slice none 0 0) S (wN rfl) (.inr rfl) (by kernel_rfl) rfl (by decide) (fun a S => ?_)
      refine sMove (.int .i64 2) S (wN rfl) (.inr rfl) (by kernel_rfl) rfl (by decide) (fun a S => ?_)
      refine leafL (leafT (hK14 _ _ ?_))
      obtain rfl := Option.some.inj h
      have S := S.nilRow (rI .i64) 3 (α := Int)
      exact wp_ret (rThen (sRet (.tuple #[.slice none 0 0, .int .i64 2]) S (rsl2 rfl (rvT (t := 6) (v := .slice none 0 0) S (by kernel_rfl)) (rvT (t := 7) (v := .int .i64 2) S (by kernel_rfl))) ⟨(none, 0), rfl, S.mem.sel [0] [] (by decide) (by kernel_rfl) (by kernel_rfl)⟩))
    · refine sCondF (b := o3) S (by kernel_rfl) hc13 ?_
      refine wp_skip (leafT (hK2 _ _ ?_))
      refine sSeq (fun K15 hK15 => ?_)
      refine sRegion ?_
      refine sMove (.slice none 0 0) S (wN rfl) (.inr rfl) (by kernel_rfl) rfl (by decide) (fun a S => ?_)
      refine leafL (leafT (hK15 _ _ ?_))
      obtain ⟨t19, h, g20⟩ := bindSome h
      refine sCut (fun a w => ∃ o16, o16 = t19 ∧ ∃ ad17, ∃ cp18, St E [] w0 48 a w [(8, .slice ad17 o16.length cp18)] [eRow (rI .i64) 3 (.slice ad17 o16.length cp18) o16] []) ?_ (fun a w hI => ?_)
      · refine sSeq (fun K21 hK21 => ?_)
        refine sRegion ?_
        refine sMove (.int .i64 0) S (wN rfl) (.inr rfl) (by kernel_rfl) rfl (by decide) (fun a S => ?_)
        refine leafL (leafT (hK21 _ _ ?_))
        refine wp_block ?_
        have S := S.nilRow (rI .i64) 3 (α := Int)
        obtain ⟨t28, hl, g27⟩ := bindSome h
        refine sLoop hl (fun s0 a w => match s0 with | (s22, s25) => ∃ ad23, ∃ cp24, St E [] w0 48 a w [(0, .int .i64 p0), (1, .int .i64 p1), (2, .int .i64 p2), (8, .slice ad23 s22.length cp24), (9, .int .i64 s25)] [eRow (rI .i64) 3 (.slice ad23 s22.length cp24) s22] []) ⟨none, 0, S.fix [0] [] (by decide) (by kernel_rfl) (by kernel_rfl) (by kernel_rfl)⟩ ?_
        clear hl h
        intro s0 a w c0 hI h hu26
        obtain ⟨s22, s25⟩ := s0
        unfold raddleref36_Line_s0_l1 at h
        dsimp only at h hI
        obtain ⟨ad23, cp24, S⟩ := hI
        refine sSeq (fun K32 hK32 => ?_)
        refine sSeq (fun K33 hK33 => ?_)
        refine sRegion ?_
        refine sMove (.int .i64 s25) S (wN rfl) (.inl rfl) (by kernel_rfl) rfl (by decide) (fun a S => ?_)
        refine sMove (.int .i64 p2) S (wN rfl) (.inl rfl) (by kernel_rfl) rfl (by decide) (fun a S => ?_)
        refine sBin (.bool (decide (s25 ≤ p2))) S (wN rfl) rfl (by kernel_rfl) (by kernel_rfl) (bLe _ _ _ _ .i64 s25 p2) rfl (by decide) (fun a S => ?_)
        refine leafL (leafT (hK33 _ _ ?_))
        rcases iteSome h with ⟨hc34, h⟩ | ⟨hc34, h⟩
        · refine sCondT (b := decide (s25 ≤ p2)) S (by kernel_rfl) hc34 ?_
          refine wp_skip (leafT (hK32 _ _ ?_))
          refine sSeq (fun K35 hK35 => ?_)
          refine wp_block ?_
          refine sRegion ?_
          refine sMove (.slice ad23 s22.length cp24) S (wN rfl) (.inl rfl) (by kernel_rfl) rfl (by decide) (fun a S => ?_)
          refine sMove (.int .i64 p0) S (wN rfl) (.inl rfl) (by kernel_rfl) rfl (by decide) (fun a S => ?_)
          refine sMove (.int .i64 p1) S (wN rfl) (.inl rfl) (by kernel_rfl) rfl (by decide) (fun a S => ?_)
          refine sMove (.int .i64 p0) S (wN rfl) (.inl rfl) (by kernel_rfl) rfl (by decide) (fun a S => ?_)
          refine sBin (.int .i64 (w64 (p1 - p0))) S (wN rfl) rfl (by kernel_rfl) (by kernel_rfl) (bSub _ _ _ _ p1 p0) rfl (by decide) (fun a S => ?_)
          refine sBin (.int .i64 (w64 (2 * (w64 (p1 - p0))))) S (wN rfl) rfl (by kernel_rfl) (by kernel_rfl) (bMul _ _ _ _ 2 (w64 (p1 - p0))) rfl (by decide) (fun a S => ?_)
          refine sMove (.int .i64 s25) S (wN rfl) (.inl rfl) (by kernel_rfl) rfl (by decide) (fun a S => ?_)
          refine sBin (.int .i64 (w64 ((w64 (2 * (w64 (p1 - p0)))) * s25))) S (wN rfl) rfl (by kernel_rfl) (by kernel_rfl) (bMul _ _ _ _ (w64 (2 * (w64 (p1 - p0)))) s25) rfl (by decide) (fun a S => ?_)
          refine sMove (.int .i64 p2) S (wN rfl) (.inl rfl) (by kernel_rfl) rfl (by decide) (fun a S => ?_)
          refine sBin (.int .i64 (w64 ((w64 ((w64 (2 * (w64 (p1 - p0)))) * s25)) + p2))) S (wN rfl) rfl (by kernel_rfl) (by kernel_rfl) (bAdd _ _ _ _ (w64 ((w64 (2 * (w64 (p1 - p0)))) * s25)) p2) rfl (by decide) (fun a S => ?_)
          refine sMove (.int .i64 p2) S (wN rfl) (.inl rfl) (by kernel_rfl) rfl (by decide) (fun a S => ?_)
          refine sBin (.int .i64 (w64 (2 * p2))) S (wN rfl) rfl (by kernel_rfl) (by kernel_rfl) (bMul _ _ _ _ 2 p2) rfl (by decide) (fun a S => ?_)
          obtain ⟨r36, hx37, h⟩ := bindSome h
          have S1 := S.mem
          refine sCallQ (X := Unit) (f := 71) (vs := [.int .i64 (w64 ((w64 ((w64 (2 * (w64 (p1 - p0)))) * s25)) + p2)), .int .i64 (w64 (2 * p2))]) (val := fun _ => .int .i64 r36) S (wN rfl) rfl callee71 (by kernel_rfl) (S1.quiet [] (by kernel_rfl)) (fun E1 w1 S1 => c_raddleref36_down E1 w1 (w64 ((w64 ((w64 (2 * (w64 (p1 - p0)))) * s25)) + p2)) (w64 (2 * p2)) r36 hx37 S1) rfl (by decide) (fun _ a w S => ?_)
          refine sBin (.int .i64 (w64 (p0 + r36))) S (wN rfl) rfl (by kernel_rfl) (by kernel_rfl) (bAdd _ _ _ _ p0 r36) rfl (by decide) (fun a S => ?_)
          refine sLit (r := (rI .i64)) (T := 3) (xs := ([w64 (p0 + r36)] : List Int)) [(0, .int .i64 (w64 (p0 + r36)))] 1 [.int .i64 (w64 (p0 + r36))] [.int .i64 (w64 (p0 + r36))] (.int .i64 0) 8 S (wN rfl) rfl (by kernel_rfl) Try.underlying34 (by kernel_rfl) (by decide) (by decide) (by kernel_rfl) rfl (fun E1 w1 hE => All.cons rfl (All.nil _ _ _)) rfl rfl (by decide) (fun a w ad38 cp39 S => ?_)
          obtain ⟨l40, hx41, h⟩ := bindSome h
          refine sApp (r := (rI .i64)) (T := 3) (xs := s22) (ys := ([w64 (p0 + r36)] : List Int)) (v := .slice ad23 s22.length cp24) (u := .slice ad38 ([w64 (p0 + r36)] : List Int).length cp39) 1 (.int .i64 0) 8 S (wN rfl) rfl Try.underlying34 (by kernel_rfl) rfl (by decide) (by kernel_rfl) (by kernel_rfl) (by kernel_rfl) (src_R (T := 3) 0 S.mem (by kernel_rfl)) hx41 rfl (by decide) (fun a w ad42 cp43 S => ?_)
          refine sMove (.slice ad42 l40.length cp43) S (wN rfl) (.inr rfl) (by kernel_rfl) rfl (by decide) (fun a S => ?_)
          refine leafL (leafB (leafT (hK35 _ _ ?_)))
          refine sRegion ?_
          refine sMove (.int .i64 s25) S (wN rfl) (.inl rfl) (by kernel_rfl) rfl (by decide) (fun a S => ?_)
          refine sBin (.int .i64 (w64 (s25 + 1))) S (wN rfl) rfl (by kernel_rfl) (by kernel_rfl) (bAdd _ _ _ _ s25 1) rfl (by decide) (fun a S => ?_)
          refine sMove (.int .i64 (w64 (s25 + 1))) S (wN rfl) (.inr rfl) (by kernel_rfl) rfl (by decide) (fun a S => ?_)
          exact leafL (leafT (⟨(l40, w64 (s25 + 1)), (Option.some.inj h).symm, ⟨ad42, cp43, S.fix [0] [] (by decide) (by kernel_rfl) (by kernel_rfl) (by kernel_rfl)⟩⟩))
        · refine sCondF (b := decide (s25 ≤ p2)) S (by kernel_rfl) hc34 ?_
          obtain rfl := Option.some.inj h
          obtain rfl := hu26 _ rfl
          have h := g27
          clear g27
          try dsimp only at h
          exact wp_exit (xThen (xThen (xHit (leafT (⟨s22, Option.some.inj h, ad23, cp24, S.fix [0] [] (by decide) (by kernel_rfl) (by kernel_rfl) (by kernel_rfl)⟩)))))
      · obtain ⟨o16, rfl, ad17, cp18, S⟩ := hI
        have h := g20
        clear g20
        try dsimp only at h
        refine sSeq (fun K44 hK44 => ?_)
        refine sRegion ?_
        refine sMove (.slice ad17 o16.length cp18) S (wN rfl) (.inl rfl) (by kernel_rfl) rfl (by decide) (fun a S => ?_)
        refine sMove (.slice ad17 o16.length cp18) S (wN rfl) (.inr rfl) (by kernel_rfl) rfl (by decide) (fun a S => ?_)
        refine sMove (.int .i64 0) S (wN rfl) (.inr rfl) (by kernel_rfl) rfl (by decide) (fun a S => ?_)
        refine leafL (leafT (hK44 _ _ ?_))
        obtain rfl := Option.some.inj h
        exact wp_ret (sRet (.tuple #[.slice ad17 o16.length cp18, .int .i64 0]) S (rsl2 rfl (rvT (t := 6) (v := .slice ad17 o16.length cp18) S (by kernel_rfl)) (rvT (t := 7) (v := .int .i64 0) S (by kernel_rfl))) ⟨(ad17, cp18), rfl, S.mem.sel [0] [] (by decide) (by kernel_rfl) (by kernel_rfl)⟩)

end Go.Proofs.Ytmedbnjhgkcndaa
