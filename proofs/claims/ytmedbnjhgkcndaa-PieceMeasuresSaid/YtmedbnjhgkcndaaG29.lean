import Derived.Test.YtmedbnjhgkcndaaGTy
import Derived.Test.YtmedbnjhgkcndaaG48
namespace Go.Proofs.Ytmedbnjhgkcndaa
open Go.RowKit
set_option linter.unusedVariables false

noncomputable def raddleref37_placedAll_l1 (p1 : (List api_Point)) (p0 : api_Gauge) : (List api_Point × Int) → Option ((List api_Point × Int) ⊕ (((List api_Point) × Int) ⊕ (List api_Point))) := fun s0 => match s0 with
  | (s12, s15) =>
    if decide (s15 < (p1.length : Int)) then
      Option.bind (α := (Int × Int × Int)) (
        Option.bind (idxO p1 s15) fun x32 =>
        Option.bind (F_raddleref37_placed p0 x32) fun r37 =>
        some (r37.2, r37.1.X, r37.1.Y)) fun (o27, o28, o29) =>
      if o27 != 0 then
        some (.inr (.inl (([] : (List api_Point)), o27)))
      else
        Option.bind (appO s12 [(api_Point.mk o28 o29)]) fun l54 =>
        some (.inl (l54, w64 (s15 + 1)))
    else
      some (.inr (.inr s12))
noncomputable def F_raddleref37_placedAll (p0 : api_Gauge) (p1 : (List api_Point)) : Option ((List api_Point) × Int) :=
  Option.bind (α := List api_Point ⊕ ((List api_Point) × Int)) (
    Option.bind (whileO (raddleref37_placedAll_l1 p1 p0) (([] : List api_Point), 0)) fun z0 => match z0 with
      | .inl z =>
        some (.inr z)
      | .inr e19 =>
        some (.inl e19)) fun z0 => match z0 with
    | .inl o6 =>
      some (o6, 0)
    | .inr z =>
      some z
def c_raddleref37_placedAll_val (r : ((List api_Point) × Int)) (x : Value) : Value := .tuple #[x, .int .i64 r.2]
def c_raddleref37_placedAll_D (r : ((List api_Point) × Int)) (x : Value) : List Fact := [fRep (rL r_api_Point) x r.1]
set_option maxHeartbeats 4000000 in
set_option maxRecDepth 100000 in
theorem c_raddleref37_placedAll (E : Nat → Prop) (w0 : World) (p0 : api_Gauge) (v0 : Value) (p1 : (List api_Point)) (v1 : Value) (r : ((List api_Point) × Int)) (h : F_raddleref37_placedAll p0 p1 = some r) (S : St0 E [] w0 w0 [] [fRep r_api_Gauge v0 p0, fRep (rL r_api_Point) v1 p1]) :
    Calls Try.prog 29 #[v0, v1] w0 (Ret (X := Value) E [] w0 (c_raddleref37_placedAll_val r) (fun _ => []) (c_raddleref37_placedAll_D r)) := by
  unfold F_raddleref37_placedAll at h
  obtain rfl : v0 = .agg #[.int .i64 p0.Stitches, .int .i64 p0.Width, .int .i64 p0.Rows, .int .i64 p0.Height] := S.know (i := 0) (e := fRep r_api_Gauge (v0) p0) (by kernel_rfl)
  obtain ⟨ad1, cp2, _, rfl, _⟩ := S.know (i := 1) (e := fRep (rL r_api_Point) (v1) p1) (by kernel_rfl)
  refine sEnter (args := [.agg #[.int .i64 p0.Stitches, .int .i64 p0.Width, .int .i64 p0.Rows, .int .i64 p0.Height], .slice ad1 p1.length cp2]) 33 Try.func29 rfl rfl (by simp) S (fun a S => ?_)
  refine sSeq (fun K3 hK3 => ?_)
  refine sRegion ?_
  refine sBox (v := .agg #[.int .i64 p0.Stitches, .int .i64 p0.Width, .int .i64 p0.Rows, .int .i64 p0.Height]) S (wN rfl) rfl (by kernel_rfl) [.int .i64 p0.Stitches, .int .i64 p0.Width, .int .i64 p0.Rows, .int .i64 p0.Height] rfl rfl (by decide) (fun a b4 w S => ?_)
  refine sMove (.slice none 0 0) S (wN rfl) (.inr rfl) (by kernel_rfl) rfl (by decide) (fun a S => ?_)
  refine sMove (.int .i64 0) S (wN rfl) (.inr rfl) (by kernel_rfl) rfl (by decide) (fun a S => ?_)
  refine leafL (leafT (hK3 _ _ ?_))
  refine sSeq (fun K5 hK5 => ?_)
  refine sRegion ?_
  refine sMove (.slice none 0 0) S (wN rfl) (.inr rfl) (by kernel_rfl) rfl (by decide) (fun a S => ?_)
  refine leafL (leafT (hK5 _ _ ?_))
  obtain ⟨t9, h, g10⟩ := bindSome h
  refine sCut (fun a w => ∃ o6, .inl o6 = t9 ∧ ∃ ad7, ∃ cp8, St E [] w0 33 a w [(6, .slice ad7 o6.length cp8)] [eRow r_api_Point 75 (.slice ad7 o6.length cp8) o6] []) ?_ (fun a w hI => ?_)
  · refine sSeq (fun K11 hK11 => ?_)
    refine sRegion ?_
    refine sMove (.int .i64 0) S (wN rfl) (.inr rfl) (by kernel_rfl) rfl (by decide) (fun a S => ?_)
    refine leafL (leafT (hK11 _ _ ?_))
    refine wp_block ?_
    have S := S.nilRow r_api_Point 75 (α := api_Point)
    obtain ⟨t18, hl, g17⟩ := bindSome h
    refine sLoop hl (fun s0 a w => match s0 with | (s12, s15) => ∃ ad13, ∃ cp14, St E [] w0 33 a w [(1, .slice ad1 p1.length cp2), (2, .pointer (some ⟨b4, 0, none⟩)), (6, .slice ad13 s12.length cp14), (7, .int .i64 s15)] [eBox b4 23 [.int .i64 p0.Stitches, .int .i64 p0.Width, .int .i64 p0.Rows, .int .i64 p0.Height], eRow r_api_Point 75 (.slice ad13 s12.length cp14) s12] [fRep (rL r_api_Point) (.slice ad1 p1.length cp2) p1]) ⟨none, 0, S.fix [1, 0] [1] (by decide) (by kernel_rfl) (by kernel_rfl) (by kernel_rfl)⟩ ?_
    clear hl h
    intro s0 a w c0 hI h hu16
    obtain ⟨s12, s15⟩ := s0
    unfold raddleref37_placedAll_l1 at h
    dsimp only at h hI
    obtain ⟨ad13, cp14, S⟩ := hI
    refine sSeq (fun K22 hK22 => ?_)
    refine sSeq (fun K23 hK23 => ?_)
    refine sRegion ?_
    refine sMove (.int .i64 s15) S (wN rfl) (.inl rfl) (by kernel_rfl) rfl (by decide) (fun a S => ?_)
    refine sMove (.slice ad1 p1.length cp2) S (wN rfl) (.inl rfl) (by kernel_rfl) rfl (by decide) (fun a S => ?_)
    refine sLen (ad := ad1) (m := p1.length) (c := cp2) S (wN rfl) rfl Try.underlying24 (by kernel_rfl) rfl (by decide) (fun a S => ?_)
    refine sBin (.bool (decide (s15 < (p1.length : Int)))) S (wN rfl) rfl (by kernel_rfl) (by kernel_rfl) (bLt _ _ _ _ .i64 s15 (p1.length : Int)) rfl (by decide) (fun a S => ?_)
    refine leafL (leafT (hK23 _ _ ?_))
    rcases iteSome h with ⟨hc24, h⟩ | ⟨hc24, h⟩
    · refine sCondT (b := decide (s15 < (p1.length : Int))) S (by kernel_rfl) hc24 ?_
      refine wp_skip (leafT (hK22 _ _ ?_))
      refine sSeq (fun K25 hK25 => ?_)
      refine wp_block ?_
      obtain ⟨t30, h, g31⟩ := bindSome h
      refine sCut (fun a w => ∃ o27, ∃ o28, ∃ o29, (o27, o28, o29) = t30 ∧ ∃ b26, St E [] w0 33 a w [(1, .slice ad1 p1.length cp2), (2, .pointer (some ⟨b4, 0, none⟩)), (6, .slice ad13 s12.length cp14), (7, .int .i64 s15), (8, .pointer (some ⟨b26, 0, none⟩)), (9, .int .i64 o27)] [eBox b4 23 [.int .i64 p0.Stitches, .int .i64 p0.Width, .int .i64 p0.Rows, .int .i64 p0.Height], eBox b26 75 [.int .i64 o28, .int .i64 o29], eRow r_api_Point 75 (.slice ad13 s12.length cp14) s12] [fRep (rL r_api_Point) (.slice ad1 p1.length cp2) p1]) ?_ (fun a w hI => ?_)
      · obtain ⟨x32, hx33, h⟩ := bindSome h
        obtain ⟨r37, hx38, h⟩ := bindSome h
        obtain ⟨q41, hq42, S⟩ := pIdx (P := Try.prog) (r := r_api_Point) (v := .slice ad1 p1.length cp2) (xs := p1) (j := s15) 24 75 0 S Try.underlying24 (by kernel_rfl) (by kernel_rfl) hx33
        obtain ⟨u43, S⟩ := pLoad (r := r_api_Point) (q := q41) (x := x32) 0 S (by kernel_rfl)
        obtain rfl : u43 = .agg #[.int .i64 x32.X, .int .i64 x32.Y] := S.mem.know (i := 1) (e := fRep r_api_Point (u43) x32) (by kernel_rfl)
        refine sDraw (nf := [5, 9, 10]) (W := [(0, 17, .agg #[.int .i64 p0.Stitches, .int .i64 p0.Width, .int .i64 p0.Rows, .int .i64 p0.Height]), (1, 18, .slice ad1 p1.length cp2), (2, 19, .int .i64 s15), (3, 20, q41), (4, 21, .agg #[.int .i64 x32.X, .int .i64 x32.Y])]) (by kernel_rfl) S ?_
        refine node_by (A := [[], [], [], [1, 2], [1, 2, 3], [0, 1, 2, 3, 4], [0, 1, 2, 3, 4, 5], [0, 1, 2, 3, 4, 5, 6], [0, 1, 2, 3, 4, 5, 6], [], [0, 1, 2, 3, 4, 5, 6, 7, 9], [0, 1, 2, 3, 4, 5, 6, 7, 8, 9, 10]]) (nf := [5, 9, 10]) (Y := []) (W := [(0, 17, .agg #[.int .i64 p0.Stitches, .int .i64 p0.Width, .int .i64 p0.Rows, .int .i64 p0.Height]), (1, 18, .slice ad1 p1.length cp2), (2, 19, .int .i64 s15), (3, 20, q41), (4, 21, .agg #[.int .i64 x32.X, .int .i64 x32.Y])]) 12 (by kernel_rfl) (by kernel_rfl) (by kernel_rfl) (by kernel_rfl) (by kernel_rfl) [0, 1, 2, 3, 4] (by kernel_rfl) (by decide) (by decide) (AllFrom.cons (k := 0) (m := 11) (.inr ⟨by decide, .inr (.inr ?_)⟩) (AllFrom.cons (k := 1) (m := 10) (.inr ⟨by decide, .inr (.inr ?_)⟩) (AllFrom.cons (k := 2) (m := 9) (.inr ⟨by decide, .inr (.inr ?_)⟩) (AllFrom.cons (k := 3) (m := 8) (.inr ⟨by decide, .inr (.inr ?_)⟩) (AllFrom.cons (k := 4) (m := 7) (.inr ⟨by decide, .inr (.inr ?_)⟩) (AllFrom.cons (k := 5) (m := 6) (.inl ⟨by decide, .inr (.inr ?_)⟩) (AllFrom.cons (k := 6) (m := 5) (.inr ⟨by decide, .inr (.inl ⟨5, by decide, by decide, by decide⟩)⟩) (AllFrom.cons (k := 7) (m := 4) (.inr ⟨by decide, .inr (.inl ⟨5, by decide, by decide, by decide⟩)⟩) (AllFrom.cons (k := 8) (m := 3) (.inr ⟨by decide, .inr (.inl ⟨5, by decide, by decide, by decide⟩)⟩) (AllFrom.cons (k := 9) (m := 2) (.inl ⟨by decide, .inr (.inr ?_)⟩) (AllFrom.cons (k := 10) (m := 1) (.inl ⟨by decide, .inr (.inl ⟨5, by decide, by decide, by decide⟩)⟩) (AllFrom.cons (k := 11) (m := 0) (.inr ⟨by decide, .inr (.inl ⟨5, by decide, by decide, by decide⟩)⟩) (trivial))))))))))))) [] (fun q hq => by cases hq) (fun hY => absurd (hY 5 (by decide)) (by decide))
        · refine ⟨_, 17, (.agg #[.int .i64 p0.Stitches, .int .i64 p0.Width, .int .i64 p0.Rows, .int .i64 p0.Height]), [(2, .pointer (some ⟨b4, 0, none⟩))], rfl, rfl, List.mem_of_getElem? (i := 0) (by kernel_rfl), (srcs_of [none] rfl (by kernel_rfl) (by kernel_rfl)), fun G a w S => ?_⟩
          refine sLoadN (p := b4) (off := 0) (T := 23) (vs := [.int .i64 p0.Stitches, .int .i64 p0.Width, .int .i64 p0.Rows, .int .i64 p0.Height]) 0 [.int .i64 p0.Stitches, .int .i64 p0.Width, .int .i64 p0.Rows, .int .i64 p0.Height] S (wN rfl) rfl (by kernel_rfl) (by kernel_rfl) (by kernel_rfl) (by kernel_rfl) rfl rfl (by decide) (fun a S => ?_)
          exact leafL ⟨rfl, S⟩
        · refine ⟨_, 18, (.slice ad1 p1.length cp2), [(1, .slice ad1 p1.length cp2)], rfl, rfl, List.mem_of_getElem? (i := 1) (by kernel_rfl), (srcs_of [none] rfl (by kernel_rfl) (by kernel_rfl)), fun G a w S => ?_⟩
          refine sMove (.slice ad1 p1.length cp2) S (wN rfl) (.inl rfl) (by kernel_rfl) rfl (by decide) (fun a S => ?_)
          exact leafL ⟨rfl, S⟩
        · refine ⟨_, 19, (.int .i64 s15), [(7, .int .i64 s15)], rfl, rfl, List.mem_of_getElem? (i := 2) (by kernel_rfl), (srcs_of [none] rfl (by kernel_rfl) (by kernel_rfl)), fun G a w S => ?_⟩
          refine sMove (.int .i64 s15) S (wN rfl) (.inl rfl) (by kernel_rfl) rfl (by decide) (fun a S => ?_)
          exact leafL ⟨rfl, S⟩
        · refine ⟨_, 20, q41, [(18, .slice ad1 p1.length cp2), (19, .int .i64 s15)], rfl, rfl, List.mem_of_getElem? (i := 3) (by kernel_rfl), (srcs_of [some 1, some 2] rfl (by kernel_rfl) (by kernel_rfl)), fun G a w S => ?_⟩
          refine sIdxV (v := .slice ad1 p1.length cp2) (k := .i64) (j := s15) S (wN rfl) rfl (by kernel_rfl) (by kernel_rfl) hq42 rfl (by decide) (fun a S => ?_)
          exact leafL ⟨rfl, S⟩
        · refine ⟨_, 21, (.agg #[.int .i64 x32.X, .int .i64 x32.Y]), [(20, q41)], rfl, rfl, List.mem_of_getElem? (i := 4) (by kernel_rfl), (srcs_of [some 3] rfl (by kernel_rfl) (by kernel_rfl)), fun G a w S => ?_⟩
          refine sLoadVN (vq := q41) 0 [.int .i64 x32.X, .int .i64 x32.Y] S (wN rfl) rfl (by kernel_rfl) (by kernel_rfl) (by kernel_rfl) (by kernel_rfl) rfl (by decide) (fun a S => ?_)
          exact leafL ⟨rfl, S⟩
        · refine ⟨_, [(17, .agg #[.int .i64 p0.Stitches, .int .i64 p0.Width, .int .i64 p0.Rows, .int .i64 p0.Height]), (21, .agg #[.int .i64 x32.X, .int .i64 x32.Y])], rfl, (srcs_of [some 0, some 4] rfl (by kernel_rfl) (by kernel_rfl)), fun G a w S => ?_⟩
          have S := S.learn (fRep r_api_Gauge (.agg #[.int .i64 p0.Stitches, .int .i64 p0.Width, .int .i64 p0.Rows, .int .i64 p0.Height]) p0) rfl
          refine sCall (X := Value) (f := 48) (vs := [.agg #[.int .i64 p0.Stitches, .int .i64 p0.Width, .int .i64 p0.Rows, .int .i64 p0.Height], .agg #[.int .i64 x32.X, .int .i64 x32.Y]]) (val := c_raddleref37_placed_val r37) (B' := fun _ => []) (D' := c_raddleref37_placed_D r37) [] [eBox b4 23 [.int .i64 p0.Stitches, .int .i64 p0.Width, .int .i64 p0.Rows, .int .i64 p0.Height], eRow r_api_Point 75 (.slice ad13 s12.length cp14) s12] [fRep r_api_Gauge (.agg #[.int .i64 p0.Stitches, .int .i64 p0.Width, .int .i64 p0.Rows, .int .i64 p0.Height]) p0, fRep r_api_Point (.agg #[.int .i64 x32.X, .int .i64 x32.Y]) x32] [0, 1] [0, 2] S (wN rfl) rfl callee48 (by kernel_rfl) (by decide) (by kernel_rfl) (by kernel_rfl) (fun E1 w1 S1 => c_raddleref37_placed E1 w1 p0 (.agg #[.int .i64 p0.Stitches, .int .i64 p0.Width, .int .i64 p0.Rows, .int .i64 p0.Height]) x32 (.agg #[.int .i64 x32.X, .int .i64 x32.Y]) r37 hx38 S1) rfl (by decide) (fun u44 a w S => ?_)
          obtain rfl : u44 = .agg #[.int .i64 r37.1.X, .int .i64 r37.1.Y] := S.mem.know (i := 0) (e := fRep r_api_Point (u44) r37.1) (by kernel_rfl)
          refine leafL ⟨rfl, _, _, .inl ⟨22, (.tuple #[.agg #[.int .i64 r37.1.X, .int .i64 r37.1.Y], .int .i64 r37.2]), [(6, 16, .tuple #[.agg #[.int .i64 r37.1.X, .int .i64 r37.1.Y], .int .i64 r37.2]), (7, 23, .agg #[.int .i64 r37.1.X, .int .i64 r37.1.Y]), (8, 24, .int .i64 r37.2)], rfl, S, hz_of (by kernel_rfl), ?_⟩⟩
          refine node_by (A := [[], [], [], [1, 2], [1, 2, 3], [0, 1, 2, 3, 4], [0, 1, 2, 3, 4, 5], [0, 1, 2, 3, 4, 5, 6], [0, 1, 2, 3, 4, 5, 6], [], [0, 1, 2, 3, 4, 5, 6, 7, 9], [0, 1, 2, 3, 4, 5, 6, 7, 8, 9, 10]]) (nf := [5, 9, 10]) (Y := [5]) (W := [(6, 16, .tuple #[.agg #[.int .i64 r37.1.X, .int .i64 r37.1.Y], .int .i64 r37.2]), (7, 23, .agg #[.int .i64 r37.1.X, .int .i64 r37.1.Y]), (8, 24, .int .i64 r37.2), (5, 22, .tuple #[.agg #[.int .i64 r37.1.X, .int .i64 r37.1.Y], .int .i64 r37.2]), (0, 17, .agg #[.int .i64 p0.Stitches, .int .i64 p0.Width, .int .i64 p0.Rows, .int .i64 p0.Height]), (1, 18, .slice ad1 p1.length cp2), (2, 19, .int .i64 s15), (3, 20, q41), (4, 21, .agg #[.int .i64 x32.X, .int .i64 x32.Y])]) 12 (by kernel_rfl) (by kernel_rfl) (by kernel_rfl) (by kernel_rfl) (by kernel_rfl) [6, 7, 8, 5, 0, 1, 2, 3, 4] (by kernel_rfl) (by decide) (by decide) (AllFrom.cons (k := 0) (m := 11) (.inr ⟨by decide, .inl ⟨5, by decide, by decide, by decide⟩⟩) (AllFrom.cons (k := 1) (m := 10) (.inr ⟨by decide, .inl ⟨5, by decide, by decide, by decide⟩⟩) (AllFrom.cons (k := 2) (m := 9) (.inr ⟨by decide, .inl ⟨5, by decide, by decide, by decide⟩⟩) (AllFrom.cons (k := 3) (m := 8) (.inr ⟨by decide, .inl ⟨5, by decide, by decide, by decide⟩⟩) (AllFrom.cons (k := 4) (m := 7) (.inr ⟨by decide, .inl ⟨5, by decide, by decide, by decide⟩⟩) (AllFrom.cons (k := 5) (m := 6) (.inl ⟨by decide, .inl (by decide)⟩) (AllFrom.cons (k := 6) (m := 5) (.inr ⟨by decide, .inr (.inr ?_)⟩) (AllFrom.cons (k := 7) (m := 4) (.inr ⟨by decide, .inr (.inr ?_)⟩) (AllFrom.cons (k := 8) (m := 3) (.inr ⟨by decide, .inr (.inr ?_)⟩) (AllFrom.cons (k := 9) (m := 2) (.inl ⟨by decide, .inr (.inr ?_)⟩) (AllFrom.cons (k := 10) (m := 1) (.inl ⟨by decide, .inr (.inl ⟨9, by decide, by decide, by decide⟩)⟩) (AllFrom.cons (k := 11) (m := 0) (.inr ⟨by decide, .inr (.inl ⟨9, by decide, by decide, by decide⟩)⟩) (trivial))))))))))))) [] (fun q hq => by cases hq) (fun hY => absurd (hY 9 (by decide)) (by decide))
          · refine ⟨_, 16, (.tuple #[.agg #[.int .i64 r37.1.X, .int .i64 r37.1.Y], .int .i64 r37.2]), [(22, .tuple #[.agg #[.int .i64 r37.1.X, .int .i64 r37.1.Y], .int .i64 r37.2])], rfl, rfl, List.mem_of_getElem? (i := 0) (by kernel_rfl), (srcs_of [some 3] rfl (by kernel_rfl) (by kernel_rfl)), fun G a w S => ?_⟩
            refine sMove (.tuple #[.agg #[.int .i64 r37.1.X, .int .i64 r37.1.Y], .int .i64 r37.2]) S (wN rfl) (.inl rfl) (by kernel_rfl) rfl (by decide) (fun a S => ?_)
            exact leafL ⟨rfl, S⟩
          · refine ⟨_, 23, (.agg #[.int .i64 r37.1.X, .int .i64 r37.1.Y]), [(16, .tuple #[.agg #[.int .i64 r37.1.X, .int .i64 r37.1.Y], .int .i64 r37.2])], rfl, rfl, List.mem_of_getElem? (i := 1) (by kernel_rfl), (srcs_of [some 0] rfl (by kernel_rfl) (by kernel_rfl)), fun G a w S => ?_⟩
            refine sExtract (vs := [.agg #[.int .i64 r37.1.X, .int .i64 r37.1.Y], .int .i64 r37.2]) (.agg #[.int .i64 r37.1.X, .int .i64 r37.1.Y]) S (wN rfl) rfl (by kernel_rfl) rfl rfl (by decide) (fun a S => ?_)
            exact leafL ⟨rfl, S⟩
          · refine ⟨_, 24, (.int .i64 r37.2), [(16, .tuple #[.agg #[.int .i64 r37.1.X, .int .i64 r37.1.Y], .int .i64 r37.2])], rfl, rfl, List.mem_of_getElem? (i := 2) (by kernel_rfl), (srcs_of [some 0] rfl (by kernel_rfl) (by kernel_rfl)), fun G a w S => ?_⟩
            refine sExtract (vs := [.agg #[.int .i64 r37.1.X, .int .i64 r37.1.Y], .int .i64 r37.2]) (.int .i64 r37.2) S (wN rfl) rfl (by kernel_rfl) rfl rfl (by decide) (fun a S => ?_)
            exact leafL ⟨rfl, S⟩
          · refine ⟨_, [], rfl, (srcs_of [] rfl (by kernel_rfl) (by kernel_rfl)), fun G a w S => ?_⟩
            refine sAlloc (.agg #[.int .i64 0, .int .i64 0]) S (wN rfl) rfl (by kernel_rfl) [.int .i64 0, .int .i64 0] rfl rfl (by decide) (fun a b45 w S => ?_)
            refine leafL ⟨rfl, _, _, .inl ⟨8, (.pointer (some ⟨b45, 0, none⟩)), [], rfl, S, hz_of (by kernel_rfl), ?_⟩⟩
            refine node_by (A := [[], [], [], [1, 2], [1, 2, 3], [0, 1, 2, 3, 4], [0, 1, 2, 3, 4, 5], [0, 1, 2, 3, 4, 5, 6], [0, 1, 2, 3, 4, 5, 6], [], [0, 1, 2, 3, 4, 5, 6, 7, 9], [0, 1, 2, 3, 4, 5, 6, 7, 8, 9, 10]]) (nf := [5, 9, 10]) (Y := [9, 5]) (W := [(9, 8, .pointer (some ⟨b45, 0, none⟩)), (6, 16, .tuple #[.agg #[.int .i64 r37.1.X, .int .i64 r37.1.Y], .int .i64 r37.2]), (7, 23, .agg #[.int .i64 r37.1.X, .int .i64 r37.1.Y]), (8, 24, .int .i64 r37.2), (5, 22, .tuple #[.agg #[.int .i64 r37.1.X, .int .i64 r37.1.Y], .int .i64 r37.2]), (0, 17, .agg #[.int .i64 p0.Stitches, .int .i64 p0.Width, .int .i64 p0.Rows, .int .i64 p0.Height]), (1, 18, .slice ad1 p1.length cp2), (2, 19, .int .i64 s15), (3, 20, q41), (4, 21, .agg #[.int .i64 x32.X, .int .i64 x32.Y])]) 12 (by kernel_rfl) (by kernel_rfl) (by kernel_rfl) (by kernel_rfl) (by kernel_rfl) [9, 6, 7, 8, 5, 0, 1, 2, 3, 4] (by kernel_rfl) (by decide) (by decide) (AllFrom.cons (k := 0) (m := 11) (.inr ⟨by decide, .inl ⟨5, by decide, by decide, by decide⟩⟩) (AllFrom.cons (k := 1) (m := 10) (.inr ⟨by decide, .inl ⟨5, by decide, by decide, by decide⟩⟩) (AllFrom.cons (k := 2) (m := 9) (.inr ⟨by decide, .inl ⟨5, by decide, by decide, by decide⟩⟩) (AllFrom.cons (k := 3) (m := 8) (.inr ⟨by decide, .inl ⟨5, by decide, by decide, by decide⟩⟩) (AllFrom.cons (k := 4) (m := 7) (.inr ⟨by decide, .inl ⟨5, by decide, by decide, by decide⟩⟩) (AllFrom.cons (k := 5) (m := 6) (.inl ⟨by decide, .inl (by decide)⟩) (AllFrom.cons (k := 6) (m := 5) (.inr ⟨by decide, .inr (.inr ?_)⟩) (AllFrom.cons (k := 7) (m := 4) (.inr ⟨by decide, .inr (.inr ?_)⟩) (AllFrom.cons (k := 8) (m := 3) (.inr ⟨by decide, .inr (.inr ?_)⟩) (AllFrom.cons (k := 9) (m := 2) (.inl ⟨by decide, .inl (by decide)⟩) (AllFrom.cons (k := 10) (m := 1) (.inl ⟨by decide, .inr (.inr ?_)⟩) (AllFrom.cons (k := 11) (m := 0) (.inr ⟨by decide, .inr (.inl ⟨10, by decide, by decide, by decide⟩)⟩) (trivial))))))))))))) [] (fun q hq => by cases hq) (fun hY => absurd (hY 10 (by decide)) (by decide))
            · refine ⟨_, 16, (.tuple #[.agg #[.int .i64 r37.1.X, .int .i64 r37.1.Y], .int .i64 r37.2]), [(22, .tuple #[.agg #[.int .i64 r37.1.X, .int .i64 r37.1.Y], .int .i64 r37.2])], rfl, rfl, List.mem_of_getElem? (i := 1) (by kernel_rfl), (srcs_of [some 4] rfl (by kernel_rfl) (by kernel_rfl)), fun G a w S => ?_⟩
              refine sMove (.tuple #[.agg #[.int .i64 r37.1.X, .int .i64 r37.1.Y], .int .i64 r37.2]) S (wN rfl) (.inl rfl) (by kernel_rfl) rfl (by decide) (fun a S => ?_)
              exact leafL ⟨rfl, S⟩
            · refine ⟨_, 23, (.agg #[.int .i64 r37.1.X, .int .i64 r37.1.Y]), [(16, .tuple #[.agg #[.int .i64 r37.1.X, .int .i64 r37.1.Y], .int .i64 r37.2])], rfl, rfl, List.mem_of_getElem? (i := 2) (by kernel_rfl), (srcs_of [some 1] rfl (by kernel_rfl) (by kernel_rfl)), fun G a w S => ?_⟩
              refine sExtract (vs := [.agg #[.int .i64 r37.1.X, .int .i64 r37.1.Y], .int .i64 r37.2]) (.agg #[.int .i64 r37.1.X, .int .i64 r37.1.Y]) S (wN rfl) rfl (by kernel_rfl) rfl rfl (by decide) (fun a S => ?_)
              exact leafL ⟨rfl, S⟩
            · refine ⟨_, 24, (.int .i64 r37.2), [(16, .tuple #[.agg #[.int .i64 r37.1.X, .int .i64 r37.1.Y], .int .i64 r37.2])], rfl, rfl, List.mem_of_getElem? (i := 3) (by kernel_rfl), (srcs_of [some 1] rfl (by kernel_rfl) (by kernel_rfl)), fun G a w S => ?_⟩
              refine sExtract (vs := [.agg #[.int .i64 r37.1.X, .int .i64 r37.1.Y], .int .i64 r37.2]) (.int .i64 r37.2) S (wN rfl) rfl (by kernel_rfl) rfl rfl (by decide) (fun a S => ?_)
              exact leafL ⟨rfl, S⟩
            · refine ⟨_, [(8, .pointer (some ⟨b45, 0, none⟩)), (23, .agg #[.int .i64 r37.1.X, .int .i64 r37.1.Y])], rfl, (srcs_of [some 0, some 2] rfl (by kernel_rfl) (by kernel_rfl)), fun G a w S => ?_⟩
              refine sStore (p := b45) (off := 0) (T := 75) (vs := [.int .i64 0, .int .i64 0]) (v := .agg #[.int .i64 r37.1.X, .int .i64 r37.1.Y]) 0 [.int .i64 r37.1.X, .int .i64 r37.1.Y] S (wN rfl) rfl (by kernel_rfl) (by kernel_rfl) rfl (by kernel_rfl) (by kernel_rfl) rfl (by simp) rfl (fun a w S => ?_)
              refine leafL ⟨rfl, _, _, .inr ⟨[(11, 9, .int .i64 r37.2)], rfl, S, hz_of (by kernel_rfl), ?_⟩⟩
              refine node_by (A := [[], [], [], [1, 2], [1, 2, 3], [0, 1, 2, 3, 4], [0, 1, 2, 3, 4, 5], [0, 1, 2, 3, 4, 5, 6], [0, 1, 2, 3, 4, 5, 6], [], [0, 1, 2, 3, 4, 5, 6, 7, 9], [0, 1, 2, 3, 4, 5, 6, 7, 8, 9, 10]]) (nf := [5, 9, 10]) (Y := [10, 9, 5]) (W := [(11, 9, .int .i64 r37.2), (9, 8, .pointer (some ⟨b45, 0, none⟩)), (6, 16, .tuple #[.agg #[.int .i64 r37.1.X, .int .i64 r37.1.Y], .int .i64 r37.2]), (7, 23, .agg #[.int .i64 r37.1.X, .int .i64 r37.1.Y]), (8, 24, .int .i64 r37.2), (5, 22, .tuple #[.agg #[.int .i64 r37.1.X, .int .i64 r37.1.Y], .int .i64 r37.2]), (0, 17, .agg #[.int .i64 p0.Stitches, .int .i64 p0.Width, .int .i64 p0.Rows, .int .i64 p0.Height]), (1, 18, .slice ad1 p1.length cp2), (2, 19, .int .i64 s15), (3, 20, q41), (4, 21, .agg #[.int .i64 x32.X, .int .i64 x32.Y])]) 12 (by kernel_rfl) (by kernel_rfl) (by kernel_rfl) (by kernel_rfl) (by kernel_rfl) [11, 9, 6, 7, 8, 5, 0, 1, 2, 3, 4] (by kernel_rfl) (by decide) (by decide) (AllFrom.cons (k := 0) (m := 11) (.inr ⟨by decide, .inl ⟨10, by decide, by decide, by decide⟩⟩) (AllFrom.cons (k := 1) (m := 10) (.inr ⟨by decide, .inl ⟨10, by decide, by decide, by decide⟩⟩) (AllFrom.cons (k := 2) (m := 9) (.inr ⟨by decide, .inl ⟨10, by decide, by decide, by decide⟩⟩) (AllFrom.cons (k := 3) (m := 8) (.inr ⟨by decide, .inl ⟨10, by decide, by decide, by decide⟩⟩) (AllFrom.cons (k := 4) (m := 7) (.inr ⟨by decide, .inl ⟨10, by decide, by decide, by decide⟩⟩) (AllFrom.cons (k := 5) (m := 6) (.inl ⟨by decide, .inl (by decide)⟩) (AllFrom.cons (k := 6) (m := 5) (.inr ⟨by decide, .inl ⟨10, by decide, by decide, by decide⟩⟩) (AllFrom.cons (k := 7) (m := 4) (.inr ⟨by decide, .inl ⟨10, by decide, by decide, by decide⟩⟩) (AllFrom.cons (k := 8) (m := 3) (.inr ⟨by decide, .inr (.inr ?_)⟩) (AllFrom.cons (k := 9) (m := 2) (.inl ⟨by decide, .inl (by decide)⟩) (AllFrom.cons (k := 10) (m := 1) (.inl ⟨by decide, .inl (by decide)⟩) (AllFrom.cons (k := 11) (m := 0) (.inr ⟨by decide, .inr (.inr ?_)⟩) (trivial))))))))))))) [(1, .slice ad1 p1.length cp2), (2, .pointer (some ⟨b4, 0, none⟩)), (6, .slice ad13 s12.length cp14), (7, .int .i64 s15), (8, .pointer (some ⟨b45, 0, none⟩)), (9, .int .i64 r37.2)] (fin_of [none, none, none, none, some 1, some 0] rfl (by kernel_rfl) (by kernel_rfl)) (fun _ a w S => ?_)
              · refine ⟨_, 24, (.int .i64 r37.2), [(16, .tuple #[.agg #[.int .i64 r37.1.X, .int .i64 r37.1.Y], .int .i64 r37.2])], rfl, rfl, List.mem_of_getElem? (i := 4) (by kernel_rfl), (srcs_of [some 2] rfl (by kernel_rfl) (by kernel_rfl)), fun G a w S => ?_⟩
                refine sExtract (vs := [.agg #[.int .i64 r37.1.X, .int .i64 r37.1.Y], .int .i64 r37.2]) (.int .i64 r37.2) S (wN rfl) rfl (by kernel_rfl) rfl rfl (by decide) (fun a S => ?_)
                exact leafL ⟨rfl, S⟩
              · refine ⟨_, 9, (.int .i64 r37.2), [(24, .int .i64 r37.2)], rfl, rfl, List.mem_of_getElem? (i := 0) (by kernel_rfl), (srcs_of [some 4] rfl (by kernel_rfl) (by kernel_rfl)), fun G a w S => ?_⟩
                refine sMove (.int .i64 r37.2) S (wN rfl) (.inr rfl) (by kernel_rfl) rfl (by decide) (fun a S => ?_)
                exact leafL ⟨rfl, S⟩
              · exact leafT (⟨r37.2, r37.1.X, r37.1.Y, Option.some.inj h, b45, S.fix [1, 0, 2] [5] (by decide) (by kernel_rfl) (by kernel_rfl) (by kernel_rfl)⟩)
        · refine ⟨_, [], rfl, (srcs_of [] rfl (by kernel_rfl) (by kernel_rfl)), fun G a w S => ?_⟩
          refine sAlloc (.agg #[.int .i64 0, .int .i64 0]) S (wN rfl) rfl (by kernel_rfl) [.int .i64 0, .int .i64 0] rfl rfl (by decide) (fun a b46 w S => ?_)
          refine leafL ⟨rfl, _, _, .inl ⟨8, (.pointer (some ⟨b46, 0, none⟩)), [], rfl, S, hz_of (by kernel_rfl), ?_⟩⟩
          refine node_by (A := [[], [], [], [1, 2], [1, 2, 3], [0, 1, 2, 3, 4], [0, 1, 2, 3, 4, 5], [0, 1, 2, 3, 4, 5, 6], [0, 1, 2, 3, 4, 5, 6], [], [0, 1, 2, 3, 4, 5, 6, 7, 9], [0, 1, 2, 3, 4, 5, 6, 7, 8, 9, 10]]) (nf := [5, 9, 10]) (Y := [9]) (W := [(9, 8, .pointer (some ⟨b46, 0, none⟩)), (0, 17, .agg #[.int .i64 p0.Stitches, .int .i64 p0.Width, .int .i64 p0.Rows, .int .i64 p0.Height]), (1, 18, .slice ad1 p1.length cp2), (2, 19, .int .i64 s15), (3, 20, q41), (4, 21, .agg #[.int .i64 x32.X, .int .i64 x32.Y])]) 12 (by kernel_rfl) (by kernel_rfl) (by kernel_rfl) (by kernel_rfl) (by kernel_rfl) [9, 0, 1, 2, 3, 4] (by kernel_rfl) (by decide) (by decide) (AllFrom.cons (k := 0) (m := 11) (.inr ⟨by decide, .inr (.inr ?_)⟩) (AllFrom.cons (k := 1) (m := 10) (.inr ⟨by decide, .inr (.inr ?_)⟩) (AllFrom.cons (k := 2) (m := 9) (.inr ⟨by decide, .inr (.inr ?_)⟩) (AllFrom.cons (k := 3) (m := 8) (.inr ⟨by decide, .inr (.inr ?_)⟩) (AllFrom.cons (k := 4) (m := 7) (.inr ⟨by decide, .inr (.inr ?_)⟩) (AllFrom.cons (k := 5) (m := 6) (.inl ⟨by decide, .inr (.inr ?_)⟩) (AllFrom.cons (k := 6) (m := 5) (.inr ⟨by decide, .inr (.inl ⟨5, by decide, by decide, by decide⟩)⟩) (AllFrom.cons (k := 7) (m := 4) (.inr ⟨by decide, .inr (.inl ⟨5, by decide, by decide, by decide⟩)⟩) (AllFrom.cons (k := 8) (m := 3) (.inr ⟨by decide, .inr (.inl ⟨5, by decide, by decide, by decide⟩)⟩) (AllFrom.cons (k := 9) (m := 2) (.inl ⟨by decide, .inl (by decide)⟩) (AllFrom.cons (k := 10) (m := 1) (.inl ⟨by decide, .inr (.inl ⟨5, by decide, by decide, by decide⟩)⟩) (AllFrom.cons (k := 11) (m := 0) (.inr ⟨by decide, .inr (.inl ⟨5, by decide, by decide, by decide⟩)⟩) (trivial))))))))))))) [] (fun q hq => by cases hq) (fun hY => absurd (hY 5 (by decide)) (by decide))
          · refine ⟨_, 17, (.agg #[.int .i64 p0.Stitches, .int .i64 p0.Width, .int .i64 p0.Rows, .int .i64 p0.Height]), [(2, .pointer (some ⟨b4, 0, none⟩))], rfl, rfl, List.mem_of_getElem? (i := 1) (by kernel_rfl), (srcs_of [none] rfl (by kernel_rfl) (by kernel_rfl)), fun G a w S => ?_⟩
            refine sLoadN (p := b4) (off := 0) (T := 23) (vs := [.int .i64 p0.Stitches, .int .i64 p0.Width, .int .i64 p0.Rows, .int .i64 p0.Height]) 1 [.int .i64 p0.Stitches, .int .i64 p0.Width, .int .i64 p0.Rows, .int .i64 p0.Height] S (wN rfl) rfl (by kernel_rfl) (by kernel_rfl) (by kernel_rfl) (by kernel_rfl) rfl rfl (by decide) (fun a S => ?_)
            exact leafL ⟨rfl, S⟩
          · refine ⟨_, 18, (.slice ad1 p1.length cp2), [(1, .slice ad1 p1.length cp2)], rfl, rfl, List.mem_of_getElem? (i := 2) (by kernel_rfl), (srcs_of [none] rfl (by kernel_rfl) (by kernel_rfl)), fun G a w S => ?_⟩
            refine sMove (.slice ad1 p1.length cp2) S (wN rfl) (.inl rfl) (by kernel_rfl) rfl (by decide) (fun a S => ?_)
            exact leafL ⟨rfl, S⟩
          · refine ⟨_, 19, (.int .i64 s15), [(7, .int .i64 s15)], rfl, rfl, List.mem_of_getElem? (i := 3) (by kernel_rfl), (srcs_of [none] rfl (by kernel_rfl) (by kernel_rfl)), fun G a w S => ?_⟩
            refine sMove (.int .i64 s15) S (wN rfl) (.inl rfl) (by kernel_rfl) rfl (by decide) (fun a S => ?_)
            exact leafL ⟨rfl, S⟩
          · refine ⟨_, 20, q41, [(18, .slice ad1 p1.length cp2), (19, .int .i64 s15)], rfl, rfl, List.mem_of_getElem? (i := 4) (by kernel_rfl), (srcs_of [some 2, some 3] rfl (by kernel_rfl) (by kernel_rfl)), fun G a w S => ?_⟩
            refine sIdxV (v := .slice ad1 p1.length cp2) (k := .i64) (j := s15) S (wN rfl) rfl (by kernel_rfl) (by kernel_rfl) hq42 rfl (by decide) (fun a S => ?_)
            exact leafL ⟨rfl, S⟩
          · refine ⟨_, 21, (.agg #[.int .i64 x32.X, .int .i64 x32.Y]), [(20, q41)], rfl, rfl, List.mem_of_getElem? (i := 5) (by kernel_rfl), (srcs_of [some 4] rfl (by kernel_rfl) (by kernel_rfl)), fun G a w S => ?_⟩
            refine sLoadVN (vq := q41) 0 [.int .i64 x32.X, .int .i64 x32.Y] S (wN rfl) rfl (by kernel_rfl) (by kernel_rfl) (by kernel_rfl) (by kernel_rfl) rfl (by decide) (fun a S => ?_)
            exact leafL ⟨rfl, S⟩
          · refine ⟨_, [(17, .agg #[.int .i64 p0.Stitches, .int .i64 p0.Width, .int .i64 p0.Rows, .int .i64 p0.Height]), (21, .agg #[.int .i64 x32.X, .int .i64 x32.Y])], rfl, (srcs_of [some 1, some 5] rfl (by kernel_rfl) (by kernel_rfl)), fun G a w S => ?_⟩
            have S := S.learn (fRep r_api_Gauge (.agg #[.int .i64 p0.Stitches, .int .i64 p0.Width, .int .i64 p0.Rows, .int .i64 p0.Height]) p0) rfl
            refine sCall (X := Value) (f := 48) (vs := [.agg #[.int .i64 p0.Stitches, .int .i64 p0.Width, .int .i64 p0.Rows, .int .i64 p0.Height], .agg #[.int .i64 x32.X, .int .i64 x32.Y]]) (val := c_raddleref37_placed_val r37) (B' := fun _ => []) (D' := c_raddleref37_placed_D r37) [] [eBox b46 75 [.int .i64 0, .int .i64 0], eBox b4 23 [.int .i64 p0.Stitches, .int .i64 p0.Width, .int .i64 p0.Rows, .int .i64 p0.Height], eRow r_api_Point 75 (.slice ad13 s12.length cp14) s12] [fRep r_api_Gauge (.agg #[.int .i64 p0.Stitches, .int .i64 p0.Width, .int .i64 p0.Rows, .int .i64 p0.Height]) p0, fRep r_api_Point (.agg #[.int .i64 x32.X, .int .i64 x32.Y]) x32] [0, 1, 2] [0, 2] S (wN rfl) rfl callee48 (by kernel_rfl) (by decide) (by kernel_rfl) (by kernel_rfl) (fun E1 w1 S1 => c_raddleref37_placed E1 w1 p0 (.agg #[.int .i64 p0.Stitches, .int .i64 p0.Width, .int .i64 p0.Rows, .int .i64 p0.Height]) x32 (.agg #[.int .i64 x32.X, .int .i64 x32.Y]) r37 hx38 S1) rfl (by decide) (fun u47 a w S => ?_)
            obtain rfl : u47 = .agg #[.int .i64 r37.1.X, .int .i64 r37.1.Y] := S.mem.know (i := 0) (e := fRep r_api_Point (u47) r37.1) (by kernel_rfl)
            refine leafL ⟨rfl, _, _, .inl ⟨22, (.tuple #[.agg #[.int .i64 r37.1.X, .int .i64 r37.1.Y], .int .i64 r37.2]), [(6, 16, .tuple #[.agg #[.int .i64 r37.1.X, .int .i64 r37.1.Y], .int .i64 r37.2]), (7, 23, .agg #[.int .i64 r37.1.X, .int .i64 r37.1.Y]), (8, 24, .int .i64 r37.2)], rfl, S, hz_of (by kernel_rfl), ?_⟩⟩
            refine node_by (A := [[], [], [], [1, 2], [1, 2, 3], [0, 1, 2, 3, 4], [0, 1, 2, 3, 4, 5], [0, 1, 2, 3, 4, 5, 6], [0, 1, 2, 3, 4, 5, 6], [], [0, 1, 2, 3, 4, 5, 6, 7, 9], [0, 1, 2, 3, 4, 5, 6, 7, 8, 9, 10]]) (nf := [5, 9, 10]) (Y := [5, 9]) (W := [(6, 16, .tuple #[.agg #[.int .i64 r37.1.X, .int .i64 r37.1.Y], .int .i64 r37.2]), (7, 23, .agg #[.int .i64 r37.1.X, .int .i64 r37.1.Y]), (8, 24, .int .i64 r37.2), (5, 22, .tuple #[.agg #[.int .i64 r37.1.X, .int .i64 r37.1.Y], .int .i64 r37.2]), (9, 8, .pointer (some ⟨b46, 0, none⟩)), (0, 17, .agg #[.int .i64 p0.Stitches, .int .i64 p0.Width, .int .i64 p0.Rows, .int .i64 p0.Height]), (1, 18, .slice ad1 p1.length cp2), (2, 19, .int .i64 s15), (3, 20, q41), (4, 21, .agg #[.int .i64 x32.X, .int .i64 x32.Y])]) 12 (by kernel_rfl) (by kernel_rfl) (by kernel_rfl) (by kernel_rfl) (by kernel_rfl) [6, 7, 8, 5, 9, 0, 1, 2, 3, 4] (by kernel_rfl) (by decide) (by decide) (AllFrom.cons (k := 0) (m := 11) (.inr ⟨by decide, .inl ⟨5, by decide, by decide, by decide⟩⟩) (AllFrom.cons (k := 1) (m := 10) (.inr ⟨by decide, .inl ⟨5, by decide, by decide, by decide⟩⟩) (AllFrom.cons (k := 2) (m := 9) (.inr ⟨by decide, .inl ⟨5, by decide, by decide, by decide⟩⟩) (AllFrom.cons (k := 3) (m := 8) (.inr ⟨by decide, .inl ⟨5, by decide, by decide, by decide⟩⟩) (AllFrom.cons (k := 4) (m := 7) (.inr ⟨by decide, .inl ⟨5, by decide, by decide, by decide⟩⟩) (AllFrom.cons (k := 5) (m := 6) (.inl ⟨by decide, .inl (by decide)⟩) (AllFrom.cons (k := 6) (m := 5) (.inr ⟨by decide, .inr (.inr ?_)⟩) (AllFrom.cons (k := 7) (m := 4) (.inr ⟨by decide, .inr (.inr ?_)⟩) (AllFrom.cons (k := 8) (m := 3) (.inr ⟨by decide, .inr (.inr ?_)⟩) (AllFrom.cons (k := 9) (m := 2) (.inl ⟨by decide, .inl (by decide)⟩) (AllFrom.cons (k := 10) (m := 1) (.inl ⟨by decide, .inr (.inr ?_)⟩) (AllFrom.cons (k := 11) (m := 0) (.inr ⟨by decide, .inr (.inl ⟨10, by decide, by decide, by decide⟩)⟩) (trivial))))))))))))) [] (fun q hq => by cases hq) (fun hY => absurd (hY 10 (by decide)) (by decide))
            · refine ⟨_, 16, (.tuple #[.agg #[.int .i64 r37.1.X, .int .i64 r37.1.Y], .int .i64 r37.2]), [(22, .tuple #[.agg #[.int .i64 r37.1.X, .int .i64 r37.1.Y], .int .i64 r37.2])], rfl, rfl, List.mem_of_getElem? (i := 0) (by kernel_rfl), (srcs_of [some 3] rfl (by kernel_rfl) (by kernel_rfl)), fun G a w S => ?_⟩
              refine sMove (.tuple #[.agg #[.int .i64 r37.1.X, .int .i64 r37.1.Y], .int .i64 r37.2]) S (wN rfl) (.inl rfl) (by kernel_rfl) rfl (by decide) (fun a S => ?_)
              exact leafL ⟨rfl, S⟩
            · refine ⟨_, 23, (.agg #[.int .i64 r37.1.X, .int .i64 r37.1.Y]), [(16, .tuple #[.agg #[.int .i64 r37.1.X, .int .i64 r37.1.Y], .int .i64 r37.2])], rfl, rfl, List.mem_of_getElem? (i := 1) (by kernel_rfl), (srcs_of [some 0] rfl (by kernel_rfl) (by kernel_rfl)), fun G a w S => ?_⟩
              refine sExtract (vs := [.agg #[.int .i64 r37.1.X, .int .i64 r37.1.Y], .int .i64 r37.2]) (.agg #[.int .i64 r37.1.X, .int .i64 r37.1.Y]) S (wN rfl) rfl (by kernel_rfl) rfl rfl (by decide) (fun a S => ?_)
              exact leafL ⟨rfl, S⟩
            · refine ⟨_, 24, (.int .i64 r37.2), [(16, .tuple #[.agg #[.int .i64 r37.1.X, .int .i64 r37.1.Y], .int .i64 r37.2])], rfl, rfl, List.mem_of_getElem? (i := 2) (by kernel_rfl), (srcs_of [some 0] rfl (by kernel_rfl) (by kernel_rfl)), fun G a w S => ?_⟩
              refine sExtract (vs := [.agg #[.int .i64 r37.1.X, .int .i64 r37.1.Y], .int .i64 r37.2]) (.int .i64 r37.2) S (wN rfl) rfl (by kernel_rfl) rfl rfl (by decide) (fun a S => ?_)
              exact leafL ⟨rfl, S⟩
            · refine ⟨_, [(8, .pointer (some ⟨b46, 0, none⟩)), (23, .agg #[.int .i64 r37.1.X, .int .i64 r37.1.Y])], rfl, (srcs_of [some 4, some 1] rfl (by kernel_rfl) (by kernel_rfl)), fun G a w S => ?_⟩
              refine sStore (p := b46) (off := 0) (T := 75) (vs := [.int .i64 0, .int .i64 0]) (v := .agg #[.int .i64 r37.1.X, .int .i64 r37.1.Y]) 0 [.int .i64 r37.1.X, .int .i64 r37.1.Y] S (wN rfl) rfl (by kernel_rfl) (by kernel_rfl) rfl (by kernel_rfl) (by kernel_rfl) rfl (by simp) rfl (fun a w S => ?_)
              refine leafL ⟨rfl, _, _, .inr ⟨[(11, 9, .int .i64 r37.2)], rfl, S, hz_of (by kernel_rfl), ?_⟩⟩
              refine node_by (A := [[], [], [], [1, 2], [1, 2, 3], [0, 1, 2, 3, 4], [0, 1, 2, 3, 4, 5], [0, 1, 2, 3, 4, 5, 6], [0, 1, 2, 3, 4, 5, 6], [], [0, 1, 2, 3, 4, 5, 6, 7, 9], [0, 1, 2, 3, 4, 5, 6, 7, 8, 9, 10]]) (nf := [5, 9, 10]) (Y := [10, 5, 9]) (W := [(11, 9, .int .i64 r37.2), (6, 16, .tuple #[.agg #[.int .i64 r37.1.X, .int .i64 r37.1.Y], .int .i64 r37.2]), (7, 23, .agg #[.int .i64 r37.1.X, .int .i64 r37.1.Y]), (8, 24, .int .i64 r37.2), (5, 22, .tuple #[.agg #[.int .i64 r37.1.X, .int .i64 r37.1.Y], .int .i64 r37.2]), (9, 8, .pointer (some ⟨b46, 0, none⟩)), (0, 17, .agg #[.int .i64 p0.Stitches, .int .i64 p0.Width, .int .i64 p0.Rows, .int .i64 p0.Height]), (1, 18, .slice ad1 p1.length cp2), (2, 19, .int .i64 s15), (3, 20, q41), (4, 21, .agg #[.int .i64 x32.X, .int .i64 x32.Y])]) 12 (by kernel_rfl) (by kernel_rfl) (by kernel_rfl) (by kernel_rfl) (by kernel_rfl) [11, 6, 7, 8, 5, 9, 0, 1, 2, 3, 4] (by kernel_rfl) (by decide) (by decide) (AllFrom.cons (k := 0) (m := 11) (.inr ⟨by decide, .inl ⟨10, by decide, by decide, by decide⟩⟩) (AllFrom.cons (k := 1) (m := 10) (.inr ⟨by decide, .inl ⟨10, by decide, by decide, by decide⟩⟩) (AllFrom.cons (k := 2) (m := 9) (.inr ⟨by decide, .inl ⟨10, by decide, by decide, by decide⟩⟩) (AllFrom.cons (k := 3) (m := 8) (.inr ⟨by decide, .inl ⟨10, by decide, by decide, by decide⟩⟩) (AllFrom.cons (k := 4) (m := 7) (.inr ⟨by decide, .inl ⟨10, by decide, by decide, by decide⟩⟩) (AllFrom.cons (k := 5) (m := 6) (.inl ⟨by decide, .inl (by decide)⟩) (AllFrom.cons (k := 6) (m := 5) (.inr ⟨by decide, .inl ⟨10, by decide, by decide, by decide⟩⟩) (AllFrom.cons (k := 7) (m := 4) (.inr ⟨by decide, .inl ⟨10, by decide, by decide, by decide⟩⟩) (AllFrom.cons (k := 8) (m := 3) (.inr ⟨by decide, .inr (.inr ?_)⟩) (AllFrom.cons (k := 9) (m := 2) (.inl ⟨by decide, .inl (by decide)⟩) (AllFrom.cons (k := 10) (m := 1) (.inl ⟨by decide, .inl (by decide)⟩) (AllFrom.cons (k := 11) (m := 0) (.inr ⟨by decide, .inr (.inr ?_)⟩) (trivial))))))))))))) [(1, .slice ad1 p1.length cp2), (2, .pointer (some ⟨b4, 0, none⟩)), (6, .slice ad13 s12.length cp14), (7, .int .i64 s15), (8, .pointer (some ⟨b46, 0, none⟩)), (9, .int .i64 r37.2)] (fin_of [none, none, none, none, some 5, some 0] rfl (by kernel_rfl) (by kernel_rfl)) (fun _ a w S => ?_)
              · refine ⟨_, 24, (.int .i64 r37.2), [(16, .tuple #[.agg #[.int .i64 r37.1.X, .int .i64 r37.1.Y], .int .i64 r37.2])], rfl, rfl, List.mem_of_getElem? (i := 3) (by kernel_rfl), (srcs_of [some 1] rfl (by kernel_rfl) (by kernel_rfl)), fun G a w S => ?_⟩
                refine sExtract (vs := [.agg #[.int .i64 r37.1.X, .int .i64 r37.1.Y], .int .i64 r37.2]) (.int .i64 r37.2) S (wN rfl) rfl (by kernel_rfl) rfl rfl (by decide) (fun a S => ?_)
                exact leafL ⟨rfl, S⟩
              · refine ⟨_, 9, (.int .i64 r37.2), [(24, .int .i64 r37.2)], rfl, rfl, List.mem_of_getElem? (i := 0) (by kernel_rfl), (srcs_of [some 3] rfl (by kernel_rfl) (by kernel_rfl)), fun G a w S => ?_⟩
                refine sMove (.int .i64 r37.2) S (wN rfl) (.inr rfl) (by kernel_rfl) rfl (by decide) (fun a S => ?_)
                exact leafL ⟨rfl, S⟩
              · exact leafT (⟨r37.2, r37.1.X, r37.1.Y, Option.some.inj h, b46, S.fix [1, 0, 2] [5] (by decide) (by kernel_rfl) (by kernel_rfl) (by kernel_rfl)⟩)
      · obtain ⟨o27, o28, o29, rfl, b26, S⟩ := hI
        have h := g31
        clear g31
        try dsimp only at h
        refine sSeq (fun K48 hK48 => ?_)
        refine sSeq (fun K49 hK49 => ?_)
        refine sRegion ?_
        refine sMove (.int .i64 o27) S (wN rfl) (.inl rfl) (by kernel_rfl) rfl (by decide) (fun a S => ?_)
        refine sBin (.bool (o27 != 0)) S (wN rfl) rfl (by kernel_rfl) (by kernel_rfl) (bNe _ _ _ _ .i64 o27 0) rfl (by decide) (fun a S => ?_)
        refine leafL (leafT (hK49 _ _ ?_))
        rcases iteSome h with ⟨hc50, h⟩ | ⟨hc50, h⟩
        · refine sCondT (b := o27 != 0) S (by kernel_rfl) hc50 ?_
          refine sSeq (fun K51 hK51 => ?_)
          refine sRegion ?_
          refine sMove (.int .i64 o27) S (wN rfl) (.inl rfl) (by kernel_rfl) rfl (by decide) (fun a S => ?_)
          refine sMove (.slice none 0 0) S (wN rfl) (.inr rfl) (by kernel_rfl) rfl (by decide) (fun a S => ?_)
          refine sMove (.int .i64 o27) S (wN rfl) (.inr rfl) (by kernel_rfl) rfl (by decide) (fun a S => ?_)
          refine leafL (leafT (hK51 _ _ ?_))
          obtain rfl := Option.some.inj h
          obtain rfl := hu16 _ rfl
          have h := g17
          clear g17
          try dsimp only at h
          obtain rfl := Option.some.inj h
          have h := g10
          clear g10
          try dsimp only at h
          obtain rfl := Option.some.inj h
          have S := S.learn (fRep (rL r_api_Point) (.slice none 0 0) ([] : (List api_Point))) (rL_nil _ _ _)
          exact wp_ret (rThen (rBlock (rThen (rThen (rBlock (rThen (sRet (.tuple #[.slice none 0 0, .int .i64 o27]) S (rsl2 rfl (rvT (t := 4) (v := .slice none 0 0) S (by kernel_rfl)) (rvT (t := 5) (v := .int .i64 o27) S (by kernel_rfl))) ⟨(.slice none 0 0), rfl, S.mem.sel [] [0] (by decide) (by kernel_rfl) (by kernel_rfl)⟩)))))))
        · refine sCondF (b := o27 != 0) S (by kernel_rfl) hc50 ?_
          refine wp_skip (leafT (hK48 _ _ ?_))
          refine sRegion ?_
          refine sMove (.slice ad13 s12.length cp14) S (wN rfl) (.inl rfl) (by kernel_rfl) rfl (by decide) (fun a S => ?_)
          refine sLoadN (p := b26) (off := 0) (T := 75) (vs := [.int .i64 o28, .int .i64 o29]) 1 [.int .i64 o28, .int .i64 o29] S (wN rfl) rfl (by kernel_rfl) (by kernel_rfl) (by kernel_rfl) (by kernel_rfl) rfl rfl (by decide) (fun a S => ?_)
          have S := S.learn (fRep r_api_Point (.agg #[.int .i64 o28, .int .i64 o29]) (api_Point.mk o28 o29)) rfl
          refine sLit (r := r_api_Point) (T := 75) (xs := [(api_Point.mk o28 o29)]) [(0, .agg #[.int .i64 o28, .int .i64 o29])] 1 [.agg #[.int .i64 o28, .int .i64 o29]] [.int .i64 o28, .int .i64 o29] (.agg #[.int .i64 0, .int .i64 0]) 16 S (wN rfl) rfl (by kernel_rfl) Try.underlying24 (by kernel_rfl) (by decide) (by decide) (by kernel_rfl) rfl (fun E1 w1 hE => All.cons (r_api_Point.mono hE (S.mem.know (i := 0) (e := fRep r_api_Point (.agg #[.int .i64 o28, .int .i64 o29]) (api_Point.mk o28 o29)) (by kernel_rfl))) (All.nil _ _ _)) rfl rfl (by decide) (fun a w ad52 cp53 S => ?_)
          obtain ⟨l54, hx55, h⟩ := bindSome h
          refine sApp (r := r_api_Point) (T := 75) (xs := s12) (ys := [(api_Point.mk o28 o29)]) (v := .slice ad13 s12.length cp14) (u := .slice ad52 [(api_Point.mk o28 o29)].length cp53) 3 (.agg #[.int .i64 0, .int .i64 0]) 16 S (wN rfl) rfl Try.underlying24 (by kernel_rfl) rfl (by decide) (by kernel_rfl) (by kernel_rfl) (by kernel_rfl) (src_R (T := 75) 0 S.mem (by kernel_rfl)) hx55 rfl (by decide) (fun a w ad56 cp57 S => ?_)
          refine sMove (.slice ad56 l54.length cp57) S (wN rfl) (.inr rfl) (by kernel_rfl) rfl (by decide) (fun a S => ?_)
          refine leafL (leafB (leafT (hK25 _ _ ?_)))
          refine sRegion ?_
          refine sMove (.int .i64 s15) S (wN rfl) (.inl rfl) (by kernel_rfl) rfl (by decide) (fun a S => ?_)
          refine sBin (.int .i64 (w64 (s15 + 1))) S (wN rfl) rfl (by kernel_rfl) (by kernel_rfl) (bAdd _ _ _ _ s15 1) rfl (by decide) (fun a S => ?_)
          refine sMove (.int .i64 (w64 (s15 + 1))) S (wN rfl) (.inr rfl) (by kernel_rfl) rfl (by decide) (fun a S => ?_)
          exact leafL (leafT (⟨(l54, w64 (s15 + 1)), (Option.some.inj h).symm, ⟨ad56, cp57, S.fix [2, 0] [1] (by decide) (by kernel_rfl) (by kernel_rfl) (by kernel_rfl)⟩⟩))
    · refine sCondF (b := decide (s15 < (p1.length : Int))) S (by kernel_rfl) hc24 ?_
      obtain rfl := Option.some.inj h
      obtain rfl := hu16 _ rfl
      have h := g17
      clear g17
      try dsimp only at h
      exact wp_exit (xThen (xThen (xHit (leafT (⟨s12, Option.some.inj h, ad13, cp14, S.fix [1] [] (by decide) (by kernel_rfl) (by kernel_rfl) (by kernel_rfl)⟩)))))
  · obtain ⟨o6, rfl, ad7, cp8, S⟩ := hI
    have h := g10
    clear g10
    try dsimp only at h
    refine sSeq (fun K58 hK58 => ?_)
    refine sRegion ?_
    refine sMove (.slice ad7 o6.length cp8) S (wN rfl) (.inl rfl) (by kernel_rfl) rfl (by decide) (fun a S => ?_)
    refine sMove (.slice ad7 o6.length cp8) S (wN rfl) (.inr rfl) (by kernel_rfl) rfl (by decide) (fun a S => ?_)
    refine sMove (.int .i64 0) S (wN rfl) (.inr rfl) (by kernel_rfl) rfl (by decide) (fun a S => ?_)
    refine leafL (leafT (hK58 _ _ ?_))
    obtain rfl := Option.some.inj h
    have S := S.shutR (r := r_api_Point) (T := 75) (v := .slice ad7 o6.length cp8) (xs := o6) 0 (by kernel_rfl)
    exact wp_ret (sRet (.tuple #[.slice ad7 o6.length cp8, .int .i64 0]) S (rsl2 rfl (rvT (t := 4) (v := .slice ad7 o6.length cp8) S (by kernel_rfl)) (rvT (t := 5) (v := .int .i64 0) S (by kernel_rfl))) ⟨(.slice ad7 o6.length cp8), rfl, S.mem.sel [] [0] (by decide) (by kernel_rfl) (by kernel_rfl)⟩)

end Go.Proofs.Ytmedbnjhgkcndaa
