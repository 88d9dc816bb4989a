import Derived.Test.YtmedbnjhgkcndaaGTy
namespace Go.Proofs.Ytmedbnjhgkcndaa
open Go.RowKit
set_option linter.unusedVariables false

def anc_raddleref37_Great_0 : List (List Nat) := [[], [0], [], [0, 1, 2], [0, 1, 2, 3], [], [5], [], [5, 6, 7], [5, 6, 7, 8], [0, 1, 2, 3, 4, 5, 6, 7, 8, 9], [0, 1, 2, 3, 4, 5, 6, 7, 8, 9, 10], [0, 1, 2, 3, 4, 5, 6, 7, 8, 9, 10, 11], [0, 1, 2, 3, 4, 5, 6, 7, 8, 9, 10, 11, 12], [0, 1, 2, 3, 4, 5, 6, 7, 8, 9, 10, 11, 12, 13], [0, 1, 2, 3, 4, 5, 6, 7, 8, 9, 10, 11, 12], [0, 1, 2, 3, 4, 5, 6, 7, 8, 9, 10, 11, 12, 13, 14, 15], [0, 1, 2, 3, 4, 5, 6, 7, 8, 9, 10, 11, 12, 13, 14, 15, 16], [0, 1, 2, 3, 4, 5, 6, 7, 8, 9, 10, 11, 12], [0, 1, 2, 3, 4, 5, 6, 7, 8, 9, 10, 11, 12, 18], [0, 1, 2, 3, 4, 5, 6, 7, 8, 9, 10, 11, 12], [0, 1, 2, 3, 4, 5, 6, 7, 8, 9, 10, 11, 12, 18, 19, 20], [0, 1, 2, 3, 4, 5, 6, 7, 8, 9, 10, 11, 12, 18, 19, 20, 21], [0, 1, 2, 3, 4, 5, 6, 7, 8, 9, 10, 11, 12, 13, 14, 15, 16, 17, 18, 19, 20, 21, 22], [0, 1, 2, 3, 4, 5, 6, 7, 8, 9, 10, 11, 12, 13, 14, 15, 16, 17, 18, 19, 20, 21, 22, 23], [0, 1, 2, 3, 4, 5, 6, 7, 8, 9, 10, 11, 12, 13, 14, 15, 16, 17, 18, 19, 20, 21, 22, 23, 24]]
noncomputable def raddleref37_Great_l1 (p0 : api_Piece) : Int → Option (Int ⊕ (Bool ⊕ Unit)) := fun s0 => match s0 with
  | s14 =>
    Option.bind (α := Bool) (
      if decide (s14 < (p0.Left.length : Int)) then
        some (decide (s14 < (p0.Right.length : Int)))
      else
        some false) fun o19 =>
    if o19 then
      Option.bind (α := Bool) (
        Option.bind (idxO p0.Right s14) fun x28 =>
        Option.bind (idxO p0.Left s14) fun x33 =>
        if decide (40 < (w64 (x28 - x33))) then
          some (decide ((w64 (x28 - x33)) ≤ 200))
        else
          some false) fun o25 =>
      if o25 then
        some (.inr (.inl true))
      else
        some (.inl (w64 (s14 + 1)))
    else
      some (.inr (.inr ()))
noncomputable def F_raddleref37_Great (p0 : api_Piece) : Option Bool :=
  Option.bind (α := Unit ⊕ Bool) (
    Option.bind (whileO (raddleref37_Great_l1 p0) 0) fun z0 => match z0 with
      | .inl z =>
        some (.inr z)
      | .inr _ =>
        some (.inl ())) fun z0 => match z0 with
    | .inl _ =>
      Option.bind (α := Bool) (
        if decide (20 < (p0.Left.length : Int)) then
          if decide ((p0.Left.length : Int) ≤ 100) then
            some true
          else
            if decide (110 < (p0.Left.length : Int)) then
              some true
            else
              some (decide (110 < (p0.Right.length : Int)))
        else
          if decide (110 < (p0.Left.length : Int)) then
            some true
          else
            some (decide (110 < (p0.Right.length : Int)))) fun o65 =>
      some o65
    | .inr z =>
      some z
set_option maxHeartbeats 4000000 in
set_option maxRecDepth 100000 in
theorem c_raddleref37_Great (E : Nat → Prop) (w0 : World) (p0 : api_Piece) (v0 : Value) (r : Bool) (h : F_raddleref37_Great p0 = some r) (S : St0 E [] w0 w0 [] [fRep r_api_Piece (v0) p0]) :
    Calls Try.prog 10 #[v0] w0 (Ret (X := Unit) E [] w0 (fun _ => .bool r) (fun _ => []) (fun _ => [])) := by
  unfold F_raddleref37_Great at h
  obtain ⟨u1, u2, rfl, hu3, hu4⟩ := S.know (i := 0) (e := fRep r_api_Piece (v0) p0) (by kernel_rfl)
  have S := S.learn (fRep (rL (rI .i64)) u1 p0.Left) hu3
  obtain ⟨ad5, cp6, _, rfl, _⟩ := hu3
  have S := S.learn (fRep (rL (rI .i64)) u2 p0.Right) hu4
  obtain ⟨ad7, cp8, _, rfl, _⟩ := hu4
  refine sEnter (args := [.agg #[.slice ad5 p0.Left.length cp6, .slice ad7 p0.Right.length cp8]]) 66 Try.func10 rfl rfl (by simp) S (fun a S => ?_)
  refine sSeq (fun K9 hK9 => ?_)
  refine sRegion ?_
  refine sBox (v := .agg #[.slice ad5 p0.Left.length cp6, .slice ad7 p0.Right.length cp8]) S (wN rfl) rfl (by kernel_rfl) [.slice ad5 p0.Left.length cp6, .slice ad7 p0.Right.length cp8] rfl rfl (by decide) (fun a b10 w S => ?_)
  refine sMove (.bool false) S (wN rfl) (.inr rfl) (by kernel_rfl) rfl (by decide) (fun a S => ?_)
  refine leafL (leafT (hK9 _ _ ?_))
  obtain ⟨t11, h, g12⟩ := bindSome h
  refine sCut (fun a w => .inl () = t11 ∧ St E [] w0 66 a w [(1, .pointer (some ⟨b10, 0, none⟩))] [eBox b10 36 [.slice ad5 p0.Left.length cp6, .slice ad7 p0.Right.length cp8]] [fRep (rL (rI .i64)) (.slice ad5 p0.Left.length cp6) p0.Left, fRep (rL (rI .i64)) (.slice ad7 p0.Right.length cp8) p0.Right]) ?_ (fun a w hI => ?_)
  · refine sSeq (fun K13 hK13 => ?_)
    refine sRegion ?_
    refine sMove (.int .i64 0) S (wN rfl) (.inr rfl) (by kernel_rfl) rfl (by decide) (fun a S => ?_)
    refine leafL (leafT (hK13 _ _ ?_))
    refine wp_block ?_
    obtain ⟨t17, hl, g16⟩ := bindSome h
    refine sLoop hl (fun s0 a w => match s0 with | s14 => St E [] w0 66 a w [(1, .pointer (some ⟨b10, 0, none⟩)), (3, .int .i64 s14)] [eBox b10 36 [.slice ad5 p0.Left.length cp6, .slice ad7 p0.Right.length cp8]] [fRep (rL (rI .i64)) (.slice ad5 p0.Left.length cp6) p0.Left, fRep (rL (rI .i64)) (.slice ad7 p0.Right.length cp8) p0.Right]) (S.fix [0] [1, 0] (by decide) (by kernel_rfl) (by kernel_rfl) (by kernel_rfl)) ?_
    clear hl h
    intro s14 a w c0 hI h hu15
    unfold raddleref37_Great_l1 at h
    dsimp only at h hI
    have S := hI
    refine sSeq (fun K18 hK18 => ?_)
    obtain ⟨t20, h, g21⟩ := bindSome h
    refine sCut (fun a w => ∃ o19, o19 = t20 ∧ St E [] w0 66 a w [(1, .pointer (some ⟨b10, 0, none⟩)), (3, .int .i64 s14), (15, .bool o19)] [eBox b10 36 [.slice ad5 p0.Left.length cp6, .slice ad7 p0.Right.length cp8]] [fRep (rL (rI .i64)) (.slice ad5 p0.Left.length cp6) p0.Left, fRep (rL (rI .i64)) (.slice ad7 p0.Right.length cp8) p0.Right]) ?_ (fun a w hI => ?_)
    · refine sRegion ?_
      refine sMove (.int .i64 s14) S (wN rfl) (.inl rfl) (by kernel_rfl) rfl (by decide) (fun a S => ?_)
      refine sField (b := b10) (off := 0) 0 0 S (wN rfl) rfl (by kernel_rfl) (by kernel_rfl) rfl rfl (by decide) (fun a S => ?_)
      refine sLoad1 (p := b10) (off := 0) (T := 36) (vs := [.slice ad5 p0.Left.length cp6, .slice ad7 p0.Right.length cp8]) 0 (.slice ad5 p0.Left.length cp6) S (wN rfl) rfl (by kernel_rfl) (by kernel_rfl) (by kernel_rfl) rfl rfl (by decide) (fun a S => ?_)
      refine sLen (ad := ad5) (m := p0.Left.length) (c := cp6) S (wN rfl) rfl Try.underlying34 (by kernel_rfl) rfl (by decide) (fun a S => ?_)
      refine sBin (.bool (decide (s14 < (p0.Left.length : Int)))) S (wN rfl) rfl (by kernel_rfl) (by kernel_rfl) (bLt _ _ _ _ .i64 s14 (p0.Left.length : Int)) rfl (by decide) (fun a S => ?_)
      refine sMove (.bool (decide (s14 < (p0.Left.length : Int)))) S (wN rfl) (.inl rfl) (by kernel_rfl) rfl (by decide) (fun a S => ?_)
      rcases iteSome h with ⟨hc22, h⟩ | ⟨hc22, h⟩
      · refine sMove (.int .i64 s14) S (wG (c := decide (s14 < (p0.Left.length : Int))) 5 true 9 rfl rfl (by kernel_rfl) hc22) (.inl rfl) (by kernel_rfl) rfl (by decide) (fun a S => ?_)
        refine sField (b := b10) (off := 0) 1 1 S (wG (c := decide (s14 < (p0.Left.length : Int))) 5 true 9 rfl rfl (by kernel_rfl) hc22) rfl (by kernel_rfl) (by kernel_rfl) rfl rfl (by decide) (fun a S => ?_)
        refine sLoad1 (p := b10) (off := 1) (T := 36) (vs := [.slice ad5 p0.Left.length cp6, .slice ad7 p0.Right.length cp8]) 0 (.slice ad7 p0.Right.length cp8) S (wG (c := decide (s14 < (p0.Left.length : Int))) 5 true 9 rfl rfl (by kernel_rfl) hc22) rfl (by kernel_rfl) (by kernel_rfl) (by kernel_rfl) rfl rfl (by decide) (fun a S => ?_)
        refine sLen (ad := ad7) (m := p0.Right.length) (c := cp8) S (wG (c := decide (s14 < (p0.Left.length : Int))) 5 true 9 rfl rfl (by kernel_rfl) hc22) rfl Try.underlying34 (by kernel_rfl) rfl (by decide) (fun a S => ?_)
        refine sBin (.bool (decide (s14 < (p0.Right.length : Int)))) S (wG (c := decide (s14 < (p0.Left.length : Int))) 5 true 9 rfl rfl (by kernel_rfl) hc22) rfl (by kernel_rfl) (by kernel_rfl) (bLt _ _ _ _ .i64 s14 (p0.Right.length : Int)) rfl (by decide) (fun a S => ?_)
        refine sPickT (b := decide (s14 < (p0.Left.length : Int))) (.bool (decide (s14 < (p0.Right.length : Int)))) S (wN rfl) rfl (by kernel_rfl) hc22 (by kernel_rfl) rfl (by decide) (fun a S => ?_)
        exact leafL (leafT (⟨decide (s14 < (p0.Right.length : Int)), Option.some.inj h, S.fix [0] [0, 1] (by decide) (by kernel_rfl) (by kernel_rfl) (by kernel_rfl)⟩))
      · refine sSkip (c := decide (s14 < (p0.Left.length : Int))) 5 true 9 10 S rfl rfl (by kernel_rfl) hc22 rfl (by decide) (fun a S => ?_)
        refine sSkip (c := decide (s14 < (p0.Left.length : Int))) 5 true 9 11 S rfl rfl (by kernel_rfl) hc22 rfl (by decide) (fun a S => ?_)
        refine sSkip (c := decide (s14 < (p0.Left.length : Int))) 5 true 9 12 S rfl rfl (by kernel_rfl) hc22 rfl (by decide) (fun a S => ?_)
        refine sSkip (c := decide (s14 < (p0.Left.length : Int))) 5 true 9 13 S rfl rfl (by kernel_rfl) hc22 rfl (by decide) (fun a S => ?_)
        refine sSkip (c := decide (s14 < (p0.Left.length : Int))) 5 true 9 14 S rfl rfl (by kernel_rfl) hc22 rfl (by decide) (fun a S => ?_)
        refine sPickF (b := decide (s14 < (p0.Left.length : Int))) (.bool false) S (wN rfl) rfl (by kernel_rfl) hc22 (by kernel_rfl) rfl (by decide) (fun a S => ?_)
        exact leafL (leafT (⟨false, Option.some.inj h, S.fix [0] [0, 1] (by decide) (by kernel_rfl) (by kernel_rfl) (by kernel_rfl)⟩))
    · obtain ⟨o19, rfl, S⟩ := hI
      have h := g21
      clear g21
      try dsimp only at h
      rcases iteSome h with ⟨hc23, h⟩ | ⟨hc23, h⟩
      · refine sCondT (b := o19) S (by kernel_rfl) hc23 ?_
        refine wp_skip (leafT (hK18 _ _ ?_))
        refine sSeq (fun K24 hK24 => ?_)
        refine wp_block ?_
        obtain ⟨t26, h, g27⟩ := bindSome h
        refine sCut (fun a w => ∃ o25, o25 = t26 ∧ St E [] w0 66 a w [(1, .pointer (some ⟨b10, 0, none⟩)), (3, .int .i64 s14), (43, .bool o25)] [eBox b10 36 [.slice ad5 p0.Left.length cp6, .slice ad7 p0.Right.length cp8]] [fRep (rL (rI .i64)) (.slice ad5 p0.Left.length cp6) p0.Left, fRep (rL (rI .i64)) (.slice ad7 p0.Right.length cp8) p0.Right]) ?_ (fun a w hI => ?_)
        · obtain ⟨x28, hx29, h⟩ := bindSome h
          obtain ⟨x33, hx34, h⟩ := bindSome h
          rcases iteSome h with ⟨hc38, h⟩ | ⟨hc38, h⟩
          · obtain ⟨q45, hq46, S⟩ := pIdx (P := Try.prog) (r := (rI .i64)) (v := .slice ad7 p0.Right.length cp8) (xs := p0.Right) (j := s14) 34 3 1 S Try.underlying34 (by kernel_rfl) (by kernel_rfl) hx29
            obtain ⟨u47, S⟩ := pLoad (r := (rI .i64)) (q := q45) (x := x28) 0 S (by kernel_rfl)
            obtain rfl : u47 = .int .i64 x28 := S.mem.know (i := 1) (e := fRep (rI .i64) (u47) x28) (by kernel_rfl)
            obtain ⟨q48, hq49, S⟩ := pIdx (P := Try.prog) (r := (rI .i64)) (v := .slice ad5 p0.Left.length cp6) (xs := p0.Left) (j := s14) 34 3 3 S Try.underlying34 (by kernel_rfl) (by kernel_rfl) hx34
            obtain ⟨u50, S⟩ := pLoad (r := (rI .i64)) (q := q48) (x := x33) 0 S (by kernel_rfl)
            obtain rfl : u50 = .int .i64 x33 := S.mem.know (i := 1) (e := fRep (rI .i64) (u50) x33) (by kernel_rfl)
            obtain ⟨q51, hq52, S⟩ := pIdx (P := Try.prog) (r := (rI .i64)) (v := .slice ad7 p0.Right.length cp8) (xs := p0.Right) (j := s14) 34 3 7 S Try.underlying34 (by kernel_rfl) (by kernel_rfl) hx29
            obtain ⟨u53, S⟩ := pLoad (r := (rI .i64)) (q := q51) (x := x28) 0 S (by kernel_rfl)
            obtain rfl : u53 = .int .i64 x28 := S.mem.know (i := 1) (e := fRep (rI .i64) (u53) x28) (by kernel_rfl)
            obtain ⟨q54, hq55, S⟩ := pIdx (P := Try.prog) (r := (rI .i64)) (v := .slice ad5 p0.Left.length cp6) (xs := p0.Left) (j := s14) 34 3 9 S Try.underlying34 (by kernel_rfl) (by kernel_rfl) hx34
            obtain ⟨u56, S⟩ := pLoad (r := (rI .i64)) (q := q54) (x := x33) 0 S (by kernel_rfl)
            obtain rfl : u56 = .int .i64 x33 := S.mem.know (i := 1) (e := fRep (rI .i64) (u56) x33) (by kernel_rfl)
            refine sDraw (nf := []) (W := [(0, 18, .pointer (some ⟨b10, 1, none⟩)), (1, 19, .slice ad7 p0.Right.length cp8), (2, 20, .int .i64 s14), (3, 21, q45), (4, 22, .int .i64 x28), (5, 23, .pointer (some ⟨b10, 0, none⟩)), (6, 24, .slice ad5 p0.Left.length cp6), (7, 25, .int .i64 s14), (8, 26, q48), (9, 27, .int .i64 x33), (10, 28, .int .i64 (w64 (x28 - x33))), (11, 29, .bool (decide (40 < (w64 (x28 - x33))))), (12, 30, .bool (decide (40 < (w64 (x28 - x33))))), (13, 31, .pointer (some ⟨b10, 1, none⟩)), (14, 32, .slice ad7 p0.Right.length cp8), (15, 33, .int .i64 s14), (16, 34, q51), (17, 35, .int .i64 x28), (18, 36, .pointer (some ⟨b10, 0, none⟩)), (19, 37, .slice ad5 p0.Left.length cp6), (20, 38, .int .i64 s14), (21, 39, q54), (22, 40, .int .i64 x33), (23, 41, .int .i64 (w64 (x28 - x33))), (24, 42, .bool (decide ((w64 (x28 - x33)) ≤ 200))), (25, 43, .bool (decide ((w64 (x28 - x33)) ≤ 200)))]) (by kernel_rfl) S ?_
            refine node_by (A := anc_raddleref37_Great_0) (nf := []) (Y := []) (W := [(0, 18, .pointer (some ⟨b10, 1, none⟩)), (1, 19, .slice ad7 p0.Right.length cp8), (2, 20, .int .i64 s14), (3, 21, q45), (4, 22, .int .i64 x28), (5, 23, .pointer (some ⟨b10, 0, none⟩)), (6, 24, .slice ad5 p0.Left.length cp6), (7, 25, .int .i64 s14), (8, 26, q48), (9, 27, .int .i64 x33), (10, 28, .int .i64 (w64 (x28 - x33))), (11, 29, .bool (decide (40 < (w64 (x28 - x33))))), (12, 30, .bool (decide (40 < (w64 (x28 - x33))))), (13, 31, .pointer (some ⟨b10, 1, none⟩)), (14, 32, .slice ad7 p0.Right.length cp8), (15, 33, .int .i64 s14), (16, 34, q51), (17, 35, .int .i64 x28), (18, 36, .pointer (some ⟨b10, 0, none⟩)), (19, 37, .slice ad5 p0.Left.length cp6), (20, 38, .int .i64 s14), (21, 39, q54), (22, 40, .int .i64 x33), (23, 41, .int .i64 (w64 (x28 - x33))), (24, 42, .bool (decide ((w64 (x28 - x33)) ≤ 200))), (25, 43, .bool (decide ((w64 (x28 - x33)) ≤ 200)))]) 26 (by kernel_rfl) (by kernel_rfl) (by kernel_rfl) (by kernel_rfl) (by kernel_rfl) [0, 1, 2, 3, 4, 5, 6, 7, 8, 9, 10, 11, 12, 13, 14, 15, 16, 17, 18, 19, 20, 21, 22, 23, 24, 25] (by kernel_rfl) (by decide) (by decide) (aF 0 25 (by decide) ?_ (aF 1 24 (by decide) ?_ (aF 2 23 (by decide) ?_ (aF 3 22 (by decide) ?_ (aF 4 21 (by decide) ?_ (aF 5 20 (by decide) ?_ (aF 6 19 (by decide) ?_ (aF 7 18 (by decide) ?_ (aF 8 17 (by decide) ?_ (aF 9 16 (by decide) ?_ (aF 10 15 (by decide) ?_ (aF 11 14 (by decide) ?_ (aF 12 13 (by decide) ?_ (aF 13 12 (by decide) ?_ (aF 14 11 (by decide) ?_ (aF 15 10 (by decide) ?_ (aF 16 9 (by decide) ?_ (aF 17 8 (by decide) ?_ (aF 18 7 (by decide) ?_ (aF 19 6 (by decide) ?_ (aF 20 5 (by decide) ?_ (aF 21 4 (by decide) ?_ (aF 22 3 (by decide) ?_ (aF 23 2 (by decide) ?_ (aF 24 1 (by decide) ?_ (aF 25 0 (by decide) ?_ (trivial))))))))))))))))))))))))))) [(1, .pointer (some ⟨b10, 0, none⟩)), (3, .int .i64 s14), (31, .pointer (some ⟨b10, 1, none⟩)), (32, .slice ad7 p0.Right.length cp8), (33, .int .i64 s14), (34, q51), (35, .int .i64 x28), (36, .pointer (some ⟨b10, 0, none⟩)), (37, .slice ad5 p0.Left.length cp6), (38, .int .i64 s14), (39, q54), (40, .int .i64 x33), (41, .int .i64 (w64 (x28 - x33))), (42, .bool (decide ((w64 (x28 - x33)) ≤ 200))), (43, .bool (decide ((w64 (x28 - x33)) ≤ 200)))] (fin_of [none, none, some 13, some 14, some 15, some 16, some 17, some 18, some 19, some 20, some 21, some 22, some 23, some 24, some 25] rfl (by kernel_rfl) (by kernel_rfl)) (fun _ a w S => ?_)
            · refine fI 18 (.pointer (some ⟨b10, 1, none⟩)) [(1, .pointer (some ⟨b10, 0, none⟩))] 0 [none] rfl rfl (by kernel_rfl) rfl (by kernel_rfl) (by kernel_rfl) fun G a w S => ?_
              refine sField (b := b10) (off := 0) 1 1 S (wN rfl) rfl (by kernel_rfl) (by kernel_rfl) rfl rfl (by decide) (fun a S => ?_)
              exact leafL ⟨rfl, S⟩
            · refine fI 19 (.slice ad7 p0.Right.length cp8) [(18, .pointer (some ⟨b10, 1, none⟩))] 1 [some 0] rfl rfl (by kernel_rfl) rfl (by kernel_rfl) (by kernel_rfl) fun G a w S => ?_
              refine sLoad1 (p := b10) (off := 1) (T := 36) (vs := [.slice ad5 p0.Left.length cp6, .slice ad7 p0.Right.length cp8]) 0 (.slice ad7 p0.Right.length cp8) S (wN rfl) rfl (by kernel_rfl) (by kernel_rfl) (by kernel_rfl) rfl rfl (by decide) (fun a S => ?_)
              exact leafL ⟨rfl, S⟩
            · refine fI 20 (.int .i64 s14) [(3, .int .i64 s14)] 2 [none] rfl rfl (by kernel_rfl) rfl (by kernel_rfl) (by kernel_rfl) fun G a w S => ?_
              refine sMove (.int .i64 s14) S (wN rfl) (.inl rfl) (by kernel_rfl) rfl (by decide) (fun a S => ?_)
              exact leafL ⟨rfl, S⟩
            · refine fI 21 q45 [(19, .slice ad7 p0.Right.length cp8), (20, .int .i64 s14)] 3 [some 1, some 2] rfl rfl (by kernel_rfl) rfl (by kernel_rfl) (by kernel_rfl) fun G a w S => ?_
              refine sIdxV (v := .slice ad7 p0.Right.length cp8) (k := .i64) (j := s14) S (wN rfl) rfl (by kernel_rfl) (by kernel_rfl) hq46 rfl (by decide) (fun a S => ?_)
              exact leafL ⟨rfl, S⟩
            · refine fI 22 (.int .i64 x28) [(21, q45)] 4 [some 3] rfl rfl (by kernel_rfl) rfl (by kernel_rfl) (by kernel_rfl) fun G a w S => ?_
              refine sLoadV1 (vq := q45) 9 (.int .i64 x28) S (wN rfl) rfl (by kernel_rfl) (by kernel_rfl) (by kernel_rfl) rfl (by decide) (fun a S => ?_)
              exact leafL ⟨rfl, S⟩
            · refine fI 23 (.pointer (some ⟨b10, 0, none⟩)) [(1, .pointer (some ⟨b10, 0, none⟩))] 5 [none] rfl rfl (by kernel_rfl) rfl (by kernel_rfl) (by kernel_rfl) fun G a w S => ?_
              refine sField (b := b10) (off := 0) 0 0 S (wN rfl) rfl (by kernel_rfl) (by kernel_rfl) rfl rfl (by decide) (fun a S => ?_)
              exact leafL ⟨rfl, S⟩
            · refine fI 24 (.slice ad5 p0.Left.length cp6) [(23, .pointer (some ⟨b10, 0, none⟩))] 6 [some 5] rfl rfl (by kernel_rfl) rfl (by kernel_rfl) (by kernel_rfl) fun G a w S => ?_
              refine sLoad1 (p := b10) (off := 0) (T := 36) (vs := [.slice ad5 p0.Left.length cp6, .slice ad7 p0.Right.length cp8]) 0 (.slice ad5 p0.Left.length cp6) S (wN rfl) rfl (by kernel_rfl) (by kernel_rfl) (by kernel_rfl) rfl rfl (by decide) (fun a S => ?_)
              exact leafL ⟨rfl, S⟩
            · refine fI 25 (.int .i64 s14) [(3, .int .i64 s14)] 7 [none] rfl rfl (by kernel_rfl) rfl (by kernel_rfl) (by kernel_rfl) fun G a w S => ?_
              refine sMove (.int .i64 s14) S (wN rfl) (.inl rfl) (by kernel_rfl) rfl (by decide) (fun a S => ?_)
              exact leafL ⟨rfl, S⟩
            · refine fI 26 q48 [(24, .slice ad5 p0.Left.length cp6), (25, .int .i64 s14)] 8 [some 6, some 7] rfl rfl (by kernel_rfl) rfl (by kernel_rfl) (by kernel_rfl) fun G a w S => ?_
              refine sIdxV (v := .slice ad5 p0.Left.length cp6) (k := .i64) (j := s14) S (wN rfl) rfl (by kernel_rfl) (by kernel_rfl) hq49 rfl (by decide) (fun a S => ?_)
              exact leafL ⟨rfl, S⟩
            · refine fI 27 (.int .i64 x33) [(26, q48)] 9 [some 8] rfl rfl (by kernel_rfl) rfl (by kernel_rfl) (by kernel_rfl) fun G a w S => ?_
              refine sLoadV1 (vq := q48) 6 (.int .i64 x33) S (wN rfl) rfl (by kernel_rfl) (by kernel_rfl) (by kernel_rfl) rfl (by decide) (fun a S => ?_)
              exact leafL ⟨rfl, S⟩
            · refine fI 28 (.int .i64 (w64 (x28 - x33))) [(22, .int .i64 x28), (27, .int .i64 x33)] 10 [some 4, some 9] rfl rfl (by kernel_rfl) rfl (by kernel_rfl) (by kernel_rfl) fun G a w S => ?_
              refine sBin (.int .i64 (w64 (x28 - x33))) S (wN rfl) rfl (by kernel_rfl) (by kernel_rfl) (bSub _ _ _ _ x28 x33) rfl (by decide) (fun a S => ?_)
              exact leafL ⟨rfl, S⟩
            · refine fI 29 (.bool (decide (40 < (w64 (x28 - x33))))) [(28, .int .i64 (w64 (x28 - x33)))] 11 [some 10] rfl rfl (by kernel_rfl) rfl (by kernel_rfl) (by kernel_rfl) fun G a w S => ?_
              refine sBin (.bool (decide (40 < (w64 (x28 - x33))))) S (wN rfl) rfl (by kernel_rfl) (by kernel_rfl) (bGt _ _ _ _ .i64 (w64 (x28 - x33)) 40) rfl (by decide) (fun a S => ?_)
              exact leafL ⟨rfl, S⟩
            · refine fI 30 (.bool (decide (40 < (w64 (x28 - x33))))) [(29, .bool (decide (40 < (w64 (x28 - x33)))))] 12 [some 11] rfl rfl (by kernel_rfl) rfl (by kernel_rfl) (by kernel_rfl) fun G a w S => ?_
              refine sMove (.bool (decide (40 < (w64 (x28 - x33))))) S (wN rfl) (.inl rfl) (by kernel_rfl) rfl (by decide) (fun a S => ?_)
              exact leafL ⟨rfl, S⟩
            · refine fI 31 (.pointer (some ⟨b10, 1, none⟩)) [(1, .pointer (some ⟨b10, 0, none⟩)), (30, .bool (decide (40 < (w64 (x28 - x33)))))] 13 [none, some 12] rfl rfl (by kernel_rfl) rfl (by kernel_rfl) (by kernel_rfl) fun G a w S => ?_
              refine sField (b := b10) (off := 0) 1 1 S (wG (c := decide (40 < (w64 (x28 - x33)))) 12 true 30 rfl rfl (by kernel_rfl) hc38) rfl (by kernel_rfl) (by kernel_rfl) rfl rfl (by decide) (fun a S => ?_)
              exact leafL ⟨rfl, S⟩
            · refine fI 32 (.slice ad7 p0.Right.length cp8) [(31, .pointer (some ⟨b10, 1, none⟩)), (30, .bool (decide (40 < (w64 (x28 - x33)))))] 14 [some 13, some 12] rfl rfl (by kernel_rfl) rfl (by kernel_rfl) (by kernel_rfl) fun G a w S => ?_
              refine sLoad1 (p := b10) (off := 1) (T := 36) (vs := [.slice ad5 p0.Left.length cp6, .slice ad7 p0.Right.length cp8]) 0 (.slice ad7 p0.Right.length cp8) S (wG (c := decide (40 < (w64 (x28 - x33)))) 12 true 30 rfl rfl (by kernel_rfl) hc38) rfl (by kernel_rfl) (by kernel_rfl) (by kernel_rfl) rfl rfl (by decide) (fun a S => ?_)
              exact leafL ⟨rfl, S⟩
            · refine fI 33 (.int .i64 s14) [(3, .int .i64 s14), (30, .bool (decide (40 < (w64 (x28 - x33)))))] 15 [none, some 12] rfl rfl (by kernel_rfl) rfl (by kernel_rfl) (by kernel_rfl) fun G a w S => ?_
              refine sMove (.int .i64 s14) S (wG (c := decide (40 < (w64 (x28 - x33)))) 12 true 30 rfl rfl (by kernel_rfl) hc38) (.inl rfl) (by kernel_rfl) rfl (by decide) (fun a S => ?_)
              exact leafL ⟨rfl, S⟩
            · refine fI 34 q51 [(32, .slice ad7 p0.Right.length cp8), (33, .int .i64 s14), (30, .bool (decide (40 < (w64 (x28 - x33)))))] 16 [some 14, some 15, some 12] rfl rfl (by kernel_rfl) rfl (by kernel_rfl) (by kernel_rfl) fun G a w S => ?_
              refine sIdxV (v := .slice ad7 p0.Right.length cp8) (k := .i64) (j := s14) S (wG (c := decide (40 < (w64 (x28 - x33)))) 12 true 30 rfl rfl (by kernel_rfl) hc38) rfl (by kernel_rfl) (by kernel_rfl) hq52 rfl (by decide) (fun a S => ?_)
              exact leafL ⟨rfl, S⟩
            · refine fI 35 (.int .i64 x28) [(34, q51), (30, .bool (decide (40 < (w64 (x28 - x33)))))] 17 [some 16, some 12] rfl rfl (by kernel_rfl) rfl (by kernel_rfl) (by kernel_rfl) fun G a w S => ?_
              refine sLoadV1 (vq := q51) 3 (.int .i64 x28) S (wG (c := decide (40 < (w64 (x28 - x33)))) 12 true 30 rfl rfl (by kernel_rfl) hc38) rfl (by kernel_rfl) (by kernel_rfl) (by kernel_rfl) rfl (by decide) (fun a S => ?_)
              exact leafL ⟨rfl, S⟩
            · refine fI 36 (.pointer (some ⟨b10, 0, none⟩)) [(1, .pointer (some ⟨b10, 0, none⟩)), (30, .bool (decide (40 < (w64 (x28 - x33)))))] 18 [none, some 12] rfl rfl (by kernel_rfl) rfl (by kernel_rfl) (by kernel_rfl) fun G a w S => ?_
              refine sField (b := b10) (off := 0) 0 0 S (wG (c := decide (40 < (w64 (x28 - x33)))) 12 true 30 rfl rfl (by kernel_rfl) hc38) rfl (by kernel_rfl) (by kernel_rfl) rfl rfl (by decide) (fun a S => ?_)
              exact leafL ⟨rfl, S⟩
            · refine fI 37 (.slice ad5 p0.Left.length cp6) [(36, .pointer (some ⟨b10, 0, none⟩)), (30, .bool (decide (40 < (w64 (x28 - x33)))))] 19 [some 18, some 12] rfl rfl (by kernel_rfl) rfl (by kernel_rfl) (by kernel_rfl) fun G a w S => ?_
              refine sLoad1 (p := b10) (off := 0) (T := 36) (vs := [.slice ad5 p0.Left.length cp6, .slice ad7 p0.Right.length cp8]) 0 (.slice ad5 p0.Left.length cp6) S (wG (c := decide (40 < (w64 (x28 - x33)))) 12 true 30 rfl rfl (by kernel_rfl) hc38) rfl (by kernel_rfl) (by kernel_rfl) (by kernel_rfl) rfl rfl (by decide) (fun a S => ?_)
              exact leafL ⟨rfl, S⟩
            · refine fI 38 (.int .i64 s14) [(3, .int .i64 s14), (30, .bool (decide (40 < (w64 (x28 - x33)))))] 20 [none, some 12] rfl rfl (by kernel_rfl) rfl (by kernel_rfl) (by kernel_rfl) fun G a w S => ?_
              refine sMove (.int .i64 s14) S (wG (c := decide (40 < (w64 (x28 - x33)))) 12 true 30 rfl rfl (by kernel_rfl) hc38) (.inl rfl) (by kernel_rfl) rfl (by decide) (fun a S => ?_)
              exact leafL ⟨rfl, S⟩
            · refine fI 39 q54 [(37, .slice ad5 p0.Left.length cp6), (38, .int .i64 s14), (30, .bool (decide (40 < (w64 (x28 - x33)))))] 21 [some 19, some 20, some 12] rfl rfl (by kernel_rfl) rfl (by kernel_rfl) (by kernel_rfl) fun G a w S => ?_
              refine sIdxV (v := .slice ad5 p0.Left.length cp6) (k := .i64) (j := s14) S (wG (c := decide (40 < (w64 (x28 - x33)))) 12 true 30 rfl rfl (by kernel_rfl) hc38) rfl (by kernel_rfl) (by kernel_rfl) hq55 rfl (by decide) (fun a S => ?_)
              exact leafL ⟨rfl, S⟩
            · refine fI 40 (.int .i64 x33) [(39, q54), (30, .bool (decide (40 < (w64 (x28 - x33)))))] 22 [some 21, some 12] rfl rfl (by kernel_rfl) rfl (by kernel_rfl) (by kernel_rfl) fun G a w S => ?_
              refine sLoadV1 (vq := q54) 0 (.int .i64 x33) S (wG (c := decide (40 < (w64 (x28 - x33)))) 12 true 30 rfl rfl (by kernel_rfl) hc38) rfl (by kernel_rfl) (by kernel_rfl) (by kernel_rfl) rfl (by decide) (fun a S => ?_)
              exact leafL ⟨rfl, S⟩
            · refine fI 41 (.int .i64 (w64 (x28 - x33))) [(35, .int .i64 x28), (40, .int .i64 x33), (30, .bool (decide (40 < (w64 (x28 - x33)))))] 23 [some 17, some 22, some 12] rfl rfl (by kernel_rfl) rfl (by kernel_rfl) (by kernel_rfl) fun G a w S => ?_
              refine sBin (.int .i64 (w64 (x28 - x33))) S (wG (c := decide (40 < (w64 (x28 - x33)))) 12 true 30 rfl rfl (by kernel_rfl) hc38) rfl (by kernel_rfl) (by kernel_rfl) (bSub _ _ _ _ x28 x33) rfl (by decide) (fun a S => ?_)
              exact leafL ⟨rfl, S⟩
            · refine fI 42 (.bool (decide ((w64 (x28 - x33)) ≤ 200))) [(41, .int .i64 (w64 (x28 - x33))), (30, .bool (decide (40 < (w64 (x28 - x33)))))] 24 [some 23, some 12] rfl rfl (by kernel_rfl) rfl (by kernel_rfl) (by kernel_rfl) fun G a w S => ?_
              refine sBin (.bool (decide ((w64 (x28 - x33)) ≤ 200))) S (wG (c := decide (40 < (w64 (x28 - x33)))) 12 true 30 rfl rfl (by kernel_rfl) hc38) rfl (by kernel_rfl) (by kernel_rfl) (bLe _ _ _ _ .i64 (w64 (x28 - x33)) 200) rfl (by decide) (fun a S => ?_)
              exact leafL ⟨rfl, S⟩
            · refine fI 43 (.bool (decide ((w64 (x28 - x33)) ≤ 200))) [(30, .bool (decide (40 < (w64 (x28 - x33))))), (42, .bool (decide ((w64 (x28 - x33)) ≤ 200)))] 25 [some 12, some 24] rfl rfl (by kernel_rfl) rfl (by kernel_rfl) (by kernel_rfl) fun G a w S => ?_
              refine sPickT (b := decide (40 < (w64 (x28 - x33)))) (.bool (decide ((w64 (x28 - x33)) ≤ 200))) S (wN rfl) rfl (by kernel_rfl) hc38 (by kernel_rfl) rfl (by decide) (fun a S => ?_)
              exact leafL ⟨rfl, S⟩
            · exact leafT (⟨decide ((w64 (x28 - x33)) ≤ 200), Option.some.inj h, S.fix [0] [12, 13] (by decide) (by kernel_rfl) (by kernel_rfl) (by kernel_rfl)⟩)
          · obtain ⟨q57, hq58, S⟩ := pIdx (P := Try.prog) (r := (rI .i64)) (v := .slice ad7 p0.Right.length cp8) (xs := p0.Right) (j := s14) 34 3 1 S Try.underlying34 (by kernel_rfl) (by kernel_rfl) hx29
            obtain ⟨u59, S⟩ := pLoad (r := (rI .i64)) (q := q57) (x := x28) 0 S (by kernel_rfl)
            obtain rfl : u59 = .int .i64 x28 := S.mem.know (i := 1) (e := fRep (rI .i64) (u59) x28) (by kernel_rfl)
            obtain ⟨q60, hq61, S⟩ := pIdx (P := Try.prog) (r := (rI .i64)) (v := .slice ad5 p0.Left.length cp6) (xs := p0.Left) (j := s14) 34 3 3 S Try.underlying34 (by kernel_rfl) (by kernel_rfl) hx34
            obtain ⟨u62, S⟩ := pLoad (r := (rI .i64)) (q := q60) (x := x33) 0 S (by kernel_rfl)
            obtain rfl : u62 = .int .i64 x33 := S.mem.know (i := 1) (e := fRep (rI .i64) (u62) x33) (by kernel_rfl)
            refine sDraw (nf := []) (W := [(0, 18, .pointer (some ⟨b10, 1, none⟩)), (1, 19, .slice ad7 p0.Right.length cp8), (2, 20, .int .i64 s14), (3, 21, q57), (4, 22, .int .i64 x28), (5, 23, .pointer (some ⟨b10, 0, none⟩)), (6, 24, .slice ad5 p0.Left.length cp6), (7, 25, .int .i64 s14), (8, 26, q60), (9, 27, .int .i64 x33), (10, 28, .int .i64 (w64 (x28 - x33))), (11, 29, .bool (decide (40 < (w64 (x28 - x33))))), (12, 30, .bool (decide (40 < (w64 (x28 - x33))))), (13, 31, undef), (14, 32, undef), (15, 33, undef), (16, 34, undef), (17, 35, undef), (18, 36, undef), (19, 37, undef), (20, 38, undef), (21, 39, undef), (22, 40, undef), (23, 41, undef), (24, 42, undef), (25, 43, .bool false)]) (by kernel_rfl) S ?_
            refine node_by (A := anc_raddleref37_Great_0) (nf := []) (Y := []) (W := [(0, 18, .pointer (some ⟨b10, 1, none⟩)), (1, 19, .slice ad7 p0.Right.length cp8), (2, 20, .int .i64 s14), (3, 21, q57), (4, 22, .int .i64 x28), (5, 23, .pointer (some ⟨b10, 0, none⟩)), (6, 24, .slice ad5 p0.Left.length cp6), (7, 25, .int .i64 s14), (8, 26, q60), (9, 27, .int .i64 x33), (10, 28, .int .i64 (w64 (x28 - x33))), (11, 29, .bool (decide (40 < (w64 (x28 - x33))))), (12, 30, .bool (decide (40 < (w64 (x28 - x33))))), (13, 31, undef), (14, 32, undef), (15, 33, undef), (16, 34, undef), (17, 35, undef), (18, 36, undef), (19, 37, undef), (20, 38, undef), (21, 39, undef), (22, 40, undef), (23, 41, undef), (24, 42, undef), (25, 43, .bool false)]) 26 (by kernel_rfl) (by kernel_rfl) (by kernel_rfl) (by kernel_rfl) (by kernel_rfl) [0, 1, 2, 3, 4, 5, 6, 7, 8, 9, 10, 11, 12, 13, 14, 15, 16, 17, 18, 19, 20, 21, 22, 23, 24, 25] (by kernel_rfl) (by decide) (by decide) (aF 0 25 (by decide) ?_ (aF 1 24 (by decide) ?_ (aF 2 23 (by decide) ?_ (aF 3 22 (by decide) ?_ (aF 4 21 (by decide) ?_ (aF 5 20 (by decide) ?_ (aF 6 19 (by decide) ?_ (aF 7 18 (by decide) ?_ (aF 8 17 (by decide) ?_ (aF 9 16 (by decide) ?_ (aF 10 15 (by decide) ?_ (aF 11 14 (by decide) ?_ (aF 12 13 (by decide) ?_ (aF 13 12 (by decide) ?_ (aF 14 11 (by decide) ?_ (aF 15 10 (by decide) ?_ (aF 16 9 (by decide) ?_ (aF 17 8 (by decide) ?_ (aF 18 7 (by decide) ?_ (aF 19 6 (by decide) ?_ (aF 20 5 (by decide) ?_ (aF 21 4 (by decide) ?_ (aF 22 3 (by decide) ?_ (aF 23 2 (by decide) ?_ (aF 24 1 (by decide) ?_ (aF 25 0 (by decide) ?_ (trivial))))))))))))))))))))))))))) [(1, .pointer (some ⟨b10, 0, none⟩)), (3, .int .i64 s14), (31, undef), (32, undef), (33, undef), (34, undef), (35, undef), (36, undef), (37, undef), (38, undef), (39, undef), (40, undef), (41, undef), (42, undef), (43, .bool false)] (fin_of [none, none, some 13, some 14, some 15, some 16, some 17, some 18, some 19, some 20, some 21, some 22, some 23, some 24, some 25] rfl (by kernel_rfl) (by kernel_rfl)) (fun _ a w S => ?_)
            · refine fI 18 (.pointer (some ⟨b10, 1, none⟩)) [(1, .pointer (some ⟨b10, 0, none⟩))] 0 [none] rfl rfl (by kernel_rfl) rfl (by kernel_rfl) (by kernel_rfl) fun G a w S => ?_
              refine sField (b := b10) (off := 0) 1 1 S (wN rfl) rfl (by kernel_rfl) (by kernel_rfl) rfl rfl (by decide) (fun a S => ?_)
              exact leafL ⟨rfl, S⟩
            · refine fI 19 (.slice ad7 p0.Right.length cp8) [(18, .pointer (some ⟨b10, 1, none⟩))] 1 [some 0] rfl rfl (by kernel_rfl) rfl (by kernel_rfl) (by kernel_rfl) fun G a w S => ?_
              refine sLoad1 (p := b10) (off := 1) (T := 36) (vs := [.slice ad5 p0.Left.length cp6, .slice ad7 p0.Right.length cp8]) 0 (.slice ad7 p0.Right.length cp8) S (wN rfl) rfl (by kernel_rfl) (by kernel_rfl) (by kernel_rfl) rfl rfl (by decide) (fun a S => ?_)
              exact leafL ⟨rfl, S⟩
            · refine fI 20 (.int .i64 s14) [(3, .int .i64 s14)] 2 [none] rfl rfl (by kernel_rfl) rfl (by kernel_rfl) (by kernel_rfl) fun G a w S => ?_
              refine sMove (.int .i64 s14) S (wN rfl) (.inl rfl) (by kernel_rfl) rfl (by decide) (fun a S => ?_)
              exact leafL ⟨rfl, S⟩
            · refine fI 21 q57 [(19, .slice ad7 p0.Right.length cp8), (20, .int .i64 s14)] 3 [some 1, some 2] rfl rfl (by kernel_rfl) rfl (by kernel_rfl) (by kernel_rfl) fun G a w S => ?_
              refine sIdxV (v := .slice ad7 p0.Right.length cp8) (k := .i64) (j := s14) S (wN rfl) rfl (by kernel_rfl) (by kernel_rfl) hq58 rfl (by decide) (fun a S => ?_)
              exact leafL ⟨rfl, S⟩
            · refine fI 22 (.int .i64 x28) [(21, q57)] 4 [some 3] rfl rfl (by kernel_rfl) rfl (by kernel_rfl) (by kernel_rfl) fun G a w S => ?_
              refine sLoadV1 (vq := q57) 3 (.int .i64 x28) S (wN rfl) rfl (by kernel_rfl) (by kernel_rfl) (by kernel_rfl) rfl (by decide) (fun a S => ?_)
              exact leafL ⟨rfl, S⟩
            · refine fI 23 (.pointer (some ⟨b10, 0, none⟩)) [(1, .pointer (some ⟨b10, 0, none⟩))] 5 [none] rfl rfl (by kernel_rfl) rfl (by kernel_rfl) (by kernel_rfl) fun G a w S => ?_
              refine sField (b := b10) (off := 0) 0 0 S (wN rfl) rfl (by kernel_rfl) (by kernel_rfl) rfl rfl (by decide) (fun a S => ?_)
              exact leafL ⟨rfl, S⟩
            · refine fI 24 (.slice ad5 p0.Left.length cp6) [(23, .pointer (some ⟨b10, 0, none⟩))] 6 [some 5] rfl rfl (by kernel_rfl) rfl (by kernel_rfl) (by kernel_rfl) fun G a w S => ?_
              refine sLoad1 (p := b10) (off := 0) (T := 36) (vs := [.slice ad5 p0.Left.length cp6, .slice ad7 p0.Right.length cp8]) 0 (.slice ad5 p0.Left.length cp6) S (wN rfl) rfl (by kernel_rfl) (by kernel_rfl) (by kernel_rfl) rfl rfl (by decide) (fun a S => ?_)
              exact leafL ⟨rfl, S⟩
            · refine fI 25 (.int .i64 s14) [(3, .int .i64 s14)] 7 [none] rfl rfl (by kernel_rfl) rfl (by kernel_rfl) (by kernel_rfl) fun G a w S => ?_
              refine sMove (.int .i64 s14) S (wN rfl) (.inl rfl) (by kernel_rfl) rfl (by decide) (fun a S => ?_)
              exact leafL ⟨rfl, S⟩
            · refine fI 26 q60 [(24, .slice ad5 p0.Left.length cp6), (25, .int .i64 s14)] 8 [some 6, some 7] rfl rfl (by kernel_rfl) rfl (by kernel_rfl) (by kernel_rfl) fun G a w S => ?_
              refine sIdxV (v := .slice ad5 p0.Left.length cp6) (k := .i64) (j := s14) S (wN rfl) rfl (by kernel_rfl) (by kernel_rfl) hq61 rfl (by decide) (fun a S => ?_)
              exact leafL ⟨rfl, S⟩
            · refine fI 27 (.int .i64 x33) [(26, q60)] 9 [some 8] rfl rfl (by kernel_rfl) rfl (by kernel_rfl) (by kernel_rfl) fun G a w S => ?_
              refine sLoadV1 (vq := q60) 0 (.int .i64 x33) S (wN rfl) rfl (by kernel_rfl) (by kernel_rfl) (by kernel_rfl) rfl (by decide) (fun a S => ?_)
              exact leafL ⟨rfl, S⟩
            · refine fI 28 (.int .i64 (w64 (x28 - x33))) [(22, .int .i64 x28), (27, .int .i64 x33)] 10 [some 4, some 9] rfl rfl (by kernel_rfl) rfl (by kernel_rfl) (by kernel_rfl) fun G a w S => ?_
              refine sBin (.int .i64 (w64 (x28 - x33))) S (wN rfl) rfl (by kernel_rfl) (by kernel_rfl) (bSub _ _ _ _ x28 x33) rfl (by decide) (fun a S => ?_)
              exact leafL ⟨rfl, S⟩
            · refine fI 29 (.bool (decide (40 < (w64 (x28 - x33))))) [(28, .int .i64 (w64 (x28 - x33)))] 11 [some 10] rfl rfl (by kernel_rfl) rfl (by kernel_rfl) (by kernel_rfl) fun G a w S => ?_
              refine sBin (.bool (decide (40 < (w64 (x28 - x33))))) S (wN rfl) rfl (by kernel_rfl) (by kernel_rfl) (bGt _ _ _ _ .i64 (w64 (x28 - x33)) 40) rfl (by decide) (fun a S => ?_)
              exact leafL ⟨rfl, S⟩
            · refine fI 30 (.bool (decide (40 < (w64 (x28 - x33))))) [(29, .bool (decide (40 < (w64 (x28 - x33)))))] 12 [some 11] rfl rfl (by kernel_rfl) rfl (by kernel_rfl) (by kernel_rfl) fun G a w S => ?_
              refine sMove (.bool (decide (40 < (w64 (x28 - x33))))) S (wN rfl) (.inl rfl) (by kernel_rfl) rfl (by decide) (fun a S => ?_)
              exact leafL ⟨rfl, S⟩
            · refine fI 31 undef [(1, .pointer (some ⟨b10, 0, none⟩)), (30, .bool (decide (40 < (w64 (x28 - x33)))))] 13 [none, some 12] rfl rfl (by kernel_rfl) rfl (by kernel_rfl) (by kernel_rfl) fun G a w S => ?_
              refine sSkip (c := decide (40 < (w64 (x28 - x33)))) 12 true 30 31 S rfl rfl (by kernel_rfl) hc38 rfl (by decide) (fun a S => ?_)
              exact leafL ⟨rfl, S⟩
            · refine fI 32 undef [(31, undef), (30, .bool (decide (40 < (w64 (x28 - x33)))))] 14 [some 13, some 12] rfl rfl (by kernel_rfl) rfl (by kernel_rfl) (by kernel_rfl) fun G a w S => ?_
              refine sSkip (c := decide (40 < (w64 (x28 - x33)))) 12 true 30 32 S rfl rfl (by kernel_rfl) hc38 rfl (by decide) (fun a S => ?_)
              exact leafL ⟨rfl, S⟩
            · refine fI 33 undef [(3, .int .i64 s14), (30, .bool (decide (40 < (w64 (x28 - x33)))))] 15 [none, some 12] rfl rfl (by kernel_rfl) rfl (by kernel_rfl) (by kernel_rfl) fun G a w S => ?_
              refine sSkip (c := decide (40 < (w64 (x28 - x33)))) 12 true 30 33 S rfl rfl (by kernel_rfl) hc38 rfl (by decide) (fun a S => ?_)
              exact leafL ⟨rfl, S⟩
            · refine fI 34 undef [(32, undef), (33, undef), (30, .bool (decide (40 < (w64 (x28 - x33)))))] 16 [some 14, some 15, some 12] rfl rfl (by kernel_rfl) rfl (by kernel_rfl) (by kernel_rfl) fun G a w S => ?_
              refine sSkip (c := decide (40 < (w64 (x28 - x33)))) 12 true 30 34 S rfl rfl (by kernel_rfl) hc38 rfl (by decide) (fun a S => ?_)
              exact leafL ⟨rfl, S⟩
            · refine fI 35 undef [(34, undef), (30, .bool (decide (40 < (w64 (x28 - x33)))))] 17 [some 16, some 12] rfl rfl (by kernel_rfl) rfl (by kernel_rfl) (by kernel_rfl) fun G a w S => ?_
              refine sSkip (c := decide (40 < (w64 (x28 - x33)))) 12 true 30 35 S rfl rfl (by kernel_rfl) hc38 rfl (by decide) (fun a S => ?_)
              exact leafL ⟨rfl, S⟩
            · refine fI 36 undef [(1, .pointer (some ⟨b10, 0, none⟩)), (30, .bool (decide (40 < (w64 (x28 - x33)))))] 18 [none, some 12] rfl rfl (by kernel_rfl) rfl (by kernel_rfl) (by kernel_rfl) fun G a w S => ?_
              refine sSkip (c := decide (40 < (w64 (x28 - x33)))) 12 true 30 36 S rfl rfl (by kernel_rfl) hc38 rfl (by decide) (fun a S => ?_)
              exact leafL ⟨rfl, S⟩
            · refine fI 37 undef [(36, undef), (30, .bool (decide (40 < (w64 (x28 - x33)))))] 19 [some 18, some 12] rfl rfl (by kernel_rfl) rfl (by kernel_rfl) (by kernel_rfl) fun G a w S => ?_
              refine sSkip (c := decide (40 < (w64 (x28 - x33)))) 12 true 30 37 S rfl rfl (by kernel_rfl) hc38 rfl (by decide) (fun a S => ?_)
              exact leafL ⟨rfl, S⟩
            · refine fI 38 undef [(3, .int .i64 s14), (30, .bool (decide (40 < (w64 (x28 - x33)))))] 20 [none, some 12] rfl rfl (by kernel_rfl) rfl (by kernel_rfl) (by kernel_rfl) fun G a w S => ?_
              refine sSkip (c := decide (40 < (w64 (x28 - x33)))) 12 true 30 38 S rfl rfl (by kernel_rfl) hc38 rfl (by decide) (fun a S => ?_)
              exact leafL ⟨rfl, S⟩
            · refine fI 39 undef [(37, undef), (38, undef), (30, .bool (decide (40 < (w64 (x28 - x33)))))] 21 [some 19, some 20, some 12] rfl rfl (by kernel_rfl) rfl (by kernel_rfl) (by kernel_rfl) fun G a w S => ?_
              refine sSkip (c := decide (40 < (w64 (x28 - x33)))) 12 true 30 39 S rfl rfl (by kernel_rfl) hc38 rfl (by decide) (fun a S => ?_)
              exact leafL ⟨rfl, S⟩
            · refine fI 40 undef [(39, undef), (30, .bool (decide (40 < (w64 (x28 - x33)))))] 22 [some 21, some 12] rfl rfl (by kernel_rfl) rfl (by kernel_rfl) (by kernel_rfl) fun G a w S => ?_
              refine sSkip (c := decide (40 < (w64 (x28 - x33)))) 12 true 30 40 S rfl rfl (by kernel_rfl) hc38 rfl (by decide) (fun a S => ?_)
              exact leafL ⟨rfl, S⟩
            · refine fI 41 undef [(35, undef), (40, undef), (30, .bool (decide (40 < (w64 (x28 - x33)))))] 23 [some 17, some 22, some 12] rfl rfl (by kernel_rfl) rfl (by kernel_rfl) (by kernel_rfl) fun G a w S => ?_
              refine sSkip (c := decide (40 < (w64 (x28 - x33)))) 12 true 30 41 S rfl rfl (by kernel_rfl) hc38 rfl (by decide) (fun a S => ?_)
              exact leafL ⟨rfl, S⟩
            · refine fI 42 undef [(41, undef), (30, .bool (decide (40 < (w64 (x28 - x33)))))] 24 [some 23, some 12] rfl rfl (by kernel_rfl) rfl (by kernel_rfl) (by kernel_rfl) fun G a w S => ?_
              refine sSkip (c := decide (40 < (w64 (x28 - x33)))) 12 true 30 42 S rfl rfl (by kernel_rfl) hc38 rfl (by decide) (fun a S => ?_)
              exact leafL ⟨rfl, S⟩
            · refine fI 43 (.bool false) [(30, .bool (decide (40 < (w64 (x28 - x33))))), (42, undef)] 25 [some 12, some 24] rfl rfl (by kernel_rfl) rfl (by kernel_rfl) (by kernel_rfl) fun G a w S => ?_
              refine sPickF (b := decide (40 < (w64 (x28 - x33)))) (.bool false) S (wN rfl) rfl (by kernel_rfl) hc38 (by kernel_rfl) rfl (by decide) (fun a S => ?_)
              exact leafL ⟨rfl, S⟩
            · exact leafT (⟨false, Option.some.inj h, S.fix [0] [6, 7] (by decide) (by kernel_rfl) (by kernel_rfl) (by kernel_rfl)⟩)
        · obtain ⟨o25, rfl, S⟩ := hI
          have h := g27
          clear g27
          try dsimp only at h
          rcases iteSome h with ⟨hc63, h⟩ | ⟨hc63, h⟩
          · refine sCondT (b := o25) S (by kernel_rfl) hc63 ?_
            refine sSeq (fun K64 hK64 => ?_)
            refine sRegion ?_
            refine sMove (.bool true) S (wN rfl) (.inr rfl) (by kernel_rfl) rfl (by decide) (fun a S => ?_)
            refine leafL (leafT (hK64 _ _ ?_))
            obtain rfl := Option.some.inj h
            obtain rfl := hu15 _ rfl
            have h := g16
            clear g16
            try dsimp only at h
            obtain rfl := Option.some.inj h
            have h := g12
            clear g12
            try dsimp only at h
            obtain rfl := Option.some.inj h
            exact wp_ret (rBlock (rThen (rThen (rBlock (rThen (sRet (.bool true) S (rsl1 rfl (rvT (t := 2) (v := .bool true) S (by kernel_rfl))) ⟨(), rfl, S.mem.sel [] [] (by decide) (by kernel_rfl) (by kernel_rfl)⟩))))))
          · refine sCondF (b := o25) S (by kernel_rfl) hc63 ?_
            refine wp_skip (leafB (leafT (hK24 _ _ ?_)))
            refine sRegion ?_
            refine sMove (.int .i64 s14) S (wN rfl) (.inl rfl) (by kernel_rfl) rfl (by decide) (fun a S => ?_)
            refine sBin (.int .i64 (w64 (s14 + 1))) S (wN rfl) rfl (by kernel_rfl) (by kernel_rfl) (bAdd _ _ _ _ s14 1) rfl (by decide) (fun a S => ?_)
            refine sMove (.int .i64 (w64 (s14 + 1))) S (wN rfl) (.inr rfl) (by kernel_rfl) rfl (by decide) (fun a S => ?_)
            exact leafL (leafT (⟨w64 (s14 + 1), (Option.some.inj h).symm, (S.fix [0] [0, 1] (by decide) (by kernel_rfl) (by kernel_rfl) (by kernel_rfl))⟩))
      · refine sCondF (b := o19) S (by kernel_rfl) hc23 ?_
        obtain rfl := Option.some.inj h
        obtain rfl := hu15 _ rfl
        have h := g16
        clear g16
        try dsimp only at h
        exact wp_exit (xThen (xThen (xHit (leafT (⟨Option.some.inj h, S.fix [0] [0, 1] (by decide) (by kernel_rfl) (by kernel_rfl) (by kernel_rfl)⟩)))))
  · obtain ⟨rfl, S⟩ := hI
    have h := g12
    clear g12
    try dsimp only at h
    obtain ⟨t66, h, g67⟩ := bindSome h
    refine sCut (fun a w => ∃ o65, o65 = t66 ∧ St E [] w0 66 a w [(2, .bool o65)] [] []) ?_ (fun a w hI => ?_)
    · refine sRegion ?_
      refine sField (b := b10) (off := 0) 0 0 S (wN rfl) rfl (by kernel_rfl) (by kernel_rfl) rfl rfl (by decide) (fun a S => ?_)
      refine sLoad1 (p := b10) (off := 0) (T := 36) (vs := [.slice ad5 p0.Left.length cp6, .slice ad7 p0.Right.length cp8]) 0 (.slice ad5 p0.Left.length cp6) S (wN rfl) rfl (by kernel_rfl) (by kernel_rfl) (by kernel_rfl) rfl rfl (by decide) (fun a S => ?_)
      refine sLen (ad := ad5) (m := p0.Left.length) (c := cp6) S (wN rfl) rfl Try.underlying34 (by kernel_rfl) rfl (by decide) (fun a S => ?_)
      refine sBin (.bool (decide (20 < (p0.Left.length : Int)))) S (wN rfl) rfl (by kernel_rfl) (by kernel_rfl) (bGt _ _ _ _ .i64 (p0.Left.length : Int) 20) rfl (by decide) (fun a S => ?_)
      refine sMove (.bool (decide (20 < (p0.Left.length : Int)))) S (wN rfl) (.inl rfl) (by kernel_rfl) rfl (by decide) (fun a S => ?_)
      rcases iteSome h with ⟨hc68, h⟩ | ⟨hc68, h⟩
      · refine sField (b := b10) (off := 0) 0 0 S (wG (c := decide (20 < (p0.Left.length : Int))) 4 true 48 rfl rfl (by kernel_rfl) hc68) rfl (by kernel_rfl) (by kernel_rfl) rfl rfl (by decide) (fun a S => ?_)
        refine sLoad1 (p := b10) (off := 0) (T := 36) (vs := [.slice ad5 p0.Left.length cp6, .slice ad7 p0.Right.length cp8]) 0 (.slice ad5 p0.Left.length cp6) S (wG (c := decide (20 < (p0.Left.length : Int))) 4 true 48 rfl rfl (by kernel_rfl) hc68) rfl (by kernel_rfl) (by kernel_rfl) (by kernel_rfl) rfl rfl (by decide) (fun a S => ?_)
        refine sLen (ad := ad5) (m := p0.Left.length) (c := cp6) S (wG (c := decide (20 < (p0.Left.length : Int))) 4 true 48 rfl rfl (by kernel_rfl) hc68) rfl Try.underlying34 (by kernel_rfl) rfl (by decide) (fun a S => ?_)
        refine sBin (.bool (decide ((p0.Left.length : Int) ≤ 100))) S (wG (c := decide (20 < (p0.Left.length : Int))) 4 true 48 rfl rfl (by kernel_rfl) hc68) rfl (by kernel_rfl) (by kernel_rfl) (bLe _ _ _ _ .i64 (p0.Left.length : Int) 100) rfl (by decide) (fun a S => ?_)
        refine sPickT (b := decide (20 < (p0.Left.length : Int))) (.bool (decide ((p0.Left.length : Int) ≤ 100))) S (wN rfl) rfl (by kernel_rfl) hc68 (by kernel_rfl) rfl (by decide) (fun a S => ?_)
        refine sMove (.bool (decide ((p0.Left.length : Int) ≤ 100))) S (wN rfl) (.inl rfl) (by kernel_rfl) rfl (by decide) (fun a S => ?_)
        rcases iteSome h with ⟨hc69, h⟩ | ⟨hc69, h⟩
        · refine sSkip (c := decide ((p0.Left.length : Int) ≤ 100)) 10 false 54 55 S rfl rfl (by kernel_rfl) hc69 rfl (by decide) (fun a S => ?_)
          refine sSkip (c := decide ((p0.Left.length : Int) ≤ 100)) 10 false 54 56 S rfl rfl (by kernel_rfl) hc69 rfl (by decide) (fun a S => ?_)
          refine sSkip (c := decide ((p0.Left.length : Int) ≤ 100)) 10 false 54 57 S rfl rfl (by kernel_rfl) hc69 rfl (by decide) (fun a S => ?_)
          refine sSkip (c := decide ((p0.Left.length : Int) ≤ 100)) 10 false 54 58 S rfl rfl (by kernel_rfl) hc69 rfl (by decide) (fun a S => ?_)
          refine sPickT (b := decide ((p0.Left.length : Int) ≤ 100)) (.bool true) S (wN rfl) rfl (by kernel_rfl) hc69 (by kernel_rfl) rfl (by decide) (fun a S => ?_)
          refine sMove (.bool true) S (wN rfl) (.inl rfl) (by kernel_rfl) rfl (by decide) (fun a S => ?_)
          refine sSkip (c := true) 16 false 60 61 S rfl rfl (by kernel_rfl) rfl rfl (by decide) (fun a S => ?_)
          refine sSkip (c := true) 16 false 60 62 S rfl rfl (by kernel_rfl) rfl rfl (by decide) (fun a S => ?_)
          refine sSkip (c := true) 16 false 60 63 S rfl rfl (by kernel_rfl) rfl rfl (by decide) (fun a S => ?_)
          refine sSkip (c := true) 16 false 60 64 S rfl rfl (by kernel_rfl) rfl rfl (by decide) (fun a S => ?_)
          refine sPickT (b := true) (.bool true) S (wN rfl) rfl (by kernel_rfl) rfl (by kernel_rfl) rfl (by decide) (fun a S => ?_)
          refine sMove (.bool true) S (wN rfl) (.inr rfl) (by kernel_rfl) rfl (by decide) (fun a S => ?_)
          exact leafL (leafT (⟨true, Option.some.inj h, S.fix [] [] (by decide) (by kernel_rfl) (by kernel_rfl) (by kernel_rfl)⟩))
        · refine sField (b := b10) (off := 0) 0 0 S (wG (c := decide ((p0.Left.length : Int) ≤ 100)) 10 false 54 rfl rfl (by kernel_rfl) hc69) rfl (by kernel_rfl) (by kernel_rfl) rfl rfl (by decide) (fun a S => ?_)
          refine sLoad1 (p := b10) (off := 0) (T := 36) (vs := [.slice ad5 p0.Left.length cp6, .slice ad7 p0.Right.length cp8]) 0 (.slice ad5 p0.Left.length cp6) S (wG (c := decide ((p0.Left.length : Int) ≤ 100)) 10 false 54 rfl rfl (by kernel_rfl) hc69) rfl (by kernel_rfl) (by kernel_rfl) (by kernel_rfl) rfl rfl (by decide) (fun a S => ?_)
          refine sLen (ad := ad5) (m := p0.Left.length) (c := cp6) S (wG (c := decide ((p0.Left.length : Int) ≤ 100)) 10 false 54 rfl rfl (by kernel_rfl) hc69) rfl Try.underlying34 (by kernel_rfl) rfl (by decide) (fun a S => ?_)
          refine sBin (.bool (decide (110 < (p0.Left.length : Int)))) S (wG (c := decide ((p0.Left.length : Int) ≤ 100)) 10 false 54 rfl rfl (by kernel_rfl) hc69) rfl (by kernel_rfl) (by kernel_rfl) (bGt _ _ _ _ .i64 (p0.Left.length : Int) 110) rfl (by decide) (fun a S => ?_)
          refine sPickF (b := decide ((p0.Left.length : Int) ≤ 100)) (.bool (decide (110 < (p0.Left.length : Int)))) S (wN rfl) rfl (by kernel_rfl) hc69 (by kernel_rfl) rfl (by decide) (fun a S => ?_)
          refine sMove (.bool (decide (110 < (p0.Left.length : Int)))) S (wN rfl) (.inl rfl) (by kernel_rfl) rfl (by decide) (fun a S => ?_)
          rcases iteSome h with ⟨hc70, h⟩ | ⟨hc70, h⟩
          · refine sSkip (c := decide (110 < (p0.Left.length : Int))) 16 false 60 61 S rfl rfl (by kernel_rfl) hc70 rfl (by decide) (fun a S => ?_)
            refine sSkip (c := decide (110 < (p0.Left.length : Int))) 16 false 60 62 S rfl rfl (by kernel_rfl) hc70 rfl (by decide) (fun a S => ?_)
            refine sSkip (c := decide (110 < (p0.Left.length : Int))) 16 false 60 63 S rfl rfl (by kernel_rfl) hc70 rfl (by decide) (fun a S => ?_)
            refine sSkip (c := decide (110 < (p0.Left.length : Int))) 16 false 60 64 S rfl rfl (by kernel_rfl) hc70 rfl (by decide) (fun a S => ?_)
            refine sPickT (b := decide (110 < (p0.Left.length : Int))) (.bool true) S (wN rfl) rfl (by kernel_rfl) hc70 (by kernel_rfl) rfl (by decide) (fun a S => ?_)
            refine sMove (.bool true) S (wN rfl) (.inr rfl) (by kernel_rfl) rfl (by decide) (fun a S => ?_)
            exact leafL (leafT (⟨true, Option.some.inj h, S.fix [] [] (by decide) (by kernel_rfl) (by kernel_rfl) (by kernel_rfl)⟩))
          · refine sField (b := b10) (off := 0) 1 1 S (wG (c := decide (110 < (p0.Left.length : Int))) 16 false 60 rfl rfl (by kernel_rfl) hc70) rfl (by kernel_rfl) (by kernel_rfl) rfl rfl (by decide) (fun a S => ?_)
            refine sLoad1 (p := b10) (off := 1) (T := 36) (vs := [.slice ad5 p0.Left.length cp6, .slice ad7 p0.Right.length cp8]) 0 (.slice ad7 p0.Right.length cp8) S (wG (c := decide (110 < (p0.Left.length : Int))) 16 false 60 rfl rfl (by kernel_rfl) hc70) rfl (by kernel_rfl) (by kernel_rfl) (by kernel_rfl) rfl rfl (by decide) (fun a S => ?_)
            refine sLen (ad := ad7) (m := p0.Right.length) (c := cp8) S (wG (c := decide (110 < (p0.Left.length : Int))) 16 false 60 rfl rfl (by kernel_rfl) hc70) rfl Try.underlying34 (by kernel_rfl) rfl (by decide) (fun a S => ?_)
            refine sBin (.bool (decide (110 < (p0.Right.length : Int)))) S (wG (c := decide (110 < (p0.Left.length : Int))) 16 false 60 rfl rfl (by kernel_rfl) hc70) rfl (by kernel_rfl) (by kernel_rfl) (bGt _ _ _ _ .i64 (p0.Right.length : Int) 110) rfl (by decide) (fun a S => ?_)
            refine sPickF (b := decide (110 < (p0.Left.length : Int))) (.bool (decide (110 < (p0.Right.length : Int)))) S (wN rfl) rfl (by kernel_rfl) hc70 (by kernel_rfl) rfl (by decide) (fun a S => ?_)
            refine sMove (.bool (decide (110 < (p0.Right.length : Int)))) S (wN rfl) (.inr rfl) (by kernel_rfl) rfl (by decide) (fun a S => ?_)
            exact leafL (leafT (⟨decide (110 < (p0.Right.length : Int)), Option.some.inj h, S.fix [] [] (by decide) (by kernel_rfl) (by kernel_rfl) (by kernel_rfl)⟩))
      · refine sSkip (c := decide (20 < (p0.Left.length : Int))) 4 true 48 49 S rfl rfl (by kernel_rfl) hc68 rfl (by decide) (fun a S => ?_)
        refine sSkip (c := decide (20 < (p0.Left.length : Int))) 4 true 48 50 S rfl rfl (by kernel_rfl) hc68 rfl (by decide) (fun a S => ?_)
        refine sSkip (c := decide (20 < (p0.Left.length : Int))) 4 true 48 51 S rfl rfl (by kernel_rfl) hc68 rfl (by decide) (fun a S => ?_)
        refine sSkip (c := decide (20 < (p0.Left.length : Int))) 4 true 48 52 S rfl rfl (by kernel_rfl) hc68 rfl (by decide) (fun a S => ?_)
        refine sPickF (b := decide (20 < (p0.Left.length : Int))) (.bool false) S (wN rfl) rfl (by kernel_rfl) hc68 (by kernel_rfl) rfl (by decide) (fun a S => ?_)
        refine sMove (.bool false) S (wN rfl) (.inl rfl) (by kernel_rfl) rfl (by decide) (fun a S => ?_)
        refine sField (b := b10) (off := 0) 0 0 S (wG (c := false) 10 false 54 rfl rfl (by kernel_rfl) rfl) rfl (by kernel_rfl) (by kernel_rfl) rfl rfl (by decide) (fun a S => ?_)
        refine sLoad1 (p := b10) (off := 0) (T := 36) (vs := [.slice ad5 p0.Left.length cp6, .slice ad7 p0.Right.length cp8]) 0 (.slice ad5 p0.Left.length cp6) S (wG (c := false) 10 false 54 rfl rfl (by kernel_rfl) rfl) rfl (by kernel_rfl) (by kernel_rfl) (by kernel_rfl) rfl rfl (by decide) (fun a S => ?_)
        refine sLen (ad := ad5) (m := p0.Left.length) (c := cp6) S (wG (c := false) 10 false 54 rfl rfl (by kernel_rfl) rfl) rfl Try.underlying34 (by kernel_rfl) rfl (by decide) (fun a S => ?_)
        refine sBin (.bool (decide (110 < (p0.Left.length : Int)))) S (wG (c := false) 10 false 54 rfl rfl (by kernel_rfl) rfl) rfl (by kernel_rfl) (by kernel_rfl) (bGt _ _ _ _ .i64 (p0.Left.length : Int) 110) rfl (by decide) (fun a S => ?_)
        refine sPickF (b := false) (.bool (decide (110 < (p0.Left.length : Int)))) S (wN rfl) rfl (by kernel_rfl) rfl (by kernel_rfl) rfl (by decide) (fun a S => ?_)
        refine sMove (.bool (decide (110 < (p0.Left.length : Int)))) S (wN rfl) (.inl rfl) (by kernel_rfl) rfl (by decide) (fun a S => ?_)
        rcases iteSome h with ⟨hc71, h⟩ | ⟨hc71, h⟩
        · refine sSkip (c := decide (110 < (p0.Left.length : Int))) 16 false 60 61 S rfl rfl (by kernel_rfl) hc71 rfl (by decide) (fun a S => ?_)
          refine sSkip (c := decide (110 < (p0.Left.length : Int))) 16 false 60 62 S rfl rfl (by kernel_rfl) hc71 rfl (by decide) (fun a S => ?_)
          refine sSkip (c := decide (110 < (p0.Left.length : Int))) 16 false 60 63 S rfl rfl (by kernel_rfl) hc71 rfl (by decide) (fun a S => ?_)
          refine sSkip (c := decide (110 < (p0.Left.length : Int))) 16 false 60 64 S rfl rfl (by kernel_rfl) hc71 rfl (by decide) (fun a S => ?_)
          refine sPickT (b := decide (110 < (p0.Left.length : Int))) (.bool true) S (wN rfl) rfl (by kernel_rfl) hc71 (by kernel_rfl) rfl (by decide) (fun a S => ?_)
          refine sMove (.bool true) S (wN rfl) (.inr rfl) (by kernel_rfl) rfl (by decide) (fun a S => ?_)
          exact leafL (leafT (⟨true, Option.some.inj h, S.fix [] [] (by decide) (by kernel_rfl) (by kernel_rfl) (by kernel_rfl)⟩))
        · refine sField (b := b10) (off := 0) 1 1 S (wG (c := decide (110 < (p0.Left.length : Int))) 16 false 60 rfl rfl (by kernel_rfl) hc71) rfl (by kernel_rfl) (by kernel_rfl) rfl rfl (by decide) (fun a S => ?_)
          refine sLoad1 (p := b10) (off := 1) (T := 36) (vs := [.slice ad5 p0.Left.length cp6, .slice ad7 p0.Right.length cp8]) 0 (.slice ad7 p0.Right.length cp8) S (wG (c := decide (110 < (p0.Left.length : Int))) 16 false 60 rfl rfl (by kernel_rfl) hc71) rfl (by kernel_rfl) (by kernel_rfl) (by kernel_rfl) rfl rfl (by decide) (fun a S => ?_)
          refine sLen (ad := ad7) (m := p0.Right.length) (c := cp8) S (wG (c := decide (110 < (p0.Left.length : Int))) 16 false 60 rfl rfl (by kernel_rfl) hc71) rfl Try.underlying34 (by kernel_rfl) rfl (by decide) (fun a S => ?_)
          refine sBin (.bool (decide (110 < (p0.Right.length : Int)))) S (wG (c := decide (110 < (p0.Left.length : Int))) 16 false 60 rfl rfl (by kernel_rfl) hc71) rfl (by kernel_rfl) (by kernel_rfl) (bGt _ _ _ _ .i64 (p0.Right.length : Int) 110) rfl (by decide) (fun a S => ?_)
          refine sPickF (b := decide (110 < (p0.Left.length : Int))) (.bool (decide (110 < (p0.Right.length : Int)))) S (wN rfl) rfl (by kernel_rfl) hc71 (by kernel_rfl) rfl (by decide) (fun a S => ?_)
          refine sMove (.bool (decide (110 < (p0.Right.length : Int)))) S (wN rfl) (.inr rfl) (by kernel_rfl) rfl (by decide) (fun a S => ?_)
          exact leafL (leafT (⟨decide (110 < (p0.Right.length : Int)), Option.some.inj h, S.fix [] [] (by decide) (by kernel_rfl) (by kernel_rfl) (by kernel_rfl)⟩))
    · obtain ⟨o65, rfl, S⟩ := hI
      have h := g67
      clear g67
      try dsimp only at h
      obtain rfl := Option.some.inj h
      exact wp_ret (sRet (.bool o65) S (rsl1 rfl (rvT (t := 2) (v := .bool o65) S (by kernel_rfl))) ⟨(), rfl, S.mem.sel [] [] (by decide) (by kernel_rfl) (by kernel_rfl)⟩)

end Go.Proofs.Ytmedbnjhgkcndaa
