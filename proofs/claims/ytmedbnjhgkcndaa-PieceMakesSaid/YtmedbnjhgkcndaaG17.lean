import Derived.Test.YtmedbnjhgkcndaaGTy
import Derived.Test.YtmedbnjhgkcndaaG33
namespace Go.Proofs.Ytmedbnjhgkcndaa
open Go.RowKit
set_option linter.unusedVariables false

noncomputable def piece_Check_l1 (p0 : api_Piece) : Int → Option (Int ⊕ (Int ⊕ Unit)) := fun s0 => match s0 with
  | s22 =>
    if decide (s22 < (p0.Left.length : Int)) then
      Option.bind (idxO p0.Left s22) fun x31 =>
      Option.bind (idxO p0.Right s22) fun x37 =>
      Option.bind (α := Bool) (
        Option.bind (F_piece_column x31) fun r45 =>
        if !r45 then
          some true
        else
          Option.bind (F_piece_column x37) fun r48 =>
          if !r48 then
            some true
          else
            if decide (x37 ≤ x31) then
              some true
            else
              some (decide (200 < (w64 (x37 - x31))))) fun o42 =>
      if o42 then
        some (.inr (.inl 8))
      else
        some (.inl (w64 (s22 + 1)))
    else
      some (.inr (.inr ()))
noncomputable def F_piece_Check (p0 : api_Piece) : Option Int :=
  Option.bind (α := Bool) (
    if (p0.Left.length : Int) != (p0.Right.length : Int) then
      some true
    else
      if (p0.Left.length : Int) == 0 then
        some true
      else
        some (decide (100 < (p0.Left.length : Int)))) fun o12 =>
  if o12 then
    some 8
  else
    Option.bind (α := Unit ⊕ Int) (
      Option.bind (whileO (piece_Check_l1 p0) 0) fun z0 => match z0 with
        | .inl z =>
          some (.inr z)
        | .inr _ =>
          some (.inl ())) fun z0 => match z0 with
      | .inl _ =>
        some 0
      | .inr z =>
        some z
set_option maxHeartbeats 4000000 in
set_option maxRecDepth 100000 in
theorem c_piece_Check (E : Nat → Prop) (w0 : World) (p0 : api_Piece) (v0 : Value) (r : Int) (h : F_piece_Check p0 = some r) (S : St0 E [] w0 w0 [] [fRep r_api_Piece (v0) p0]) :
    Calls Try.prog 17 #[v0] w0 (Ret (X := Unit) E [] w0 (fun _ => .int .i64 r) (fun _ => []) (fun _ => [])) := by
  unfold F_piece_Check at h
  obtain ⟨u1, u2, rfl, hu3, hu4⟩ := S.know (i := 0) (e := fRep r_api_Piece (v0) p0) (by kernel_rfl)
  have S := S.learn (fRep (rL (rI .i64)) u1 p0.Left) hu3
  obtain ⟨ad5, cp6, _, rfl, _⟩ := hu3
  have S := S.learn (fRep (rL (rI .i64)) u2 p0.Right) hu4
  obtain ⟨ad7, cp8, _, rfl, _⟩ := hu4
  refine sEnter (args := [.agg #[.slice ad5 p0.Left.length cp6, .slice ad7 p0.Right.length cp8]]) 58 Try.func17 rfl rfl (by simp) S (fun a S => ?_)
  refine sSeq (fun K9 hK9 => ?_)
  refine sRegion ?_
  refine sBox (v := .agg #[.slice ad5 p0.Left.length cp6, .slice ad7 p0.Right.length cp8]) S (wN rfl) rfl (by kernel_rfl) [.slice ad5 p0.Left.length cp6, .slice ad7 p0.Right.length cp8] rfl rfl (by decide) (fun a b10 w S => ?_)
  refine sMove (.int .i64 0) S (wN rfl) (.inr rfl) (by kernel_rfl) rfl (by decide) (fun a S => ?_)
  refine leafL (leafT (hK9 _ _ ?_))
  refine sSeq (fun K11 hK11 => ?_)
  obtain ⟨t13, h, g14⟩ := bindSome h
  refine sCut (fun a w => ∃ o12, o12 = t13 ∧ St E [] w0 58 a w [(1, .pointer (some ⟨b10, 0, none⟩)), (24, .bool o12)] [eBox b10 36 [.slice ad5 p0.Left.length cp6, .slice ad7 p0.Right.length cp8]] [fRep (rL (rI .i64)) (.slice ad5 p0.Left.length cp6) p0.Left, fRep (rL (rI .i64)) (.slice ad7 p0.Right.length cp8) p0.Right]) ?_ (fun a w hI => ?_)
  · refine sRegion ?_
    refine sField (b := b10) (off := 0) 0 0 S (wN rfl) rfl (by kernel_rfl) (by kernel_rfl) rfl rfl (by decide) (fun a S => ?_)
    refine sLoad1 (p := b10) (off := 0) (T := 36) (vs := [.slice ad5 p0.Left.length cp6, .slice ad7 p0.Right.length cp8]) 0 (.slice ad5 p0.Left.length cp6) S (wN rfl) rfl (by kernel_rfl) (by kernel_rfl) (by kernel_rfl) rfl rfl (by decide) (fun a S => ?_)
    refine sLen (ad := ad5) (m := p0.Left.length) (c := cp6) S (wN rfl) rfl Try.underlying34 (by kernel_rfl) rfl (by decide) (fun a S => ?_)
    refine sField (b := b10) (off := 0) 1 1 S (wN rfl) rfl (by kernel_rfl) (by kernel_rfl) rfl rfl (by decide) (fun a S => ?_)
    refine sLoad1 (p := b10) (off := 1) (T := 36) (vs := [.slice ad5 p0.Left.length cp6, .slice ad7 p0.Right.length cp8]) 0 (.slice ad7 p0.Right.length cp8) S (wN rfl) rfl (by kernel_rfl) (by kernel_rfl) (by kernel_rfl) rfl rfl (by decide) (fun a S => ?_)
    refine sLen (ad := ad7) (m := p0.Right.length) (c := cp8) S (wN rfl) rfl Try.underlying34 (by kernel_rfl) rfl (by decide) (fun a S => ?_)
    refine sBin (.bool ((p0.Left.length : Int) != (p0.Right.length : Int))) S (wN rfl) rfl (by kernel_rfl) (by kernel_rfl) (bNe _ _ _ _ .i64 (p0.Left.length : Int) (p0.Right.length : Int)) rfl (by decide) (fun a S => ?_)
    refine sMove (.bool ((p0.Left.length : Int) != (p0.Right.length : Int))) S (wN rfl) (.inl rfl) (by kernel_rfl) rfl (by decide) (fun a S => ?_)
    rcases iteSome h with ⟨hc15, h⟩ | ⟨hc15, h⟩
    · refine sSkip (c := (p0.Left.length : Int) != (p0.Right.length : Int)) 7 false 13 14 S rfl rfl (by kernel_rfl) hc15 rfl (by decide) (fun a S => ?_)
      refine sSkip (c := (p0.Left.length : Int) != (p0.Right.length : Int)) 7 false 13 15 S rfl rfl (by kernel_rfl) hc15 rfl (by decide) (fun a S => ?_)
      refine sSkip (c := (p0.Left.length : Int) != (p0.Right.length : Int)) 7 false 13 16 S rfl rfl (by kernel_rfl) hc15 rfl (by decide) (fun a S => ?_)
      refine sSkip (c := (p0.Left.length : Int) != (p0.Right.length : Int)) 7 false 13 17 S rfl rfl (by kernel_rfl) hc15 rfl (by decide) (fun a S => ?_)
      refine sPickT (b := (p0.Left.length : Int) != (p0.Right.length : Int)) (.bool true) S (wN rfl) rfl (by kernel_rfl) hc15 (by kernel_rfl) rfl (by decide) (fun a S => ?_)
      refine sMove (.bool true) S (wN rfl) (.inl rfl) (by kernel_rfl) rfl (by decide) (fun a S => ?_)
      refine sSkip (c := true) 13 false 19 20 S rfl rfl (by kernel_rfl) rfl rfl (by decide) (fun a S => ?_)
      refine sSkip (c := true) 13 false 19 21 S rfl rfl (by kernel_rfl) rfl rfl (by decide) (fun a S => ?_)
      refine sSkip (c := true) 13 false 19 22 S rfl rfl (by kernel_rfl) rfl rfl (by decide) (fun a S => ?_)
      refine sSkip (c := true) 13 false 19 23 S rfl rfl (by kernel_rfl) rfl rfl (by decide) (fun a S => ?_)
      refine sPickT (b := true) (.bool true) S (wN rfl) rfl (by kernel_rfl) rfl (by kernel_rfl) rfl (by decide) (fun a S => ?_)
      exact leafL (leafT (⟨true, Option.some.inj h, S.fix [0] [1, 0] (by decide) (by kernel_rfl) (by kernel_rfl) (by kernel_rfl)⟩))
    · refine sField (b := b10) (off := 0) 0 0 S (wG (c := (p0.Left.length : Int) != (p0.Right.length : Int)) 7 false 13 rfl rfl (by kernel_rfl) hc15) rfl (by kernel_rfl) (by kernel_rfl) rfl rfl (by decide) (fun a S => ?_)
      refine sLoad1 (p := b10) (off := 0) (T := 36) (vs := [.slice ad5 p0.Left.length cp6, .slice ad7 p0.Right.length cp8]) 0 (.slice ad5 p0.Left.length cp6) S (wG (c := (p0.Left.length : Int) != (p0.Right.length : Int)) 7 false 13 rfl rfl (by kernel_rfl) hc15) rfl (by kernel_rfl) (by kernel_rfl) (by kernel_rfl) rfl rfl (by decide) (fun a S => ?_)
      refine sLen (ad := ad5) (m := p0.Left.length) (c := cp6) S (wG (c := (p0.Left.length : Int) != (p0.Right.length : Int)) 7 false 13 rfl rfl (by kernel_rfl) hc15) rfl Try.underlying34 (by kernel_rfl) rfl (by decide) (fun a S => ?_)
      refine sBin (.bool ((p0.Left.length : Int) == 0)) S (wG (c := (p0.Left.length : Int) != (p0.Right.length : Int)) 7 false 13 rfl rfl (by kernel_rfl) hc15) rfl (by kernel_rfl) (by kernel_rfl) (bEq _ _ _ _ .i64 (p0.Left.length : Int) 0) rfl (by decide) (fun a S => ?_)
      refine sPickF (b := (p0.Left.length : Int) != (p0.Right.length : Int)) (.bool ((p0.Left.length : Int) == 0)) S (wN rfl) rfl (by kernel_rfl) hc15 (by kernel_rfl) rfl (by decide) (fun a S => ?_)
      refine sMove (.bool ((p0.Left.length : Int) == 0)) S (wN rfl) (.inl rfl) (by kernel_rfl) rfl (by decide) (fun a S => ?_)
      rcases iteSome h with ⟨hc16, h⟩ | ⟨hc16, h⟩
      · refine sSkip (c := (p0.Left.length : Int) == 0) 13 false 19 20 S rfl rfl (by kernel_rfl) hc16 rfl (by decide) (fun a S => ?_)
        refine sSkip (c := (p0.Left.length : Int) == 0) 13 false 19 21 S rfl rfl (by kernel_rfl) hc16 rfl (by decide) (fun a S => ?_)
        refine sSkip (c := (p0.Left.length : Int) == 0) 13 false 19 22 S rfl rfl (by kernel_rfl) hc16 rfl (by decide) (fun a S => ?_)
        refine sSkip (c := (p0.Left.length : Int) == 0) 13 false 19 23 S rfl rfl (by kernel_rfl) hc16 rfl (by decide) (fun a S => ?_)
        refine sPickT (b := (p0.Left.length : Int) == 0) (.bool true) S (wN rfl) rfl (by kernel_rfl) hc16 (by kernel_rfl) rfl (by decide) (fun a S => ?_)
        exact leafL (leafT (⟨true, Option.some.inj h, S.fix [0] [1, 0] (by decide) (by kernel_rfl) (by kernel_rfl) (by kernel_rfl)⟩))
      · refine sField (b := b10) (off := 0) 0 0 S (wG (c := (p0.Left.length : Int) == 0) 13 false 19 rfl rfl (by kernel_rfl) hc16) rfl (by kernel_rfl) (by kernel_rfl) rfl rfl (by decide) (fun a S => ?_)
        refine sLoad1 (p := b10) (off := 0) (T := 36) (vs := [.slice ad5 p0.Left.length cp6, .slice ad7 p0.Right.length cp8]) 0 (.slice ad5 p0.Left.length cp6) S (wG (c := (p0.Left.length : Int) == 0) 13 false 19 rfl rfl (by kernel_rfl) hc16) rfl (by kernel_rfl) (by kernel_rfl) (by kernel_rfl) rfl rfl (by decide) (fun a S => ?_)
        refine sLen (ad := ad5) (m := p0.Left.length) (c := cp6) S (wG (c := (p0.Left.length : Int) == 0) 13 false 19 rfl rfl (by kernel_rfl) hc16) rfl Try.underlying34 (by kernel_rfl) rfl (by decide) (fun a S => ?_)
        refine sBin (.bool (decide (100 < (p0.Left.length : Int)))) S (wG (c := (p0.Left.length : Int) == 0) 13 false 19 rfl rfl (by kernel_rfl) hc16) rfl (by kernel_rfl) (by kernel_rfl) (bGt _ _ _ _ .i64 (p0.Left.length : Int) 100) rfl (by decide) (fun a S => ?_)
        refine sPickF (b := (p0.Left.length : Int) == 0) (.bool (decide (100 < (p0.Left.length : Int)))) S (wN rfl) rfl (by kernel_rfl) hc16 (by kernel_rfl) rfl (by decide) (fun a S => ?_)
        exact leafL (leafT (⟨decide (100 < (p0.Left.length : Int)), Option.some.inj h, S.fix [0] [1, 0] (by decide) (by kernel_rfl) (by kernel_rfl) (by kernel_rfl)⟩))
  · obtain ⟨o12, rfl, S⟩ := hI
    have h := g14
    clear g14
    try dsimp only at h
    rcases iteSome h with ⟨hc17, h⟩ | ⟨hc17, h⟩
    · refine sCondT (b := o12) S (by kernel_rfl) hc17 ?_
      refine sSeq (fun K18 hK18 => ?_)
      refine sRegion ?_
      refine sMove (.int .i64 8) S (wN rfl) (.inr rfl) (by kernel_rfl) rfl (by decide) (fun a S => ?_)
      refine leafL (leafT (hK18 _ _ ?_))
      obtain rfl := Option.some.inj h
      exact wp_ret (rThen (sRet (.int .i64 8) S (rsl1 rfl (rvT (t := 2) (v := .int .i64 8) S (by kernel_rfl))) ⟨(), rfl, S.mem.sel [] [] (by decide) (by kernel_rfl) (by kernel_rfl)⟩))
    · refine sCondF (b := o12) S (by kernel_rfl) hc17 ?_
      refine wp_skip (leafT (hK11 _ _ ?_))
      obtain ⟨t19, h, g20⟩ := bindSome h
      refine sCut (fun a w => .inl () = t19 ∧ St E [] w0 58 a w [] [] []) ?_ (fun a w hI => ?_)
      · refine sSeq (fun K21 hK21 => ?_)
        refine sRegion ?_
        refine sField (b := b10) (off := 0) 0 0 S (wN rfl) rfl (by kernel_rfl) (by kernel_rfl) rfl rfl (by decide) (fun a S => ?_)
        refine sLoad1 (p := b10) (off := 0) (T := 36) (vs := [.slice ad5 p0.Left.length cp6, .slice ad7 p0.Right.length cp8]) 0 (.slice ad5 p0.Left.length cp6) S (wN rfl) rfl (by kernel_rfl) (by kernel_rfl) (by kernel_rfl) rfl rfl (by decide) (fun a S => ?_)
        refine sLen (ad := ad5) (m := p0.Left.length) (c := cp6) S (wN rfl) rfl Try.underlying34 (by kernel_rfl) rfl (by decide) (fun a S => ?_)
        refine sMove (.int .i64 0) S (wN rfl) (.inl rfl) (by kernel_rfl) rfl (by decide) (fun a S => ?_)
        refine leafL (leafT (hK21 _ _ ?_))
        refine wp_block ?_
        obtain ⟨t25, hl, g24⟩ := bindSome h
        refine sLoop hl (fun s0 a w => match s0 with | s22 => St E [] w0 58 a w [(1, .pointer (some ⟨b10, 0, none⟩)), (26, .slice ad5 p0.Left.length cp6), (27, .int .i64 (p0.Left.length : Int)), (28, .int .i64 s22)] [eBox b10 36 [.slice ad5 p0.Left.length cp6, .slice ad7 p0.Right.length cp8]] [fRep (rL (rI .i64)) (.slice ad5 p0.Left.length cp6) p0.Left, fRep (rL (rI .i64)) (.slice ad7 p0.Right.length cp8) p0.Right]) (S.fix [0] [0, 1] (by decide) (by kernel_rfl) (by kernel_rfl) (by kernel_rfl)) ?_
        clear hl h
        intro s22 a w c0 hI h hu23
        unfold piece_Check_l1 at h
        dsimp only at h hI
        have S := hI
        refine sSeq (fun K26 hK26 => ?_)
        refine sRegion ?_
        refine sBin (.bool (decide (s22 < (p0.Left.length : Int)))) S (wN rfl) rfl (by kernel_rfl) (by kernel_rfl) (bLt _ _ _ _ .i64 s22 (p0.Left.length : Int)) rfl (by decide) (fun a S => ?_)
        refine leafL (leafT (hK26 _ _ ?_))
        refine sSeq (fun K27 hK27 => ?_)
        rcases iteSome h with ⟨hc28, h⟩ | ⟨hc28, h⟩
        · refine sCondT (b := decide (s22 < (p0.Left.length : Int))) S (by kernel_rfl) hc28 ?_
          refine wp_skip (leafT (hK27 _ _ ?_))
          refine sSeq (fun K29 hK29 => ?_)
          refine wp_block ?_
          refine sSeq (fun K30 hK30 => ?_)
          refine sRegion ?_
          refine sMove (.int .i64 s22) S (wN rfl) (.inl rfl) (by kernel_rfl) rfl (by decide) (fun a S => ?_)
          obtain ⟨x31, hx32, h⟩ := bindSome h
          obtain ⟨q33, hq34, S⟩ := pIdx (P := Try.prog) (r := (rI .i64)) (v := .slice ad5 p0.Left.length cp6) (xs := p0.Left) (j := s22) 34 3 0 S Try.underlying34 (by kernel_rfl) (by kernel_rfl) hx32
          refine sIdxV (v := .slice ad5 p0.Left.length cp6) (k := .i64) (j := s22) S (wN rfl) rfl (by kernel_rfl) (by kernel_rfl) hq34 rfl (by decide) (fun a S => ?_)
          obtain ⟨u35, S⟩ := pLoad (r := (rI .i64)) (q := q33) (x := x31) 0 S (by kernel_rfl)
          obtain rfl : u35 = .int .i64 x31 := S.mem.know (i := 1) (e := fRep (rI .i64) (u35) x31) (by kernel_rfl)
          refine sLoadV1 (vq := q33) 0 (.int .i64 x31) S (wN rfl) rfl (by kernel_rfl) (by kernel_rfl) (by kernel_rfl) rfl (by decide) (fun a S => ?_)
          refine sMove (.int .i64 s22) S (wN rfl) (.inr rfl) (by kernel_rfl) rfl (by decide) (fun a S => ?_)
          refine sMove (.int .i64 x31) S (wN rfl) (.inr rfl) (by kernel_rfl) rfl (by decide) (fun a S => ?_)
          refine leafL (leafT (hK30 _ _ ?_))
          refine sSeq (fun K36 hK36 => ?_)
          refine sRegion ?_
          refine sField (b := b10) (off := 0) 1 1 S (wN rfl) rfl (by kernel_rfl) (by kernel_rfl) rfl rfl (by decide) (fun a S => ?_)
          refine sLoad1 (p := b10) (off := 1) (T := 36) (vs := [.slice ad5 p0.Left.length cp6, .slice ad7 p0.Right.length cp8]) 0 (.slice ad7 p0.Right.length cp8) S (wN rfl) rfl (by kernel_rfl) (by kernel_rfl) (by kernel_rfl) rfl rfl (by decide) (fun a S => ?_)
          refine sMove (.int .i64 s22) S (wN rfl) (.inl rfl) (by kernel_rfl) rfl (by decide) (fun a S => ?_)
          obtain ⟨x37, hx38, h⟩ := bindSome h
          obtain ⟨q39, hq40, S⟩ := pIdx (P := Try.prog) (r := (rI .i64)) (v := .slice ad7 p0.Right.length cp8) (xs := p0.Right) (j := s22) 34 3 4 S Try.underlying34 (by kernel_rfl) (by kernel_rfl) hx38
          refine sIdxV (v := .slice ad7 p0.Right.length cp8) (k := .i64) (j := s22) S (wN rfl) rfl (by kernel_rfl) (by kernel_rfl) hq40 rfl (by decide) (fun a S => ?_)
          obtain ⟨u41, S⟩ := pLoad (r := (rI .i64)) (q := q39) (x := x37) 0 S (by kernel_rfl)
          obtain rfl : u41 = .int .i64 x37 := S.mem.know (i := 1) (e := fRep (rI .i64) (u41) x37) (by kernel_rfl)
          refine sLoadV1 (vq := q39) 0 (.int .i64 x37) S (wN rfl) rfl (by kernel_rfl) (by kernel_rfl) (by kernel_rfl) rfl (by decide) (fun a S => ?_)
          refine sMove (.int .i64 x37) S (wN rfl) (.inr rfl) (by kernel_rfl) rfl (by decide) (fun a S => ?_)
          refine leafL (leafT (hK36 _ _ ?_))
          obtain ⟨t43, h, g44⟩ := bindSome h
          refine sCut (fun a w => ∃ o42, o42 = t43 ∧ St E [] w0 58 a w [(1, .pointer (some ⟨b10, 0, none⟩)), (26, .slice ad5 p0.Left.length cp6), (27, .int .i64 (p0.Left.length : Int)), (28, .int .i64 s22), (56, .bool o42)] [eBox b10 36 [.slice ad5 p0.Left.length cp6, .slice ad7 p0.Right.length cp8]] [fRep (rL (rI .i64)) (.slice ad5 p0.Left.length cp6) p0.Left, fRep (rL (rI .i64)) (.slice ad7 p0.Right.length cp8) p0.Right]) ?_ (fun a w hI => ?_)
          · refine sRegion ?_
            refine sMove (.int .i64 x31) S (wN rfl) (.inl rfl) (by kernel_rfl) rfl (by decide) (fun a S => ?_)
            obtain ⟨r45, hx46, h⟩ := bindSome h
            have S1 := S.mem
            refine sCallQ (X := Unit) (f := 33) (vs := [.int .i64 x31]) (val := fun _ => .bool r45) S (wN rfl) rfl callee33 (by kernel_rfl) (S1.quiet [] (by kernel_rfl)) (fun E1 w1 S1 => c_piece_column E1 w1 x31 r45 hx46 S1) rfl (by decide) (fun _ a w S => ?_)
            refine sNot (b := r45) S (wN rfl) rfl (by kernel_rfl) rfl (by decide) (fun a S => ?_)
            refine sMove (.bool (!r45)) S (wN rfl) (.inl rfl) (by kernel_rfl) rfl (by decide) (fun a S => ?_)
            rcases iteSome h with ⟨hc47, h⟩ | ⟨hc47, h⟩
            · refine sSkip (c := !r45) 3 false 41 42 S rfl rfl (by kernel_rfl) hc47 rfl (by decide) (fun a S => ?_)
              refine sSkip (c := !r45) 3 false 41 43 S rfl rfl (by kernel_rfl) hc47 rfl (by decide) (fun a S => ?_)
              refine sSkip (c := !r45) 3 false 41 44 S rfl rfl (by kernel_rfl) hc47 rfl (by decide) (fun a S => ?_)
              refine sPickT (b := !r45) (.bool true) S (wN rfl) rfl (by kernel_rfl) hc47 (by kernel_rfl) rfl (by decide) (fun a S => ?_)
              refine sMove (.bool true) S (wN rfl) (.inl rfl) (by kernel_rfl) rfl (by decide) (fun a S => ?_)
              refine sSkip (c := true) 8 false 46 47 S rfl rfl (by kernel_rfl) rfl rfl (by decide) (fun a S => ?_)
              refine sSkip (c := true) 8 false 46 48 S rfl rfl (by kernel_rfl) rfl rfl (by decide) (fun a S => ?_)
              refine sSkip (c := true) 8 false 46 49 S rfl rfl (by kernel_rfl) rfl rfl (by decide) (fun a S => ?_)
              refine sPickT (b := true) (.bool true) S (wN rfl) rfl (by kernel_rfl) rfl (by kernel_rfl) rfl (by decide) (fun a S => ?_)
              refine sMove (.bool true) S (wN rfl) (.inl rfl) (by kernel_rfl) rfl (by decide) (fun a S => ?_)
              refine sSkip (c := true) 13 false 51 52 S rfl rfl (by kernel_rfl) rfl rfl (by decide) (fun a S => ?_)
              refine sSkip (c := true) 13 false 51 53 S rfl rfl (by kernel_rfl) rfl rfl (by decide) (fun a S => ?_)
              refine sSkip (c := true) 13 false 51 54 S rfl rfl (by kernel_rfl) rfl rfl (by decide) (fun a S => ?_)
              refine sSkip (c := true) 13 false 51 55 S rfl rfl (by kernel_rfl) rfl rfl (by decide) (fun a S => ?_)
              refine sPickT (b := true) (.bool true) S (wN rfl) rfl (by kernel_rfl) rfl (by kernel_rfl) rfl (by decide) (fun a S => ?_)
              exact leafL (leafT (⟨true, Option.some.inj h, S.fix [0] [6, 7] (by decide) (by kernel_rfl) (by kernel_rfl) (by kernel_rfl)⟩))
            · refine sMove (.int .i64 x37) S (wG (c := !r45) 3 false 41 rfl rfl (by kernel_rfl) hc47) (.inl rfl) (by kernel_rfl) rfl (by decide) (fun a S => ?_)
              obtain ⟨r48, hx49, h⟩ := bindSome h
              have S1 := S.mem
              refine sCallQ (X := Unit) (f := 33) (vs := [.int .i64 x37]) (val := fun _ => .bool r48) S (wG (c := !r45) 3 false 41 rfl rfl (by kernel_rfl) hc47) rfl callee33 (by kernel_rfl) (S1.quiet [] (by kernel_rfl)) (fun E1 w1 S1 => c_piece_column E1 w1 x37 r48 hx49 S1) rfl (by decide) (fun _ a w S => ?_)
              refine sNot (b := r48) S (wG (c := !r45) 3 false 41 rfl rfl (by kernel_rfl) hc47) rfl (by kernel_rfl) rfl (by decide) (fun a S => ?_)
              refine sPickF (b := !r45) (.bool (!r48)) S (wN rfl) rfl (by kernel_rfl) hc47 (by kernel_rfl) rfl (by decide) (fun a S => ?_)
              refine sMove (.bool (!r48)) S (wN rfl) (.inl rfl) (by kernel_rfl) rfl (by decide) (fun a S => ?_)
              rcases iteSome h with ⟨hc50, h⟩ | ⟨hc50, h⟩
              · refine sSkip (c := !r48) 8 false 46 47 S rfl rfl (by kernel_rfl) hc50 rfl (by decide) (fun a S => ?_)
                refine sSkip (c := !r48) 8 false 46 48 S rfl rfl (by kernel_rfl) hc50 rfl (by decide) (fun a S => ?_)
                refine sSkip (c := !r48) 8 false 46 49 S rfl rfl (by kernel_rfl) hc50 rfl (by decide) (fun a S => ?_)
                refine sPickT (b := !r48) (.bool true) S (wN rfl) rfl (by kernel_rfl) hc50 (by kernel_rfl) rfl (by decide) (fun a S => ?_)
                refine sMove (.bool true) S (wN rfl) (.inl rfl) (by kernel_rfl) rfl (by decide) (fun a S => ?_)
                refine sSkip (c := true) 13 false 51 52 S rfl rfl (by kernel_rfl) rfl rfl (by decide) (fun a S => ?_)
                refine sSkip (c := true) 13 false 51 53 S rfl rfl (by kernel_rfl) rfl rfl (by decide) (fun a S => ?_)
                refine sSkip (c := true) 13 false 51 54 S rfl rfl (by kernel_rfl) rfl rfl (by decide) (fun a S => ?_)
                refine sSkip (c := true) 13 false 51 55 S rfl rfl (by kernel_rfl) rfl rfl (by decide) (fun a S => ?_)
                refine sPickT (b := true) (.bool true) S (wN rfl) rfl (by kernel_rfl) rfl (by kernel_rfl) rfl (by decide) (fun a S => ?_)
                exact leafL (leafT (⟨true, Option.some.inj h, S.fix [0] [6, 7] (by decide) (by kernel_rfl) (by kernel_rfl) (by kernel_rfl)⟩))
              · refine sMove (.int .i64 x31) S (wG (c := !r48) 8 false 46 rfl rfl (by kernel_rfl) hc50) (.inl rfl) (by kernel_rfl) rfl (by decide) (fun a S => ?_)
                refine sMove (.int .i64 x37) S (wG (c := !r48) 8 false 46 rfl rfl (by kernel_rfl) hc50) (.inl rfl) (by kernel_rfl) rfl (by decide) (fun a S => ?_)
                refine sBin (.bool (decide (x37 ≤ x31))) S (wG (c := !r48) 8 false 46 rfl rfl (by kernel_rfl) hc50) rfl (by kernel_rfl) (by kernel_rfl) (bGe _ _ _ _ .i64 x31 x37) rfl (by decide) (fun a S => ?_)
                refine sPickF (b := !r48) (.bool (decide (x37 ≤ x31))) S (wN rfl) rfl (by kernel_rfl) hc50 (by kernel_rfl) rfl (by decide) (fun a S => ?_)
                refine sMove (.bool (decide (x37 ≤ x31))) S (wN rfl) (.inl rfl) (by kernel_rfl) rfl (by decide) (fun a S => ?_)
                rcases iteSome h with ⟨hc51, h⟩ | ⟨hc51, h⟩
                · refine sSkip (c := decide (x37 ≤ x31)) 13 false 51 52 S rfl rfl (by kernel_rfl) hc51 rfl (by decide) (fun a S => ?_)
                  refine sSkip (c := decide (x37 ≤ x31)) 13 false 51 53 S rfl rfl (by kernel_rfl) hc51 rfl (by decide) (fun a S => ?_)
                  refine sSkip (c := decide (x37 ≤ x31)) 13 false 51 54 S rfl rfl (by kernel_rfl) hc51 rfl (by decide) (fun a S => ?_)
                  refine sSkip (c := decide (x37 ≤ x31)) 13 false 51 55 S rfl rfl (by kernel_rfl) hc51 rfl (by decide) (fun a S => ?_)
                  refine sPickT (b := decide (x37 ≤ x31)) (.bool true) S (wN rfl) rfl (by kernel_rfl) hc51 (by kernel_rfl) rfl (by decide) (fun a S => ?_)
                  exact leafL (leafT (⟨true, Option.some.inj h, S.fix [0] [6, 7] (by decide) (by kernel_rfl) (by kernel_rfl) (by kernel_rfl)⟩))
                · refine sMove (.int .i64 x37) S (wG (c := decide (x37 ≤ x31)) 13 false 51 rfl rfl (by kernel_rfl) hc51) (.inl rfl) (by kernel_rfl) rfl (by decide) (fun a S => ?_)
                  refine sMove (.int .i64 x31) S (wG (c := decide (x37 ≤ x31)) 13 false 51 rfl rfl (by kernel_rfl) hc51) (.inl rfl) (by kernel_rfl) rfl (by decide) (fun a S => ?_)
                  refine sBin (.int .i64 (w64 (x37 - x31))) S (wG (c := decide (x37 ≤ x31)) 13 false 51 rfl rfl (by kernel_rfl) hc51) rfl (by kernel_rfl) (by kernel_rfl) (bSub _ _ _ _ x37 x31) rfl (by decide) (fun a S => ?_)
                  refine sBin (.bool (decide (200 < (w64 (x37 - x31))))) S (wG (c := decide (x37 ≤ x31)) 13 false 51 rfl rfl (by kernel_rfl) hc51) rfl (by kernel_rfl) (by kernel_rfl) (bGt _ _ _ _ .i64 (w64 (x37 - x31)) 200) rfl (by decide) (fun a S => ?_)
                  refine sPickF (b := decide (x37 ≤ x31)) (.bool (decide (200 < (w64 (x37 - x31))))) S (wN rfl) rfl (by kernel_rfl) hc51 (by kernel_rfl) rfl (by decide) (fun a S => ?_)
                  exact leafL (leafT (⟨decide (200 < (w64 (x37 - x31))), Option.some.inj h, S.fix [0] [6, 7] (by decide) (by kernel_rfl) (by kernel_rfl) (by kernel_rfl)⟩))
          · obtain ⟨o42, rfl, S⟩ := hI
            have h := g44
            clear g44
            try dsimp only at h
            rcases iteSome h with ⟨hc52, h⟩ | ⟨hc52, h⟩
            · refine sCondT (b := o42) S (by kernel_rfl) hc52 ?_
              refine sSeq (fun K53 hK53 => ?_)
              refine sRegion ?_
              refine sMove (.int .i64 8) S (wN rfl) (.inr rfl) (by kernel_rfl) rfl (by decide) (fun a S => ?_)
              refine leafL (leafT (hK53 _ _ ?_))
              obtain rfl := Option.some.inj h
              obtain rfl := hu23 _ rfl
              have h := g24
              clear g24
              try dsimp only at h
              obtain rfl := Option.some.inj h
              have h := g20
              clear g20
              try dsimp only at h
              obtain rfl := Option.some.inj h
              exact wp_ret (rBlock (rThen (rThen (rBlock (rThen (sRet (.int .i64 8) S (rsl1 rfl (rvT (t := 2) (v := .int .i64 8) S (by kernel_rfl))) ⟨(), rfl, S.mem.sel [] [] (by decide) (by kernel_rfl) (by kernel_rfl)⟩))))))
            · refine sCondF (b := o42) S (by kernel_rfl) hc52 ?_
              refine wp_skip (leafB (leafT (hK29 _ _ ?_)))
              refine sRegion ?_
              refine sBin (.int .i64 (w64 (s22 + 1))) S (wN rfl) rfl (by kernel_rfl) (by kernel_rfl) (bAdd _ _ _ _ s22 1) rfl (by decide) (fun a S => ?_)
              refine sMove (.int .i64 (w64 (s22 + 1))) S (wN rfl) (.inl rfl) (by kernel_rfl) rfl (by decide) (fun a S => ?_)
              exact leafL (leafT (⟨w64 (s22 + 1), (Option.some.inj h).symm, (S.fix [0] [0, 1] (by decide) (by kernel_rfl) (by kernel_rfl) (by kernel_rfl))⟩))
        · refine sCondF (b := decide (s22 < (p0.Left.length : Int))) S (by kernel_rfl) hc28 ?_
          obtain rfl := Option.some.inj h
          obtain rfl := hu23 _ rfl
          have h := g24
          clear g24
          try dsimp only at h
          exact wp_exit (xThen (xThen (xHit (leafT (⟨Option.some.inj h, S.fix [] [] (by decide) (by kernel_rfl) (by kernel_rfl) (by kernel_rfl)⟩)))))
      · obtain ⟨rfl, S⟩ := hI
        have h := g20
        clear g20
        try dsimp only at h
        refine sSeq (fun K54 hK54 => ?_)
        refine sRegion ?_
        refine sMove (.int .i64 0) S (wN rfl) (.inr rfl) (by kernel_rfl) rfl (by decide) (fun a S => ?_)
        refine leafL (leafT (hK54 _ _ ?_))
        obtain rfl := Option.some.inj h
        exact wp_ret (sRet (.int .i64 0) S (rsl1 rfl (rvT (t := 2) (v := .int .i64 0) S (by kernel_rfl))) ⟨(), rfl, S.mem.sel [] [] (by decide) (by kernel_rfl) (by kernel_rfl)⟩)

end Go.Proofs.Ytmedbnjhgkcndaa
