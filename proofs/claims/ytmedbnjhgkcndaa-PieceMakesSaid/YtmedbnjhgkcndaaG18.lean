import Derived.Test.YtmedbnjhgkcndaaGTy
import Derived.Test.YtmedbnjhgkcndaaG34
namespace Go.Proofs.Ytmedbnjhgkcndaa
open Go.RowKit
set_option linter.unusedVariables false

def anc_raddleref37_Check_0 : List (List Nat) := [[], [0], [], [0, 1, 2], [0, 1, 2, 3], [0, 1, 2, 3, 4], [0, 1, 2, 3, 4, 5], [0, 1, 2, 3, 4, 5, 6], [0, 1, 2, 3, 4, 5, 6, 7], [0, 1, 2, 3, 4, 5, 6, 7, 8], [0, 1, 2, 3, 4, 5, 6, 7], [0, 1, 2, 3, 4, 5, 6, 7, 8, 9, 10], [0, 1, 2, 3, 4, 5, 6, 7, 8, 9, 10, 11], [0, 1, 2, 3, 4, 5, 6, 7, 8, 9, 10, 11, 12], [0, 1, 2, 3, 4, 5, 6, 7, 8, 9, 10, 11, 12, 13], [0, 1, 2, 3, 4, 5, 6, 7, 8, 9, 10, 11, 12, 13, 14], [0, 1, 2, 3, 4, 5, 6, 7, 8, 9, 10, 11, 12, 13, 14, 15], [0, 1, 2, 3, 4, 5, 6, 7, 8, 9, 10, 11, 12, 13, 14, 15, 16], [0, 1, 2, 3, 4, 5, 6, 7, 8, 9, 10, 11, 12, 13, 14, 15, 16, 17], [0, 1, 2, 3, 4, 5, 6, 7, 8, 9, 10, 11, 12, 13, 14, 15, 16], [0, 1, 2, 3, 4, 5, 6, 7, 8, 9, 10, 11, 12, 13, 14, 15, 16, 17, 18, 19], [0, 1, 2, 3, 4, 5, 6, 7, 8, 9, 10, 11, 12, 13, 14, 15, 16, 17, 18, 19, 20], [0, 1, 2, 3, 4, 5, 6, 7, 8, 9, 10, 11, 12, 13, 14, 15, 16], [0, 1, 2, 3, 4, 5, 6, 7, 8, 9, 10, 11, 12, 13, 14, 15, 16, 22], [0, 1, 2, 3, 4, 5, 6, 7, 8, 9, 10, 11, 12, 13, 14, 15, 16], [0, 1, 2, 3, 4, 5, 6, 7, 8, 9, 10, 11, 12, 13, 14, 15, 16, 22, 23, 24], [0, 1, 2, 3, 4, 5, 6, 7, 8, 9, 10, 11, 12, 13, 14, 15, 16, 22, 23, 24, 25], [0, 1, 2, 3, 4, 5, 6, 7, 8, 9, 10, 11, 12, 13, 14, 15, 16, 17, 18, 19, 20, 21, 22, 23, 24, 25, 26], [0, 1, 2, 3, 4, 5, 6, 7, 8, 9, 10, 11, 12, 13, 14, 15, 16, 17, 18, 19, 20, 21, 22, 23, 24, 25, 26, 27], [0, 1, 2, 3, 4, 5, 6, 7, 8, 9, 10, 11, 12, 13, 14, 15, 16, 17, 18, 19, 20, 21, 22, 23, 24, 25, 26, 27, 28], [0, 1, 2, 3, 4, 5, 6, 7, 8, 9, 10, 11, 12, 13, 14, 15, 16, 17, 18, 19, 20, 21, 22, 23, 24, 25, 26, 27, 28, 29], [0, 1, 2, 3, 4, 5, 6, 7, 8, 9, 10, 11, 12, 13, 14, 15, 16, 17, 18, 19, 20, 21, 22, 23, 24, 25, 26, 27, 28, 29, 30], [0, 1, 2, 3, 4, 5, 6, 7, 8, 9, 10, 11, 12, 13, 14, 15, 16, 17, 18, 19, 20, 21, 22, 23, 24, 25, 26, 27, 28, 29], [0, 1, 2, 3, 4, 5, 6, 7, 8, 9, 10, 11, 12, 13, 14, 15, 16, 17, 18, 19, 20, 21, 22, 23, 24, 25, 26, 27, 28, 29, 30, 31, 32], [0, 1, 2, 3, 4, 5, 6, 7, 8, 9, 10, 11, 12, 13, 14, 15, 16, 17, 18, 19, 20, 21, 22, 23, 24, 25, 26, 27, 28, 29, 30, 31, 32, 33], [0, 1, 2, 3, 4, 5, 6, 7, 8, 9, 10, 11, 12, 13, 14, 15, 16, 17, 18, 19, 20, 21, 22, 23, 24, 25, 26, 27, 28, 29], [0, 1, 2, 3, 4, 5, 6, 7, 8, 9, 10, 11, 12, 13, 14, 15, 16, 17, 18, 19, 20, 21, 22, 23, 24, 25, 26, 27, 28, 29, 35], [0, 1, 2, 3, 4, 5, 6, 7, 8, 9, 10, 11, 12, 13, 14, 15, 16, 17, 18, 19, 20, 21, 22, 23, 24, 25, 26, 27, 28, 29], [0, 1, 2, 3, 4, 5, 6, 7, 8, 9, 10, 11, 12, 13, 14, 15, 16, 17, 18, 19, 20, 21, 22, 23, 24, 25, 26, 27, 28, 29, 35, 36, 37], [0, 1, 2, 3, 4, 5, 6, 7, 8, 9, 10, 11, 12, 13, 14, 15, 16, 17, 18, 19, 20, 21, 22, 23, 24, 25, 26, 27, 28, 29, 35, 36, 37, 38], [0, 1, 2, 3, 4, 5, 6, 7, 8, 9, 10, 11, 12, 13, 14, 15, 16, 17, 18, 19, 20, 21, 22, 23, 24, 25, 26, 27, 28, 29, 30, 31, 32, 33, 34, 35, 36, 37, 38, 39], [0, 1, 2, 3, 4, 5, 6, 7, 8, 9, 10, 11, 12, 13, 14, 15, 16, 17, 18, 19, 20, 21, 22, 23, 24, 25, 26, 27, 28, 29, 30, 31, 32, 33, 34, 35, 36, 37, 38, 39, 40], [0, 1, 2, 3, 4, 5, 6, 7, 8, 9, 10, 11, 12, 13, 14, 15, 16, 17, 18, 19, 20, 21, 22, 23, 24, 25, 26, 27, 28, 29, 30, 31, 32, 33, 34, 35, 36, 37, 38, 39, 40, 41]]
noncomputable def raddleref37_Check_l1 (p0 : api_Piece) : Int → Option (Int ⊕ (Int ⊕ Unit)) := fun s0 => match s0 with
  | s22 =>
    if decide (s22 < (p0.Left.length : Int)) then
      Option.bind (α := Bool) (
        Option.bind (idxO p0.Left s22) fun x33 =>
        Option.bind (F_raddleref37_in x33) fun r38 =>
        if !r38 then
          some true
        else
          Option.bind (idxO p0.Right s22) fun x44 =>
          Option.bind (F_raddleref37_in x44) fun r49 =>
          if !r49 then
            some true
          else
            if decide (x44 ≤ x33) then
              some true
            else
              some (decide (200 < (w64 (x44 - x33))))) fun o30 =>
      if o30 then
        some (.inr (.inl 8))
      else
        some (.inl (w64 (s22 + 1)))
    else
      some (.inr (.inr ()))
noncomputable def F_raddleref37_Check (p0 : api_Piece) : Option Int :=
  Option.bind (α := Bool) (
    if (p0.Left.length : Int) != (p0.Right.length : Int) then
      some true
    else
      if decide ((p0.Left.length : Int) < 1) then
        some true
      else
        some (decide (100 < (p0.Left.length : Int)))) fun o12 =>
  if o12 then
    some 8
  else
    Option.bind (α := Unit ⊕ Int) (
      Option.bind (whileO (raddleref37_Check_l1 p0) 0) fun z0 => match z0 with
        | .inl z =>
          some (.inr z)
        | .inr _ =>
          some (.inl ())) fun z0 => match z0 with
      | .inl _ =>
        some 0
      | .inr z =>
        some z
set_option maxHeartbeats 4000000 in
set_option maxRecDepth 100000 in
theorem c_raddleref37_Check (E : Nat → Prop) (w0 : World) (p0 : api_Piece) (v0 : Value) (r : Int) (h : F_raddleref37_Check p0 = some r) (S : St0 E [] w0 w0 [] [fRep r_api_Piece (v0) p0]) :
    Calls Try.prog 18 #[v0] w0 (Ret (X := Unit) E [] w0 (fun _ => .int .i64 r) (fun _ => []) (fun _ => [])) := by
  unfold F_raddleref37_Check at h
  obtain ⟨u1, u2, rfl, hu3, hu4⟩ := S.know (i := 0) (e := fRep r_api_Piece (v0) p0) (by kernel_rfl)
  have S := S.learn (fRep (rL (rI .i64)) u1 p0.Left) hu3
  obtain ⟨ad5, cp6, _, rfl, _⟩ := hu3
  have S := S.learn (fRep (rL (rI .i64)) u2 p0.Right) hu4
  obtain ⟨ad7, cp8, _, rfl, _⟩ := hu4
  refine sEnter (args := [.agg #[.slice ad5 p0.Left.length cp6, .slice ad7 p0.Right.length cp8]]) 73 Try.func18 rfl rfl (by simp) S (fun a S => ?_)
  refine sSeq (fun K9 hK9 => ?_)
  refine sRegion ?_
  refine sBox (v := .agg #[.slice ad5 p0.Left.length cp6, .slice ad7 p0.Right.length cp8]) S (wN rfl) rfl (by kernel_rfl) [.slice ad5 p0.Left.length cp6, .slice ad7 p0.Right.length cp8] rfl rfl (by decide) (fun a b10 w S => ?_)
  refine sMove (.int .i64 0) S (wN rfl) (.inr rfl) (by kernel_rfl) rfl (by decide) (fun a S => ?_)
  refine leafL (leafT (hK9 _ _ ?_))
  refine sSeq (fun K11 hK11 => ?_)
  obtain ⟨t13, h, g14⟩ := bindSome h
  refine sCut (fun a w => ∃ o12, o12 = t13 ∧ St E [] w0 73 a w [(1, .pointer (some ⟨b10, 0, none⟩)), (22, .bool o12)] [eBox b10 36 [.slice ad5 p0.Left.length cp6, .slice ad7 p0.Right.length cp8]] [fRep (rL (rI .i64)) (.slice ad5 p0.Left.length cp6) p0.Left, fRep (rL (rI .i64)) (.slice ad7 p0.Right.length cp8) p0.Right]) ?_ (fun a w hI => ?_)
  · refine sRegion ?_
    refine sField (b := b10) (off := 0) 0 0 S (wN rfl) rfl (by kernel_rfl) (by kernel_rfl) rfl rfl (by decide) (fun a S => ?_)
    refine sLoad1 (p := b10) (off := 0) (T := 36) (vs := [.slice ad5 p0.Left.length cp6, .slice ad7 p0.Right.length cp8]) 0 (.slice ad5 p0.Left.length cp6) S (wN rfl) rfl (by kernel_rfl) (by kernel_rfl) (by kernel_rfl) rfl rfl (by decide) (fun a S => ?_)
    refine sLen (ad := ad5) (m := p0.Left.length) (c := cp6) S (wN rfl) rfl Try.underlying34 (by kernel_rfl) rfl (by decide) (fun a S => ?_)
    refine sField (b := b10) (off := 0) 1 1 S (wN rfl) rfl (by kernel_rfl) (by kernel_rfl) rfl rfl (by decide) (fun a S => ?_)
    refine sLoad1 (p := b10) (off := 1) (T := 36) (vs := [.slice ad5 p0.Left.length cp6, .slice ad7 p0.Right.length cp8]) 0 (.slice ad7 p0.Right.length cp8) S (wN rfl) rfl (by kernel_rfl) (by kernel_rfl) (by kernel_rfl) rfl rfl (by decide) (fun a S => ?_)
    refine sLen (ad := ad7) (m := p0.Right.length) (c := cp8) S (wN rfl) rfl Try.underlying34 (by kernel_rfl) rfl (by decide) (fun a S => ?_)
    refine sBin (.bool ((p0.Left.length : Int) != (p0.Right.length : Int))) S (wN rfl) rfl (by kernel_rfl) (by kernel_rfl) (bNe _ _ _ _ .i64 (p0.Left.length : Int) (p0.Right.length : Int)) rfl (by decide) (fun a S => ?_)
    refine sMove (.bool ((p0.Left.length : Int) != (p0.Right.length : Int))) S (wN rfl) (.inl rfl) (by kernel_rfl) rfl (by decide) (fun a S => ?_)
    rcases iteSome h with ⟨hc15, h⟩ | ⟨hc15, h⟩
    · refine sSkip (c := (p0.Left.length : Int) != (p0.Right.length : Int)) 7 false 11 12 S rfl rfl (by kernel_rfl) hc15 rfl (by decide) (fun a S => ?_)
      refine sSkip (c := (p0.Left.length : Int) != (p0.Right.length : Int)) 7 false 11 13 S rfl rfl (by kernel_rfl) hc15 rfl (by decide) (fun a S => ?_)
      refine sSkip (c := (p0.Left.length : Int) != (p0.Right.length : Int)) 7 false 11 14 S rfl rfl (by kernel_rfl) hc15 rfl (by decide) (fun a S => ?_)
      refine sSkip (c := (p0.Left.length : Int) != (p0.Right.length : Int)) 7 false 11 15 S rfl rfl (by kernel_rfl) hc15 rfl (by decide) (fun a S => ?_)
      refine sPickT (b := (p0.Left.length : Int) != (p0.Right.length : Int)) (.bool true) S (wN rfl) rfl (by kernel_rfl) hc15 (by kernel_rfl) rfl (by decide) (fun a S => ?_)
      refine sMove (.bool true) S (wN rfl) (.inl rfl) (by kernel_rfl) rfl (by decide) (fun a S => ?_)
      refine sSkip (c := true) 13 false 17 18 S rfl rfl (by kernel_rfl) rfl rfl (by decide) (fun a S => ?_)
      refine sSkip (c := true) 13 false 17 19 S rfl rfl (by kernel_rfl) rfl rfl (by decide) (fun a S => ?_)
      refine sSkip (c := true) 13 false 17 20 S rfl rfl (by kernel_rfl) rfl rfl (by decide) (fun a S => ?_)
      refine sSkip (c := true) 13 false 17 21 S rfl rfl (by kernel_rfl) rfl rfl (by decide) (fun a S => ?_)
      refine sPickT (b := true) (.bool true) S (wN rfl) rfl (by kernel_rfl) rfl (by kernel_rfl) rfl (by decide) (fun a S => ?_)
      exact leafL (leafT (⟨true, Option.some.inj h, S.fix [0] [1, 0] (by decide) (by kernel_rfl) (by kernel_rfl) (by kernel_rfl)⟩))
    · refine sField (b := b10) (off := 0) 0 0 S (wG (c := (p0.Left.length : Int) != (p0.Right.length : Int)) 7 false 11 rfl rfl (by kernel_rfl) hc15) rfl (by kernel_rfl) (by kernel_rfl) rfl rfl (by decide) (fun a S => ?_)
      refine sLoad1 (p := b10) (off := 0) (T := 36) (vs := [.slice ad5 p0.Left.length cp6, .slice ad7 p0.Right.length cp8]) 0 (.slice ad5 p0.Left.length cp6) S (wG (c := (p0.Left.length : Int) != (p0.Right.length : Int)) 7 false 11 rfl rfl (by kernel_rfl) hc15) rfl (by kernel_rfl) (by kernel_rfl) (by kernel_rfl) rfl rfl (by decide) (fun a S => ?_)
      refine sLen (ad := ad5) (m := p0.Left.length) (c := cp6) S (wG (c := (p0.Left.length : Int) != (p0.Right.length : Int)) 7 false 11 rfl rfl (by kernel_rfl) hc15) rfl Try.underlying34 (by kernel_rfl) rfl (by decide) (fun a S => ?_)
      refine sBin (.bool (decide ((p0.Left.length : Int) < 1))) S (wG (c := (p0.Left.length : Int) != (p0.Right.length : Int)) 7 false 11 rfl rfl (by kernel_rfl) hc15) rfl (by kernel_rfl) (by kernel_rfl) (bLt _ _ _ _ .i64 (p0.Left.length : Int) 1) rfl (by decide) (fun a S => ?_)
      refine sPickF (b := (p0.Left.length : Int) != (p0.Right.length : Int)) (.bool (decide ((p0.Left.length : Int) < 1))) S (wN rfl) rfl (by kernel_rfl) hc15 (by kernel_rfl) rfl (by decide) (fun a S => ?_)
      refine sMove (.bool (decide ((p0.Left.length : Int) < 1))) S (wN rfl) (.inl rfl) (by kernel_rfl) rfl (by decide) (fun a S => ?_)
      rcases iteSome h with ⟨hc16, h⟩ | ⟨hc16, h⟩
      · refine sSkip (c := decide ((p0.Left.length : Int) < 1)) 13 false 17 18 S rfl rfl (by kernel_rfl) hc16 rfl (by decide) (fun a S => ?_)
        refine sSkip (c := decide ((p0.Left.length : Int) < 1)) 13 false 17 19 S rfl rfl (by kernel_rfl) hc16 rfl (by decide) (fun a S => ?_)
        refine sSkip (c := decide ((p0.Left.length : Int) < 1)) 13 false 17 20 S rfl rfl (by kernel_rfl) hc16 rfl (by decide) (fun a S => ?_)
        refine sSkip (c := decide ((p0.Left.length : Int) < 1)) 13 false 17 21 S rfl rfl (by kernel_rfl) hc16 rfl (by decide) (fun a S => ?_)
        refine sPickT (b := decide ((p0.Left.length : Int) < 1)) (.bool true) S (wN rfl) rfl (by kernel_rfl) hc16 (by kernel_rfl) rfl (by decide) (fun a S => ?_)
        exact leafL (leafT (⟨true, Option.some.inj h, S.fix [0] [1, 0] (by decide) (by kernel_rfl) (by kernel_rfl) (by kernel_rfl)⟩))
      · refine sField (b := b10) (off := 0) 0 0 S (wG (c := decide ((p0.Left.length : Int) < 1)) 13 false 17 rfl rfl (by kernel_rfl) hc16) rfl (by kernel_rfl) (by kernel_rfl) rfl rfl (by decide) (fun a S => ?_)
        refine sLoad1 (p := b10) (off := 0) (T := 36) (vs := [.slice ad5 p0.Left.length cp6, .slice ad7 p0.Right.length cp8]) 0 (.slice ad5 p0.Left.length cp6) S (wG (c := decide ((p0.Left.length : Int) < 1)) 13 false 17 rfl rfl (by kernel_rfl) hc16) rfl (by kernel_rfl) (by kernel_rfl) (by kernel_rfl) rfl rfl (by decide) (fun a S => ?_)
        refine sLen (ad := ad5) (m := p0.Left.length) (c := cp6) S (wG (c := decide ((p0.Left.length : Int) < 1)) 13 false 17 rfl rfl (by kernel_rfl) hc16) rfl Try.underlying34 (by kernel_rfl) rfl (by decide) (fun a S => ?_)
        refine sBin (.bool (decide (100 < (p0.Left.length : Int)))) S (wG (c := decide ((p0.Left.length : Int) < 1)) 13 false 17 rfl rfl (by kernel_rfl) hc16) rfl (by kernel_rfl) (by kernel_rfl) (bGt _ _ _ _ .i64 (p0.Left.length : Int) 100) rfl (by decide) (fun a S => ?_)
        refine sPickF (b := decide ((p0.Left.length : Int) < 1)) (.bool (decide (100 < (p0.Left.length : Int)))) S (wN rfl) rfl (by kernel_rfl) hc16 (by kernel_rfl) rfl (by decide) (fun a S => ?_)
        exact leafL (leafT (⟨decide (100 < (p0.Left.length : Int)), Option.some.inj h, S.fix [0] [1, 0] (by decide) (by kernel_rfl) (by kernel_rfl) (by kernel_rfl)⟩))
  · obtain ⟨o12, rfl, S⟩ := hI
    have h := g14
    clear g14
    try dsimp only at h
    rcases iteSome h with ⟨hc17, h⟩ | ⟨hc17, h⟩
    · refine sCondT (b := o12) S (by kernel_rfl) hc17 ?_
      refine sSeq (fun K18 hK18 => ?_)
      refine sRegion ?_
      refine sMove (.int .i64 8) S (wN rfl) (.inr rfl) (by kernel_rfl) rfl (by decide) (fun a S => ?_)
      refine leafL (leafT (hK18 _ _ ?_))
      obtain rfl := Option.some.inj h
      exact wp_ret (rThen (sRet (.int .i64 8) S (rsl1 rfl (rvT (t := 2) (v := .int .i64 8) S (by kernel_rfl))) ⟨(), rfl, S.mem.sel [] [] (by decide) (by kernel_rfl) (by kernel_rfl)⟩))
    · refine sCondF (b := o12) S (by kernel_rfl) hc17 ?_
      refine wp_skip (leafT (hK11 _ _ ?_))
      obtain ⟨t19, h, g20⟩ := bindSome h
      refine sCut (fun a w => .inl () = t19 ∧ St E [] w0 73 a w [] [] []) ?_ (fun a w hI => ?_)
      · refine sSeq (fun K21 hK21 => ?_)
        refine sRegion ?_
        refine sMove (.int .i64 0) S (wN rfl) (.inr rfl) (by kernel_rfl) rfl (by decide) (fun a S => ?_)
        refine leafL (leafT (hK21 _ _ ?_))
        refine wp_block ?_
        obtain ⟨t25, hl, g24⟩ := bindSome h
        refine sLoop hl (fun s0 a w => match s0 with | s22 => St E [] w0 73 a w [(1, .pointer (some ⟨b10, 0, none⟩)), (3, .int .i64 s22)] [eBox b10 36 [.slice ad5 p0.Left.length cp6, .slice ad7 p0.Right.length cp8]] [fRep (rL (rI .i64)) (.slice ad5 p0.Left.length cp6) p0.Left, fRep (rL (rI .i64)) (.slice ad7 p0.Right.length cp8) p0.Right]) (S.fix [0] [0, 1] (by decide) (by kernel_rfl) (by kernel_rfl) (by kernel_rfl)) ?_
        clear hl h
        intro s22 a w c0 hI h hu23
        unfold raddleref37_Check_l1 at h
        dsimp only at h hI
        have S := hI
        refine sSeq (fun K26 hK26 => ?_)
        refine sSeq (fun K27 hK27 => ?_)
        refine sRegion ?_
        refine sMove (.int .i64 s22) S (wN rfl) (.inl rfl) (by kernel_rfl) rfl (by decide) (fun a S => ?_)
        refine sField (b := b10) (off := 0) 0 0 S (wN rfl) rfl (by kernel_rfl) (by kernel_rfl) rfl rfl (by decide) (fun a S => ?_)
        refine sLoad1 (p := b10) (off := 0) (T := 36) (vs := [.slice ad5 p0.Left.length cp6, .slice ad7 p0.Right.length cp8]) 0 (.slice ad5 p0.Left.length cp6) S (wN rfl) rfl (by kernel_rfl) (by kernel_rfl) (by kernel_rfl) rfl rfl (by decide) (fun a S => ?_)
        refine sLen (ad := ad5) (m := p0.Left.length) (c := cp6) S (wN rfl) rfl Try.underlying34 (by kernel_rfl) rfl (by decide) (fun a S => ?_)
        refine sBin (.bool (decide (s22 < (p0.Left.length : Int)))) S (wN rfl) rfl (by kernel_rfl) (by kernel_rfl) (bLt _ _ _ _ .i64 s22 (p0.Left.length : Int)) rfl (by decide) (fun a S => ?_)
        refine leafL (leafT (hK27 _ _ ?_))
        rcases iteSome h with ⟨hc28, h⟩ | ⟨hc28, h⟩
        · refine sCondT (b := decide (s22 < (p0.Left.length : Int))) S (by kernel_rfl) hc28 ?_
          refine wp_skip (leafT (hK26 _ _ ?_))
          refine sSeq (fun K29 hK29 => ?_)
          refine wp_block ?_
          obtain ⟨t31, h, g32⟩ := bindSome h
          refine sCut (fun a w => ∃ o30, o30 = t31 ∧ St E [] w0 73 a w [(1, .pointer (some ⟨b10, 0, none⟩)), (3, .int .i64 s22), (72, .bool o30)] [eBox b10 36 [.slice ad5 p0.Left.length cp6, .slice ad7 p0.Right.length cp8]] [fRep (rL (rI .i64)) (.slice ad5 p0.Left.length cp6) p0.Left, fRep (rL (rI .i64)) (.slice ad7 p0.Right.length cp8) p0.Right]) ?_ (fun a w hI => ?_)
          · obtain ⟨x33, hx34, h⟩ := bindSome h
            obtain ⟨r38, hx39, h⟩ := bindSome h
            rcases iteSome h with ⟨hc40, h⟩ | ⟨hc40, h⟩
            · obtain ⟨q41, hq42, S⟩ := pIdx (P := Try.prog) (r := (rI .i64)) (v := .slice ad5 p0.Left.length cp6) (xs := p0.Left) (j := s22) 34 3 0 S Try.underlying34 (by kernel_rfl) (by kernel_rfl) hx34
              obtain ⟨u43, S⟩ := pLoad (r := (rI .i64)) (q := q41) (x := x33) 0 S (by kernel_rfl)
              obtain rfl : u43 = .int .i64 x33 := S.mem.know (i := 1) (e := fRep (rI .i64) (u43) x33) (by kernel_rfl)
              refine sDraw (nf := []) (W := [(0, 30, .pointer (some ⟨b10, 0, none⟩)), (1, 31, .slice ad5 p0.Left.length cp6), (2, 32, .int .i64 s22), (3, 33, q41), (4, 34, .int .i64 x33), (5, 35, .bool r38), (6, 36, .bool (!r38)), (7, 37, .bool (!r38)), (8, 38, undef), (9, 39, undef), (10, 40, undef), (11, 41, undef), (12, 42, undef), (13, 43, undef), (14, 44, undef), (15, 45, .bool true), (16, 46, .bool true), (17, 47, undef), (18, 48, undef), (19, 49, undef), (20, 50, undef), (21, 51, undef), (22, 52, undef), (23, 53, undef), (24, 54, undef), (25, 55, undef), (26, 56, undef), (27, 57, undef), (28, 58, .bool true), (29, 59, .bool true), (30, 60, undef), (31, 61, undef), (32, 62, undef), (33, 63, undef), (34, 64, undef), (35, 65, undef), (36, 66, undef), (37, 67, undef), (38, 68, undef), (39, 69, undef), (40, 70, undef), (41, 71, undef), (42, 72, .bool true)]) (by kernel_rfl) S ?_
              refine node_by (A := anc_raddleref37_Check_0) (nf := []) (Y := []) (W := [(0, 30, .pointer (some ⟨b10, 0, none⟩)), (1, 31, .slice ad5 p0.Left.length cp6), (2, 32, .int .i64 s22), (3, 33, q41), (4, 34, .int .i64 x33), (5, 35, .bool r38), (6, 36, .bool (!r38)), (7, 37, .bool (!r38)), (8, 38, undef), (9, 39, undef), (10, 40, undef), (11, 41, undef), (12, 42, undef), (13, 43, undef), (14, 44, undef), (15, 45, .bool true), (16, 46, .bool true), (17, 47, undef), (18, 48, undef), (19, 49, undef), (20, 50, undef), (21, 51, undef), (22, 52, undef), (23, 53, undef), (24, 54, undef), (25, 55, undef), (26, 56, undef), (27, 57, undef), (28, 58, .bool true), (29, 59, .bool true), (30, 60, undef), (31, 61, undef), (32, 62, undef), (33, 63, undef), (34, 64, undef), (35, 65, undef), (36, 66, undef), (37, 67, undef), (38, 68, undef), (39, 69, undef), (40, 70, undef), (41, 71, undef), (42, 72, .bool true)]) 43 (by kernel_rfl) (by kernel_rfl) (by kernel_rfl) (by kernel_rfl) (by kernel_rfl) [0, 1, 2, 3, 4, 5, 6, 7, 8, 9, 10, 11, 12, 13, 14, 15, 16, 17, 18, 19, 20, 21, 22, 23, 24, 25, 26, 27, 28, 29, 30, 31, 32, 33, 34, 35, 36, 37, 38, 39, 40, 41, 42] (by kernel_rfl) (by decide) (by decide) (aF 0 42 (by decide) ?_ (aF 1 41 (by decide) ?_ (aF 2 40 (by decide) ?_ (aF 3 39 (by decide) ?_ (aF 4 38 (by decide) ?_ (aF 5 37 (by decide) ?_ (aF 6 36 (by decide) ?_ (aF 7 35 (by decide) ?_ (aF 8 34 (by decide) ?_ (aF 9 33 (by decide) ?_ (aF 10 32 (by decide) ?_ (aF 11 31 (by decide) ?_ (aF 12 30 (by decide) ?_ (aF 13 29 (by decide) ?_ (aF 14 28 (by decide) ?_ (aF 15 27 (by decide) ?_ (aF 16 26 (by decide) ?_ (aF 17 25 (by decide) ?_ (aF 18 24 (by decide) ?_ (aF 19 23 (by decide) ?_ (aF 20 22 (by decide) ?_ (aF 21 21 (by decide) ?_ (aF 22 20 (by decide) ?_ (aF 23 19 (by decide) ?_ (aF 24 18 (by decide) ?_ (aF 25 17 (by decide) ?_ (aF 26 16 (by decide) ?_ (aF 27 15 (by decide) ?_ (aF 28 14 (by decide) ?_ (aF 29 13 (by decide) ?_ (aF 30 12 (by decide) ?_ (aF 31 11 (by decide) ?_ (aF 32 10 (by decide) ?_ (aF 33 9 (by decide) ?_ (aF 34 8 (by decide) ?_ (aF 35 7 (by decide) ?_ (aF 36 6 (by decide) ?_ (aF 37 5 (by decide) ?_ (aF 38 4 (by decide) ?_ (aF 39 3 (by decide) ?_ (aF 40 2 (by decide) ?_ (aF 41 1 (by decide) ?_ (aF 42 0 (by decide) ?_ (trivial)))))))))))))))))))))))))))))))))))))))))))) [(1, .pointer (some ⟨b10, 0, none⟩)), (3, .int .i64 s22), (38, undef), (39, undef), (40, undef), (41, undef), (42, undef), (43, undef), (44, undef), (47, undef), (48, undef), (49, undef), (50, undef), (51, undef), (52, undef), (53, undef), (54, undef), (55, undef), (56, undef), (57, undef), (60, undef), (61, undef), (62, undef), (63, undef), (64, undef), (65, undef), (66, undef), (67, undef), (68, undef), (69, undef), (70, undef), (71, undef), (72, .bool true)] (fin_of [none, none, some 8, some 9, some 10, some 11, some 12, some 13, some 14, some 17, some 18, some 19, some 20, some 21, some 22, some 23, some 24, some 25, some 26, some 27, some 30, some 31, some 32, some 33, some 34, some 35, some 36, some 37, some 38, some 39, some 40, some 41, some 42] rfl (by kernel_rfl) (by kernel_rfl)) (fun _ a w S => ?_)
              · refine fI 30 (.pointer (some ⟨b10, 0, none⟩)) [(1, .pointer (some ⟨b10, 0, none⟩))] 0 [none] rfl rfl (by kernel_rfl) rfl (by kernel_rfl) (by kernel_rfl) fun G a w S => ?_
                refine sField (b := b10) (off := 0) 0 0 S (wN rfl) rfl (by kernel_rfl) (by kernel_rfl) rfl rfl (by decide) (fun a S => ?_)
                exact leafL ⟨rfl, S⟩
              · refine fI 31 (.slice ad5 p0.Left.length cp6) [(30, .pointer (some ⟨b10, 0, none⟩))] 1 [some 0] rfl rfl (by kernel_rfl) rfl (by kernel_rfl) (by kernel_rfl) fun G a w S => ?_
                refine sLoad1 (p := b10) (off := 0) (T := 36) (vs := [.slice ad5 p0.Left.length cp6, .slice ad7 p0.Right.length cp8]) 0 (.slice ad5 p0.Left.length cp6) S (wN rfl) rfl (by kernel_rfl) (by kernel_rfl) (by kernel_rfl) rfl rfl (by decide) (fun a S => ?_)
                exact leafL ⟨rfl, S⟩
              · refine fI 32 (.int .i64 s22) [(3, .int .i64 s22)] 2 [none] rfl rfl (by kernel_rfl) rfl (by kernel_rfl) (by kernel_rfl) fun G a w S => ?_
                refine sMove (.int .i64 s22) S (wN rfl) (.inl rfl) (by kernel_rfl) rfl (by decide) (fun a S => ?_)
                exact leafL ⟨rfl, S⟩
              · refine fI 33 q41 [(31, .slice ad5 p0.Left.length cp6), (32, .int .i64 s22)] 3 [some 1, some 2] rfl rfl (by kernel_rfl) rfl (by kernel_rfl) (by kernel_rfl) fun G a w S => ?_
                refine sIdxV (v := .slice ad5 p0.Left.length cp6) (k := .i64) (j := s22) S (wN rfl) rfl (by kernel_rfl) (by kernel_rfl) hq42 rfl (by decide) (fun a S => ?_)
                exact leafL ⟨rfl, S⟩
              · refine fI 34 (.int .i64 x33) [(33, q41)] 4 [some 3] rfl rfl (by kernel_rfl) rfl (by kernel_rfl) (by kernel_rfl) fun G a w S => ?_
                refine sLoadV1 (vq := q41) 0 (.int .i64 x33) S (wN rfl) rfl (by kernel_rfl) (by kernel_rfl) (by kernel_rfl) rfl (by decide) (fun a S => ?_)
                exact leafL ⟨rfl, S⟩
              · refine fI 35 (.bool r38) [(34, .int .i64 x33)] 5 [some 4] rfl rfl (by kernel_rfl) rfl (by kernel_rfl) (by kernel_rfl) fun G a w S => ?_
                have S1 := S.mem
                refine sCallQ (X := Unit) (f := 34) (vs := [.int .i64 x33]) (val := fun _ => .bool r38) S (wN rfl) rfl callee34 (by kernel_rfl) (S1.quiet [] (by kernel_rfl)) (fun E1 w1 S1 => c_raddleref37_in E1 w1 x33 r38 hx39 S1) rfl (by decide) (fun _ a w S => ?_)
                exact leafL ⟨rfl, S⟩
              · refine fI 36 (.bool (!r38)) [(35, .bool r38)] 6 [some 5] rfl rfl (by kernel_rfl) rfl (by kernel_rfl) (by kernel_rfl) fun G a w S => ?_
                refine sNot (b := r38) S (wN rfl) rfl (by kernel_rfl) rfl (by decide) (fun a S => ?_)
                exact leafL ⟨rfl, S⟩
              · refine fI 37 (.bool (!r38)) [(36, .bool (!r38))] 7 [some 6] rfl rfl (by kernel_rfl) rfl (by kernel_rfl) (by kernel_rfl) fun G a w S => ?_
                refine sMove (.bool (!r38)) S (wN rfl) (.inl rfl) (by kernel_rfl) rfl (by decide) (fun a S => ?_)
                exact leafL ⟨rfl, S⟩
              · refine fI 38 undef [(1, .pointer (some ⟨b10, 0, none⟩)), (37, .bool (!r38))] 8 [none, some 7] rfl rfl (by kernel_rfl) rfl (by kernel_rfl) (by kernel_rfl) fun G a w S => ?_
                refine sSkip (c := !r38) 7 false 37 38 S rfl rfl (by kernel_rfl) hc40 rfl (by decide) (fun a S => ?_)
                exact leafL ⟨rfl, S⟩
              · refine fI 39 undef [(38, undef), (37, .bool (!r38))] 9 [some 8, some 7] rfl rfl (by kernel_rfl) rfl (by kernel_rfl) (by kernel_rfl) fun G a w S => ?_
                refine sSkip (c := !r38) 7 false 37 39 S rfl rfl (by kernel_rfl) hc40 rfl (by decide) (fun a S => ?_)
                exact leafL ⟨rfl, S⟩
              · refine fI 40 undef [(3, .int .i64 s22), (37, .bool (!r38))] 10 [none, some 7] rfl rfl (by kernel_rfl) rfl (by kernel_rfl) (by kernel_rfl) fun G a w S => ?_
                refine sSkip (c := !r38) 7 false 37 40 S rfl rfl (by kernel_rfl) hc40 rfl (by decide) (fun a S => ?_)
                exact leafL ⟨rfl, S⟩
              · refine fI 41 undef [(39, undef), (40, undef), (37, .bool (!r38))] 11 [some 9, some 10, some 7] rfl rfl (by kernel_rfl) rfl (by kernel_rfl) (by kernel_rfl) fun G a w S => ?_
                refine sSkip (c := !r38) 7 false 37 41 S rfl rfl (by kernel_rfl) hc40 rfl (by decide) (fun a S => ?_)
                exact leafL ⟨rfl, S⟩
              · refine fI 42 undef [(41, undef), (37, .bool (!r38))] 12 [some 11, some 7] rfl rfl (by kernel_rfl) rfl (by kernel_rfl) (by kernel_rfl) fun G a w S => ?_
                refine sSkip (c := !r38) 7 false 37 42 S rfl rfl (by kernel_rfl) hc40 rfl (by decide) (fun a S => ?_)
                exact leafL ⟨rfl, S⟩
              · refine fI 43 undef [(42, undef), (37, .bool (!r38))] 13 [some 12, some 7] rfl rfl (by kernel_rfl) rfl (by kernel_rfl) (by kernel_rfl) fun G a w S => ?_
                refine sSkip (c := !r38) 7 false 37 43 S rfl rfl (by kernel_rfl) hc40 rfl (by decide) (fun a S => ?_)
                exact leafL ⟨rfl, S⟩
              · refine fI 44 undef [(43, undef), (37, .bool (!r38))] 14 [some 13, some 7] rfl rfl (by kernel_rfl) rfl (by kernel_rfl) (by kernel_rfl) fun G a w S => ?_
                refine sSkip (c := !r38) 7 false 37 44 S rfl rfl (by kernel_rfl) hc40 rfl (by decide) (fun a S => ?_)
                exact leafL ⟨rfl, S⟩
              · refine fI 45 (.bool true) [(37, .bool (!r38)), (44, undef)] 15 [some 7, some 14] rfl rfl (by kernel_rfl) rfl (by kernel_rfl) (by kernel_rfl) fun G a w S => ?_
                refine sPickT (b := !r38) (.bool true) S (wN rfl) rfl (by kernel_rfl) hc40 (by kernel_rfl) rfl (by decide) (fun a S => ?_)
                exact leafL ⟨rfl, S⟩
              · refine fI 46 (.bool true) [(45, .bool true)] 16 [some 15] rfl rfl (by kernel_rfl) rfl (by kernel_rfl) (by kernel_rfl) fun G a w S => ?_
                refine sMove (.bool true) S (wN rfl) (.inl rfl) (by kernel_rfl) rfl (by decide) (fun a S => ?_)
                exact leafL ⟨rfl, S⟩
              · refine fI 47 undef [(1, .pointer (some ⟨b10, 0, none⟩)), (46, .bool true)] 17 [none, some 16] rfl rfl (by kernel_rfl) rfl (by kernel_rfl) (by kernel_rfl) fun G a w S => ?_
                refine sSkip (c := true) 16 false 46 47 S rfl rfl (by kernel_rfl) rfl rfl (by decide) (fun a S => ?_)
                exact leafL ⟨rfl, S⟩
              · refine fI 48 undef [(47, undef), (46, .bool true)] 18 [some 17, some 16] rfl rfl (by kernel_rfl) rfl (by kernel_rfl) (by kernel_rfl) fun G a w S => ?_
                refine sSkip (c := true) 16 false 46 48 S rfl rfl (by kernel_rfl) rfl rfl (by decide) (fun a S => ?_)
                exact leafL ⟨rfl, S⟩
              · refine fI 49 undef [(3, .int .i64 s22), (46, .bool true)] 19 [none, some 16] rfl rfl (by kernel_rfl) rfl (by kernel_rfl) (by kernel_rfl) fun G a w S => ?_
                refine sSkip (c := true) 16 false 46 49 S rfl rfl (by kernel_rfl) rfl rfl (by decide) (fun a S => ?_)
                exact leafL ⟨rfl, S⟩
              · refine fI 50 undef [(48, undef), (49, undef), (46, .bool true)] 20 [some 18, some 19, some 16] rfl rfl (by kernel_rfl) rfl (by kernel_rfl) (by kernel_rfl) fun G a w S => ?_
                refine sSkip (c := true) 16 false 46 50 S rfl rfl (by kernel_rfl) rfl rfl (by decide) (fun a S => ?_)
                exact leafL ⟨rfl, S⟩
              · refine fI 51 undef [(50, undef), (46, .bool true)] 21 [some 20, some 16] rfl rfl (by kernel_rfl) rfl (by kernel_rfl) (by kernel_rfl) fun G a w S => ?_
                refine sSkip (c := true) 16 false 46 51 S rfl rfl (by kernel_rfl) rfl rfl (by decide) (fun a S => ?_)
                exact leafL ⟨rfl, S⟩
              · refine fI 52 undef [(1, .pointer (some ⟨b10, 0, none⟩)), (46, .bool true)] 22 [none, some 16] rfl rfl (by kernel_rfl) rfl (by kernel_rfl) (by kernel_rfl) fun G a w S => ?_
                refine sSkip (c := true) 16 false 46 52 S rfl rfl (by kernel_rfl) rfl rfl (by decide) (fun a S => ?_)
                exact leafL ⟨rfl, S⟩
              · refine fI 53 undef [(52, undef), (46, .bool true)] 23 [some 22, some 16] rfl rfl (by kernel_rfl) rfl (by kernel_rfl) (by kernel_rfl) fun G a w S => ?_
                refine sSkip (c := true) 16 false 46 53 S rfl rfl (by kernel_rfl) rfl rfl (by decide) (fun a S => ?_)
                exact leafL ⟨rfl, S⟩
              · refine fI 54 undef [(3, .int .i64 s22), (46, .bool true)] 24 [none, some 16] rfl rfl (by kernel_rfl) rfl (by kernel_rfl) (by kernel_rfl) fun G a w S => ?_
                refine sSkip (c := true) 16 false 46 54 S rfl rfl (by kernel_rfl) rfl rfl (by decide) (fun a S => ?_)
                exact leafL ⟨rfl, S⟩
              · refine fI 55 undef [(53, undef), (54, undef), (46, .bool true)] 25 [some 23, some 24, some 16] rfl rfl (by kernel_rfl) rfl (by kernel_rfl) (by kernel_rfl) fun G a w S => ?_
                refine sSkip (c := true) 16 false 46 55 S rfl rfl (by kernel_rfl) rfl rfl (by decide) (fun a S => ?_)
                exact leafL ⟨rfl, S⟩
              · refine fI 56 undef [(55, undef), (46, .bool true)] 26 [some 25, some 16] rfl rfl (by kernel_rfl) rfl (by kernel_rfl) (by kernel_rfl) fun G a w S => ?_
                refine sSkip (c := true) 16 false 46 56 S rfl rfl (by kernel_rfl) rfl rfl (by decide) (fun a S => ?_)
                exact leafL ⟨rfl, S⟩
              · refine fI 57 undef [(51, undef), (56, undef), (46, .bool true)] 27 [some 21, some 26, some 16] rfl rfl (by kernel_rfl) rfl (by kernel_rfl) (by kernel_rfl) fun G a w S => ?_
                refine sSkip (c := true) 16 false 46 57 S rfl rfl (by kernel_rfl) rfl rfl (by decide) (fun a S => ?_)
                exact leafL ⟨rfl, S⟩
              · refine fI 58 (.bool true) [(46, .bool true), (57, undef)] 28 [some 16, some 27] rfl rfl (by kernel_rfl) rfl (by kernel_rfl) (by kernel_rfl) fun G a w S => ?_
                refine sPickT (b := true) (.bool true) S (wN rfl) rfl (by kernel_rfl) rfl (by kernel_rfl) rfl (by decide) (fun a S => ?_)
                exact leafL ⟨rfl, S⟩
              · refine fI 59 (.bool true) [(58, .bool true)] 29 [some 28] rfl rfl (by kernel_rfl) rfl (by kernel_rfl) (by kernel_rfl) fun G a w S => ?_
                refine sMove (.bool true) S (wN rfl) (.inl rfl) (by kernel_rfl) rfl (by decide) (fun a S => ?_)
                exact leafL ⟨rfl, S⟩
              · refine fI 60 undef [(1, .pointer (some ⟨b10, 0, none⟩)), (59, .bool true)] 30 [none, some 29] rfl rfl (by kernel_rfl) rfl (by kernel_rfl) (by kernel_rfl) fun G a w S => ?_
                refine sSkip (c := true) 29 false 59 60 S rfl rfl (by kernel_rfl) rfl rfl (by decide) (fun a S => ?_)
                exact leafL ⟨rfl, S⟩
              · refine fI 61 undef [(60, undef), (59, .bool true)] 31 [some 30, some 29] rfl rfl (by kernel_rfl) rfl (by kernel_rfl) (by kernel_rfl) fun G a w S => ?_
                refine sSkip (c := true) 29 false 59 61 S rfl rfl (by kernel_rfl) rfl rfl (by decide) (fun a S => ?_)
                exact leafL ⟨rfl, S⟩
              · refine fI 62 undef [(3, .int .i64 s22), (59, .bool true)] 32 [none, some 29] rfl rfl (by kernel_rfl) rfl (by kernel_rfl) (by kernel_rfl) fun G a w S => ?_
                refine sSkip (c := true) 29 false 59 62 S rfl rfl (by kernel_rfl) rfl rfl (by decide) (fun a S => ?_)
                exact leafL ⟨rfl, S⟩
              · refine fI 63 undef [(61, undef), (62, undef), (59, .bool true)] 33 [some 31, some 32, some 29] rfl rfl (by kernel_rfl) rfl (by kernel_rfl) (by kernel_rfl) fun G a w S => ?_
                refine sSkip (c := true) 29 false 59 63 S rfl rfl (by kernel_rfl) rfl rfl (by decide) (fun a S => ?_)
                exact leafL ⟨rfl, S⟩
              · refine fI 64 undef [(63, undef), (59, .bool true)] 34 [some 33, some 29] rfl rfl (by kernel_rfl) rfl (by kernel_rfl) (by kernel_rfl) fun G a w S => ?_
                refine sSkip (c := true) 29 false 59 64 S rfl rfl (by kernel_rfl) rfl rfl (by decide) (fun a S => ?_)
                exact leafL ⟨rfl, S⟩
              · refine fI 65 undef [(1, .pointer (some ⟨b10, 0, none⟩)), (59, .bool true)] 35 [none, some 29] rfl rfl (by kernel_rfl) rfl (by kernel_rfl) (by kernel_rfl) fun G a w S => ?_
                refine sSkip (c := true) 29 false 59 65 S rfl rfl (by kernel_rfl) rfl rfl (by decide) (fun a S => ?_)
                exact leafL ⟨rfl, S⟩
              · refine fI 66 undef [(65, undef), (59, .bool true)] 36 [some 35, some 29] rfl rfl (by kernel_rfl) rfl (by kernel_rfl) (by kernel_rfl) fun G a w S => ?_
                refine sSkip (c := true) 29 false 59 66 S rfl rfl (by kernel_rfl) rfl rfl (by decide) (fun a S => ?_)
                exact leafL ⟨rfl, S⟩
              · refine fI 67 undef [(3, .int .i64 s22), (59, .bool true)] 37 [none, some 29] rfl rfl (by kernel_rfl) rfl (by kernel_rfl) (by kernel_rfl) fun G a w S => ?_
                refine sSkip (c := true) 29 false 59 67 S rfl rfl (by kernel_rfl) rfl rfl (by decide) (fun a S => ?_)
                exact leafL ⟨rfl, S⟩
              · refine fI 68 undef [(66, undef), (67, undef), (59, .bool true)] 38 [some 36, some 37, some 29] rfl rfl (by kernel_rfl) rfl (by kernel_rfl) (by kernel_rfl) fun G a w S => ?_
                refine sSkip (c := true) 29 false 59 68 S rfl rfl (by kernel_rfl) rfl rfl (by decide) (fun a S => ?_)
                exact leafL ⟨rfl, S⟩
              · refine fI 69 undef [(68, undef), (59, .bool true)] 39 [some 38, some 29] rfl rfl (by kernel_rfl) rfl (by kernel_rfl) (by kernel_rfl) fun G a w S => ?_
                refine sSkip (c := true) 29 false 59 69 S rfl rfl (by kernel_rfl) rfl rfl (by decide) (fun a S => ?_)
                exact leafL ⟨rfl, S⟩
              · refine fI 70 undef [(64, undef), (69, undef), (59, .bool true)] 40 [some 34, some 39, some 29] rfl rfl (by kernel_rfl) rfl (by kernel_rfl) (by kernel_rfl) fun G a w S => ?_
                refine sSkip (c := true) 29 false 59 70 S rfl rfl (by kernel_rfl) rfl rfl (by decide) (fun a S => ?_)
                exact leafL ⟨rfl, S⟩
              · refine fI 71 undef [(70, undef), (59, .bool true)] 41 [some 40, some 29] rfl rfl (by kernel_rfl) rfl (by kernel_rfl) (by kernel_rfl) fun G a w S => ?_
                refine sSkip (c := true) 29 false 59 71 S rfl rfl (by kernel_rfl) rfl rfl (by decide) (fun a S => ?_)
                exact leafL ⟨rfl, S⟩
              · refine fI 72 (.bool true) [(59, .bool true), (71, undef)] 42 [some 29, some 41] rfl rfl (by kernel_rfl) rfl (by kernel_rfl) (by kernel_rfl) fun G a w S => ?_
                refine sPickT (b := true) (.bool true) S (wN rfl) rfl (by kernel_rfl) rfl (by kernel_rfl) rfl (by decide) (fun a S => ?_)
                exact leafL ⟨rfl, S⟩
              · exact leafT (⟨true, Option.some.inj h, S.fix [0] [3, 4] (by decide) (by kernel_rfl) (by kernel_rfl) (by kernel_rfl)⟩)
            · obtain ⟨x44, hx45, h⟩ := bindSome h
              obtain ⟨r49, hx50, h⟩ := bindSome h
              rcases iteSome h with ⟨hc51, h⟩ | ⟨hc51, h⟩
              · obtain ⟨q52, hq53, S⟩ := pIdx (P := Try.prog) (r := (rI .i64)) (v := .slice ad5 p0.Left.length cp6) (xs := p0.Left) (j := s22) 34 3 0 S Try.underlying34 (by kernel_rfl) (by kernel_rfl) hx34
                obtain ⟨u54, S⟩ := pLoad (r := (rI .i64)) (q := q52) (x := x33) 0 S (by kernel_rfl)
                obtain rfl : u54 = .int .i64 x33 := S.mem.know (i := 1) (e := fRep (rI .i64) (u54) x33) (by kernel_rfl)
                obtain ⟨q55, hq56, S⟩ := pIdx (P := Try.prog) (r := (rI .i64)) (v := .slice ad7 p0.Right.length cp8) (xs := p0.Right) (j := s22) 34 3 4 S Try.underlying34 (by kernel_rfl) (by kernel_rfl) hx45
                obtain ⟨u57, S⟩ := pLoad (r := (rI .i64)) (q := q55) (x := x44) 0 S (by kernel_rfl)
                obtain rfl : u57 = .int .i64 x44 := S.mem.know (i := 1) (e := fRep (rI .i64) (u57) x44) (by kernel_rfl)
                refine sDraw (nf := []) (W := [(0, 30, .pointer (some ⟨b10, 0, none⟩)), (1, 31, .slice ad5 p0.Left.length cp6), (2, 32, .int .i64 s22), (3, 33, q52), (4, 34, .int .i64 x33), (5, 35, .bool r38), (6, 36, .bool (!r38)), (7, 37, .bool (!r38)), (8, 38, .pointer (some ⟨b10, 1, none⟩)), (9, 39, .slice ad7 p0.Right.length cp8), (10, 40, .int .i64 s22), (11, 41, q55), (12, 42, .int .i64 x44), (13, 43, .bool r49), (14, 44, .bool (!r49)), (15, 45, .bool (!r49)), (16, 46, .bool (!r49)), (17, 47, undef), (18, 48, undef), (19, 49, undef), (20, 50, undef), (21, 51, undef), (22, 52, undef), (23, 53, undef), (24, 54, undef), (25, 55, undef), (26, 56, undef), (27, 57, undef), (28, 58, .bool true), (29, 59, .bool true), (30, 60, undef), (31, 61, undef), (32, 62, undef), (33, 63, undef), (34, 64, undef), (35, 65, undef), (36, 66, undef), (37, 67, undef), (38, 68, undef), (39, 69, undef), (40, 70, undef), (41, 71, undef), (42, 72, .bool true)]) (by kernel_rfl) S ?_
                refine node_by (A := anc_raddleref37_Check_0) (nf := []) (Y := []) (W := [(0, 30, .pointer (some ⟨b10, 0, none⟩)), (1, 31, .slice ad5 p0.Left.length cp6), (2, 32, .int .i64 s22), (3, 33, q52), (4, 34, .int .i64 x33), (5, 35, .bool r38), (6, 36, .bool (!r38)), (7, 37, .bool (!r38)), (8, 38, .pointer (some ⟨b10, 1, none⟩)), (9, 39, .slice ad7 p0.Right.length cp8), (10, 40, .int .i64 s22), (11, 41, q55), (12, 42, .int .i64 x44), (13, 43, .bool r49), (14, 44, .bool (!r49)), (15, 45, .bool (!r49)), (16, 46, .bool (!r49)), (17, 47, undef), (18, 48, undef), (19, 49, undef), (20, 50, undef), (21, 51, undef), (22, 52, undef), (23, 53, undef), (24, 54, undef), (25, 55, undef), (26, 56, undef), (27, 57, undef), (28, 58, .bool true), (29, 59, .bool true), (30, 60, undef), (31, 61, undef), (32, 62, undef), (33, 63, undef), (34, 64, undef), (35, 65, undef), (36, 66, undef), (37, 67, undef), (38, 68, undef), (39, 69, undef), (40, 70, undef), (41, 71, undef), (42, 72, .bool true)]) 43 (by kernel_rfl) (by kernel_rfl) (by kernel_rfl) (by kernel_rfl) (by kernel_rfl) [0, 1, 2, 3, 4, 5, 6, 7, 8, 9, 10, 11, 12, 13, 14, 15, 16, 17, 18, 19, 20, 21, 22, 23, 24, 25, 26, 27, 28, 29, 30, 31, 32, 33, 34, 35, 36, 37, 38, 39, 40, 41, 42] (by kernel_rfl) (by decide) (by decide) (aF 0 42 (by decide) ?_ (aF 1 41 (by decide) ?_ (aF 2 40 (by decide) ?_ (aF 3 39 (by decide) ?_ (aF 4 38 (by decide) ?_ (aF 5 37 (by decide) ?_ (aF 6 36 (by decide) ?_ (aF 7 35 (by decide) ?_ (aF 8 34 (by decide) ?_ (aF 9 33 (by decide) ?_ (aF 10 32 (by decide) ?_ (aF 11 31 (by decide) ?_ (aF 12 30 (by decide) ?_ (aF 13 29 (by decide) ?_ (aF 14 28 (by decide) ?_ (aF 15 27 (by decide) ?_ (aF 16 26 (by decide) ?_ (aF 17 25 (by decide) ?_ (aF 18 24 (by decide) ?_ (aF 19 23 (by decide) ?_ (aF 20 22 (by decide) ?_ (aF 21 21 (by decide) ?_ (aF 22 20 (by decide) ?_ (aF 23 19 (by decide) ?_ (aF 24 18 (by decide) ?_ (aF 25 17 (by decide) ?_ (aF 26 16 (by decide) ?_ (aF 27 15 (by decide) ?_ (aF 28 14 (by decide) ?_ (aF 29 13 (by decide) ?_ (aF 30 12 (by decide) ?_ (aF 31 11 (by decide) ?_ (aF 32 10 (by decide) ?_ (aF 33 9 (by decide) ?_ (aF 34 8 (by decide) ?_ (aF 35 7 (by decide) ?_ (aF 36 6 (by decide) ?_ (aF 37 5 (by decide) ?_ (aF 38 4 (by decide) ?_ (aF 39 3 (by decide) ?_ (aF 40 2 (by decide) ?_ (aF 41 1 (by decide) ?_ (aF 42 0 (by decide) ?_ (trivial)))))))))))))))))))))))))))))))))))))))))))) [(1, .pointer (some ⟨b10, 0, none⟩)), (3, .int .i64 s22), (38, .pointer (some ⟨b10, 1, none⟩)), (39, .slice ad7 p0.Right.length cp8), (40, .int .i64 s22), (41, q55), (42, .int .i64 x44), (43, .bool r49), (44, .bool (!r49)), (47, undef), (48, undef), (49, undef), (50, undef), (51, undef), (52, undef), (53, undef), (54, undef), (55, undef), (56, undef), (57, undef), (60, undef), (61, undef), (62, undef), (63, undef), (64, undef), (65, undef), (66, undef), (67, undef), (68, undef), (69, undef), (70, undef), (71, undef), (72, .bool true)] (fin_of [none, none, some 8, some 9, some 10, some 11, some 12, some 13, some 14, some 17, some 18, some 19, some 20, some 21, some 22, some 23, some 24, some 25, some 26, some 27, some 30, some 31, some 32, some 33, some 34, some 35, some 36, some 37, some 38, some 39, some 40, some 41, some 42] rfl (by kernel_rfl) (by kernel_rfl)) (fun _ a w S => ?_)
                · refine fI 30 (.pointer (some ⟨b10, 0, none⟩)) [(1, .pointer (some ⟨b10, 0, none⟩))] 0 [none] rfl rfl (by kernel_rfl) rfl (by kernel_rfl) (by kernel_rfl) fun G a w S => ?_
                  refine sField (b := b10) (off := 0) 0 0 S (wN rfl) rfl (by kernel_rfl) (by kernel_rfl) rfl rfl (by decide) (fun a S => ?_)
                  exact leafL ⟨rfl, S⟩
                · refine fI 31 (.slice ad5 p0.Left.length cp6) [(30, .pointer (some ⟨b10, 0, none⟩))] 1 [some 0] rfl rfl (by kernel_rfl) rfl (by kernel_rfl) (by kernel_rfl) fun G a w S => ?_
                  refine sLoad1 (p := b10) (off := 0) (T := 36) (vs := [.slice ad5 p0.Left.length cp6, .slice ad7 p0.Right.length cp8]) 0 (.slice ad5 p0.Left.length cp6) S (wN rfl) rfl (by kernel_rfl) (by kernel_rfl) (by kernel_rfl) rfl rfl (by decide) (fun a S => ?_)
                  exact leafL ⟨rfl, S⟩
                · refine fI 32 (.int .i64 s22) [(3, .int .i64 s22)] 2 [none] rfl rfl (by kernel_rfl) rfl (by kernel_rfl) (by kernel_rfl) fun G a w S => ?_
                  refine sMove (.int .i64 s22) S (wN rfl) (.inl rfl) (by kernel_rfl) rfl (by decide) (fun a S => ?_)
                  exact leafL ⟨rfl, S⟩
                · refine fI 33 q52 [(31, .slice ad5 p0.Left.length cp6), (32, .int .i64 s22)] 3 [some 1, some 2] rfl rfl (by kernel_rfl) rfl (by kernel_rfl) (by kernel_rfl) fun G a w S => ?_
                  refine sIdxV (v := .slice ad5 p0.Left.length cp6) (k := .i64) (j := s22) S (wN rfl) rfl (by kernel_rfl) (by kernel_rfl) hq53 rfl (by decide) (fun a S => ?_)
                  exact leafL ⟨rfl, S⟩
                · refine fI 34 (.int .i64 x33) [(33, q52)] 4 [some 3] rfl rfl (by kernel_rfl) rfl (by kernel_rfl) (by kernel_rfl) fun G a w S => ?_
                  refine sLoadV1 (vq := q52) 3 (.int .i64 x33) S (wN rfl) rfl (by kernel_rfl) (by kernel_rfl) (by kernel_rfl) rfl (by decide) (fun a S => ?_)
                  exact leafL ⟨rfl, S⟩
                · refine fI 35 (.bool r38) [(34, .int .i64 x33)] 5 [some 4] rfl rfl (by kernel_rfl) rfl (by kernel_rfl) (by kernel_rfl) fun G a w S => ?_
                  have S1 := S.mem
                  refine sCallQ (X := Unit) (f := 34) (vs := [.int .i64 x33]) (val := fun _ => .bool r38) S (wN rfl) rfl callee34 (by kernel_rfl) (S1.quiet [] (by kernel_rfl)) (fun E1 w1 S1 => c_raddleref37_in E1 w1 x33 r38 hx39 S1) rfl (by decide) (fun _ a w S => ?_)
                  exact leafL ⟨rfl, S⟩
                · refine fI 36 (.bool (!r38)) [(35, .bool r38)] 6 [some 5] rfl rfl (by kernel_rfl) rfl (by kernel_rfl) (by kernel_rfl) fun G a w S => ?_
                  refine sNot (b := r38) S (wN rfl) rfl (by kernel_rfl) rfl (by decide) (fun a S => ?_)
                  exact leafL ⟨rfl, S⟩
                · refine fI 37 (.bool (!r38)) [(36, .bool (!r38))] 7 [some 6] rfl rfl (by kernel_rfl) rfl (by kernel_rfl) (by kernel_rfl) fun G a w S => ?_
                  refine sMove (.bool (!r38)) S (wN rfl) (.inl rfl) (by kernel_rfl) rfl (by decide) (fun a S => ?_)
                  exact leafL ⟨rfl, S⟩
                · refine fI 38 (.pointer (some ⟨b10, 1, none⟩)) [(1, .pointer (some ⟨b10, 0, none⟩)), (37, .bool (!r38))] 8 [none, some 7] rfl rfl (by kernel_rfl) rfl (by kernel_rfl) (by kernel_rfl) fun G a w S => ?_
                  refine sField (b := b10) (off := 0) 1 1 S (wG (c := !r38) 7 false 37 rfl rfl (by kernel_rfl) hc40) rfl (by kernel_rfl) (by kernel_rfl) rfl rfl (by decide) (fun a S => ?_)
                  exact leafL ⟨rfl, S⟩
                · refine fI 39 (.slice ad7 p0.Right.length cp8) [(38, .pointer (some ⟨b10, 1, none⟩)), (37, .bool (!r38))] 9 [some 8, some 7] rfl rfl (by kernel_rfl) rfl (by kernel_rfl) (by kernel_rfl) fun G a w S => ?_
                  refine sLoad1 (p := b10) (off := 1) (T := 36) (vs := [.slice ad5 p0.Left.length cp6, .slice ad7 p0.Right.length cp8]) 0 (.slice ad7 p0.Right.length cp8) S (wG (c := !r38) 7 false 37 rfl rfl (by kernel_rfl) hc40) rfl (by kernel_rfl) (by kernel_rfl) (by kernel_rfl) rfl rfl (by decide) (fun a S => ?_)
                  exact leafL ⟨rfl, S⟩
                · refine fI 40 (.int .i64 s22) [(3, .int .i64 s22), (37, .bool (!r38))] 10 [none, some 7] rfl rfl (by kernel_rfl) rfl (by kernel_rfl) (by kernel_rfl) fun G a w S => ?_
                  refine sMove (.int .i64 s22) S (wG (c := !r38) 7 false 37 rfl rfl (by kernel_rfl) hc40) (.inl rfl) (by kernel_rfl) rfl (by decide) (fun a S => ?_)
                  exact leafL ⟨rfl, S⟩
                · refine fI 41 q55 [(39, .slice ad7 p0.Right.length cp8), (40, .int .i64 s22), (37, .bool (!r38))] 11 [some 9, some 10, some 7] rfl rfl (by kernel_rfl) rfl (by kernel_rfl) (by kernel_rfl) fun G a w S => ?_
                  refine sIdxV (v := .slice ad7 p0.Right.length cp8) (k := .i64) (j := s22) S (wG (c := !r38) 7 false 37 rfl rfl (by kernel_rfl) hc40) rfl (by kernel_rfl) (by kernel_rfl) hq56 rfl (by decide) (fun a S => ?_)
                  exact leafL ⟨rfl, S⟩
                · refine fI 42 (.int .i64 x44) [(41, q55), (37, .bool (!r38))] 12 [some 11, some 7] rfl rfl (by kernel_rfl) rfl (by kernel_rfl) (by kernel_rfl) fun G a w S => ?_
                  refine sLoadV1 (vq := q55) 0 (.int .i64 x44) S (wG (c := !r38) 7 false 37 rfl rfl (by kernel_rfl) hc40) rfl (by kernel_rfl) (by kernel_rfl) (by kernel_rfl) rfl (by decide) (fun a S => ?_)
                  exact leafL ⟨rfl, S⟩
                · refine fI 43 (.bool r49) [(42, .int .i64 x44), (37, .bool (!r38))] 13 [some 12, some 7] rfl rfl (by kernel_rfl) rfl (by kernel_rfl) (by kernel_rfl) fun G a w S => ?_
                  have S1 := S.mem
                  refine sCallQ (X := Unit) (f := 34) (vs := [.int .i64 x44]) (val := fun _ => .bool r49) S (wG (c := !r38) 7 false 37 rfl rfl (by kernel_rfl) hc40) rfl callee34 (by kernel_rfl) (S1.quiet [] (by kernel_rfl)) (fun E1 w1 S1 => c_raddleref37_in E1 w1 x44 r49 hx50 S1) rfl (by decide) (fun _ a w S => ?_)
                  exact leafL ⟨rfl, S⟩
                · refine fI 44 (.bool (!r49)) [(43, .bool r49), (37, .bool (!r38))] 14 [some 13, some 7] rfl rfl (by kernel_rfl) rfl (by kernel_rfl) (by kernel_rfl) fun G a w S => ?_
                  refine sNot (b := r49) S (wG (c := !r38) 7 false 37 rfl rfl (by kernel_rfl) hc40) rfl (by kernel_rfl) rfl (by decide) (fun a S => ?_)
                  exact leafL ⟨rfl, S⟩
                · refine fI 45 (.bool (!r49)) [(37, .bool (!r38)), (44, .bool (!r49))] 15 [some 7, some 14] rfl rfl (by kernel_rfl) rfl (by kernel_rfl) (by kernel_rfl) fun G a w S => ?_
                  refine sPickF (b := !r38) (.bool (!r49)) S (wN rfl) rfl (by kernel_rfl) hc40 (by kernel_rfl) rfl (by decide) (fun a S => ?_)
                  exact leafL ⟨rfl, S⟩
                · refine fI 46 (.bool (!r49)) [(45, .bool (!r49))] 16 [some 15] rfl rfl (by kernel_rfl) rfl (by kernel_rfl) (by kernel_rfl) fun G a w S => ?_
                  refine sMove (.bool (!r49)) S (wN rfl) (.inl rfl) (by kernel_rfl) rfl (by decide) (fun a S => ?_)
                  exact leafL ⟨rfl, S⟩
                · refine fI 47 undef [(1, .pointer (some ⟨b10, 0, none⟩)), (46, .bool (!r49))] 17 [none, some 16] rfl rfl (by kernel_rfl) rfl (by kernel_rfl) (by kernel_rfl) fun G a w S => ?_
                  refine sSkip (c := !r49) 16 false 46 47 S rfl rfl (by kernel_rfl) hc51 rfl (by decide) (fun a S => ?_)
                  exact leafL ⟨rfl, S⟩
                · refine fI 48 undef [(47, undef), (46, .bool (!r49))] 18 [some 17, some 16] rfl rfl (by kernel_rfl) rfl (by kernel_rfl) (by kernel_rfl) fun G a w S => ?_
                  refine sSkip (c := !r49) 16 false 46 48 S rfl rfl (by kernel_rfl) hc51 rfl (by decide) (fun a S => ?_)
                  exact leafL ⟨rfl, S⟩
                · refine fI 49 undef [(3, .int .i64 s22), (46, .bool (!r49))] 19 [none, some 16] rfl rfl (by kernel_rfl) rfl (by kernel_rfl) (by kernel_rfl) fun G a w S => ?_
                  refine sSkip (c := !r49) 16 false 46 49 S rfl rfl (by kernel_rfl) hc51 rfl (by decide) (fun a S => ?_)
                  exact leafL ⟨rfl, S⟩
                · refine fI 50 undef [(48, undef), (49, undef), (46, .bool (!r49))] 20 [some 18, some 19, some 16] rfl rfl (by kernel_rfl) rfl (by kernel_rfl) (by kernel_rfl) fun G a w S => ?_
                  refine sSkip (c := !r49) 16 false 46 50 S rfl rfl (by kernel_rfl) hc51 rfl (by decide) (fun a S => ?_)
                  exact leafL ⟨rfl, S⟩
                · refine fI 51 undef [(50, undef), (46, .bool (!r49))] 21 [some 20, some 16] rfl rfl (by kernel_rfl) rfl (by kernel_rfl) (by kernel_rfl) fun G a w S => ?_
                  refine sSkip (c := !r49) 16 false 46 51 S rfl rfl (by kernel_rfl) hc51 rfl (by decide) (fun a S => ?_)
                  exact leafL ⟨rfl, S⟩
                · refine fI 52 undef [(1, .pointer (some ⟨b10, 0, none⟩)), (46, .bool (!r49))] 22 [none, some 16] rfl rfl (by kernel_rfl) rfl (by kernel_rfl) (by kernel_rfl) fun G a w S => ?_
                  refine sSkip (c := !r49) 16 false 46 52 S rfl rfl (by kernel_rfl) hc51 rfl (by decide) (fun a S => ?_)
                  exact leafL ⟨rfl, S⟩
                · refine fI 53 undef [(52, undef), (46, .bool (!r49))] 23 [some 22, some 16] rfl rfl (by kernel_rfl) rfl (by kernel_rfl) (by kernel_rfl) fun G a w S => ?_
                  refine sSkip (c := !r49) 16 false 46 53 S rfl rfl (by kernel_rfl) hc51 rfl (by decide) (fun a S => ?_)
                  exact leafL ⟨rfl, S⟩
                · refine fI 54 undef [(3, .int .i64 s22), (46, .bool (!r49))] 24 [none, some 16] rfl rfl (by kernel_rfl) rfl (by kernel_rfl) (by kernel_rfl) fun G a w S => ?_
                  refine sSkip (c := !r49) 16 false 46 54 S rfl rfl (by kernel_rfl) hc51 rfl (by decide) (fun a S => ?_)
                  exact leafL ⟨rfl, S⟩
                · refine fI 55 undef [(53, undef), (54, undef), (46, .bool (!r49))] 25 [some 23, some 24, some 16] rfl rfl (by kernel_rfl) rfl (by kernel_rfl) (by kernel_rfl) fun G a w S => ?_
                  refine sSkip (c := !r49) 16 false 46 55 S rfl rfl (by kernel_rfl) hc51 rfl (by decide) (fun a S => ?_)
                  exact leafL ⟨rfl, S⟩
                · refine fI 56 undef [(55, undef), (46, .bool (!r49))] 26 [some 25, some 16] rfl rfl (by kernel_rfl) rfl (by kernel_rfl) (by kernel_rfl) fun G a w S => ?_
                  refine sSkip (c := !r49) 16 false 46 56 S rfl rfl (by kernel_rfl) hc51 rfl (by decide) (fun a S => ?_)
                  exact leafL ⟨rfl, S⟩
                · refine fI 57 undef [(51, undef), (56, undef), (46, .bool (!r49))] 27 [some 21, some 26, some 16] rfl rfl (by kernel_rfl) rfl (by kernel_rfl) (by kernel_rfl) fun G a w S => ?_
                  refine sSkip (c := !r49) 16 false 46 57 S rfl rfl (by kernel_rfl) hc51 rfl (by decide) (fun a S => ?_)
                  exact leafL ⟨rfl, S⟩
                · refine fI 58 (.bool true) [(46, .bool (!r49)), (57, undef)] 28 [some 16, some 27] rfl rfl (by kernel_rfl) rfl (by kernel_rfl) (by kernel_rfl) fun G a w S => ?_
                  refine sPickT (b := !r49) (.bool true) S (wN rfl) rfl (by kernel_rfl) hc51 (by kernel_rfl) rfl (by decide) (fun a S => ?_)
                  exact leafL ⟨rfl, S⟩
                · refine fI 59 (.bool true) [(58, .bool true)] 29 [some 28] rfl rfl (by kernel_rfl) rfl (by kernel_rfl) (by kernel_rfl) fun G a w S => ?_
                  refine sMove (.bool true) S (wN rfl) (.inl rfl) (by kernel_rfl) rfl (by decide) (fun a S => ?_)
                  exact leafL ⟨rfl, S⟩
                · refine fI 60 undef [(1, .pointer (some ⟨b10, 0, none⟩)), (59, .bool true)] 30 [none, some 29] rfl rfl (by kernel_rfl) rfl (by kernel_rfl) (by kernel_rfl) fun G a w S => ?_
                  refine sSkip (c := true) 29 false 59 60 S rfl rfl (by kernel_rfl) rfl rfl (by decide) (fun a S => ?_)
                  exact leafL ⟨rfl, S⟩
                · refine fI 61 undef [(60, undef), (59, .bool true)] 31 [some 30, some 29] rfl rfl (by kernel_rfl) rfl (by kernel_rfl) (by kernel_rfl) fun G a w S => ?_
                  refine sSkip (c := true) 29 false 59 61 S rfl rfl (by kernel_rfl) rfl rfl (by decide) (fun a S => ?_)
                  exact leafL ⟨rfl, S⟩
                · refine fI 62 undef [(3, .int .i64 s22), (59, .bool true)] 32 [none, some 29] rfl rfl (by kernel_rfl) rfl (by kernel_rfl) (by kernel_rfl) fun G a w S => ?_
                  refine sSkip (c := true) 29 false 59 62 S rfl rfl (by kernel_rfl) rfl rfl (by decide) (fun a S => ?_)
                  exact leafL ⟨rfl, S⟩
                · refine fI 63 undef [(61, undef), (62, undef), (59, .bool true)] 33 [some 31, some 32, some 29] rfl rfl (by kernel_rfl) rfl (by kernel_rfl) (by kernel_rfl) fun G a w S => ?_
                  refine sSkip (c := true) 29 false 59 63 S rfl rfl (by kernel_rfl) rfl rfl (by decide) (fun a S => ?_)
                  exact leafL ⟨rfl, S⟩
                · refine fI 64 undef [(63, undef), (59, .bool true)] 34 [some 33, some 29] rfl rfl (by kernel_rfl) rfl (by kernel_rfl) (by kernel_rfl) fun G a w S => ?_
                  refine sSkip (c := true) 29 false 59 64 S rfl rfl (by kernel_rfl) rfl rfl (by decide) (fun a S => ?_)
                  exact leafL ⟨rfl, S⟩
                · refine fI 65 undef [(1, .pointer (some ⟨b10, 0, none⟩)), (59, .bool true)] 35 [none, some 29] rfl rfl (by kernel_rfl) rfl (by kernel_rfl) (by kernel_rfl) fun G a w S => ?_
                  refine sSkip (c := true) 29 false 59 65 S rfl rfl (by kernel_rfl) rfl rfl (by decide) (fun a S => ?_)
                  exact leafL ⟨rfl, S⟩
                · refine fI 66 undef [(65, undef), (59, .bool true)] 36 [some 35, some 29] rfl rfl (by kernel_rfl) rfl (by kernel_rfl) (by kernel_rfl) fun G a w S => ?_
                  refine sSkip (c := true) 29 false 59 66 S rfl rfl (by kernel_rfl) rfl rfl (by decide) (fun a S => ?_)
                  exact leafL ⟨rfl, S⟩
                · refine fI 67 undef [(3, .int .i64 s22), (59, .bool true)] 37 [none, some 29] rfl rfl (by kernel_rfl) rfl (by kernel_rfl) (by kernel_rfl) fun G a w S => ?_
                  refine sSkip (c := true) 29 false 59 67 S rfl rfl (by kernel_rfl) rfl rfl (by decide) (fun a S => ?_)
                  exact leafL ⟨rfl, S⟩
                · refine fI 68 undef [(66, undef), (67, undef), (59, .bool true)] 38 [some 36, some 37, some 29] rfl rfl (by kernel_rfl) rfl (by kernel_rfl) (by kernel_rfl) fun G a w S => ?_
                  refine sSkip (c := true) 29 false 59 68 S rfl rfl (by kernel_rfl) rfl rfl (by decide) (fun a S => ?_)
                  exact leafL ⟨rfl, S⟩
                · refine fI 69 undef [(68, undef), (59, .bool true)] 39 [some 38, some 29] rfl rfl (by kernel_rfl) rfl (by kernel_rfl) (by kernel_rfl) fun G a w S => ?_
                  refine sSkip (c := true) 29 false 59 69 S rfl rfl (by kernel_rfl) rfl rfl (by decide) (fun a S => ?_)
                  exact leafL ⟨rfl, S⟩
                · refine fI 70 undef [(64, undef), (69, undef), (59, .bool true)] 40 [some 34, some 39, some 29] rfl rfl (by kernel_rfl) rfl (by kernel_rfl) (by kernel_rfl) fun G a w S => ?_
                  refine sSkip (c := true) 29 false 59 70 S rfl rfl (by kernel_rfl) rfl rfl (by decide) (fun a S => ?_)
                  exact leafL ⟨rfl, S⟩
                · refine fI 71 undef [(70, undef), (59, .bool true)] 41 [some 40, some 29] rfl rfl (by kernel_rfl) rfl (by kernel_rfl) (by kernel_rfl) fun G a w S => ?_
                  refine sSkip (c := true) 29 false 59 71 S rfl rfl (by kernel_rfl) rfl rfl (by decide) (fun a S => ?_)
                  exact leafL ⟨rfl, S⟩
                · refine fI 72 (.bool true) [(59, .bool true), (71, undef)] 42 [some 29, some 41] rfl rfl (by kernel_rfl) rfl (by kernel_rfl) (by kernel_rfl) fun G a w S => ?_
                  refine sPickT (b := true) (.bool true) S (wN rfl) rfl (by kernel_rfl) rfl (by kernel_rfl) rfl (by decide) (fun a S => ?_)
                  exact leafL ⟨rfl, S⟩
                · exact leafT (⟨true, Option.some.inj h, S.fix [0] [6, 7] (by decide) (by kernel_rfl) (by kernel_rfl) (by kernel_rfl)⟩)
              · rcases iteSome h with ⟨hc64, h⟩ | ⟨hc64, h⟩
                · obtain ⟨q65, hq66, S⟩ := pIdx (P := Try.prog) (r := (rI .i64)) (v := .slice ad5 p0.Left.length cp6) (xs := p0.Left) (j := s22) 34 3 0 S Try.underlying34 (by kernel_rfl) (by kernel_rfl) hx34
                  obtain ⟨u67, S⟩ := pLoad (r := (rI .i64)) (q := q65) (x := x33) 0 S (by kernel_rfl)
                  obtain rfl : u67 = .int .i64 x33 := S.mem.know (i := 1) (e := fRep (rI .i64) (u67) x33) (by kernel_rfl)
                  obtain ⟨q68, hq69, S⟩ := pIdx (P := Try.prog) (r := (rI .i64)) (v := .slice ad7 p0.Right.length cp8) (xs := p0.Right) (j := s22) 34 3 4 S Try.underlying34 (by kernel_rfl) (by kernel_rfl) hx45
                  obtain ⟨u70, S⟩ := pLoad (r := (rI .i64)) (q := q68) (x := x44) 0 S (by kernel_rfl)
                  obtain rfl : u70 = .int .i64 x44 := S.mem.know (i := 1) (e := fRep (rI .i64) (u70) x44) (by kernel_rfl)
                  obtain ⟨q71, hq72, S⟩ := pIdx (P := Try.prog) (r := (rI .i64)) (v := .slice ad5 p0.Left.length cp6) (xs := p0.Left) (j := s22) 34 3 6 S Try.underlying34 (by kernel_rfl) (by kernel_rfl) hx34
                  obtain ⟨u73, S⟩ := pLoad (r := (rI .i64)) (q := q71) (x := x33) 0 S (by kernel_rfl)
                  obtain rfl : u73 = .int .i64 x33 := S.mem.know (i := 1) (e := fRep (rI .i64) (u73) x33) (by kernel_rfl)
                  obtain ⟨q74, hq75, S⟩ := pIdx (P := Try.prog) (r := (rI .i64)) (v := .slice ad7 p0.Right.length cp8) (xs := p0.Right) (j := s22) 34 3 10 S Try.underlying34 (by kernel_rfl) (by kernel_rfl) hx45
                  obtain ⟨u76, S⟩ := pLoad (r := (rI .i64)) (q := q74) (x := x44) 0 S (by kernel_rfl)
                  obtain rfl : u76 = .int .i64 x44 := S.mem.know (i := 1) (e := fRep (rI .i64) (u76) x44) (by kernel_rfl)
                  refine sDraw (nf := []) (W := [(0, 30, .pointer (some ⟨b10, 0, none⟩)), (1, 31, .slice ad5 p0.Left.length cp6), (2, 32, .int .i64 s22), (3, 33, q65), (4, 34, .int .i64 x33), (5, 35, .bool r38), (6, 36, .bool (!r38)), (7, 37, .bool (!r38)), (8, 38, .pointer (some ⟨b10, 1, none⟩)), (9, 39, .slice ad7 p0.Right.length cp8), (10, 40, .int .i64 s22), (11, 41, q68), (12, 42, .int .i64 x44), (13, 43, .bool r49), (14, 44, .bool (!r49)), (15, 45, .bool (!r49)), (16, 46, .bool (!r49)), (17, 47, .pointer (some ⟨b10, 0, none⟩)), (18, 48, .slice ad5 p0.Left.length cp6), (19, 49, .int .i64 s22), (20, 50, q71), (21, 51, .int .i64 x33), (22, 52, .pointer (some ⟨b10, 1, none⟩)), (23, 53, .slice ad7 p0.Right.length cp8), (24, 54, .int .i64 s22), (25, 55, q74), (26, 56, .int .i64 x44), (27, 57, .bool (decide (x44 ≤ x33))), (28, 58, .bool (decide (x44 ≤ x33))), (29, 59, .bool (decide (x44 ≤ x33))), (30, 60, undef), (31, 61, undef), (32, 62, undef), (33, 63, undef), (34, 64, undef), (35, 65, undef), (36, 66, undef), (37, 67, undef), (38, 68, undef), (39, 69, undef), (40, 70, undef), (41, 71, undef), (42, 72, .bool true)]) (by kernel_rfl) S ?_
                  refine node_by (A := anc_raddleref37_Check_0) (nf := []) (Y := []) (W := [(0, 30, .pointer (some ⟨b10, 0, none⟩)), (1, 31, .slice ad5 p0.Left.length cp6), (2, 32, .int .i64 s22), (3, 33, q65), (4, 34, .int .i64 x33), (5, 35, .bool r38), (6, 36, .bool (!r38)), (7, 37, .bool (!r38)), (8, 38, .pointer (some ⟨b10, 1, none⟩)), (9, 39, .slice ad7 p0.Right.length cp8), (10, 40, .int .i64 s22), (11, 41, q68), (12, 42, .int .i64 x44), (13, 43, .bool r49), (14, 44, .bool (!r49)), (15, 45, .bool (!r49)), (16, 46, .bool (!r49)), (17, 47, .pointer (some ⟨b10, 0, none⟩)), (18, 48, .slice ad5 p0.Left.length cp6), (19, 49, .int .i64 s22), (20, 50, q71), (21, 51, .int .i64 x33), (22, 52, .pointer (some ⟨b10, 1, none⟩)), (23, 53, .slice ad7 p0.Right.length cp8), (24, 54, .int .i64 s22), (25, 55, q74), (26, 56, .int .i64 x44), (27, 57, .bool (decide (x44 ≤ x33))), (28, 58, .bool (decide (x44 ≤ x33))), (29, 59, .bool (decide (x44 ≤ x33))), (30, 60, undef), (31, 61, undef), (32, 62, undef), (33, 63, undef), (34, 64, undef), (35, 65, undef), (36, 66, undef), (37, 67, undef), (38, 68, undef), (39, 69, undef), (40, 70, undef), (41, 71, undef), (42, 72, .bool true)]) 43 (by kernel_rfl) (by kernel_rfl) (by kernel_rfl) (by kernel_rfl) (by kernel_rfl) [0, 1, 2, 3, 4, 5, 6, 7, 8, 9, 10, 11, 12, 13, 14, 15, 16, 17, 18, 19, 20, 21, 22, 23, 24, 25, 26, 27, 28, 29, 30, 31, 32, 33, 34, 35, 36, 37, 38, 39, 40, 41, 42] (by kernel_rfl) (by decide) (by decide) (aF 0 42 (by decide) ?_ (aF 1 41 (by decide) ?_ (aF 2 40 (by decide) ?_ (aF 3 39 (by decide) ?_ (aF 4 38 (by decide) ?_ (aF 5 37 (by decide) ?_ (aF 6 36 (by decide) ?_ (aF 7 35 (by decide) ?_ (aF 8 34 (by decide) ?_ (aF 9 33 (by decide) ?_ (aF 10 32 (by decide) ?_ (aF 11 31 (by decide) ?_ (aF 12 30 (by decide) ?_ (aF 13 29 (by decide) ?_ (aF 14 28 (by decide) ?_ (aF 15 27 (by decide) ?_ (aF 16 26 (by decide) ?_ (aF 17 25 (by decide) ?_ (aF 18 24 (by decide) ?_ (aF 19 23 (by decide) ?_ (aF 20 22 (by decide) ?_ (aF 21 21 (by decide) ?_ (aF 22 20 (by decide) ?_ (aF 23 19 (by decide) ?_ (aF 24 18 (by decide) ?_ (aF 25 17 (by decide) ?_ (aF 26 16 (by decide) ?_ (aF 27 15 (by decide) ?_ (aF 28 14 (by decide) ?_ (aF 29 13 (by decide) ?_ (aF 30 12 (by decide) ?_ (aF 31 11 (by decide) ?_ (aF 32 10 (by decide) ?_ (aF 33 9 (by decide) ?_ (aF 34 8 (by decide) ?_ (aF 35 7 (by decide) ?_ (aF 36 6 (by decide) ?_ (aF 37 5 (by decide) ?_ (aF 38 4 (by decide) ?_ (aF 39 3 (by decide) ?_ (aF 40 2 (by decide) ?_ (aF 41 1 (by decide) ?_ (aF 42 0 (by decide) ?_ (trivial)))))))))))))))))))))))))))))))))))))))))))) [(1, .pointer (some ⟨b10, 0, none⟩)), (3, .int .i64 s22), (38, .pointer (some ⟨b10, 1, none⟩)), (39, .slice ad7 p0.Right.length cp8), (40, .int .i64 s22), (41, q68), (42, .int .i64 x44), (43, .bool r49), (44, .bool (!r49)), (47, .pointer (some ⟨b10, 0, none⟩)), (48, .slice ad5 p0.Left.length cp6), (49, .int .i64 s22), (50, q71), (51, .int .i64 x33), (52, .pointer (some ⟨b10, 1, none⟩)), (53, .slice ad7 p0.Right.length cp8), (54, .int .i64 s22), (55, q74), (56, .int .i64 x44), (57, .bool (decide (x44 ≤ x33))), (60, undef), (61, undef), (62, undef), (63, undef), (64, undef), (65, undef), (66, undef), (67, undef), (68, undef), (69, undef), (70, undef), (71, undef), (72, .bool true)] (fin_of [none, none, some 8, some 9, some 10, some 11, some 12, some 13, some 14, some 17, some 18, some 19, some 20, some 21, some 22, some 23, some 24, some 25, some 26, some 27, some 30, some 31, some 32, some 33, some 34, some 35, some 36, some 37, some 38, some 39, some 40, some 41, some 42] rfl (by kernel_rfl) (by kernel_rfl)) (fun _ a w S => ?_)
                  · refine fI 30 (.pointer (some ⟨b10, 0, none⟩)) [(1, .pointer (some ⟨b10, 0, none⟩))] 0 [none] rfl rfl (by kernel_rfl) rfl (by kernel_rfl) (by kernel_rfl) fun G a w S => ?_
                    refine sField (b := b10) (off := 0) 0 0 S (wN rfl) rfl (by kernel_rfl) (by kernel_rfl) rfl rfl (by decide) (fun a S => ?_)
                    exact leafL ⟨rfl, S⟩
                  · refine fI 31 (.slice ad5 p0.Left.length cp6) [(30, .pointer (some ⟨b10, 0, none⟩))] 1 [some 0] rfl rfl (by kernel_rfl) rfl (by kernel_rfl) (by kernel_rfl) fun G a w S => ?_
                    refine sLoad1 (p := b10) (off := 0) (T := 36) (vs := [.slice ad5 p0.Left.length cp6, .slice ad7 p0.Right.length cp8]) 0 (.slice ad5 p0.Left.length cp6) S (wN rfl) rfl (by kernel_rfl) (by kernel_rfl) (by kernel_rfl) rfl rfl (by decide) (fun a S => ?_)
                    exact leafL ⟨rfl, S⟩
                  · refine fI 32 (.int .i64 s22) [(3, .int .i64 s22)] 2 [none] rfl rfl (by kernel_rfl) rfl (by kernel_rfl) (by kernel_rfl) fun G a w S => ?_
                    refine sMove (.int .i64 s22) S (wN rfl) (.inl rfl) (by kernel_rfl) rfl (by decide) (fun a S => ?_)
                    exact leafL ⟨rfl, S⟩
                  · refine fI 33 q65 [(31, .slice ad5 p0.Left.length cp6), (32, .int .i64 s22)] 3 [some 1, some 2] rfl rfl (by kernel_rfl) rfl (by kernel_rfl) (by kernel_rfl) fun G a w S => ?_
                    refine sIdxV (v := .slice ad5 p0.Left.length cp6) (k := .i64) (j := s22) S (wN rfl) rfl (by kernel_rfl) (by kernel_rfl) hq66 rfl (by decide) (fun a S => ?_)
                    exact leafL ⟨rfl, S⟩
                  · refine fI 34 (.int .i64 x33) [(33, q65)] 4 [some 3] rfl rfl (by kernel_rfl) rfl (by kernel_rfl) (by kernel_rfl) fun G a w S => ?_
                    refine sLoadV1 (vq := q65) 9 (.int .i64 x33) S (wN rfl) rfl (by kernel_rfl) (by kernel_rfl) (by kernel_rfl) rfl (by decide) (fun a S => ?_)
                    exact leafL ⟨rfl, S⟩
                  · refine fI 35 (.bool r38) [(34, .int .i64 x33)] 5 [some 4] rfl rfl (by kernel_rfl) rfl (by kernel_rfl) (by kernel_rfl) fun G a w S => ?_
                    have S1 := S.mem
                    refine sCallQ (X := Unit) (f := 34) (vs := [.int .i64 x33]) (val := fun _ => .bool r38) S (wN rfl) rfl callee34 (by kernel_rfl) (S1.quiet [] (by kernel_rfl)) (fun E1 w1 S1 => c_raddleref37_in E1 w1 x33 r38 hx39 S1) rfl (by decide) (fun _ a w S => ?_)
                    exact leafL ⟨rfl, S⟩
                  · refine fI 36 (.bool (!r38)) [(35, .bool r38)] 6 [some 5] rfl rfl (by kernel_rfl) rfl (by kernel_rfl) (by kernel_rfl) fun G a w S => ?_
                    refine sNot (b := r38) S (wN rfl) rfl (by kernel_rfl) rfl (by decide) (fun a S => ?_)
                    exact leafL ⟨rfl, S⟩
                  · refine fI 37 (.bool (!r38)) [(36, .bool (!r38))] 7 [some 6] rfl rfl (by kernel_rfl) rfl (by kernel_rfl) (by kernel_rfl) fun G a w S => ?_
                    refine sMove (.bool (!r38)) S (wN rfl) (.inl rfl) (by kernel_rfl) rfl (by decide) (fun a S => ?_)
                    exact leafL ⟨rfl, S⟩
                  · refine fI 38 (.pointer (some ⟨b10, 1, none⟩)) [(1, .pointer (some ⟨b10, 0, none⟩)), (37, .bool (!r38))] 8 [none, some 7] rfl rfl (by kernel_rfl) rfl (by kernel_rfl) (by kernel_rfl) fun G a w S => ?_
                    refine sField (b := b10) (off := 0) 1 1 S (wG (c := !r38) 7 false 37 rfl rfl (by kernel_rfl) hc40) rfl (by kernel_rfl) (by kernel_rfl) rfl rfl (by decide) (fun a S => ?_)
                    exact leafL ⟨rfl, S⟩
                  · refine fI 39 (.slice ad7 p0.Right.length cp8) [(38, .pointer (some ⟨b10, 1, none⟩)), (37, .bool (!r38))] 9 [some 8, some 7] rfl rfl (by kernel_rfl) rfl (by kernel_rfl) (by kernel_rfl) fun G a w S => ?_
                    refine sLoad1 (p := b10) (off := 1) (T := 36) (vs := [.slice ad5 p0.Left.length cp6, .slice ad7 p0.Right.length cp8]) 0 (.slice ad7 p0.Right.length cp8) S (wG (c := !r38) 7 false 37 rfl rfl (by kernel_rfl) hc40) rfl (by kernel_rfl) (by kernel_rfl) (by kernel_rfl) rfl rfl (by decide) (fun a S => ?_)
                    exact leafL ⟨rfl, S⟩
                  · refine fI 40 (.int .i64 s22) [(3, .int .i64 s22), (37, .bool (!r38))] 10 [none, some 7] rfl rfl (by kernel_rfl) rfl (by kernel_rfl) (by kernel_rfl) fun G a w S => ?_
                    refine sMove (.int .i64 s22) S (wG (c := !r38) 7 false 37 rfl rfl (by kernel_rfl) hc40) (.inl rfl) (by kernel_rfl) rfl (by decide) (fun a S => ?_)
                    exact leafL ⟨rfl, S⟩
                  · refine fI 41 q68 [(39, .slice ad7 p0.Right.length cp8), (40, .int .i64 s22), (37, .bool (!r38))] 11 [some 9, some 10, some 7] rfl rfl (by kernel_rfl) rfl (by kernel_rfl) (by kernel_rfl) fun G a w S => ?_
                    refine sIdxV (v := .slice ad7 p0.Right.length cp8) (k := .i64) (j := s22) S (wG (c := !r38) 7 false 37 rfl rfl (by kernel_rfl) hc40) rfl (by kernel_rfl) (by kernel_rfl) hq69 rfl (by decide) (fun a S => ?_)
                    exact leafL ⟨rfl, S⟩
                  · refine fI 42 (.int .i64 x44) [(41, q68), (37, .bool (!r38))] 12 [some 11, some 7] rfl rfl (by kernel_rfl) rfl (by kernel_rfl) (by kernel_rfl) fun G a w S => ?_
                    refine sLoadV1 (vq := q68) 6 (.int .i64 x44) S (wG (c := !r38) 7 false 37 rfl rfl (by kernel_rfl) hc40) rfl (by kernel_rfl) (by kernel_rfl) (by kernel_rfl) rfl (by decide) (fun a S => ?_)
                    exact leafL ⟨rfl, S⟩
                  · refine fI 43 (.bool r49) [(42, .int .i64 x44), (37, .bool (!r38))] 13 [some 12, some 7] rfl rfl (by kernel_rfl) rfl (by kernel_rfl) (by kernel_rfl) fun G a w S => ?_
                    have S1 := S.mem
                    refine sCallQ (X := Unit) (f := 34) (vs := [.int .i64 x44]) (val := fun _ => .bool r49) S (wG (c := !r38) 7 false 37 rfl rfl (by kernel_rfl) hc40) rfl callee34 (by kernel_rfl) (S1.quiet [] (by kernel_rfl)) (fun E1 w1 S1 => c_raddleref37_in E1 w1 x44 r49 hx50 S1) rfl (by decide) (fun _ a w S => ?_)
                    exact leafL ⟨rfl, S⟩
                  · refine fI 44 (.bool (!r49)) [(43, .bool r49), (37, .bool (!r38))] 14 [some 13, some 7] rfl rfl (by kernel_rfl) rfl (by kernel_rfl) (by kernel_rfl) fun G a w S => ?_
                    refine sNot (b := r49) S (wG (c := !r38) 7 false 37 rfl rfl (by kernel_rfl) hc40) rfl (by kernel_rfl) rfl (by decide) (fun a S => ?_)
                    exact leafL ⟨rfl, S⟩
                  · refine fI 45 (.bool (!r49)) [(37, .bool (!r38)), (44, .bool (!r49))] 15 [some 7, some 14] rfl rfl (by kernel_rfl) rfl (by kernel_rfl) (by kernel_rfl) fun G a w S => ?_
                    refine sPickF (b := !r38) (.bool (!r49)) S (wN rfl) rfl (by kernel_rfl) hc40 (by kernel_rfl) rfl (by decide) (fun a S => ?_)
                    exact leafL ⟨rfl, S⟩
                  · refine fI 46 (.bool (!r49)) [(45, .bool (!r49))] 16 [some 15] rfl rfl (by kernel_rfl) rfl (by kernel_rfl) (by kernel_rfl) fun G a w S => ?_
                    refine sMove (.bool (!r49)) S (wN rfl) (.inl rfl) (by kernel_rfl) rfl (by decide) (fun a S => ?_)
                    exact leafL ⟨rfl, S⟩
                  · refine fI 47 (.pointer (some ⟨b10, 0, none⟩)) [(1, .pointer (some ⟨b10, 0, none⟩)), (46, .bool (!r49))] 17 [none, some 16] rfl rfl (by kernel_rfl) rfl (by kernel_rfl) (by kernel_rfl) fun G a w S => ?_
                    refine sField (b := b10) (off := 0) 0 0 S (wG (c := !r49) 16 false 46 rfl rfl (by kernel_rfl) hc51) rfl (by kernel_rfl) (by kernel_rfl) rfl rfl (by decide) (fun a S => ?_)
                    exact leafL ⟨rfl, S⟩
                  · refine fI 48 (.slice ad5 p0.Left.length cp6) [(47, .pointer (some ⟨b10, 0, none⟩)), (46, .bool (!r49))] 18 [some 17, some 16] rfl rfl (by kernel_rfl) rfl (by kernel_rfl) (by kernel_rfl) fun G a w S => ?_
                    refine sLoad1 (p := b10) (off := 0) (T := 36) (vs := [.slice ad5 p0.Left.length cp6, .slice ad7 p0.Right.length cp8]) 0 (.slice ad5 p0.Left.length cp6) S (wG (c := !r49) 16 false 46 rfl rfl (by kernel_rfl) hc51) rfl (by kernel_rfl) (by kernel_rfl) (by kernel_rfl) rfl rfl (by decide) (fun a S => ?_)
                    exact leafL ⟨rfl, S⟩
                  · refine fI 49 (.int .i64 s22) [(3, .int .i64 s22), (46, .bool (!r49))] 19 [none, some 16] rfl rfl (by kernel_rfl) rfl (by kernel_rfl) (by kernel_rfl) fun G a w S => ?_
                    refine sMove (.int .i64 s22) S (wG (c := !r49) 16 false 46 rfl rfl (by kernel_rfl) hc51) (.inl rfl) (by kernel_rfl) rfl (by decide) (fun a S => ?_)
                    exact leafL ⟨rfl, S⟩
                  · refine fI 50 q71 [(48, .slice ad5 p0.Left.length cp6), (49, .int .i64 s22), (46, .bool (!r49))] 20 [some 18, some 19, some 16] rfl rfl (by kernel_rfl) rfl (by kernel_rfl) (by kernel_rfl) fun G a w S => ?_
                    refine sIdxV (v := .slice ad5 p0.Left.length cp6) (k := .i64) (j := s22) S (wG (c := !r49) 16 false 46 rfl rfl (by kernel_rfl) hc51) rfl (by kernel_rfl) (by kernel_rfl) hq72 rfl (by decide) (fun a S => ?_)
                    exact leafL ⟨rfl, S⟩
                  · refine fI 51 (.int .i64 x33) [(50, q71), (46, .bool (!r49))] 21 [some 20, some 16] rfl rfl (by kernel_rfl) rfl (by kernel_rfl) (by kernel_rfl) fun G a w S => ?_
                    refine sLoadV1 (vq := q71) 3 (.int .i64 x33) S (wG (c := !r49) 16 false 46 rfl rfl (by kernel_rfl) hc51) rfl (by kernel_rfl) (by kernel_rfl) (by kernel_rfl) rfl (by decide) (fun a S => ?_)
                    exact leafL ⟨rfl, S⟩
                  · refine fI 52 (.pointer (some ⟨b10, 1, none⟩)) [(1, .pointer (some ⟨b10, 0, none⟩)), (46, .bool (!r49))] 22 [none, some 16] rfl rfl (by kernel_rfl) rfl (by kernel_rfl) (by kernel_rfl) fun G a w S => ?_
                    refine sField (b := b10) (off := 0) 1 1 S (wG (c := !r49) 16 false 46 rfl rfl (by kernel_rfl) hc51) rfl (by kernel_rfl) (by kernel_rfl) rfl rfl (by decide) (fun a S => ?_)
                    exact leafL ⟨rfl, S⟩
                  · refine fI 53 (.slice ad7 p0.Right.length cp8) [(52, .pointer (some ⟨b10, 1, none⟩)), (46, .bool (!r49))] 23 [some 22, some 16] rfl rfl (by kernel_rfl) rfl (by kernel_rfl) (by kernel_rfl) fun G a w S => ?_
                    refine sLoad1 (p := b10) (off := 1) (T := 36) (vs := [.slice ad5 p0.Left.length cp6, .slice ad7 p0.Right.length cp8]) 0 (.slice ad7 p0.Right.length cp8) S (wG (c := !r49) 16 false 46 rfl rfl (by kernel_rfl) hc51) rfl (by kernel_rfl) (by kernel_rfl) (by kernel_rfl) rfl rfl (by decide) (fun a S => ?_)
                    exact leafL ⟨rfl, S⟩
                  · refine fI 54 (.int .i64 s22) [(3, .int .i64 s22), (46, .bool (!r49))] 24 [none, some 16] rfl rfl (by kernel_rfl) rfl (by kernel_rfl) (by kernel_rfl) fun G a w S => ?_
                    refine sMove (.int .i64 s22) S (wG (c := !r49) 16 false 46 rfl rfl (by kernel_rfl) hc51) (.inl rfl) (by kernel_rfl) rfl (by decide) (fun a S => ?_)
                    exact leafL ⟨rfl, S⟩
                  · refine fI 55 q74 [(53, .slice ad7 p0.Right.length cp8), (54, .int .i64 s22), (46, .bool (!r49))] 25 [some 23, some 24, some 16] rfl rfl (by kernel_rfl) rfl (by kernel_rfl) (by kernel_rfl) fun G a w S => ?_
                    refine sIdxV (v := .slice ad7 p0.Right.length cp8) (k := .i64) (j := s22) S (wG (c := !r49) 16 false 46 rfl rfl (by kernel_rfl) hc51) rfl (by kernel_rfl) (by kernel_rfl) hq75 rfl (by decide) (fun a S => ?_)
                    exact leafL ⟨rfl, S⟩
                  · refine fI 56 (.int .i64 x44) [(55, q74), (46, .bool (!r49))] 26 [some 25, some 16] rfl rfl (by kernel_rfl) rfl (by kernel_rfl) (by kernel_rfl) fun G a w S => ?_
                    refine sLoadV1 (vq := q74) 0 (.int .i64 x44) S (wG (c := !r49) 16 false 46 rfl rfl (by kernel_rfl) hc51) rfl (by kernel_rfl) (by kernel_rfl) (by kernel_rfl) rfl (by decide) (fun a S => ?_)
                    exact leafL ⟨rfl, S⟩
                  · refine fI 57 (.bool (decide (x44 ≤ x33))) [(51, .int .i64 x33), (56, .int .i64 x44), (46, .bool (!r49))] 27 [some 21, some 26, some 16] rfl rfl (by kernel_rfl) rfl (by kernel_rfl) (by kernel_rfl) fun G a w S => ?_
                    refine sBin (.bool (decide (x44 ≤ x33))) S (wG (c := !r49) 16 false 46 rfl rfl (by kernel_rfl) hc51) rfl (by kernel_rfl) (by kernel_rfl) (bGe _ _ _ _ .i64 x33 x44) rfl (by decide) (fun a S => ?_)
                    exact leafL ⟨rfl, S⟩
                  · refine fI 58 (.bool (decide (x44 ≤ x33))) [(46, .bool (!r49)), (57, .bool (decide (x44 ≤ x33)))] 28 [some 16, some 27] rfl rfl (by kernel_rfl) rfl (by kernel_rfl) (by kernel_rfl) fun G a w S => ?_
                    refine sPickF (b := !r49) (.bool (decide (x44 ≤ x33))) S (wN rfl) rfl (by kernel_rfl) hc51 (by kernel_rfl) rfl (by decide) (fun a S => ?_)
                    exact leafL ⟨rfl, S⟩
                  · refine fI 59 (.bool (decide (x44 ≤ x33))) [(58, .bool (decide (x44 ≤ x33)))] 29 [some 28] rfl rfl (by kernel_rfl) rfl (by kernel_rfl) (by kernel_rfl) fun G a w S => ?_
                    refine sMove (.bool (decide (x44 ≤ x33))) S (wN rfl) (.inl rfl) (by kernel_rfl) rfl (by decide) (fun a S => ?_)
                    exact leafL ⟨rfl, S⟩
                  · refine fI 60 undef [(1, .pointer (some ⟨b10, 0, none⟩)), (59, .bool (decide (x44 ≤ x33)))] 30 [none, some 29] rfl rfl (by kernel_rfl) rfl (by kernel_rfl) (by kernel_rfl) fun G a w S => ?_
                    refine sSkip (c := decide (x44 ≤ x33)) 29 false 59 60 S rfl rfl (by kernel_rfl) hc64 rfl (by decide) (fun a S => ?_)
                    exact leafL ⟨rfl, S⟩
                  · refine fI 61 undef [(60, undef), (59, .bool (decide (x44 ≤ x33)))] 31 [some 30, some 29] rfl rfl (by kernel_rfl) rfl (by kernel_rfl) (by kernel_rfl) fun G a w S => ?_
                    refine sSkip (c := decide (x44 ≤ x33)) 29 false 59 61 S rfl rfl (by kernel_rfl) hc64 rfl (by decide) (fun a S => ?_)
                    exact leafL ⟨rfl, S⟩
                  · refine fI 62 undef [(3, .int .i64 s22), (59, .bool (decide (x44 ≤ x33)))] 32 [none, some 29] rfl rfl (by kernel_rfl) rfl (by kernel_rfl) (by kernel_rfl) fun G a w S => ?_
                    refine sSkip (c := decide (x44 ≤ x33)) 29 false 59 62 S rfl rfl (by kernel_rfl) hc64 rfl (by decide) (fun a S => ?_)
                    exact leafL ⟨rfl, S⟩
                  · refine fI 63 undef [(61, undef), (62, undef), (59, .bool (decide (x44 ≤ x33)))] 33 [some 31, some 32, some 29] rfl rfl (by kernel_rfl) rfl (by kernel_rfl) (by kernel_rfl) fun G a w S => ?_
                    refine sSkip (c := decide (x44 ≤ x33)) 29 false 59 63 S rfl rfl (by kernel_rfl) hc64 rfl (by decide) (fun a S => ?_)
                    exact leafL ⟨rfl, S⟩
                  · refine fI 64 undef [(63, undef), (59, .bool (decide (x44 ≤ x33)))] 34 [some 33, some 29] rfl rfl (by kernel_rfl) rfl (by kernel_rfl) (by kernel_rfl) fun G a w S => ?_
                    refine sSkip (c := decide (x44 ≤ x33)) 29 false 59 64 S rfl rfl (by kernel_rfl) hc64 rfl (by decide) (fun a S => ?_)
                    exact leafL ⟨rfl, S⟩
                  · refine fI 65 undef [(1, .pointer (some ⟨b10, 0, none⟩)), (59, .bool (decide (x44 ≤ x33)))] 35 [none, some 29] rfl rfl (by kernel_rfl) rfl (by kernel_rfl) (by kernel_rfl) fun G a w S => ?_
                    refine sSkip (c := decide (x44 ≤ x33)) 29 false 59 65 S rfl rfl (by kernel_rfl) hc64 rfl (by decide) (fun a S => ?_)
                    exact leafL ⟨rfl, S⟩
                  · refine fI 66 undef [(65, undef), (59, .bool (decide (x44 ≤ x33)))] 36 [some 35, some 29] rfl rfl (by kernel_rfl) rfl (by kernel_rfl) (by kernel_rfl) fun G a w S => ?_
                    refine sSkip (c := decide (x44 ≤ x33)) 29 false 59 66 S rfl rfl (by kernel_rfl) hc64 rfl (by decide) (fun a S => ?_)
                    exact leafL ⟨rfl, S⟩
                  · refine fI 67 undef [(3, .int .i64 s22), (59, .bool (decide (x44 ≤ x33)))] 37 [none, some 29] rfl rfl (by kernel_rfl) rfl (by kernel_rfl) (by kernel_rfl) fun G a w S => ?_
                    refine sSkip (c := decide (x44 ≤ x33)) 29 false 59 67 S rfl rfl (by kernel_rfl) hc64 rfl (by decide) (fun a S => ?_)
                    exact leafL ⟨rfl, S⟩
                  · refine fI 68 undef [(66, undef), (67, undef), (59, .bool (decide (x44 ≤ x33)))] 38 [some 36, some 37, some 29] rfl rfl (by kernel_rfl) rfl (by kernel_rfl) (by kernel_rfl) fun G a w S => ?_
                    refine sSkip (c := decide (x44 ≤ x33)) 29 false 59 68 S rfl rfl (by kernel_rfl) hc64 rfl (by decide) (fun a S => ?_)
                    exact leafL ⟨rfl, S⟩
                  · refine fI 69 undef [(68, undef), (59, .bool (decide (x44 ≤ x33)))] 39 [some 38, some 29] rfl rfl (by kernel_rfl) rfl (by kernel_rfl) (by kernel_rfl) fun G a w S => ?_
                    refine sSkip (c := decide (x44 ≤ x33)) 29 false 59 69 S rfl rfl (by kernel_rfl) hc64 rfl (by decide) (fun a S => ?_)
                    exact leafL ⟨rfl, S⟩
                  · refine fI 70 undef [(64, undef), (69, undef), (59, .bool (decide (x44 ≤ x33)))] 40 [some 34, some 39, some 29] rfl rfl (by kernel_rfl) rfl (by kernel_rfl) (by kernel_rfl) fun G a w S => ?_
                    refine sSkip (c := decide (x44 ≤ x33)) 29 false 59 70 S rfl rfl (by kernel_rfl) hc64 rfl (by decide) (fun a S => ?_)
                    exact leafL ⟨rfl, S⟩
                  · refine fI 71 undef [(70, undef), (59, .bool (decide (x44 ≤ x33)))] 41 [some 40, some 29] rfl rfl (by kernel_rfl) rfl (by kernel_rfl) (by kernel_rfl) fun G a w S => ?_
                    refine sSkip (c := decide (x44 ≤ x33)) 29 false 59 71 S rfl rfl (by kernel_rfl) hc64 rfl (by decide) (fun a S => ?_)
                    exact leafL ⟨rfl, S⟩
                  · refine fI 72 (.bool true) [(59, .bool (decide (x44 ≤ x33))), (71, undef)] 42 [some 29, some 41] rfl rfl (by kernel_rfl) rfl (by kernel_rfl) (by kernel_rfl) fun G a w S => ?_
                    refine sPickT (b := decide (x44 ≤ x33)) (.bool true) S (wN rfl) rfl (by kernel_rfl) hc64 (by kernel_rfl) rfl (by decide) (fun a S => ?_)
                    exact leafL ⟨rfl, S⟩
                  · exact leafT (⟨true, Option.some.inj h, S.fix [0] [12, 13] (by decide) (by kernel_rfl) (by kernel_rfl) (by kernel_rfl)⟩)
                · obtain ⟨q83, hq84, S⟩ := pIdx (P := Try.prog) (r := (rI .i64)) (v := .slice ad5 p0.Left.length cp6) (xs := p0.Left) (j := s22) 34 3 0 S Try.underlying34 (by kernel_rfl) (by kernel_rfl) hx34
                  obtain ⟨u85, S⟩ := pLoad (r := (rI .i64)) (q := q83) (x := x33) 0 S (by kernel_rfl)
                  obtain rfl : u85 = .int .i64 x33 := S.mem.know (i := 1) (e := fRep (rI .i64) (u85) x33) (by kernel_rfl)
                  obtain ⟨q86, hq87, S⟩ := pIdx (P := Try.prog) (r := (rI .i64)) (v := .slice ad7 p0.Right.length cp8) (xs := p0.Right) (j := s22) 34 3 4 S Try.underlying34 (by kernel_rfl) (by kernel_rfl) hx45
                  obtain ⟨u88, S⟩ := pLoad (r := (rI .i64)) (q := q86) (x := x44) 0 S (by kernel_rfl)
                  obtain rfl : u88 = .int .i64 x44 := S.mem.know (i := 1) (e := fRep (rI .i64) (u88) x44) (by kernel_rfl)
                  obtain ⟨q89, hq90, S⟩ := pIdx (P := Try.prog) (r := (rI .i64)) (v := .slice ad5 p0.Left.length cp6) (xs := p0.Left) (j := s22) 34 3 6 S Try.underlying34 (by kernel_rfl) (by kernel_rfl) hx34
                  obtain ⟨u91, S⟩ := pLoad (r := (rI .i64)) (q := q89) (x := x33) 0 S (by kernel_rfl)
                  obtain rfl : u91 = .int .i64 x33 := S.mem.know (i := 1) (e := fRep (rI .i64) (u91) x33) (by kernel_rfl)
                  obtain ⟨q92, hq93, S⟩ := pIdx (P := Try.prog) (r := (rI .i64)) (v := .slice ad7 p0.Right.length cp8) (xs := p0.Right) (j := s22) 34 3 10 S Try.underlying34 (by kernel_rfl) (by kernel_rfl) hx45
                  obtain ⟨u94, S⟩ := pLoad (r := (rI .i64)) (q := q92) (x := x44) 0 S (by kernel_rfl)
                  obtain rfl : u94 = .int .i64 x44 := S.mem.know (i := 1) (e := fRep (rI .i64) (u94) x44) (by kernel_rfl)
                  obtain ⟨q95, hq96, S⟩ := pIdx (P := Try.prog) (r := (rI .i64)) (v := .slice ad7 p0.Right.length cp8) (xs := p0.Right) (j := s22) 34 3 13 S Try.underlying34 (by kernel_rfl) (by kernel_rfl) hx45
                  obtain ⟨u97, S⟩ := pLoad (r := (rI .i64)) (q := q95) (x := x44) 0 S (by kernel_rfl)
                  obtain rfl : u97 = .int .i64 x44 := S.mem.know (i := 1) (e := fRep (rI .i64) (u97) x44) (by kernel_rfl)
                  obtain ⟨q98, hq99, S⟩ := pIdx (P := Try.prog) (r := (rI .i64)) (v := .slice ad5 p0.Left.length cp6) (xs := p0.Left) (j := s22) 34 3 15 S Try.underlying34 (by kernel_rfl) (by kernel_rfl) hx34
                  obtain ⟨u100, S⟩ := pLoad (r := (rI .i64)) (q := q98) (x := x33) 0 S (by kernel_rfl)
                  obtain rfl : u100 = .int .i64 x33 := S.mem.know (i := 1) (e := fRep (rI .i64) (u100) x33) (by kernel_rfl)
                  refine sDraw (nf := []) (W := [(0, 30, .pointer (some ⟨b10, 0, none⟩)), (1, 31, .slice ad5 p0.Left.length cp6), (2, 32, .int .i64 s22), (3, 33, q83), (4, 34, .int .i64 x33), (5, 35, .bool r38), (6, 36, .bool (!r38)), (7, 37, .bool (!r38)), (8, 38, .pointer (some ⟨b10, 1, none⟩)), (9, 39, .slice ad7 p0.Right.length cp8), (10, 40, .int .i64 s22), (11, 41, q86), (12, 42, .int .i64 x44), (13, 43, .bool r49), (14, 44, .bool (!r49)), (15, 45, .bool (!r49)), (16, 46, .bool (!r49)), (17, 47, .pointer (some ⟨b10, 0, none⟩)), (18, 48, .slice ad5 p0.Left.length cp6), (19, 49, .int .i64 s22), (20, 50, q89), (21, 51, .int .i64 x33), (22, 52, .pointer (some ⟨b10, 1, none⟩)), (23, 53, .slice ad7 p0.Right.length cp8), (24, 54, .int .i64 s22), (25, 55, q92), (26, 56, .int .i64 x44), (27, 57, .bool (decide (x44 ≤ x33))), (28, 58, .bool (decide (x44 ≤ x33))), (29, 59, .bool (decide (x44 ≤ x33))), (30, 60, .pointer (some ⟨b10, 1, none⟩)), (31, 61, .slice ad7 p0.Right.length cp8), (32, 62, .int .i64 s22), (33, 63, q95), (34, 64, .int .i64 x44), (35, 65, .pointer (some ⟨b10, 0, none⟩)), (36, 66, .slice ad5 p0.Left.length cp6), (37, 67, .int .i64 s22), (38, 68, q98), (39, 69, .int .i64 x33), (40, 70, .int .i64 (w64 (x44 - x33))), (41, 71, .bool (decide (200 < (w64 (x44 - x33))))), (42, 72, .bool (decide (200 < (w64 (x44 - x33)))))]) (by kernel_rfl) S ?_
                  refine node_by (A := anc_raddleref37_Check_0) (nf := []) (Y := []) (W := [(0, 30, .pointer (some ⟨b10, 0, none⟩)), (1, 31, .slice ad5 p0.Left.length cp6), (2, 32, .int .i64 s22), (3, 33, q83), (4, 34, .int .i64 x33), (5, 35, .bool r38), (6, 36, .bool (!r38)), (7, 37, .bool (!r38)), (8, 38, .pointer (some ⟨b10, 1, none⟩)), (9, 39, .slice ad7 p0.Right.length cp8), (10, 40, .int .i64 s22), (11, 41, q86), (12, 42, .int .i64 x44), (13, 43, .bool r49), (14, 44, .bool (!r49)), (15, 45, .bool (!r49)), (16, 46, .bool (!r49)), (17, 47, .pointer (some ⟨b10, 0, none⟩)), (18, 48, .slice ad5 p0.Left.length cp6), (19, 49, .int .i64 s22), (20, 50, q89), (21, 51, .int .i64 x33), (22, 52, .pointer (some ⟨b10, 1, none⟩)), (23, 53, .slice ad7 p0.Right.length cp8), (24, 54, .int .i64 s22), (25, 55, q92), (26, 56, .int .i64 x44), (27, 57, .bool (decide (x44 ≤ x33))), (28, 58, .bool (decide (x44 ≤ x33))), (29, 59, .bool (decide (x44 ≤ x33))), (30, 60, .pointer (some ⟨b10, 1, none⟩)), (31, 61, .slice ad7 p0.Right.length cp8), (32, 62, .int .i64 s22), (33, 63, q95), (34, 64, .int .i64 x44), (35, 65, .pointer (some ⟨b10, 0, none⟩)), (36, 66, .slice ad5 p0.Left.length cp6), (37, 67, .int .i64 s22), (38, 68, q98), (39, 69, .int .i64 x33), (40, 70, .int .i64 (w64 (x44 - x33))), (41, 71, .bool (decide (200 < (w64 (x44 - x33))))), (42, 72, .bool (decide (200 < (w64 (x44 - x33)))))]) 43 (by kernel_rfl) (by kernel_rfl) (by kernel_rfl) (by kernel_rfl) (by kernel_rfl) [0, 1, 2, 3, 4, 5, 6, 7, 8, 9, 10, 11, 12, 13, 14, 15, 16, 17, 18, 19, 20, 21, 22, 23, 24, 25, 26, 27, 28, 29, 30, 31, 32, 33, 34, 35, 36, 37, 38, 39, 40, 41, 42] (by kernel_rfl) (by decide) (by decide) (aF 0 42 (by decide) ?_ (aF 1 41 (by decide) ?_ (aF 2 40 (by decide) ?_ (aF 3 39 (by decide) ?_ (aF 4 38 (by decide) ?_ (aF 5 37 (by decide) ?_ (aF 6 36 (by decide) ?_ (aF 7 35 (by decide) ?_ (aF 8 34 (by decide) ?_ (aF 9 33 (by decide) ?_ (aF 10 32 (by decide) ?_ (aF 11 31 (by decide) ?_ (aF 12 30 (by decide) ?_ (aF 13 29 (by decide) ?_ (aF 14 28 (by decide) ?_ (aF 15 27 (by decide) ?_ (aF 16 26 (by decide) ?_ (aF 17 25 (by decide) ?_ (aF 18 24 (by decide) ?_ (aF 19 23 (by decide) ?_ (aF 20 22 (by decide) ?_ (aF 21 21 (by decide) ?_ (aF 22 20 (by decide) ?_ (aF 23 19 (by decide) ?_ (aF 24 18 (by decide) ?_ (aF 25 17 (by decide) ?_ (aF 26 16 (by decide) ?_ (aF 27 15 (by decide) ?_ (aF 28 14 (by decide) ?_ (aF 29 13 (by decide) ?_ (aF 30 12 (by decide) ?_ (aF 31 11 (by decide) ?_ (aF 32 10 (by decide) ?_ (aF 33 9 (by decide) ?_ (aF 34 8 (by decide) ?_ (aF 35 7 (by decide) ?_ (aF 36 6 (by decide) ?_ (aF 37 5 (by decide) ?_ (aF 38 4 (by decide) ?_ (aF 39 3 (by decide) ?_ (aF 40 2 (by decide) ?_ (aF 41 1 (by decide) ?_ (aF 42 0 (by decide) ?_ (trivial)))))))))))))))))))))))))))))))))))))))))))) [(1, .pointer (some ⟨b10, 0, none⟩)), (3, .int .i64 s22), (38, .pointer (some ⟨b10, 1, none⟩)), (39, .slice ad7 p0.Right.length cp8), (40, .int .i64 s22), (41, q86), (42, .int .i64 x44), (43, .bool r49), (44, .bool (!r49)), (47, .pointer (some ⟨b10, 0, none⟩)), (48, .slice ad5 p0.Left.length cp6), (49, .int .i64 s22), (50, q89), (51, .int .i64 x33), (52, .pointer (some ⟨b10, 1, none⟩)), (53, .slice ad7 p0.Right.length cp8), (54, .int .i64 s22), (55, q92), (56, .int .i64 x44), (57, .bool (decide (x44 ≤ x33))), (60, .pointer (some ⟨b10, 1, none⟩)), (61, .slice ad7 p0.Right.length cp8), (62, .int .i64 s22), (63, q95), (64, .int .i64 x44), (65, .pointer (some ⟨b10, 0, none⟩)), (66, .slice ad5 p0.Left.length cp6), (67, .int .i64 s22), (68, q98), (69, .int .i64 x33), (70, .int .i64 (w64 (x44 - x33))), (71, .bool (decide (200 < (w64 (x44 - x33))))), (72, .bool (decide (200 < (w64 (x44 - x33)))))] (fin_of [none, none, some 8, some 9, some 10, some 11, some 12, some 13, some 14, some 17, some 18, some 19, some 20, some 21, some 22, some 23, some 24, some 25, some 26, some 27, some 30, some 31, some 32, some 33, some 34, some 35, some 36, some 37, some 38, some 39, some 40, some 41, some 42] rfl (by kernel_rfl) (by kernel_rfl)) (fun _ a w S => ?_)
                  · refine fI 30 (.pointer (some ⟨b10, 0, none⟩)) [(1, .pointer (some ⟨b10, 0, none⟩))] 0 [none] rfl rfl (by kernel_rfl) rfl (by kernel_rfl) (by kernel_rfl) fun G a w S => ?_
                    refine sField (b := b10) (off := 0) 0 0 S (wN rfl) rfl (by kernel_rfl) (by kernel_rfl) rfl rfl (by decide) (fun a S => ?_)
                    exact leafL ⟨rfl, S⟩
                  · refine fI 31 (.slice ad5 p0.Left.length cp6) [(30, .pointer (some ⟨b10, 0, none⟩))] 1 [some 0] rfl rfl (by kernel_rfl) rfl (by kernel_rfl) (by kernel_rfl) fun G a w S => ?_
                    refine sLoad1 (p := b10) (off := 0) (T := 36) (vs := [.slice ad5 p0.Left.length cp6, .slice ad7 p0.Right.length cp8]) 0 (.slice ad5 p0.Left.length cp6) S (wN rfl) rfl (by kernel_rfl) (by kernel_rfl) (by kernel_rfl) rfl rfl (by decide) (fun a S => ?_)
                    exact leafL ⟨rfl, S⟩
                  · refine fI 32 (.int .i64 s22) [(3, .int .i64 s22)] 2 [none] rfl rfl (by kernel_rfl) rfl (by kernel_rfl) (by kernel_rfl) fun G a w S => ?_
                    refine sMove (.int .i64 s22) S (wN rfl) (.inl rfl) (by kernel_rfl) rfl (by decide) (fun a S => ?_)
                    exact leafL ⟨rfl, S⟩
                  · refine fI 33 q83 [(31, .slice ad5 p0.Left.length cp6), (32, .int .i64 s22)] 3 [some 1, some 2] rfl rfl (by kernel_rfl) rfl (by kernel_rfl) (by kernel_rfl) fun G a w S => ?_
                    refine sIdxV (v := .slice ad5 p0.Left.length cp6) (k := .i64) (j := s22) S (wN rfl) rfl (by kernel_rfl) (by kernel_rfl) hq84 rfl (by decide) (fun a S => ?_)
                    exact leafL ⟨rfl, S⟩
                  · refine fI 34 (.int .i64 x33) [(33, q83)] 4 [some 3] rfl rfl (by kernel_rfl) rfl (by kernel_rfl) (by kernel_rfl) fun G a w S => ?_
                    refine sLoadV1 (vq := q83) 15 (.int .i64 x33) S (wN rfl) rfl (by kernel_rfl) (by kernel_rfl) (by kernel_rfl) rfl (by decide) (fun a S => ?_)
                    exact leafL ⟨rfl, S⟩
                  · refine fI 35 (.bool r38) [(34, .int .i64 x33)] 5 [some 4] rfl rfl (by kernel_rfl) rfl (by kernel_rfl) (by kernel_rfl) fun G a w S => ?_
                    have S1 := S.mem
                    refine sCallQ (X := Unit) (f := 34) (vs := [.int .i64 x33]) (val := fun _ => .bool r38) S (wN rfl) rfl callee34 (by kernel_rfl) (S1.quiet [] (by kernel_rfl)) (fun E1 w1 S1 => c_raddleref37_in E1 w1 x33 r38 hx39 S1) rfl (by decide) (fun _ a w S => ?_)
                    exact leafL ⟨rfl, S⟩
                  · refine fI 36 (.bool (!r38)) [(35, .bool r38)] 6 [some 5] rfl rfl (by kernel_rfl) rfl (by kernel_rfl) (by kernel_rfl) fun G a w S => ?_
                    refine sNot (b := r38) S (wN rfl) rfl (by kernel_rfl) rfl (by decide) (fun a S => ?_)
                    exact leafL ⟨rfl, S⟩
                  · refine fI 37 (.bool (!r38)) [(36, .bool (!r38))] 7 [some 6] rfl rfl (by kernel_rfl) rfl (by kernel_rfl) (by kernel_rfl) fun G a w S => ?_
                    refine sMove (.bool (!r38)) S (wN rfl) (.inl rfl) (by kernel_rfl) rfl (by decide) (fun a S => ?_)
                    exact leafL ⟨rfl, S⟩
                  · refine fI 38 (.pointer (some ⟨b10, 1, none⟩)) [(1, .pointer (some ⟨b10, 0, none⟩)), (37, .bool (!r38))] 8 [none, some 7] rfl rfl (by kernel_rfl) rfl (by kernel_rfl) (by kernel_rfl) fun G a w S => ?_
                    refine sField (b := b10) (off := 0) 1 1 S (wG (c := !r38) 7 false 37 rfl rfl (by kernel_rfl) hc40) rfl (by kernel_rfl) (by kernel_rfl) rfl rfl (by decide) (fun a S => ?_)
                    exact leafL ⟨rfl, S⟩
                  · refine fI 39 (.slice ad7 p0.Right.length cp8) [(38, .pointer (some ⟨b10, 1, none⟩)), (37, .bool (!r38))] 9 [some 8, some 7] rfl rfl (by kernel_rfl) rfl (by kernel_rfl) (by kernel_rfl) fun G a w S => ?_
                    refine sLoad1 (p := b10) (off := 1) (T := 36) (vs := [.slice ad5 p0.Left.length cp6, .slice ad7 p0.Right.length cp8]) 0 (.slice ad7 p0.Right.length cp8) S (wG (c := !r38) 7 false 37 rfl rfl (by kernel_rfl) hc40) rfl (by kernel_rfl) (by kernel_rfl) (by kernel_rfl) rfl rfl (by decide) (fun a S => ?_)
                    exact leafL ⟨rfl, S⟩
                  · refine fI 40 (.int .i64 s22) [(3, .int .i64 s22), (37, .bool (!r38))] 10 [none, some 7] rfl rfl (by kernel_rfl) rfl (by kernel_rfl) (by kernel_rfl) fun G a w S => ?_
                    refine sMove (.int .i64 s22) S (wG (c := !r38) 7 false 37 rfl rfl (by kernel_rfl) hc40) (.inl rfl) (by kernel_rfl) rfl (by decide) (fun a S => ?_)
                    exact leafL ⟨rfl, S⟩
                  · refine fI 41 q86 [(39, .slice ad7 p0.Right.length cp8), (40, .int .i64 s22), (37, .bool (!r38))] 11 [some 9, some 10, some 7] rfl rfl (by kernel_rfl) rfl (by kernel_rfl) (by kernel_rfl) fun G a w S => ?_
                    refine sIdxV (v := .slice ad7 p0.Right.length cp8) (k := .i64) (j := s22) S (wG (c := !r38) 7 false 37 rfl rfl (by kernel_rfl) hc40) rfl (by kernel_rfl) (by kernel_rfl) hq87 rfl (by decide) (fun a S => ?_)
                    exact leafL ⟨rfl, S⟩
                  · refine fI 42 (.int .i64 x44) [(41, q86), (37, .bool (!r38))] 12 [some 11, some 7] rfl rfl (by kernel_rfl) rfl (by kernel_rfl) (by kernel_rfl) fun G a w S => ?_
                    refine sLoadV1 (vq := q86) 12 (.int .i64 x44) S (wG (c := !r38) 7 false 37 rfl rfl (by kernel_rfl) hc40) rfl (by kernel_rfl) (by kernel_rfl) (by kernel_rfl) rfl (by decide) (fun a S => ?_)
                    exact leafL ⟨rfl, S⟩
                  · refine fI 43 (.bool r49) [(42, .int .i64 x44), (37, .bool (!r38))] 13 [some 12, some 7] rfl rfl (by kernel_rfl) rfl (by kernel_rfl) (by kernel_rfl) fun G a w S => ?_
                    have S1 := S.mem
                    refine sCallQ (X := Unit) (f := 34) (vs := [.int .i64 x44]) (val := fun _ => .bool r49) S (wG (c := !r38) 7 false 37 rfl rfl (by kernel_rfl) hc40) rfl callee34 (by kernel_rfl) (S1.quiet [] (by kernel_rfl)) (fun E1 w1 S1 => c_raddleref37_in E1 w1 x44 r49 hx50 S1) rfl (by decide) (fun _ a w S => ?_)
                    exact leafL ⟨rfl, S⟩
                  · refine fI 44 (.bool (!r49)) [(43, .bool r49), (37, .bool (!r38))] 14 [some 13, some 7] rfl rfl (by kernel_rfl) rfl (by kernel_rfl) (by kernel_rfl) fun G a w S => ?_
                    refine sNot (b := r49) S (wG (c := !r38) 7 false 37 rfl rfl (by kernel_rfl) hc40) rfl (by kernel_rfl) rfl (by decide) (fun a S => ?_)
                    exact leafL ⟨rfl, S⟩
                  · refine fI 45 (.bool (!r49)) [(37, .bool (!r38)), (44, .bool (!r49))] 15 [some 7, some 14] rfl rfl (by kernel_rfl) rfl (by kernel_rfl) (by kernel_rfl) fun G a w S => ?_
                    refine sPickF (b := !r38) (.bool (!r49)) S (wN rfl) rfl (by kernel_rfl) hc40 (by kernel_rfl) rfl (by decide) (fun a S => ?_)
                    exact leafL ⟨rfl, S⟩
                  · refine fI 46 (.bool (!r49)) [(45, .bool (!r49))] 16 [some 15] rfl rfl (by kernel_rfl) rfl (by kernel_rfl) (by kernel_rfl) fun G a w S => ?_
                    refine sMove (.bool (!r49)) S (wN rfl) (.inl rfl) (by kernel_rfl) rfl (by decide) (fun a S => ?_)
                    exact leafL ⟨rfl, S⟩
                  · refine fI 47 (.pointer (some ⟨b10, 0, none⟩)) [(1, .pointer (some ⟨b10, 0, none⟩)), (46, .bool (!r49))] 17 [none, some 16] rfl rfl (by kernel_rfl) rfl (by kernel_rfl) (by kernel_rfl) fun G a w S => ?_
                    refine sField (b := b10) (off := 0) 0 0 S (wG (c := !r49) 16 false 46 rfl rfl (by kernel_rfl) hc51) rfl (by kernel_rfl) (by kernel_rfl) rfl rfl (by decide) (fun a S => ?_)
                    exact leafL ⟨rfl, S⟩
                  · refine fI 48 (.slice ad5 p0.Left.length cp6) [(47, .pointer (some ⟨b10, 0, none⟩)), (46, .bool (!r49))] 18 [some 17, some 16] rfl rfl (by kernel_rfl) rfl (by kernel_rfl) (by kernel_rfl) fun G a w S => ?_
                    refine sLoad1 (p := b10) (off := 0) (T := 36) (vs := [.slice ad5 p0.Left.length cp6, .slice ad7 p0.Right.length cp8]) 0 (.slice ad5 p0.Left.length cp6) S (wG (c := !r49) 16 false 46 rfl rfl (by kernel_rfl) hc51) rfl (by kernel_rfl) (by kernel_rfl) (by kernel_rfl) rfl rfl (by decide) (fun a S => ?_)
                    exact leafL ⟨rfl, S⟩
                  · refine fI 49 (.int .i64 s22) [(3, .int .i64 s22), (46, .bool (!r49))] 19 [none, some 16] rfl rfl (by kernel_rfl) rfl (by kernel_rfl) (by kernel_rfl) fun G a w S => ?_
                    refine sMove (.int .i64 s22) S (wG (c := !r49) 16 false 46 rfl rfl (by kernel_rfl) hc51) (.inl rfl) (by kernel_rfl) rfl (by decide) (fun a S => ?_)
                    exact leafL ⟨rfl, S⟩
                  · refine fI 50 q89 [(48, .slice ad5 p0.Left.length cp6), (49, .int .i64 s22), (46, .bool (!r49))] 20 [some 18, some 19, some 16] rfl rfl (by kernel_rfl) rfl (by kernel_rfl) (by kernel_rfl) fun G a w S => ?_
                    refine sIdxV (v := .slice ad5 p0.Left.length cp6) (k := .i64) (j := s22) S (wG (c := !r49) 16 false 46 rfl rfl (by kernel_rfl) hc51) rfl (by kernel_rfl) (by kernel_rfl) hq90 rfl (by decide) (fun a S => ?_)
                    exact leafL ⟨rfl, S⟩
                  · refine fI 51 (.int .i64 x33) [(50, q89), (46, .bool (!r49))] 21 [some 20, some 16] rfl rfl (by kernel_rfl) rfl (by kernel_rfl) (by kernel_rfl) fun G a w S => ?_
                    refine sLoadV1 (vq := q89) 9 (.int .i64 x33) S (wG (c := !r49) 16 false 46 rfl rfl (by kernel_rfl) hc51) rfl (by kernel_rfl) (by kernel_rfl) (by kernel_rfl) rfl (by decide) (fun a S => ?_)
                    exact leafL ⟨rfl, S⟩
                  · refine fI 52 (.pointer (some ⟨b10, 1, none⟩)) [(1, .pointer (some ⟨b10, 0, none⟩)), (46, .bool (!r49))] 22 [none, some 16] rfl rfl (by kernel_rfl) rfl (by kernel_rfl) (by kernel_rfl) fun G a w S => ?_
                    refine sField (b := b10) (off := 0) 1 1 S (wG (c := !r49) 16 false 46 rfl rfl (by kernel_rfl) hc51) rfl (by kernel_rfl) (by kernel_rfl) rfl rfl (by decide) (fun a S => ?_)
                    exact leafL ⟨rfl, S⟩
                  · refine fI 53 (.slice ad7 p0.Right.length cp8) [(52, .pointer (some ⟨b10, 1, none⟩)), (46, .bool (!r49))] 23 [some 22, some 16] rfl rfl (by kernel_rfl) rfl (by kernel_rfl) (by kernel_rfl) fun G a w S => ?_
                    refine sLoad1 (p := b10) (off := 1) (T := 36) (vs := [.slice ad5 p0.Left.length cp6, .slice ad7 p0.Right.length cp8]) 0 (.slice ad7 p0.Right.length cp8) S (wG (c := !r49) 16 false 46 rfl rfl (by kernel_rfl) hc51) rfl (by kernel_rfl) (by kernel_rfl) (by kernel_rfl) rfl rfl (by decide) (fun a S => ?_)
                    exact leafL ⟨rfl, S⟩
                  · refine fI 54 (.int .i64 s22) [(3, .int .i64 s22), (46, .bool (!r49))] 24 [none, some 16] rfl rfl (by kernel_rfl) rfl (by kernel_rfl) (by kernel_rfl) fun G a w S => ?_
                    refine sMove (.int .i64 s22) S (wG (c := !r49) 16 false 46 rfl rfl (by kernel_rfl) hc51) (.inl rfl) (by kernel_rfl) rfl (by decide) (fun a S => ?_)
                    exact leafL ⟨rfl, S⟩
                  · refine fI 55 q92 [(53, .slice ad7 p0.Right.length cp8), (54, .int .i64 s22), (46, .bool (!r49))] 25 [some 23, some 24, some 16] rfl rfl (by kernel_rfl) rfl (by kernel_rfl) (by kernel_rfl) fun G a w S => ?_
                    refine sIdxV (v := .slice ad7 p0.Right.length cp8) (k := .i64) (j := s22) S (wG (c := !r49) 16 false 46 rfl rfl (by kernel_rfl) hc51) rfl (by kernel_rfl) (by kernel_rfl) hq93 rfl (by decide) (fun a S => ?_)
                    exact leafL ⟨rfl, S⟩
                  · refine fI 56 (.int .i64 x44) [(55, q92), (46, .bool (!r49))] 26 [some 25, some 16] rfl rfl (by kernel_rfl) rfl (by kernel_rfl) (by kernel_rfl) fun G a w S => ?_
                    refine sLoadV1 (vq := q92) 6 (.int .i64 x44) S (wG (c := !r49) 16 false 46 rfl rfl (by kernel_rfl) hc51) rfl (by kernel_rfl) (by kernel_rfl) (by kernel_rfl) rfl (by decide) (fun a S => ?_)
                    exact leafL ⟨rfl, S⟩
                  · refine fI 57 (.bool (decide (x44 ≤ x33))) [(51, .int .i64 x33), (56, .int .i64 x44), (46, .bool (!r49))] 27 [some 21, some 26, some 16] rfl rfl (by kernel_rfl) rfl (by kernel_rfl) (by kernel_rfl) fun G a w S => ?_
                    refine sBin (.bool (decide (x44 ≤ x33))) S (wG (c := !r49) 16 false 46 rfl rfl (by kernel_rfl) hc51) rfl (by kernel_rfl) (by kernel_rfl) (bGe _ _ _ _ .i64 x33 x44) rfl (by decide) (fun a S => ?_)
                    exact leafL ⟨rfl, S⟩
                  · refine fI 58 (.bool (decide (x44 ≤ x33))) [(46, .bool (!r49)), (57, .bool (decide (x44 ≤ x33)))] 28 [some 16, some 27] rfl rfl (by kernel_rfl) rfl (by kernel_rfl) (by kernel_rfl) fun G a w S => ?_
                    refine sPickF (b := !r49) (.bool (decide (x44 ≤ x33))) S (wN rfl) rfl (by kernel_rfl) hc51 (by kernel_rfl) rfl (by decide) (fun a S => ?_)
                    exact leafL ⟨rfl, S⟩
                  · refine fI 59 (.bool (decide (x44 ≤ x33))) [(58, .bool (decide (x44 ≤ x33)))] 29 [some 28] rfl rfl (by kernel_rfl) rfl (by kernel_rfl) (by kernel_rfl) fun G a w S => ?_
                    refine sMove (.bool (decide (x44 ≤ x33))) S (wN rfl) (.inl rfl) (by kernel_rfl) rfl (by decide) (fun a S => ?_)
                    exact leafL ⟨rfl, S⟩
                  · refine fI 60 (.pointer (some ⟨b10, 1, none⟩)) [(1, .pointer (some ⟨b10, 0, none⟩)), (59, .bool (decide (x44 ≤ x33)))] 30 [none, some 29] rfl rfl (by kernel_rfl) rfl (by kernel_rfl) (by kernel_rfl) fun G a w S => ?_
                    refine sField (b := b10) (off := 0) 1 1 S (wG (c := decide (x44 ≤ x33)) 29 false 59 rfl rfl (by kernel_rfl) hc64) rfl (by kernel_rfl) (by kernel_rfl) rfl rfl (by decide) (fun a S => ?_)
                    exact leafL ⟨rfl, S⟩
                  · refine fI 61 (.slice ad7 p0.Right.length cp8) [(60, .pointer (some ⟨b10, 1, none⟩)), (59, .bool (decide (x44 ≤ x33)))] 31 [some 30, some 29] rfl rfl (by kernel_rfl) rfl (by kernel_rfl) (by kernel_rfl) fun G a w S => ?_
                    refine sLoad1 (p := b10) (off := 1) (T := 36) (vs := [.slice ad5 p0.Left.length cp6, .slice ad7 p0.Right.length cp8]) 0 (.slice ad7 p0.Right.length cp8) S (wG (c := decide (x44 ≤ x33)) 29 false 59 rfl rfl (by kernel_rfl) hc64) rfl (by kernel_rfl) (by kernel_rfl) (by kernel_rfl) rfl rfl (by decide) (fun a S => ?_)
                    exact leafL ⟨rfl, S⟩
                  · refine fI 62 (.int .i64 s22) [(3, .int .i64 s22), (59, .bool (decide (x44 ≤ x33)))] 32 [none, some 29] rfl rfl (by kernel_rfl) rfl (by kernel_rfl) (by kernel_rfl) fun G a w S => ?_
                    refine sMove (.int .i64 s22) S (wG (c := decide (x44 ≤ x33)) 29 false 59 rfl rfl (by kernel_rfl) hc64) (.inl rfl) (by kernel_rfl) rfl (by decide) (fun a S => ?_)
                    exact leafL ⟨rfl, S⟩
                  · refine fI 63 q95 [(61, .slice ad7 p0.Right.length cp8), (62, .int .i64 s22), (59, .bool (decide (x44 ≤ x33)))] 33 [some 31, some 32, some 29] rfl rfl (by kernel_rfl) rfl (by kernel_rfl) (by kernel_rfl) fun G a w S => ?_
                    refine sIdxV (v := .slice ad7 p0.Right.length cp8) (k := .i64) (j := s22) S (wG (c := decide (x44 ≤ x33)) 29 false 59 rfl rfl (by kernel_rfl) hc64) rfl (by kernel_rfl) (by kernel_rfl) hq96 rfl (by decide) (fun a S => ?_)
                    exact leafL ⟨rfl, S⟩
                  · refine fI 64 (.int .i64 x44) [(63, q95), (59, .bool (decide (x44 ≤ x33)))] 34 [some 33, some 29] rfl rfl (by kernel_rfl) rfl (by kernel_rfl) (by kernel_rfl) fun G a w S => ?_
                    refine sLoadV1 (vq := q95) 3 (.int .i64 x44) S (wG (c := decide (x44 ≤ x33)) 29 false 59 rfl rfl (by kernel_rfl) hc64) rfl (by kernel_rfl) (by kernel_rfl) (by kernel_rfl) rfl (by decide) (fun a S => ?_)
                    exact leafL ⟨rfl, S⟩
                  · refine fI 65 (.pointer (some ⟨b10, 0, none⟩)) [(1, .pointer (some ⟨b10, 0, none⟩)), (59, .bool (decide (x44 ≤ x33)))] 35 [none, some 29] rfl rfl (by kernel_rfl) rfl (by kernel_rfl) (by kernel_rfl) fun G a w S => ?_
                    refine sField (b := b10) (off := 0) 0 0 S (wG (c := decide (x44 ≤ x33)) 29 false 59 rfl rfl (by kernel_rfl) hc64) rfl (by kernel_rfl) (by kernel_rfl) rfl rfl (by decide) (fun a S => ?_)
                    exact leafL ⟨rfl, S⟩
                  · refine fI 66 (.slice ad5 p0.Left.length cp6) [(65, .pointer (some ⟨b10, 0, none⟩)), (59, .bool (decide (x44 ≤ x33)))] 36 [some 35, some 29] rfl rfl (by kernel_rfl) rfl (by kernel_rfl) (by kernel_rfl) fun G a w S => ?_
                    refine sLoad1 (p := b10) (off := 0) (T := 36) (vs := [.slice ad5 p0.Left.length cp6, .slice ad7 p0.Right.length cp8]) 0 (.slice ad5 p0.Left.length cp6) S (wG (c := decide (x44 ≤ x33)) 29 false 59 rfl rfl (by kernel_rfl) hc64) rfl (by kernel_rfl) (by kernel_rfl) (by kernel_rfl) rfl rfl (by decide) (fun a S => ?_)
                    exact leafL ⟨rfl, S⟩
                  · refine fI 67 (.int .i64 s22) [(3, .int .i64 s22), (59, .bool (decide (x44 ≤ x33)))] 37 [none, some 29] rfl rfl (by kernel_rfl) rfl (by kernel_rfl) (by kernel_rfl) fun G a w S => ?_
                    refine sMove (.int .i64 s22) S (wG (c := decide (x44 ≤ x33)) 29 false 59 rfl rfl (by kernel_rfl) hc64) (.inl rfl) (by kernel_rfl) rfl (by decide) (fun a S => ?_)
                    exact leafL ⟨rfl, S⟩
                  · refine fI 68 q98 [(66, .slice ad5 p0.Left.length cp6), (67, .int .i64 s22), (59, .bool (decide (x44 ≤ x33)))] 38 [some 36, some 37, some 29] rfl rfl (by kernel_rfl) rfl (by kernel_rfl) (by kernel_rfl) fun G a w S => ?_
                    refine sIdxV (v := .slice ad5 p0.Left.length cp6) (k := .i64) (j := s22) S (wG (c := decide (x44 ≤ x33)) 29 false 59 rfl rfl (by kernel_rfl) hc64) rfl (by kernel_rfl) (by kernel_rfl) hq99 rfl (by decide) (fun a S => ?_)
                    exact leafL ⟨rfl, S⟩
                  · refine fI 69 (.int .i64 x33) [(68, q98), (59, .bool (decide (x44 ≤ x33)))] 39 [some 38, some 29] rfl rfl (by kernel_rfl) rfl (by kernel_rfl) (by kernel_rfl) fun G a w S => ?_
                    refine sLoadV1 (vq := q98) 0 (.int .i64 x33) S (wG (c := decide (x44 ≤ x33)) 29 false 59 rfl rfl (by kernel_rfl) hc64) rfl (by kernel_rfl) (by kernel_rfl) (by kernel_rfl) rfl (by decide) (fun a S => ?_)
                    exact leafL ⟨rfl, S⟩
                  · refine fI 70 (.int .i64 (w64 (x44 - x33))) [(64, .int .i64 x44), (69, .int .i64 x33), (59, .bool (decide (x44 ≤ x33)))] 40 [some 34, some 39, some 29] rfl rfl (by kernel_rfl) rfl (by kernel_rfl) (by kernel_rfl) fun G a w S => ?_
                    refine sBin (.int .i64 (w64 (x44 - x33))) S (wG (c := decide (x44 ≤ x33)) 29 false 59 rfl rfl (by kernel_rfl) hc64) rfl (by kernel_rfl) (by kernel_rfl) (bSub _ _ _ _ x44 x33) rfl (by decide) (fun a S => ?_)
                    exact leafL ⟨rfl, S⟩
                  · refine fI 71 (.bool (decide (200 < (w64 (x44 - x33))))) [(70, .int .i64 (w64 (x44 - x33))), (59, .bool (decide (x44 ≤ x33)))] 41 [some 40, some 29] rfl rfl (by kernel_rfl) rfl (by kernel_rfl) (by kernel_rfl) fun G a w S => ?_
                    refine sBin (.bool (decide (200 < (w64 (x44 - x33))))) S (wG (c := decide (x44 ≤ x33)) 29 false 59 rfl rfl (by kernel_rfl) hc64) rfl (by kernel_rfl) (by kernel_rfl) (bGt _ _ _ _ .i64 (w64 (x44 - x33)) 200) rfl (by decide) (fun a S => ?_)
                    exact leafL ⟨rfl, S⟩
                  · refine fI 72 (.bool (decide (200 < (w64 (x44 - x33))))) [(59, .bool (decide (x44 ≤ x33))), (71, .bool (decide (200 < (w64 (x44 - x33)))))] 42 [some 29, some 41] rfl rfl (by kernel_rfl) rfl (by kernel_rfl) (by kernel_rfl) fun G a w S => ?_
                    refine sPickF (b := decide (x44 ≤ x33)) (.bool (decide (200 < (w64 (x44 - x33))))) S (wN rfl) rfl (by kernel_rfl) hc64 (by kernel_rfl) rfl (by decide) (fun a S => ?_)
                    exact leafL ⟨rfl, S⟩
                  · exact leafT (⟨decide (200 < (w64 (x44 - x33))), Option.some.inj h, S.fix [0] [18, 19] (by decide) (by kernel_rfl) (by kernel_rfl) (by kernel_rfl)⟩)
          · obtain ⟨o30, rfl, S⟩ := hI
            have h := g32
            clear g32
            try dsimp only at h
            rcases iteSome h with ⟨hc101, h⟩ | ⟨hc101, h⟩
            · refine sCondT (b := o30) S (by kernel_rfl) hc101 ?_
              refine sSeq (fun K102 hK102 => ?_)
              refine sRegion ?_
              refine sMove (.int .i64 8) S (wN rfl) (.inr rfl) (by kernel_rfl) rfl (by decide) (fun a S => ?_)
              refine leafL (leafT (hK102 _ _ ?_))
              obtain rfl := Option.some.inj h
              obtain rfl := hu23 _ rfl
              have h := g24
              clear g24
              try dsimp only at h
              obtain rfl := Option.some.inj h
              have h := g20
              clear g20
              try dsimp only at h
              obtain rfl := Option.some.inj h
              exact wp_ret (rBlock (rThen (rThen (rBlock (rThen (sRet (.int .i64 8) S (rsl1 rfl (rvT (t := 2) (v := .int .i64 8) S (by kernel_rfl))) ⟨(), rfl, S.mem.sel [] [] (by decide) (by kernel_rfl) (by kernel_rfl)⟩))))))
            · refine sCondF (b := o30) S (by kernel_rfl) hc101 ?_
              refine wp_skip (leafB (leafT (hK29 _ _ ?_)))
              refine sRegion ?_
              refine sMove (.int .i64 s22) S (wN rfl) (.inl rfl) (by kernel_rfl) rfl (by decide) (fun a S => ?_)
              refine sBin (.int .i64 (w64 (s22 + 1))) S (wN rfl) rfl (by kernel_rfl) (by kernel_rfl) (bAdd _ _ _ _ s22 1) rfl (by decide) (fun a S => ?_)
              refine sMove (.int .i64 (w64 (s22 + 1))) S (wN rfl) (.inr rfl) (by kernel_rfl) rfl (by decide) (fun a S => ?_)
              exact leafL (leafT (⟨w64 (s22 + 1), (Option.some.inj h).symm, (S.fix [0] [0, 1] (by decide) (by kernel_rfl) (by kernel_rfl) (by kernel_rfl))⟩))
        · refine sCondF (b := decide (s22 < (p0.Left.length : Int))) S (by kernel_rfl) hc28 ?_
          obtain rfl := Option.some.inj h
          obtain rfl := hu23 _ rfl
          have h := g24
          clear g24
          try dsimp only at h
          exact wp_exit (xThen (xThen (xHit (leafT (⟨Option.some.inj h, S.fix [] [] (by decide) (by kernel_rfl) (by kernel_rfl) (by kernel_rfl)⟩)))))
      · obtain ⟨rfl, S⟩ := hI
        have h := g20
        clear g20
        try dsimp only at h
        refine sSeq (fun K103 hK103 => ?_)
        refine sRegion ?_
        refine sMove (.int .i64 0) S (wN rfl) (.inr rfl) (by kernel_rfl) rfl (by decide) (fun a S => ?_)
        refine leafL (leafT (hK103 _ _ ?_))
        obtain rfl := Option.some.inj h
        exact wp_ret (sRet (.int .i64 0) S (rsl1 rfl (rvT (t := 2) (v := .int .i64 0) S (by kernel_rfl))) ⟨(), rfl, S.mem.sel [] [] (by decide) (by kernel_rfl) (by kernel_rfl)⟩)

end Go.Proofs.Ytmedbnjhgkcndaa
