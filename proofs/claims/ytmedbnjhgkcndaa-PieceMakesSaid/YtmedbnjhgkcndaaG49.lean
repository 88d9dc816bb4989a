import Derived.Test.YtmedbnjhgkcndaaGTy
import Derived.Test.YtmedbnjhgkcndaaG34
namespace Go.Proofs.Ytmedbnjhgkcndaa
open Go.RowKit
set_option linter.unusedVariables false

def anc_raddleref37_side_0 : List (List Nat) := [[], [], [0, 1], [0, 1, 2], [0, 1, 2, 3], [0, 1, 2, 3, 4], [0, 1, 2, 3, 4, 5], [0, 1, 2, 3, 4, 5, 6], [0, 1, 2, 3, 4, 5, 6, 7], [0, 1, 2, 3, 4, 5, 6, 7], [0, 1, 2, 3, 4, 5, 6, 7, 8, 9], [0, 1, 2, 3, 4, 5, 6, 7, 8, 9, 10], [0, 1, 2, 3, 4, 5, 6, 7, 8, 9, 10, 11], [0, 1, 2, 3, 4, 5, 6, 7, 8, 9, 10, 11, 12], [0, 1, 2, 3, 4, 5, 6, 7, 8, 9, 10, 11, 12, 13], [0, 1, 2, 3, 4, 5, 6, 7, 8, 9, 10, 11, 12, 13, 14], [0, 1, 2, 3, 4, 5, 6, 7, 8, 9, 10, 11, 12, 13, 14, 15], [0, 1, 2, 3, 4, 5, 6, 7, 8, 9, 10, 11, 12, 13, 14, 15], [0, 1, 2, 3, 4, 5, 6, 7, 8, 9, 10, 11, 12, 13, 14, 15, 16, 17], [0, 1, 2, 3, 4, 5, 6, 7, 8, 9, 10, 11, 12, 13, 14, 15, 16, 17, 18], [0, 1, 2, 3, 4, 5, 6, 7, 8, 9, 10, 11, 12, 13, 14, 15, 16, 17, 18, 19], [0, 1, 2, 3, 4, 5, 6, 7, 8, 9, 10, 11, 12, 13, 14, 15, 16, 17, 18, 19, 20], [0, 1, 2, 3, 4, 5, 6, 7, 8, 9, 10, 11, 12, 13, 14, 15, 16, 17, 18, 19, 20, 21], [0, 1, 2, 3, 4, 5, 6, 7, 8, 9, 10, 11, 12, 13, 14, 15, 16, 17, 18, 19, 20, 21, 22], [0, 1, 2, 3, 4, 5, 6, 7, 8, 9, 10, 11, 12, 13, 14, 15, 16, 17, 18, 19, 20, 21, 22, 23], [0, 1, 2, 3, 4, 5, 6, 7, 8, 9, 10, 11, 12, 13, 14, 15, 16, 17, 18, 19, 20, 21, 22, 23, 24], [0, 1, 2, 3, 4, 5, 6, 7, 8, 9, 10, 11, 12, 13, 14, 15, 16, 17, 18, 19, 20, 21, 22, 23, 24, 25], [0, 1, 2, 3, 4, 5, 6, 7, 8, 9, 10, 11, 12, 13, 14, 15, 16, 17, 18, 19, 20, 21, 22, 23, 24, 25, 26], [0, 1, 2, 3, 4, 5, 6, 7, 8, 9, 10, 11, 12, 13, 14, 15, 16, 17, 18, 19, 20, 21, 22, 23, 24, 25, 26], [0, 1, 2, 3, 4, 5, 6, 7, 8, 9, 10, 11, 12, 13, 14, 15, 16, 17, 18, 19, 20, 21, 22, 23, 24, 25, 26, 27, 28], [0, 1, 2, 3, 4, 5, 6, 7, 8, 9, 10, 11, 12, 13, 14, 15, 16, 17, 18, 19, 20, 21, 22, 23, 24, 25, 26, 27, 28, 29], [0, 1, 2, 3, 4, 5, 6, 7, 8, 9, 10, 11, 12, 13, 14, 15, 16, 17, 18, 19, 20, 21, 22, 23, 24, 25, 26, 27, 28, 29, 30], [0, 1, 2, 3, 4, 5, 6, 7, 8, 9, 10, 11, 12, 13, 14, 15, 16, 17, 18, 19, 20, 21, 22, 23, 24, 25, 26], [0, 1, 2, 3, 4, 5, 6, 7, 8, 9, 10, 11, 12, 13, 14, 15, 16, 17, 18, 19, 20, 21, 22, 23, 24, 25, 26], [0, 1, 2, 3, 4, 5, 6, 7, 8, 9, 10, 11, 12, 13, 14, 15, 16, 17, 18, 19, 20, 21, 22, 23, 24, 25, 26, 33], [0, 1, 2, 3, 4, 5, 6, 7, 8, 9, 10, 11, 12, 13, 14, 15, 16, 17, 18, 19, 20, 21, 22, 23, 24, 25, 26, 32, 33, 34], [0, 1, 2, 3, 4, 5, 6, 7, 8, 9, 10, 11, 12, 13, 14, 15, 16, 17, 18, 19, 20, 21, 22, 23, 24, 25, 26, 32, 33, 34, 35], [0, 1, 2, 3, 4, 5, 6, 7, 8, 9, 10, 11, 12, 13, 14, 15, 16, 17, 18, 19, 20, 21, 22, 23, 24, 25, 26, 32, 33, 34, 35, 36], [0, 1, 2, 3, 4, 5, 6, 7, 8, 9, 10, 11, 12, 13, 14, 15, 16, 17, 18, 19, 20, 21, 22, 23, 24, 25, 26, 27, 28, 29, 30, 31, 32, 33, 34, 35, 36, 37], [0, 1, 2, 3, 4, 5, 6, 7, 8, 9, 10, 11, 12, 13, 14, 15, 16, 17, 18, 19, 20, 21, 22, 23, 24, 25, 26, 27, 28, 29, 30, 31, 32, 33, 34, 35, 36, 37, 38], [0, 1, 2, 3, 4, 5, 6, 7, 8, 9, 10, 11, 12, 13, 14, 15, 16, 17, 18, 19, 20, 21, 22, 23, 24, 25, 26, 27, 28, 29, 30, 31, 32, 33, 34, 35, 36, 37, 38, 39]]
noncomputable def raddleref37_side_l1 (p0 : (List api_Point)) : Int → Option (Int ⊕ (Bool ⊕ Unit)) := fun s0 => match s0 with
  | s22 =>
    if decide (s22 < (p0.length : Int)) then
      Option.bind (α := Bool) (
        Option.bind (idxO p0 s22) fun x33 =>
        Option.bind (F_raddleref37_in x33.X) fun r40 =>
        if !r40 then
          some true
        else
          if decide (x33.Y < 0) then
            some true
          else
            if decide (99 < x33.Y) then
              some true
            else
              if decide (0 < s22) then
                Option.bind (idxO p0 (w64 (s22 - 1))) fun x91 =>
                some (decide (x33.Y ≤ x91.Y))
              else
                some false) fun o30 =>
      if o30 then
        some (.inr (.inl false))
      else
        some (.inl (w64 (s22 + 1)))
    else
      some (.inr (.inr ()))
noncomputable def F_raddleref37_side (p0 : (List api_Point)) : Option Bool :=
  Option.bind (α := Bool) (
    if decide ((p0.length : Int) < 1) then
      some true
    else
      if decide (50 < (p0.length : Int)) then
        some true
      else
        Option.bind (idxO p0 0) fun x10 =>
        some (x10.Y != 0)) fun o5 =>
  if o5 then
    some false
  else
    Option.bind (α := Unit ⊕ Bool) (
      Option.bind (whileO (raddleref37_side_l1 p0) 0) fun z0 => match z0 with
        | .inl z =>
          some (.inr z)
        | .inr _ =>
          some (.inl ())) fun z0 => match z0 with
      | .inl _ =>
        some true
      | .inr z =>
        some z
set_option maxHeartbeats 4000000 in
set_option maxRecDepth 100000 in
theorem c_raddleref37_side (E : Nat → Prop) (w0 : World) (p0 : (List api_Point)) (v0 : Value) (r : Bool) (h : F_raddleref37_side p0 = some r) (S : St0 E [] w0 w0 [] [fRep (rL r_api_Point) (v0) p0]) :
    Calls Try.prog 49 #[v0] w0 (Ret (X := Unit) E [] w0 (fun _ => .bool r) (fun _ => []) (fun _ => [])) := by
  unfold F_raddleref37_side at h
  obtain ⟨ad1, cp2, _, rfl, _⟩ := S.know (i := 0) (e := fRep (rL r_api_Point) (v0) p0) (by kernel_rfl)
  refine sEnter (args := [.slice ad1 p0.length cp2]) 66 Try.func49 rfl rfl (by simp) S (fun a S => ?_)
  refine sSeq (fun K3 hK3 => ?_)
  refine sRegion ?_
  refine sMove (.bool false) S (wN rfl) (.inr rfl) (by kernel_rfl) rfl (by decide) (fun a S => ?_)
  refine leafL (leafT (hK3 _ _ ?_))
  refine sSeq (fun K4 hK4 => ?_)
  obtain ⟨t6, h, g7⟩ := bindSome h
  refine sCut (fun a w => ∃ o5, o5 = t6 ∧ St E [] w0 66 a w [(0, .slice ad1 p0.length cp2), (18, .bool o5)] [] [fRep (rL r_api_Point) (.slice ad1 p0.length cp2) p0]) ?_ (fun a w hI => ?_)
  · refine sRegion ?_
    refine sMove (.slice ad1 p0.length cp2) S (wN rfl) (.inl rfl) (by kernel_rfl) rfl (by decide) (fun a S => ?_)
    refine sLen (ad := ad1) (m := p0.length) (c := cp2) S (wN rfl) rfl Try.underlying24 (by kernel_rfl) rfl (by decide) (fun a S => ?_)
    refine sBin (.bool (decide ((p0.length : Int) < 1))) S (wN rfl) rfl (by kernel_rfl) (by kernel_rfl) (bLt _ _ _ _ .i64 (p0.length : Int) 1) rfl (by decide) (fun a S => ?_)
    refine sMove (.bool (decide ((p0.length : Int) < 1))) S (wN rfl) (.inl rfl) (by kernel_rfl) rfl (by decide) (fun a S => ?_)
    rcases iteSome h with ⟨hc8, h⟩ | ⟨hc8, h⟩
    · refine sSkip (c := decide ((p0.length : Int) < 1)) 3 false 7 8 S rfl rfl (by kernel_rfl) hc8 rfl (by decide) (fun a S => ?_)
      refine sSkip (c := decide ((p0.length : Int) < 1)) 3 false 7 9 S rfl rfl (by kernel_rfl) hc8 rfl (by decide) (fun a S => ?_)
      refine sSkip (c := decide ((p0.length : Int) < 1)) 3 false 7 10 S rfl rfl (by kernel_rfl) hc8 rfl (by decide) (fun a S => ?_)
      refine sPickT (b := decide ((p0.length : Int) < 1)) (.bool true) S (wN rfl) rfl (by kernel_rfl) hc8 (by kernel_rfl) rfl (by decide) (fun a S => ?_)
      refine sMove (.bool true) S (wN rfl) (.inl rfl) (by kernel_rfl) rfl (by decide) (fun a S => ?_)
      refine sSkip (c := true) 8 false 12 13 S rfl rfl (by kernel_rfl) rfl rfl (by decide) (fun a S => ?_)
      refine sSkip (c := true) 8 false 12 14 S rfl rfl (by kernel_rfl) rfl rfl (by decide) (fun a S => ?_)
      refine sSkip (c := true) 8 false 12 15 S rfl rfl (by kernel_rfl) rfl rfl (by decide) (fun a S => ?_)
      refine sSkip (c := true) 8 false 12 16 S rfl rfl (by kernel_rfl) rfl rfl (by decide) (fun a S => ?_)
      refine sSkip (c := true) 8 false 12 17 S rfl rfl (by kernel_rfl) rfl rfl (by decide) (fun a S => ?_)
      refine sPickT (b := true) (.bool true) S (wN rfl) rfl (by kernel_rfl) rfl (by kernel_rfl) rfl (by decide) (fun a S => ?_)
      exact leafL (leafT (⟨true, Option.some.inj h, S.fix [] [0] (by decide) (by kernel_rfl) (by kernel_rfl) (by kernel_rfl)⟩))
    · refine sMove (.slice ad1 p0.length cp2) S (wG (c := decide ((p0.length : Int) < 1)) 3 false 7 rfl rfl (by kernel_rfl) hc8) (.inl rfl) (by kernel_rfl) rfl (by decide) (fun a S => ?_)
      refine sLen (ad := ad1) (m := p0.length) (c := cp2) S (wG (c := decide ((p0.length : Int) < 1)) 3 false 7 rfl rfl (by kernel_rfl) hc8) rfl Try.underlying24 (by kernel_rfl) rfl (by decide) (fun a S => ?_)
      refine sBin (.bool (decide (50 < (p0.length : Int)))) S (wG (c := decide ((p0.length : Int) < 1)) 3 false 7 rfl rfl (by kernel_rfl) hc8) rfl (by kernel_rfl) (by kernel_rfl) (bGt _ _ _ _ .i64 (p0.length : Int) 50) rfl (by decide) (fun a S => ?_)
      refine sPickF (b := decide ((p0.length : Int) < 1)) (.bool (decide (50 < (p0.length : Int)))) S (wN rfl) rfl (by kernel_rfl) hc8 (by kernel_rfl) rfl (by decide) (fun a S => ?_)
      refine sMove (.bool (decide (50 < (p0.length : Int)))) S (wN rfl) (.inl rfl) (by kernel_rfl) rfl (by decide) (fun a S => ?_)
      rcases iteSome h with ⟨hc9, h⟩ | ⟨hc9, h⟩
      · refine sSkip (c := decide (50 < (p0.length : Int))) 8 false 12 13 S rfl rfl (by kernel_rfl) hc9 rfl (by decide) (fun a S => ?_)
        refine sSkip (c := decide (50 < (p0.length : Int))) 8 false 12 14 S rfl rfl (by kernel_rfl) hc9 rfl (by decide) (fun a S => ?_)
        refine sSkip (c := decide (50 < (p0.length : Int))) 8 false 12 15 S rfl rfl (by kernel_rfl) hc9 rfl (by decide) (fun a S => ?_)
        refine sSkip (c := decide (50 < (p0.length : Int))) 8 false 12 16 S rfl rfl (by kernel_rfl) hc9 rfl (by decide) (fun a S => ?_)
        refine sSkip (c := decide (50 < (p0.length : Int))) 8 false 12 17 S rfl rfl (by kernel_rfl) hc9 rfl (by decide) (fun a S => ?_)
        refine sPickT (b := decide (50 < (p0.length : Int))) (.bool true) S (wN rfl) rfl (by kernel_rfl) hc9 (by kernel_rfl) rfl (by decide) (fun a S => ?_)
        exact leafL (leafT (⟨true, Option.some.inj h, S.fix [] [0] (by decide) (by kernel_rfl) (by kernel_rfl) (by kernel_rfl)⟩))
      · refine sMove (.slice ad1 p0.length cp2) S (wG (c := decide (50 < (p0.length : Int))) 8 false 12 rfl rfl (by kernel_rfl) hc9) (.inl rfl) (by kernel_rfl) rfl (by decide) (fun a S => ?_)
        obtain ⟨x10, hx11, h⟩ := bindSome h
        obtain ⟨q12, hq13, S⟩ := pIdx (P := Try.prog) (r := r_api_Point) (v := .slice ad1 p0.length cp2) (xs := p0) (j := 0) 24 75 0 S Try.underlying24 (by kernel_rfl) (by kernel_rfl) hx11
        refine sIdxV (v := .slice ad1 p0.length cp2) (k := .i64) (j := 0) S (wG (c := decide (50 < (p0.length : Int))) 8 false 12 rfl rfl (by kernel_rfl) hc9) rfl (by kernel_rfl) (by kernel_rfl) hq13 rfl (by decide) (fun a S => ?_)
        obtain ⟨q14, hq15, S⟩ := pFld (P := Try.prog) (r := r_api_Point) (s2 := (rI .i64)) (g := (·.Y)) (q := q12) (z := x10) 75 1 0 1 S (by kernel_rfl) (by kernel_rfl) comp_api_Point_Y
        refine sFldV (q := q12) S (wG (c := decide (50 < (p0.length : Int))) 8 false 12 rfl rfl (by kernel_rfl) hc9) rfl (by kernel_rfl) hq15 rfl (by decide) (fun a S => ?_)
        obtain ⟨u16, S⟩ := pLoad (r := (rI .i64)) (q := q14) (x := x10.Y) 0 S (by kernel_rfl)
        obtain rfl : u16 = .int .i64 x10.Y := S.mem.know (i := 1) (e := fRep (rI .i64) (u16) x10.Y) (by kernel_rfl)
        refine sLoadV1 (vq := q14) 0 (.int .i64 x10.Y) S (wG (c := decide (50 < (p0.length : Int))) 8 false 12 rfl rfl (by kernel_rfl) hc9) rfl (by kernel_rfl) (by kernel_rfl) (by kernel_rfl) rfl (by decide) (fun a S => ?_)
        refine sBin (.bool (x10.Y != 0)) S (wG (c := decide (50 < (p0.length : Int))) 8 false 12 rfl rfl (by kernel_rfl) hc9) rfl (by kernel_rfl) (by kernel_rfl) (bNe _ _ _ _ .i64 x10.Y 0) rfl (by decide) (fun a S => ?_)
        refine sPickF (b := decide (50 < (p0.length : Int))) (.bool (x10.Y != 0)) S (wN rfl) rfl (by kernel_rfl) hc9 (by kernel_rfl) rfl (by decide) (fun a S => ?_)
        exact leafL (leafT (⟨x10.Y != 0, Option.some.inj h, S.fix [] [4] (by decide) (by kernel_rfl) (by kernel_rfl) (by kernel_rfl)⟩))
  · obtain ⟨o5, rfl, S⟩ := hI
    have h := g7
    clear g7
    try dsimp only at h
    rcases iteSome h with ⟨hc17, h⟩ | ⟨hc17, h⟩
    · refine sCondT (b := o5) S (by kernel_rfl) hc17 ?_
      refine sSeq (fun K18 hK18 => ?_)
      refine sRegion ?_
      refine sMove (.bool false) S (wN rfl) (.inr rfl) (by kernel_rfl) rfl (by decide) (fun a S => ?_)
      refine leafL (leafT (hK18 _ _ ?_))
      obtain rfl := Option.some.inj h
      exact wp_ret (rThen (sRet (.bool false) S (rsl1 rfl (rvT (t := 2) (v := .bool false) S (by kernel_rfl))) ⟨(), rfl, S.mem.sel [] [] (by decide) (by kernel_rfl) (by kernel_rfl)⟩))
    · refine sCondF (b := o5) S (by kernel_rfl) hc17 ?_
      refine wp_skip (leafT (hK4 _ _ ?_))
      obtain ⟨t19, h, g20⟩ := bindSome h
      refine sCut (fun a w => .inl () = t19 ∧ St E [] w0 66 a w [] [] []) ?_ (fun a w hI => ?_)
      · refine sSeq (fun K21 hK21 => ?_)
        refine sRegion ?_
        refine sMove (.int .i64 0) S (wN rfl) (.inr rfl) (by kernel_rfl) rfl (by decide) (fun a S => ?_)
        refine leafL (leafT (hK21 _ _ ?_))
        refine wp_block ?_
        obtain ⟨t25, hl, g24⟩ := bindSome h
        refine sLoop hl (fun s0 a w => match s0 with | s22 => St E [] w0 66 a w [(0, .slice ad1 p0.length cp2), (3, .int .i64 s22)] [] [fRep (rL r_api_Point) (.slice ad1 p0.length cp2) p0]) (S.fix [] [0] (by decide) (by kernel_rfl) (by kernel_rfl) (by kernel_rfl)) ?_
        clear hl h
        intro s22 a w c0 hI h hu23
        unfold raddleref37_side_l1 at h
        dsimp only at h hI
        have S := hI
        refine sSeq (fun K26 hK26 => ?_)
        refine sSeq (fun K27 hK27 => ?_)
        refine sRegion ?_
        refine sMove (.int .i64 s22) S (wN rfl) (.inl rfl) (by kernel_rfl) rfl (by decide) (fun a S => ?_)
        refine sMove (.slice ad1 p0.length cp2) S (wN rfl) (.inl rfl) (by kernel_rfl) rfl (by decide) (fun a S => ?_)
        refine sLen (ad := ad1) (m := p0.length) (c := cp2) S (wN rfl) rfl Try.underlying24 (by kernel_rfl) rfl (by decide) (fun a S => ?_)
        refine sBin (.bool (decide (s22 < (p0.length : Int)))) S (wN rfl) rfl (by kernel_rfl) (by kernel_rfl) (bLt _ _ _ _ .i64 s22 (p0.length : Int)) rfl (by decide) (fun a S => ?_)
        refine leafL (leafT (hK27 _ _ ?_))
        rcases iteSome h with ⟨hc28, h⟩ | ⟨hc28, h⟩
        · refine sCondT (b := decide (s22 < (p0.length : Int))) S (by kernel_rfl) hc28 ?_
          refine wp_skip (leafT (hK26 _ _ ?_))
          refine sSeq (fun K29 hK29 => ?_)
          refine wp_block ?_
          obtain ⟨t31, h, g32⟩ := bindSome h
          refine sCut (fun a w => ∃ o30, o30 = t31 ∧ St E [] w0 66 a w [(0, .slice ad1 p0.length cp2), (3, .int .i64 s22), (65, .bool o30)] [] [fRep (rL r_api_Point) (.slice ad1 p0.length cp2) p0]) ?_ (fun a w hI => ?_)
          · obtain ⟨x33, hx34, h⟩ := bindSome h
            obtain ⟨r40, hx41, h⟩ := bindSome h
            rcases iteSome h with ⟨hc42, h⟩ | ⟨hc42, h⟩
            · obtain ⟨q43, hq44, S⟩ := pIdx (P := Try.prog) (r := r_api_Point) (v := .slice ad1 p0.length cp2) (xs := p0) (j := s22) 24 75 0 S Try.underlying24 (by kernel_rfl) (by kernel_rfl) hx34
              obtain ⟨q45, hq46, S⟩ := pFld (P := Try.prog) (r := r_api_Point) (s2 := (rI .i64)) (g := (·.X)) (q := q43) (z := x33) 75 0 0 0 S (by kernel_rfl) (by kernel_rfl) comp_api_Point_X
              obtain ⟨u47, S⟩ := pLoad (r := (rI .i64)) (q := q45) (x := x33.X) 0 S (by kernel_rfl)
              obtain rfl : u47 = .int .i64 x33.X := S.mem.know (i := 1) (e := fRep (rI .i64) (u47) x33.X) (by kernel_rfl)
              refine sDraw (nf := []) (W := [(0, 25, .slice ad1 p0.length cp2), (1, 26, .int .i64 s22), (2, 27, q43), (3, 28, q45), (4, 29, .int .i64 x33.X), (5, 30, .bool r40), (6, 31, .bool (!r40)), (7, 32, .bool (!r40)), (8, 33, undef), (9, 34, undef), (10, 35, undef), (11, 36, undef), (12, 37, undef), (13, 38, undef), (14, 39, .bool true), (15, 40, .bool true), (16, 41, undef), (17, 42, undef), (18, 43, undef), (19, 44, undef), (20, 45, undef), (21, 46, undef), (22, 47, .bool true), (23, 48, .bool true), (24, 49, undef), (25, 50, undef), (26, 51, undef), (27, 52, undef), (28, 53, undef), (29, 54, undef), (30, 55, undef), (31, 56, undef), (32, 57, undef), (33, 58, undef), (34, 59, undef), (35, 60, undef), (36, 61, undef), (37, 62, undef), (38, 63, undef), (39, 64, undef), (40, 65, .bool true)]) (by kernel_rfl) S ?_
              refine node_by (A := anc_raddleref37_side_0) (nf := []) (Y := []) (W := [(0, 25, .slice ad1 p0.length cp2), (1, 26, .int .i64 s22), (2, 27, q43), (3, 28, q45), (4, 29, .int .i64 x33.X), (5, 30, .bool r40), (6, 31, .bool (!r40)), (7, 32, .bool (!r40)), (8, 33, undef), (9, 34, undef), (10, 35, undef), (11, 36, undef), (12, 37, undef), (13, 38, undef), (14, 39, .bool true), (15, 40, .bool true), (16, 41, undef), (17, 42, undef), (18, 43, undef), (19, 44, undef), (20, 45, undef), (21, 46, undef), (22, 47, .bool true), (23, 48, .bool true), (24, 49, undef), (25, 50, undef), (26, 51, undef), (27, 52, undef), (28, 53, undef), (29, 54, undef), (30, 55, undef), (31, 56, undef), (32, 57, undef), (33, 58, undef), (34, 59, undef), (35, 60, undef), (36, 61, undef), (37, 62, undef), (38, 63, undef), (39, 64, undef), (40, 65, .bool true)]) 41 (by kernel_rfl) (by kernel_rfl) (by kernel_rfl) (by kernel_rfl) (by kernel_rfl) [0, 1, 2, 3, 4, 5, 6, 7, 8, 9, 10, 11, 12, 13, 14, 15, 16, 17, 18, 19, 20, 21, 22, 23, 24, 25, 26, 27, 28, 29, 30, 31, 32, 33, 34, 35, 36, 37, 38, 39, 40] (by kernel_rfl) (by decide) (by decide) (aF 0 40 (by decide) ?_ (aF 1 39 (by decide) ?_ (aF 2 38 (by decide) ?_ (aF 3 37 (by decide) ?_ (aF 4 36 (by decide) ?_ (aF 5 35 (by decide) ?_ (aF 6 34 (by decide) ?_ (aF 7 33 (by decide) ?_ (aF 8 32 (by decide) ?_ (aF 9 31 (by decide) ?_ (aF 10 30 (by decide) ?_ (aF 11 29 (by decide) ?_ (aF 12 28 (by decide) ?_ (aF 13 27 (by decide) ?_ (aF 14 26 (by decide) ?_ (aF 15 25 (by decide) ?_ (aF 16 24 (by decide) ?_ (aF 17 23 (by decide) ?_ (aF 18 22 (by decide) ?_ (aF 19 21 (by decide) ?_ (aF 20 20 (by decide) ?_ (aF 21 19 (by decide) ?_ (aF 22 18 (by decide) ?_ (aF 23 17 (by decide) ?_ (aF 24 16 (by decide) ?_ (aF 25 15 (by decide) ?_ (aF 26 14 (by decide) ?_ (aF 27 13 (by decide) ?_ (aF 28 12 (by decide) ?_ (aF 29 11 (by decide) ?_ (aF 30 10 (by decide) ?_ (aF 31 9 (by decide) ?_ (aF 32 8 (by decide) ?_ (aF 33 7 (by decide) ?_ (aF 34 6 (by decide) ?_ (aF 35 5 (by decide) ?_ (aF 36 4 (by decide) ?_ (aF 37 3 (by decide) ?_ (aF 38 2 (by decide) ?_ (aF 39 1 (by decide) ?_ (aF 40 0 (by decide) ?_ (trivial)))))))))))))))))))))))))))))))))))))))))) [(0, .slice ad1 p0.length cp2), (3, .int .i64 s22), (33, undef), (34, undef), (35, undef), (36, undef), (37, undef), (38, undef), (41, undef), (42, undef), (43, undef), (44, undef), (45, undef), (46, undef), (49, undef), (50, undef), (51, undef), (52, undef), (53, undef), (54, undef), (55, undef), (56, undef), (57, undef), (58, undef), (59, undef), (60, undef), (61, undef), (62, undef), (63, undef), (64, undef), (65, .bool true)] (fin_of [none, none, some 8, some 9, some 10, some 11, some 12, some 13, some 16, some 17, some 18, some 19, some 20, some 21, some 24, some 25, some 26, some 27, some 28, some 29, some 30, some 31, some 32, some 33, some 34, some 35, some 36, some 37, some 38, some 39, some 40] rfl (by kernel_rfl) (by kernel_rfl)) (fun _ a w S => ?_)
              · refine fI 25 (.slice ad1 p0.length cp2) [(0, .slice ad1 p0.length cp2)] 0 [none] rfl rfl (by kernel_rfl) rfl (by kernel_rfl) (by kernel_rfl) fun G a w S => ?_
                refine sMove (.slice ad1 p0.length cp2) S (wN rfl) (.inl rfl) (by kernel_rfl) rfl (by decide) (fun a S => ?_)
                exact leafL ⟨rfl, S⟩
              · refine fI 26 (.int .i64 s22) [(3, .int .i64 s22)] 1 [none] rfl rfl (by kernel_rfl) rfl (by kernel_rfl) (by kernel_rfl) fun G a w S => ?_
                refine sMove (.int .i64 s22) S (wN rfl) (.inl rfl) (by kernel_rfl) rfl (by decide) (fun a S => ?_)
                exact leafL ⟨rfl, S⟩
              · refine fI 27 q43 [(25, .slice ad1 p0.length cp2), (26, .int .i64 s22)] 2 [some 0, some 1] rfl rfl (by kernel_rfl) rfl (by kernel_rfl) (by kernel_rfl) fun G a w S => ?_
                refine sIdxV (v := .slice ad1 p0.length cp2) (k := .i64) (j := s22) S (wN rfl) rfl (by kernel_rfl) (by kernel_rfl) hq44 rfl (by decide) (fun a S => ?_)
                exact leafL ⟨rfl, S⟩
              · refine fI 28 q45 [(27, q43)] 3 [some 2] rfl rfl (by kernel_rfl) rfl (by kernel_rfl) (by kernel_rfl) fun G a w S => ?_
                refine sFldV (q := q43) S (wN rfl) rfl (by kernel_rfl) hq46 rfl (by decide) (fun a S => ?_)
                exact leafL ⟨rfl, S⟩
              · refine fI 29 (.int .i64 x33.X) [(28, q45)] 4 [some 3] rfl rfl (by kernel_rfl) rfl (by kernel_rfl) (by kernel_rfl) fun G a w S => ?_
                refine sLoadV1 (vq := q45) 0 (.int .i64 x33.X) S (wN rfl) rfl (by kernel_rfl) (by kernel_rfl) (by kernel_rfl) rfl (by decide) (fun a S => ?_)
                exact leafL ⟨rfl, S⟩
              · refine fI 30 (.bool r40) [(29, .int .i64 x33.X)] 5 [some 4] rfl rfl (by kernel_rfl) rfl (by kernel_rfl) (by kernel_rfl) fun G a w S => ?_
                have S1 := S.mem
                refine sCallQ (X := Unit) (f := 34) (vs := [.int .i64 x33.X]) (val := fun _ => .bool r40) S (wN rfl) rfl callee34 (by kernel_rfl) (S1.quiet [] (by kernel_rfl)) (fun E1 w1 S1 => c_raddleref37_in E1 w1 x33.X r40 hx41 S1) rfl (by decide) (fun _ a w S => ?_)
                exact leafL ⟨rfl, S⟩
              · refine fI 31 (.bool (!r40)) [(30, .bool r40)] 6 [some 5] rfl rfl (by kernel_rfl) rfl (by kernel_rfl) (by kernel_rfl) fun G a w S => ?_
                refine sNot (b := r40) S (wN rfl) rfl (by kernel_rfl) rfl (by decide) (fun a S => ?_)
                exact leafL ⟨rfl, S⟩
              · refine fI 32 (.bool (!r40)) [(31, .bool (!r40))] 7 [some 6] rfl rfl (by kernel_rfl) rfl (by kernel_rfl) (by kernel_rfl) fun G a w S => ?_
                refine sMove (.bool (!r40)) S (wN rfl) (.inl rfl) (by kernel_rfl) rfl (by decide) (fun a S => ?_)
                exact leafL ⟨rfl, S⟩
              · refine fI 33 undef [(0, .slice ad1 p0.length cp2), (32, .bool (!r40))] 8 [none, some 7] rfl rfl (by kernel_rfl) rfl (by kernel_rfl) (by kernel_rfl) fun G a w S => ?_
                refine sSkip (c := !r40) 7 false 32 33 S rfl rfl (by kernel_rfl) hc42 rfl (by decide) (fun a S => ?_)
                exact leafL ⟨rfl, S⟩
              · refine fI 34 undef [(3, .int .i64 s22), (32, .bool (!r40))] 9 [none, some 7] rfl rfl (by kernel_rfl) rfl (by kernel_rfl) (by kernel_rfl) fun G a w S => ?_
                refine sSkip (c := !r40) 7 false 32 34 S rfl rfl (by kernel_rfl) hc42 rfl (by decide) (fun a S => ?_)
                exact leafL ⟨rfl, S⟩
              · refine fI 35 undef [(33, undef), (34, undef), (32, .bool (!r40))] 10 [some 8, some 9, some 7] rfl rfl (by kernel_rfl) rfl (by kernel_rfl) (by kernel_rfl) fun G a w S => ?_
                refine sSkip (c := !r40) 7 false 32 35 S rfl rfl (by kernel_rfl) hc42 rfl (by decide) (fun a S => ?_)
                exact leafL ⟨rfl, S⟩
              · refine fI 36 undef [(35, undef), (32, .bool (!r40))] 11 [some 10, some 7] rfl rfl (by kernel_rfl) rfl (by kernel_rfl) (by kernel_rfl) fun G a w S => ?_
                refine sSkip (c := !r40) 7 false 32 36 S rfl rfl (by kernel_rfl) hc42 rfl (by decide) (fun a S => ?_)
                exact leafL ⟨rfl, S⟩
              · refine fI 37 undef [(36, undef), (32, .bool (!r40))] 12 [some 11, some 7] rfl rfl (by kernel_rfl) rfl (by kernel_rfl) (by kernel_rfl) fun G a w S => ?_
                refine sSkip (c := !r40) 7 false 32 37 S rfl rfl (by kernel_rfl) hc42 rfl (by decide) (fun a S => ?_)
                exact leafL ⟨rfl, S⟩
              · refine fI 38 undef [(37, undef), (32, .bool (!r40))] 13 [some 12, some 7] rfl rfl (by kernel_rfl) rfl (by kernel_rfl) (by kernel_rfl) fun G a w S => ?_
                refine sSkip (c := !r40) 7 false 32 38 S rfl rfl (by kernel_rfl) hc42 rfl (by decide) (fun a S => ?_)
                exact leafL ⟨rfl, S⟩
              · refine fI 39 (.bool true) [(32, .bool (!r40)), (38, undef)] 14 [some 7, some 13] rfl rfl (by kernel_rfl) rfl (by kernel_rfl) (by kernel_rfl) fun G a w S => ?_
                refine sPickT (b := !r40) (.bool true) S (wN rfl) rfl (by kernel_rfl) hc42 (by kernel_rfl) rfl (by decide) (fun a S => ?_)
                exact leafL ⟨rfl, S⟩
              · refine fI 40 (.bool true) [(39, .bool true)] 15 [some 14] rfl rfl (by kernel_rfl) rfl (by kernel_rfl) (by kernel_rfl) fun G a w S => ?_
                refine sMove (.bool true) S (wN rfl) (.inl rfl) (by kernel_rfl) rfl (by decide) (fun a S => ?_)
                exact leafL ⟨rfl, S⟩
              · refine fI 41 undef [(0, .slice ad1 p0.length cp2), (40, .bool true)] 16 [none, some 15] rfl rfl (by kernel_rfl) rfl (by kernel_rfl) (by kernel_rfl) fun G a w S => ?_
                refine sSkip (c := true) 15 false 40 41 S rfl rfl (by kernel_rfl) rfl rfl (by decide) (fun a S => ?_)
                exact leafL ⟨rfl, S⟩
              · refine fI 42 undef [(3, .int .i64 s22), (40, .bool true)] 17 [none, some 15] rfl rfl (by kernel_rfl) rfl (by kernel_rfl) (by kernel_rfl) fun G a w S => ?_
                refine sSkip (c := true) 15 false 40 42 S rfl rfl (by kernel_rfl) rfl rfl (by decide) (fun a S => ?_)
                exact leafL ⟨rfl, S⟩
              · refine fI 43 undef [(41, undef), (42, undef), (40, .bool true)] 18 [some 16, some 17, some 15] rfl rfl (by kernel_rfl) rfl (by kernel_rfl) (by kernel_rfl) fun G a w S => ?_
                refine sSkip (c := true) 15 false 40 43 S rfl rfl (by kernel_rfl) rfl rfl (by decide) (fun a S => ?_)
                exact leafL ⟨rfl, S⟩
              · refine fI 44 undef [(43, undef), (40, .bool true)] 19 [some 18, some 15] rfl rfl (by kernel_rfl) rfl (by kernel_rfl) (by kernel_rfl) fun G a w S => ?_
                refine sSkip (c := true) 15 false 40 44 S rfl rfl (by kernel_rfl) rfl rfl (by decide) (fun a S => ?_)
                exact leafL ⟨rfl, S⟩
              · refine fI 45 undef [(44, undef), (40, .bool true)] 20 [some 19, some 15] rfl rfl (by kernel_rfl) rfl (by kernel_rfl) (by kernel_rfl) fun G a w S => ?_
                refine sSkip (c := true) 15 false 40 45 S rfl rfl (by kernel_rfl) rfl rfl (by decide) (fun a S => ?_)
                exact leafL ⟨rfl, S⟩
              · refine fI 46 undef [(45, undef), (40, .bool true)] 21 [some 20, some 15] rfl rfl (by kernel_rfl) rfl (by kernel_rfl) (by kernel_rfl) fun G a w S => ?_
                refine sSkip (c := true) 15 false 40 46 S rfl rfl (by kernel_rfl) rfl rfl (by decide) (fun a S => ?_)
                exact leafL ⟨rfl, S⟩
              · refine fI 47 (.bool true) [(40, .bool true), (46, undef)] 22 [some 15, some 21] rfl rfl (by kernel_rfl) rfl (by kernel_rfl) (by kernel_rfl) fun G a w S => ?_
                refine sPickT (b := true) (.bool true) S (wN rfl) rfl (by kernel_rfl) rfl (by kernel_rfl) rfl (by decide) (fun a S => ?_)
                exact leafL ⟨rfl, S⟩
              · refine fI 48 (.bool true) [(47, .bool true)] 23 [some 22] rfl rfl (by kernel_rfl) rfl (by kernel_rfl) (by kernel_rfl) fun G a w S => ?_
                refine sMove (.bool true) S (wN rfl) (.inl rfl) (by kernel_rfl) rfl (by decide) (fun a S => ?_)
                exact leafL ⟨rfl, S⟩
              · refine fI 49 undef [(3, .int .i64 s22), (48, .bool true)] 24 [none, some 23] rfl rfl (by kernel_rfl) rfl (by kernel_rfl) (by kernel_rfl) fun G a w S => ?_
                refine sSkip (c := true) 23 false 48 49 S rfl rfl (by kernel_rfl) rfl rfl (by decide) (fun a S => ?_)
                exact leafL ⟨rfl, S⟩
              · refine fI 50 undef [(49, undef), (48, .bool true)] 25 [some 24, some 23] rfl rfl (by kernel_rfl) rfl (by kernel_rfl) (by kernel_rfl) fun G a w S => ?_
                refine sSkip (c := true) 23 false 48 50 S rfl rfl (by kernel_rfl) rfl rfl (by decide) (fun a S => ?_)
                exact leafL ⟨rfl, S⟩
              · refine fI 51 undef [(50, undef), (48, .bool true)] 26 [some 25, some 23] rfl rfl (by kernel_rfl) rfl (by kernel_rfl) (by kernel_rfl) fun G a w S => ?_
                refine sSkip (c := true) 23 false 48 51 S rfl rfl (by kernel_rfl) rfl rfl (by decide) (fun a S => ?_)
                exact leafL ⟨rfl, S⟩
              · refine fI 52 undef [(0, .slice ad1 p0.length cp2), (51, undef)] 27 [none, some 26] rfl rfl (by kernel_rfl) rfl (by kernel_rfl) (by kernel_rfl) fun G a w S => ?_
                refine sSkipU 26 true 51 52 S rfl rfl (by kernel_rfl) rfl (by decide) (fun a S => ?_)
                exact leafL ⟨rfl, S⟩
              · refine fI 53 undef [(3, .int .i64 s22), (51, undef)] 28 [none, some 26] rfl rfl (by kernel_rfl) rfl (by kernel_rfl) (by kernel_rfl) fun G a w S => ?_
                refine sSkipU 26 true 51 53 S rfl rfl (by kernel_rfl) rfl (by decide) (fun a S => ?_)
                exact leafL ⟨rfl, S⟩
              · refine fI 54 undef [(52, undef), (53, undef), (51, undef)] 29 [some 27, some 28, some 26] rfl rfl (by kernel_rfl) rfl (by kernel_rfl) (by kernel_rfl) fun G a w S => ?_
                refine sSkipU 26 true 51 54 S rfl rfl (by kernel_rfl) rfl (by decide) (fun a S => ?_)
                exact leafL ⟨rfl, S⟩
              · refine fI 55 undef [(54, undef), (51, undef)] 30 [some 29, some 26] rfl rfl (by kernel_rfl) rfl (by kernel_rfl) (by kernel_rfl) fun G a w S => ?_
                refine sSkipU 26 true 51 55 S rfl rfl (by kernel_rfl) rfl (by decide) (fun a S => ?_)
                exact leafL ⟨rfl, S⟩
              · refine fI 56 undef [(55, undef), (51, undef)] 31 [some 30, some 26] rfl rfl (by kernel_rfl) rfl (by kernel_rfl) (by kernel_rfl) fun G a w S => ?_
                refine sSkipU 26 true 51 56 S rfl rfl (by kernel_rfl) rfl (by decide) (fun a S => ?_)
                exact leafL ⟨rfl, S⟩
              · refine fI 57 undef [(0, .slice ad1 p0.length cp2), (51, undef)] 32 [none, some 26] rfl rfl (by kernel_rfl) rfl (by kernel_rfl) (by kernel_rfl) fun G a w S => ?_
                refine sSkipU 26 true 51 57 S rfl rfl (by kernel_rfl) rfl (by decide) (fun a S => ?_)
                exact leafL ⟨rfl, S⟩
              · refine fI 58 undef [(3, .int .i64 s22), (51, undef)] 33 [none, some 26] rfl rfl (by kernel_rfl) rfl (by kernel_rfl) (by kernel_rfl) fun G a w S => ?_
                refine sSkipU 26 true 51 58 S rfl rfl (by kernel_rfl) rfl (by decide) (fun a S => ?_)
                exact leafL ⟨rfl, S⟩
              · refine fI 59 undef [(58, undef), (51, undef)] 34 [some 33, some 26] rfl rfl (by kernel_rfl) rfl (by kernel_rfl) (by kernel_rfl) fun G a w S => ?_
                refine sSkipU 26 true 51 59 S rfl rfl (by kernel_rfl) rfl (by decide) (fun a S => ?_)
                exact leafL ⟨rfl, S⟩
              · refine fI 60 undef [(57, undef), (59, undef), (51, undef)] 35 [some 32, some 34, some 26] rfl rfl (by kernel_rfl) rfl (by kernel_rfl) (by kernel_rfl) fun G a w S => ?_
                refine sSkipU 26 true 51 60 S rfl rfl (by kernel_rfl) rfl (by decide) (fun a S => ?_)
                exact leafL ⟨rfl, S⟩
              · refine fI 61 undef [(60, undef), (51, undef)] 36 [some 35, some 26] rfl rfl (by kernel_rfl) rfl (by kernel_rfl) (by kernel_rfl) fun G a w S => ?_
                refine sSkipU 26 true 51 61 S rfl rfl (by kernel_rfl) rfl (by decide) (fun a S => ?_)
                exact leafL ⟨rfl, S⟩
              · refine fI 62 undef [(61, undef), (51, undef)] 37 [some 36, some 26] rfl rfl (by kernel_rfl) rfl (by kernel_rfl) (by kernel_rfl) fun G a w S => ?_
                refine sSkipU 26 true 51 62 S rfl rfl (by kernel_rfl) rfl (by decide) (fun a S => ?_)
                exact leafL ⟨rfl, S⟩
              · refine fI 63 undef [(56, undef), (62, undef), (51, undef)] 38 [some 31, some 37, some 26] rfl rfl (by kernel_rfl) rfl (by kernel_rfl) (by kernel_rfl) fun G a w S => ?_
                refine sSkipU 26 true 51 63 S rfl rfl (by kernel_rfl) rfl (by decide) (fun a S => ?_)
                exact leafL ⟨rfl, S⟩
              · refine fI 64 undef [(51, undef), (63, undef), (48, .bool true)] 39 [some 26, some 38, some 23] rfl rfl (by kernel_rfl) rfl (by kernel_rfl) (by kernel_rfl) fun G a w S => ?_
                refine sSkip (c := true) 23 false 48 64 S rfl rfl (by kernel_rfl) rfl rfl (by decide) (fun a S => ?_)
                exact leafL ⟨rfl, S⟩
              · refine fI 65 (.bool true) [(48, .bool true), (64, undef)] 40 [some 23, some 39] rfl rfl (by kernel_rfl) rfl (by kernel_rfl) (by kernel_rfl) fun G a w S => ?_
                refine sPickT (b := true) (.bool true) S (wN rfl) rfl (by kernel_rfl) rfl (by kernel_rfl) rfl (by decide) (fun a S => ?_)
                exact leafL ⟨rfl, S⟩
              · exact leafT (⟨true, Option.some.inj h, S.fix [] [4] (by decide) (by kernel_rfl) (by kernel_rfl) (by kernel_rfl)⟩)
            · rcases iteSome h with ⟨hc53, h⟩ | ⟨hc53, h⟩
              · obtain ⟨q54, hq55, S⟩ := pIdx (P := Try.prog) (r := r_api_Point) (v := .slice ad1 p0.length cp2) (xs := p0) (j := s22) 24 75 0 S Try.underlying24 (by kernel_rfl) (by kernel_rfl) hx34
                obtain ⟨q56, hq57, S⟩ := pFld (P := Try.prog) (r := r_api_Point) (s2 := (rI .i64)) (g := (·.X)) (q := q54) (z := x33) 75 0 0 0 S (by kernel_rfl) (by kernel_rfl) comp_api_Point_X
                obtain ⟨u58, S⟩ := pLoad (r := (rI .i64)) (q := q56) (x := x33.X) 0 S (by kernel_rfl)
                obtain rfl : u58 = .int .i64 x33.X := S.mem.know (i := 1) (e := fRep (rI .i64) (u58) x33.X) (by kernel_rfl)
                obtain ⟨q59, hq60, S⟩ := pIdx (P := Try.prog) (r := r_api_Point) (v := .slice ad1 p0.length cp2) (xs := p0) (j := s22) 24 75 4 S Try.underlying24 (by kernel_rfl) (by kernel_rfl) hx34
                obtain ⟨q61, hq62, S⟩ := pFld (P := Try.prog) (r := r_api_Point) (s2 := (rI .i64)) (g := (·.Y)) (q := q59) (z := x33) 75 1 0 1 S (by kernel_rfl) (by kernel_rfl) comp_api_Point_Y
                obtain ⟨u63, S⟩ := pLoad (r := (rI .i64)) (q := q61) (x := x33.Y) 0 S (by kernel_rfl)
                obtain rfl : u63 = .int .i64 x33.Y := S.mem.know (i := 1) (e := fRep (rI .i64) (u63) x33.Y) (by kernel_rfl)
                refine sDraw (nf := []) (W := [(0, 25, .slice ad1 p0.length cp2), (1, 26, .int .i64 s22), (2, 27, q54), (3, 28, q56), (4, 29, .int .i64 x33.X), (5, 30, .bool r40), (6, 31, .bool (!r40)), (7, 32, .bool (!r40)), (8, 33, .slice ad1 p0.length cp2), (9, 34, .int .i64 s22), (10, 35, q59), (11, 36, q61), (12, 37, .int .i64 x33.Y), (13, 38, .bool (decide (x33.Y < 0))), (14, 39, .bool (decide (x33.Y < 0))), (15, 40, .bool (decide (x33.Y < 0))), (16, 41, undef), (17, 42, undef), (18, 43, undef), (19, 44, undef), (20, 45, undef), (21, 46, undef), (22, 47, .bool true), (23, 48, .bool true), (24, 49, undef), (25, 50, undef), (26, 51, undef), (27, 52, undef), (28, 53, undef), (29, 54, undef), (30, 55, undef), (31, 56, undef), (32, 57, undef), (33, 58, undef), (34, 59, undef), (35, 60, undef), (36, 61, undef), (37, 62, undef), (38, 63, undef), (39, 64, undef), (40, 65, .bool true)]) (by kernel_rfl) S ?_
                refine node_by (A := anc_raddleref37_side_0) (nf := []) (Y := []) (W := [(0, 25, .slice ad1 p0.length cp2), (1, 26, .int .i64 s22), (2, 27, q54), (3, 28, q56), (4, 29, .int .i64 x33.X), (5, 30, .bool r40), (6, 31, .bool (!r40)), (7, 32, .bool (!r40)), (8, 33, .slice ad1 p0.length cp2), (9, 34, .int .i64 s22), (10, 35, q59), (11, 36, q61), (12, 37, .int .i64 x33.Y), (13, 38, .bool (decide (x33.Y < 0))), (14, 39, .bool (decide (x33.Y < 0))), (15, 40, .bool (decide (x33.Y < 0))), (16, 41, undef), (17, 42, undef), (18, 43, undef), (19, 44, undef), (20, 45, undef), (21, 46, undef), (22, 47, .bool true), (23, 48, .bool true), (24, 49, undef), (25, 50, undef), (26, 51, undef), (27, 52, undef), (28, 53, undef), (29, 54, undef), (30, 55, undef), (31, 56, undef), (32, 57, undef), (33, 58, undef), (34, 59, undef), (35, 60, undef), (36, 61, undef), (37, 62, undef), (38, 63, undef), (39, 64, undef), (40, 65, .bool true)]) 41 (by kernel_rfl) (by kernel_rfl) (by kernel_rfl) (by kernel_rfl) (by kernel_rfl) [0, 1, 2, 3, 4, 5, 6, 7, 8, 9, 10, 11, 12, 13, 14, 15, 16, 17, 18, 19, 20, 21, 22, 23, 24, 25, 26, 27, 28, 29, 30, 31, 32, 33, 34, 35, 36, 37, 38, 39, 40] (by kernel_rfl) (by decide) (by decide) (aF 0 40 (by decide) ?_ (aF 1 39 (by decide) ?_ (aF 2 38 (by decide) ?_ (aF 3 37 (by decide) ?_ (aF 4 36 (by decide) ?_ (aF 5 35 (by decide) ?_ (aF 6 34 (by decide) ?_ (aF 7 33 (by decide) ?_ (aF 8 32 (by decide) ?_ (aF 9 31 (by decide) ?_ (aF 10 30 (by decide) ?_ (aF 11 29 (by decide) ?_ (aF 12 28 (by decide) ?_ (aF 13 27 (by decide) ?_ (aF 14 26 (by decide) ?_ (aF 15 25 (by decide) ?_ (aF 16 24 (by decide) ?_ (aF 17 23 (by decide) ?_ (aF 18 22 (by decide) ?_ (aF 19 21 (by decide) ?_ (aF 20 20 (by decide) ?_ (aF 21 19 (by decide) ?_ (aF 22 18 (by decide) ?_ (aF 23 17 (by decide) ?_ (aF 24 16 (by decide) ?_ (aF 25 15 (by decide) ?_ (aF 26 14 (by decide) ?_ (aF 27 13 (by decide) ?_ (aF 28 12 (by decide) ?_ (aF 29 11 (by decide) ?_ (aF 30 10 (by decide) ?_ (aF 31 9 (by decide) ?_ (aF 32 8 (by decide) ?_ (aF 33 7 (by decide) ?_ (aF 34 6 (by decide) ?_ (aF 35 5 (by decide) ?_ (aF 36 4 (by decide) ?_ (aF 37 3 (by decide) ?_ (aF 38 2 (by decide) ?_ (aF 39 1 (by decide) ?_ (aF 40 0 (by decide) ?_ (trivial)))))))))))))))))))))))))))))))))))))))))) [(0, .slice ad1 p0.length cp2), (3, .int .i64 s22), (33, .slice ad1 p0.length cp2), (34, .int .i64 s22), (35, q59), (36, q61), (37, .int .i64 x33.Y), (38, .bool (decide (x33.Y < 0))), (41, undef), (42, undef), (43, undef), (44, undef), (45, undef), (46, undef), (49, undef), (50, undef), (51, undef), (52, undef), (53, undef), (54, undef), (55, undef), (56, undef), (57, undef), (58, undef), (59, undef), (60, undef), (61, undef), (62, undef), (63, undef), (64, undef), (65, .bool true)] (fin_of [none, none, some 8, some 9, some 10, some 11, some 12, some 13, some 16, some 17, some 18, some 19, some 20, some 21, some 24, some 25, some 26, some 27, some 28, some 29, some 30, some 31, some 32, some 33, some 34, some 35, some 36, some 37, some 38, some 39, some 40] rfl (by kernel_rfl) (by kernel_rfl)) (fun _ a w S => ?_)
                · refine fI 25 (.slice ad1 p0.length cp2) [(0, .slice ad1 p0.length cp2)] 0 [none] rfl rfl (by kernel_rfl) rfl (by kernel_rfl) (by kernel_rfl) fun G a w S => ?_
                  refine sMove (.slice ad1 p0.length cp2) S (wN rfl) (.inl rfl) (by kernel_rfl) rfl (by decide) (fun a S => ?_)
                  exact leafL ⟨rfl, S⟩
                · refine fI 26 (.int .i64 s22) [(3, .int .i64 s22)] 1 [none] rfl rfl (by kernel_rfl) rfl (by kernel_rfl) (by kernel_rfl) fun G a w S => ?_
                  refine sMove (.int .i64 s22) S (wN rfl) (.inl rfl) (by kernel_rfl) rfl (by decide) (fun a S => ?_)
                  exact leafL ⟨rfl, S⟩
                · refine fI 27 q54 [(25, .slice ad1 p0.length cp2), (26, .int .i64 s22)] 2 [some 0, some 1] rfl rfl (by kernel_rfl) rfl (by kernel_rfl) (by kernel_rfl) fun G a w S => ?_
                  refine sIdxV (v := .slice ad1 p0.length cp2) (k := .i64) (j := s22) S (wN rfl) rfl (by kernel_rfl) (by kernel_rfl) hq55 rfl (by decide) (fun a S => ?_)
                  exact leafL ⟨rfl, S⟩
                · refine fI 28 q56 [(27, q54)] 3 [some 2] rfl rfl (by kernel_rfl) rfl (by kernel_rfl) (by kernel_rfl) fun G a w S => ?_
                  refine sFldV (q := q54) S (wN rfl) rfl (by kernel_rfl) hq57 rfl (by decide) (fun a S => ?_)
                  exact leafL ⟨rfl, S⟩
                · refine fI 29 (.int .i64 x33.X) [(28, q56)] 4 [some 3] rfl rfl (by kernel_rfl) rfl (by kernel_rfl) (by kernel_rfl) fun G a w S => ?_
                  refine sLoadV1 (vq := q56) 4 (.int .i64 x33.X) S (wN rfl) rfl (by kernel_rfl) (by kernel_rfl) (by kernel_rfl) rfl (by decide) (fun a S => ?_)
                  exact leafL ⟨rfl, S⟩
                · refine fI 30 (.bool r40) [(29, .int .i64 x33.X)] 5 [some 4] rfl rfl (by kernel_rfl) rfl (by kernel_rfl) (by kernel_rfl) fun G a w S => ?_
                  have S1 := S.mem
                  refine sCallQ (X := Unit) (f := 34) (vs := [.int .i64 x33.X]) (val := fun _ => .bool r40) S (wN rfl) rfl callee34 (by kernel_rfl) (S1.quiet [] (by kernel_rfl)) (fun E1 w1 S1 => c_raddleref37_in E1 w1 x33.X r40 hx41 S1) rfl (by decide) (fun _ a w S => ?_)
                  exact leafL ⟨rfl, S⟩
                · refine fI 31 (.bool (!r40)) [(30, .bool r40)] 6 [some 5] rfl rfl (by kernel_rfl) rfl (by kernel_rfl) (by kernel_rfl) fun G a w S => ?_
                  refine sNot (b := r40) S (wN rfl) rfl (by kernel_rfl) rfl (by decide) (fun a S => ?_)
                  exact leafL ⟨rfl, S⟩
                · refine fI 32 (.bool (!r40)) [(31, .bool (!r40))] 7 [some 6] rfl rfl (by kernel_rfl) rfl (by kernel_rfl) (by kernel_rfl) fun G a w S => ?_
                  refine sMove (.bool (!r40)) S (wN rfl) (.inl rfl) (by kernel_rfl) rfl (by decide) (fun a S => ?_)
                  exact leafL ⟨rfl, S⟩
                · refine fI 33 (.slice ad1 p0.length cp2) [(0, .slice ad1 p0.length cp2), (32, .bool (!r40))] 8 [none, some 7] rfl rfl (by kernel_rfl) rfl (by kernel_rfl) (by kernel_rfl) fun G a w S => ?_
                  refine sMove (.slice ad1 p0.length cp2) S (wG (c := !r40) 7 false 32 rfl rfl (by kernel_rfl) hc42) (.inl rfl) (by kernel_rfl) rfl (by decide) (fun a S => ?_)
                  exact leafL ⟨rfl, S⟩
                · refine fI 34 (.int .i64 s22) [(3, .int .i64 s22), (32, .bool (!r40))] 9 [none, some 7] rfl rfl (by kernel_rfl) rfl (by kernel_rfl) (by kernel_rfl) fun G a w S => ?_
                  refine sMove (.int .i64 s22) S (wG (c := !r40) 7 false 32 rfl rfl (by kernel_rfl) hc42) (.inl rfl) (by kernel_rfl) rfl (by decide) (fun a S => ?_)
                  exact leafL ⟨rfl, S⟩
                · refine fI 35 q59 [(33, .slice ad1 p0.length cp2), (34, .int .i64 s22), (32, .bool (!r40))] 10 [some 8, some 9, some 7] rfl rfl (by kernel_rfl) rfl (by kernel_rfl) (by kernel_rfl) fun G a w S => ?_
                  refine sIdxV (v := .slice ad1 p0.length cp2) (k := .i64) (j := s22) S (wG (c := !r40) 7 false 32 rfl rfl (by kernel_rfl) hc42) rfl (by kernel_rfl) (by kernel_rfl) hq60 rfl (by decide) (fun a S => ?_)
                  exact leafL ⟨rfl, S⟩
                · refine fI 36 q61 [(35, q59), (32, .bool (!r40))] 11 [some 10, some 7] rfl rfl (by kernel_rfl) rfl (by kernel_rfl) (by kernel_rfl) fun G a w S => ?_
                  refine sFldV (q := q59) S (wG (c := !r40) 7 false 32 rfl rfl (by kernel_rfl) hc42) rfl (by kernel_rfl) hq62 rfl (by decide) (fun a S => ?_)
                  exact leafL ⟨rfl, S⟩
                · refine fI 37 (.int .i64 x33.Y) [(36, q61), (32, .bool (!r40))] 12 [some 11, some 7] rfl rfl (by kernel_rfl) rfl (by kernel_rfl) (by kernel_rfl) fun G a w S => ?_
                  refine sLoadV1 (vq := q61) 0 (.int .i64 x33.Y) S (wG (c := !r40) 7 false 32 rfl rfl (by kernel_rfl) hc42) rfl (by kernel_rfl) (by kernel_rfl) (by kernel_rfl) rfl (by decide) (fun a S => ?_)
                  exact leafL ⟨rfl, S⟩
                · refine fI 38 (.bool (decide (x33.Y < 0))) [(37, .int .i64 x33.Y), (32, .bool (!r40))] 13 [some 12, some 7] rfl rfl (by kernel_rfl) rfl (by kernel_rfl) (by kernel_rfl) fun G a w S => ?_
                  refine sBin (.bool (decide (x33.Y < 0))) S (wG (c := !r40) 7 false 32 rfl rfl (by kernel_rfl) hc42) rfl (by kernel_rfl) (by kernel_rfl) (bLt _ _ _ _ .i64 x33.Y 0) rfl (by decide) (fun a S => ?_)
                  exact leafL ⟨rfl, S⟩
                · refine fI 39 (.bool (decide (x33.Y < 0))) [(32, .bool (!r40)), (38, .bool (decide (x33.Y < 0)))] 14 [some 7, some 13] rfl rfl (by kernel_rfl) rfl (by kernel_rfl) (by kernel_rfl) fun G a w S => ?_
                  refine sPickF (b := !r40) (.bool (decide (x33.Y < 0))) S (wN rfl) rfl (by kernel_rfl) hc42 (by kernel_rfl) rfl (by decide) (fun a S => ?_)
                  exact leafL ⟨rfl, S⟩
                · refine fI 40 (.bool (decide (x33.Y < 0))) [(39, .bool (decide (x33.Y < 0)))] 15 [some 14] rfl rfl (by kernel_rfl) rfl (by kernel_rfl) (by kernel_rfl) fun G a w S => ?_
                  refine sMove (.bool (decide (x33.Y < 0))) S (wN rfl) (.inl rfl) (by kernel_rfl) rfl (by decide) (fun a S => ?_)
                  exact leafL ⟨rfl, S⟩
                · refine fI 41 undef [(0, .slice ad1 p0.length cp2), (40, .bool (decide (x33.Y < 0)))] 16 [none, some 15] rfl rfl (by kernel_rfl) rfl (by kernel_rfl) (by kernel_rfl) fun G a w S => ?_
                  refine sSkip (c := decide (x33.Y < 0)) 15 false 40 41 S rfl rfl (by kernel_rfl) hc53 rfl (by decide) (fun a S => ?_)
                  exact leafL ⟨rfl, S⟩
                · refine fI 42 undef [(3, .int .i64 s22), (40, .bool (decide (x33.Y < 0)))] 17 [none, some 15] rfl rfl (by kernel_rfl) rfl (by kernel_rfl) (by kernel_rfl) fun G a w S => ?_
                  refine sSkip (c := decide (x33.Y < 0)) 15 false 40 42 S rfl rfl (by kernel_rfl) hc53 rfl (by decide) (fun a S => ?_)
                  exact leafL ⟨rfl, S⟩
                · refine fI 43 undef [(41, undef), (42, undef), (40, .bool (decide (x33.Y < 0)))] 18 [some 16, some 17, some 15] rfl rfl (by kernel_rfl) rfl (by kernel_rfl) (by kernel_rfl) fun G a w S => ?_
                  refine sSkip (c := decide (x33.Y < 0)) 15 false 40 43 S rfl rfl (by kernel_rfl) hc53 rfl (by decide) (fun a S => ?_)
                  exact leafL ⟨rfl, S⟩
                · refine fI 44 undef [(43, undef), (40, .bool (decide (x33.Y < 0)))] 19 [some 18, some 15] rfl rfl (by kernel_rfl) rfl (by kernel_rfl) (by kernel_rfl) fun G a w S => ?_
                  refine sSkip (c := decide (x33.Y < 0)) 15 false 40 44 S rfl rfl (by kernel_rfl) hc53 rfl (by decide) (fun a S => ?_)
                  exact leafL ⟨rfl, S⟩
                · refine fI 45 undef [(44, undef), (40, .bool (decide (x33.Y < 0)))] 20 [some 19, some 15] rfl rfl (by kernel_rfl) rfl (by kernel_rfl) (by kernel_rfl) fun G a w S => ?_
                  refine sSkip (c := decide (x33.Y < 0)) 15 false 40 45 S rfl rfl (by kernel_rfl) hc53 rfl (by decide) (fun a S => ?_)
                  exact leafL ⟨rfl, S⟩
                · refine fI 46 undef [(45, undef), (40, .bool (decide (x33.Y < 0)))] 21 [some 20, some 15] rfl rfl (by kernel_rfl) rfl (by kernel_rfl) (by kernel_rfl) fun G a w S => ?_
                  refine sSkip (c := decide (x33.Y < 0)) 15 false 40 46 S rfl rfl (by kernel_rfl) hc53 rfl (by decide) (fun a S => ?_)
                  exact leafL ⟨rfl, S⟩
                · refine fI 47 (.bool true) [(40, .bool (decide (x33.Y < 0))), (46, undef)] 22 [some 15, some 21] rfl rfl (by kernel_rfl) rfl (by kernel_rfl) (by kernel_rfl) fun G a w S => ?_
                  refine sPickT (b := decide (x33.Y < 0)) (.bool true) S (wN rfl) rfl (by kernel_rfl) hc53 (by kernel_rfl) rfl (by decide) (fun a S => ?_)
                  exact leafL ⟨rfl, S⟩
                · refine fI 48 (.bool true) [(47, .bool true)] 23 [some 22] rfl rfl (by kernel_rfl) rfl (by kernel_rfl) (by kernel_rfl) fun G a w S => ?_
                  refine sMove (.bool true) S (wN rfl) (.inl rfl) (by kernel_rfl) rfl (by decide) (fun a S => ?_)
                  exact leafL ⟨rfl, S⟩
                · refine fI 49 undef [(3, .int .i64 s22), (48, .bool true)] 24 [none, some 23] rfl rfl (by kernel_rfl) rfl (by kernel_rfl) (by kernel_rfl) fun G a w S => ?_
                  refine sSkip (c := true) 23 false 48 49 S rfl rfl (by kernel_rfl) rfl rfl (by decide) (fun a S => ?_)
                  exact leafL ⟨rfl, S⟩
                · refine fI 50 undef [(49, undef), (48, .bool true)] 25 [some 24, some 23] rfl rfl (by kernel_rfl) rfl (by kernel_rfl) (by kernel_rfl) fun G a w S => ?_
                  refine sSkip (c := true) 23 false 48 50 S rfl rfl (by kernel_rfl) rfl rfl (by decide) (fun a S => ?_)
                  exact leafL ⟨rfl, S⟩
                · refine fI 51 undef [(50, undef), (48, .bool true)] 26 [some 25, some 23] rfl rfl (by kernel_rfl) rfl (by kernel_rfl) (by kernel_rfl) fun G a w S => ?_
                  refine sSkip (c := true) 23 false 48 51 S rfl rfl (by kernel_rfl) rfl rfl (by decide) (fun a S => ?_)
                  exact leafL ⟨rfl, S⟩
                · refine fI 52 undef [(0, .slice ad1 p0.length cp2), (51, undef)] 27 [none, some 26] rfl rfl (by kernel_rfl) rfl (by kernel_rfl) (by kernel_rfl) fun G a w S => ?_
                  refine sSkipU 26 true 51 52 S rfl rfl (by kernel_rfl) rfl (by decide) (fun a S => ?_)
                  exact leafL ⟨rfl, S⟩
                · refine fI 53 undef [(3, .int .i64 s22), (51, undef)] 28 [none, some 26] rfl rfl (by kernel_rfl) rfl (by kernel_rfl) (by kernel_rfl) fun G a w S => ?_
                  refine sSkipU 26 true 51 53 S rfl rfl (by kernel_rfl) rfl (by decide) (fun a S => ?_)
                  exact leafL ⟨rfl, S⟩
                · refine fI 54 undef [(52, undef), (53, undef), (51, undef)] 29 [some 27, some 28, some 26] rfl rfl (by kernel_rfl) rfl (by kernel_rfl) (by kernel_rfl) fun G a w S => ?_
                  refine sSkipU 26 true 51 54 S rfl rfl (by kernel_rfl) rfl (by decide) (fun a S => ?_)
                  exact leafL ⟨rfl, S⟩
                · refine fI 55 undef [(54, undef), (51, undef)] 30 [some 29, some 26] rfl rfl (by kernel_rfl) rfl (by kernel_rfl) (by kernel_rfl) fun G a w S => ?_
                  refine sSkipU 26 true 51 55 S rfl rfl (by kernel_rfl) rfl (by decide) (fun a S => ?_)
                  exact leafL ⟨rfl, S⟩
                · refine fI 56 undef [(55, undef), (51, undef)] 31 [some 30, some 26] rfl rfl (by kernel_rfl) rfl (by kernel_rfl) (by kernel_rfl) fun G a w S => ?_
                  refine sSkipU 26 true 51 56 S rfl rfl (by kernel_rfl) rfl (by decide) (fun a S => ?_)
                  exact leafL ⟨rfl, S⟩
                · refine fI 57 undef [(0, .slice ad1 p0.length cp2), (51, undef)] 32 [none, some 26] rfl rfl (by kernel_rfl) rfl (by kernel_rfl) (by kernel_rfl) fun G a w S => ?_
                  refine sSkipU 26 true 51 57 S rfl rfl (by kernel_rfl) rfl (by decide) (fun a S => ?_)
                  exact leafL ⟨rfl, S⟩
                · refine fI 58 undef [(3, .int .i64 s22), (51, undef)] 33 [none, some 26] rfl rfl (by kernel_rfl) rfl (by kernel_rfl) (by kernel_rfl) fun G a w S => ?_
                  refine sSkipU 26 true 51 58 S rfl rfl (by kernel_rfl) rfl (by decide) (fun a S => ?_)
                  exact leafL ⟨rfl, S⟩
                · refine fI 59 undef [(58, undef), (51, undef)] 34 [some 33, some 26] rfl rfl (by kernel_rfl) rfl (by kernel_rfl) (by kernel_rfl) fun G a w S => ?_
                  refine sSkipU 26 true 51 59 S rfl rfl (by kernel_rfl) rfl (by decide) (fun a S => ?_)
                  exact leafL ⟨rfl, S⟩
                · refine fI 60 undef [(57, undef), (59, undef), (51, undef)] 35 [some 32, some 34, some 26] rfl rfl (by kernel_rfl) rfl (by kernel_rfl) (by kernel_rfl) fun G a w S => ?_
                  refine sSkipU 26 true 51 60 S rfl rfl (by kernel_rfl) rfl (by decide) (fun a S => ?_)
                  exact leafL ⟨rfl, S⟩
                · refine fI 61 undef [(60, undef), (51, undef)] 36 [some 35, some 26] rfl rfl (by kernel_rfl) rfl (by kernel_rfl) (by kernel_rfl) fun G a w S => ?_
                  refine sSkipU 26 true 51 61 S rfl rfl (by kernel_rfl) rfl (by decide) (fun a S => ?_)
                  exact leafL ⟨rfl, S⟩
                · refine fI 62 undef [(61, undef), (51, undef)] 37 [some 36, some 26] rfl rfl (by kernel_rfl) rfl (by kernel_rfl) (by kernel_rfl) fun G a w S => ?_
                  refine sSkipU 26 true 51 62 S rfl rfl (by kernel_rfl) rfl (by decide) (fun a S => ?_)
                  exact leafL ⟨rfl, S⟩
                · refine fI 63 undef [(56, undef), (62, undef), (51, undef)] 38 [some 31, some 37, some 26] rfl rfl (by kernel_rfl) rfl (by kernel_rfl) (by kernel_rfl) fun G a w S => ?_
                  refine sSkipU 26 true 51 63 S rfl rfl (by kernel_rfl) rfl (by decide) (fun a S => ?_)
                  exact leafL ⟨rfl, S⟩
                · refine fI 64 undef [(51, undef), (63, undef), (48, .bool true)] 39 [some 26, some 38, some 23] rfl rfl (by kernel_rfl) rfl (by kernel_rfl) (by kernel_rfl) fun G a w S => ?_
                  refine sSkip (c := true) 23 false 48 64 S rfl rfl (by kernel_rfl) rfl rfl (by decide) (fun a S => ?_)
                  exact leafL ⟨rfl, S⟩
                · refine fI 65 (.bool true) [(48, .bool true), (64, undef)] 40 [some 23, some 39] rfl rfl (by kernel_rfl) rfl (by kernel_rfl) (by kernel_rfl) fun G a w S => ?_
                  refine sPickT (b := true) (.bool true) S (wN rfl) rfl (by kernel_rfl) rfl (by kernel_rfl) rfl (by decide) (fun a S => ?_)
                  exact leafL ⟨rfl, S⟩
                · exact leafT (⟨true, Option.some.inj h, S.fix [] [8] (by decide) (by kernel_rfl) (by kernel_rfl) (by kernel_rfl)⟩)
              · rcases iteSome h with ⟨hc69, h⟩ | ⟨hc69, h⟩
                · obtain ⟨q70, hq71, S⟩ := pIdx (P := Try.prog) (r := r_api_Point) (v := .slice ad1 p0.length cp2) (xs := p0) (j := s22) 24 75 0 S Try.underlying24 (by kernel_rfl) (by kernel_rfl) hx34
                  obtain ⟨q72, hq73, S⟩ := pFld (P := Try.prog) (r := r_api_Point) (s2 := (rI .i64)) (g := (·.X)) (q := q70) (z := x33) 75 0 0 0 S (by kernel_rfl) (by kernel_rfl) comp_api_Point_X
                  obtain ⟨u74, S⟩ := pLoad (r := (rI .i64)) (q := q72) (x := x33.X) 0 S (by kernel_rfl)
                  obtain rfl : u74 = .int .i64 x33.X := S.mem.know (i := 1) (e := fRep (rI .i64) (u74) x33.X) (by kernel_rfl)
                  obtain ⟨q75, hq76, S⟩ := pIdx (P := Try.prog) (r := r_api_Point) (v := .slice ad1 p0.length cp2) (xs := p0) (j := s22) 24 75 4 S Try.underlying24 (by kernel_rfl) (by kernel_rfl) hx34
                  obtain ⟨q77, hq78, S⟩ := pFld (P := Try.prog) (r := r_api_Point) (s2 := (rI .i64)) (g := (·.Y)) (q := q75) (z := x33) 75 1 0 1 S (by kernel_rfl) (by kernel_rfl) comp_api_Point_Y
                  obtain ⟨u79, S⟩ := pLoad (r := (rI .i64)) (q := q77) (x := x33.Y) 0 S (by kernel_rfl)
                  obtain rfl : u79 = .int .i64 x33.Y := S.mem.know (i := 1) (e := fRep (rI .i64) (u79) x33.Y) (by kernel_rfl)
                  obtain ⟨q80, hq81, S⟩ := pIdx (P := Try.prog) (r := r_api_Point) (v := .slice ad1 p0.length cp2) (xs := p0) (j := s22) 24 75 8 S Try.underlying24 (by kernel_rfl) (by kernel_rfl) hx34
                  obtain ⟨q82, hq83, S⟩ := pFld (P := Try.prog) (r := r_api_Point) (s2 := (rI .i64)) (g := (·.Y)) (q := q80) (z := x33) 75 1 0 1 S (by kernel_rfl) (by kernel_rfl) comp_api_Point_Y
                  obtain ⟨u84, S⟩ := pLoad (r := (rI .i64)) (q := q82) (x := x33.Y) 0 S (by kernel_rfl)
                  obtain rfl : u84 = .int .i64 x33.Y := S.mem.know (i := 1) (e := fRep (rI .i64) (u84) x33.Y) (by kernel_rfl)
                  refine sDraw (nf := []) (W := [(0, 25, .slice ad1 p0.length cp2), (1, 26, .int .i64 s22), (2, 27, q70), (3, 28, q72), (4, 29, .int .i64 x33.X), (5, 30, .bool r40), (6, 31, .bool (!r40)), (7, 32, .bool (!r40)), (8, 33, .slice ad1 p0.length cp2), (9, 34, .int .i64 s22), (10, 35, q75), (11, 36, q77), (12, 37, .int .i64 x33.Y), (13, 38, .bool (decide (x33.Y < 0))), (14, 39, .bool (decide (x33.Y < 0))), (15, 40, .bool (decide (x33.Y < 0))), (16, 41, .slice ad1 p0.length cp2), (17, 42, .int .i64 s22), (18, 43, q80), (19, 44, q82), (20, 45, .int .i64 x33.Y), (21, 46, .bool (decide (99 < x33.Y))), (22, 47, .bool (decide (99 < x33.Y))), (23, 48, .bool (decide (99 < x33.Y))), (24, 49, undef), (25, 50, undef), (26, 51, undef), (27, 52, undef), (28, 53, undef), (29, 54, undef), (30, 55, undef), (31, 56, undef), (32, 57, undef), (33, 58, undef), (34, 59, undef), (35, 60, undef), (36, 61, undef), (37, 62, undef), (38, 63, undef), (39, 64, undef), (40, 65, .bool true)]) (by kernel_rfl) S ?_
                  refine node_by (A := anc_raddleref37_side_0) (nf := []) (Y := []) (W := [(0, 25, .slice ad1 p0.length cp2), (1, 26, .int .i64 s22), (2, 27, q70), (3, 28, q72), (4, 29, .int .i64 x33.X), (5, 30, .bool r40), (6, 31, .bool (!r40)), (7, 32, .bool (!r40)), (8, 33, .slice ad1 p0.length cp2), (9, 34, .int .i64 s22), (10, 35, q75), (11, 36, q77), (12, 37, .int .i64 x33.Y), (13, 38, .bool (decide (x33.Y < 0))), (14, 39, .bool (decide (x33.Y < 0))), (15, 40, .bool (decide (x33.Y < 0))), (16, 41, .slice ad1 p0.length cp2), (17, 42, .int .i64 s22), (18, 43, q80), (19, 44, q82), (20, 45, .int .i64 x33.Y), (21, 46, .bool (decide (99 < x33.Y))), (22, 47, .bool (decide (99 < x33.Y))), (23, 48, .bool (decide (99 < x33.Y))), (24, 49, undef), (25, 50, undef), (26, 51, undef), (27, 52, undef), (28, 53, undef), (29, 54, undef), (30, 55, undef), (31, 56, undef), (32, 57, undef), (33, 58, undef), (34, 59, undef), (35, 60, undef), (36, 61, undef), (37, 62, undef), (38, 63, undef), (39, 64, undef), (40, 65, .bool true)]) 41 (by kernel_rfl) (by kernel_rfl) (by kernel_rfl) (by kernel_rfl) (by kernel_rfl) [0, 1, 2, 3, 4, 5, 6, 7, 8, 9, 10, 11, 12, 13, 14, 15, 16, 17, 18, 19, 20, 21, 22, 23, 24, 25, 26, 27, 28, 29, 30, 31, 32, 33, 34, 35, 36, 37, 38, 39, 40] (by kernel_rfl) (by decide) (by decide) (aF 0 40 (by decide) ?_ (aF 1 39 (by decide) ?_ (aF 2 38 (by decide) ?_ (aF 3 37 (by decide) ?_ (aF 4 36 (by decide) ?_ (aF 5 35 (by decide) ?_ (aF 6 34 (by decide) ?_ (aF 7 33 (by decide) ?_ (aF 8 32 (by decide) ?_ (aF 9 31 (by decide) ?_ (aF 10 30 (by decide) ?_ (aF 11 29 (by decide) ?_ (aF 12 28 (by decide) ?_ (aF 13 27 (by decide) ?_ (aF 14 26 (by decide) ?_ (aF 15 25 (by decide) ?_ (aF 16 24 (by decide) ?_ (aF 17 23 (by decide) ?_ (aF 18 22 (by decide) ?_ (aF 19 21 (by decide) ?_ (aF 20 20 (by decide) ?_ (aF 21 19 (by decide) ?_ (aF 22 18 (by decide) ?_ (aF 23 17 (by decide) ?_ (aF 24 16 (by decide) ?_ (aF 25 15 (by decide) ?_ (aF 26 14 (by decide) ?_ (aF 27 13 (by decide) ?_ (aF 28 12 (by decide) ?_ (aF 29 11 (by decide) ?_ (aF 30 10 (by decide) ?_ (aF 31 9 (by decide) ?_ (aF 32 8 (by decide) ?_ (aF 33 7 (by decide) ?_ (aF 34 6 (by decide) ?_ (aF 35 5 (by decide) ?_ (aF 36 4 (by decide) ?_ (aF 37 3 (by decide) ?_ (aF 38 2 (by decide) ?_ (aF 39 1 (by decide) ?_ (aF 40 0 (by decide) ?_ (trivial)))))))))))))))))))))))))))))))))))))))))) [(0, .slice ad1 p0.length cp2), (3, .int .i64 s22), (33, .slice ad1 p0.length cp2), (34, .int .i64 s22), (35, q75), (36, q77), (37, .int .i64 x33.Y), (38, .bool (decide (x33.Y < 0))), (41, .slice ad1 p0.length cp2), (42, .int .i64 s22), (43, q80), (44, q82), (45, .int .i64 x33.Y), (46, .bool (decide (99 < x33.Y))), (49, undef), (50, undef), (51, undef), (52, undef), (53, undef), (54, undef), (55, undef), (56, undef), (57, undef), (58, undef), (59, undef), (60, undef), (61, undef), (62, undef), (63, undef), (64, undef), (65, .bool true)] (fin_of [none, none, some 8, some 9, some 10, some 11, some 12, some 13, some 16, some 17, some 18, some 19, some 20, some 21, some 24, some 25, some 26, some 27, some 28, some 29, some 30, some 31, some 32, some 33, some 34, some 35, some 36, some 37, some 38, some 39, some 40] rfl (by kernel_rfl) (by kernel_rfl)) (fun _ a w S => ?_)
                  · refine fI 25 (.slice ad1 p0.length cp2) [(0, .slice ad1 p0.length cp2)] 0 [none] rfl rfl (by kernel_rfl) rfl (by kernel_rfl) (by kernel_rfl) fun G a w S => ?_
                    refine sMove (.slice ad1 p0.length cp2) S (wN rfl) (.inl rfl) (by kernel_rfl) rfl (by decide) (fun a S => ?_)
                    exact leafL ⟨rfl, S⟩
                  · refine fI 26 (.int .i64 s22) [(3, .int .i64 s22)] 1 [none] rfl rfl (by kernel_rfl) rfl (by kernel_rfl) (by kernel_rfl) fun G a w S => ?_
                    refine sMove (.int .i64 s22) S (wN rfl) (.inl rfl) (by kernel_rfl) rfl (by decide) (fun a S => ?_)
                    exact leafL ⟨rfl, S⟩
                  · refine fI 27 q70 [(25, .slice ad1 p0.length cp2), (26, .int .i64 s22)] 2 [some 0, some 1] rfl rfl (by kernel_rfl) rfl (by kernel_rfl) (by kernel_rfl) fun G a w S => ?_
                    refine sIdxV (v := .slice ad1 p0.length cp2) (k := .i64) (j := s22) S (wN rfl) rfl (by kernel_rfl) (by kernel_rfl) hq71 rfl (by decide) (fun a S => ?_)
                    exact leafL ⟨rfl, S⟩
                  · refine fI 28 q72 [(27, q70)] 3 [some 2] rfl rfl (by kernel_rfl) rfl (by kernel_rfl) (by kernel_rfl) fun G a w S => ?_
                    refine sFldV (q := q70) S (wN rfl) rfl (by kernel_rfl) hq73 rfl (by decide) (fun a S => ?_)
                    exact leafL ⟨rfl, S⟩
                  · refine fI 29 (.int .i64 x33.X) [(28, q72)] 4 [some 3] rfl rfl (by kernel_rfl) rfl (by kernel_rfl) (by kernel_rfl) fun G a w S => ?_
                    refine sLoadV1 (vq := q72) 8 (.int .i64 x33.X) S (wN rfl) rfl (by kernel_rfl) (by kernel_rfl) (by kernel_rfl) rfl (by decide) (fun a S => ?_)
                    exact leafL ⟨rfl, S⟩
                  · refine fI 30 (.bool r40) [(29, .int .i64 x33.X)] 5 [some 4] rfl rfl (by kernel_rfl) rfl (by kernel_rfl) (by kernel_rfl) fun G a w S => ?_
                    have S1 := S.mem
                    refine sCallQ (X := Unit) (f := 34) (vs := [.int .i64 x33.X]) (val := fun _ => .bool r40) S (wN rfl) rfl callee34 (by kernel_rfl) (S1.quiet [] (by kernel_rfl)) (fun E1 w1 S1 => c_raddleref37_in E1 w1 x33.X r40 hx41 S1) rfl (by decide) (fun _ a w S => ?_)
                    exact leafL ⟨rfl, S⟩
                  · refine fI 31 (.bool (!r40)) [(30, .bool r40)] 6 [some 5] rfl rfl (by kernel_rfl) rfl (by kernel_rfl) (by kernel_rfl) fun G a w S => ?_
                    refine sNot (b := r40) S (wN rfl) rfl (by kernel_rfl) rfl (by decide) (fun a S => ?_)
                    exact leafL ⟨rfl, S⟩
                  · refine fI 32 (.bool (!r40)) [(31, .bool (!r40))] 7 [some 6] rfl rfl (by kernel_rfl) rfl (by kernel_rfl) (by kernel_rfl) fun G a w S => ?_
                    refine sMove (.bool (!r40)) S (wN rfl) (.inl rfl) (by kernel_rfl) rfl (by decide) (fun a S => ?_)
                    exact leafL ⟨rfl, S⟩
                  · refine fI 33 (.slice ad1 p0.length cp2) [(0, .slice ad1 p0.length cp2), (32, .bool (!r40))] 8 [none, some 7] rfl rfl (by kernel_rfl) rfl (by kernel_rfl) (by kernel_rfl) fun G a w S => ?_
                    refine sMove (.slice ad1 p0.length cp2) S (wG (c := !r40) 7 false 32 rfl rfl (by kernel_rfl) hc42) (.inl rfl) (by kernel_rfl) rfl (by decide) (fun a S => ?_)
                    exact leafL ⟨rfl, S⟩
                  · refine fI 34 (.int .i64 s22) [(3, .int .i64 s22), (32, .bool (!r40))] 9 [none, some 7] rfl rfl (by kernel_rfl) rfl (by kernel_rfl) (by kernel_rfl) fun G a w S => ?_
                    refine sMove (.int .i64 s22) S (wG (c := !r40) 7 false 32 rfl rfl (by kernel_rfl) hc42) (.inl rfl) (by kernel_rfl) rfl (by decide) (fun a S => ?_)
                    exact leafL ⟨rfl, S⟩
                  · refine fI 35 q75 [(33, .slice ad1 p0.length cp2), (34, .int .i64 s22), (32, .bool (!r40))] 10 [some 8, some 9, some 7] rfl rfl (by kernel_rfl) rfl (by kernel_rfl) (by kernel_rfl) fun G a w S => ?_
                    refine sIdxV (v := .slice ad1 p0.length cp2) (k := .i64) (j := s22) S (wG (c := !r40) 7 false 32 rfl rfl (by kernel_rfl) hc42) rfl (by kernel_rfl) (by kernel_rfl) hq76 rfl (by decide) (fun a S => ?_)
                    exact leafL ⟨rfl, S⟩
                  · refine fI 36 q77 [(35, q75), (32, .bool (!r40))] 11 [some 10, some 7] rfl rfl (by kernel_rfl) rfl (by kernel_rfl) (by kernel_rfl) fun G a w S => ?_
                    refine sFldV (q := q75) S (wG (c := !r40) 7 false 32 rfl rfl (by kernel_rfl) hc42) rfl (by kernel_rfl) hq78 rfl (by decide) (fun a S => ?_)
                    exact leafL ⟨rfl, S⟩
                  · refine fI 37 (.int .i64 x33.Y) [(36, q77), (32, .bool (!r40))] 12 [some 11, some 7] rfl rfl (by kernel_rfl) rfl (by kernel_rfl) (by kernel_rfl) fun G a w S => ?_
                    refine sLoadV1 (vq := q77) 4 (.int .i64 x33.Y) S (wG (c := !r40) 7 false 32 rfl rfl (by kernel_rfl) hc42) rfl (by kernel_rfl) (by kernel_rfl) (by kernel_rfl) rfl (by decide) (fun a S => ?_)
                    exact leafL ⟨rfl, S⟩
                  · refine fI 38 (.bool (decide (x33.Y < 0))) [(37, .int .i64 x33.Y), (32, .bool (!r40))] 13 [some 12, some 7] rfl rfl (by kernel_rfl) rfl (by kernel_rfl) (by kernel_rfl) fun G a w S => ?_
                    refine sBin (.bool (decide (x33.Y < 0))) S (wG (c := !r40) 7 false 32 rfl rfl (by kernel_rfl) hc42) rfl (by kernel_rfl) (by kernel_rfl) (bLt _ _ _ _ .i64 x33.Y 0) rfl (by decide) (fun a S => ?_)
                    exact leafL ⟨rfl, S⟩
                  · refine fI 39 (.bool (decide (x33.Y < 0))) [(32, .bool (!r40)), (38, .bool (decide (x33.Y < 0)))] 14 [some 7, some 13] rfl rfl (by kernel_rfl) rfl (by kernel_rfl) (by kernel_rfl) fun G a w S => ?_
                    refine sPickF (b := !r40) (.bool (decide (x33.Y < 0))) S (wN rfl) rfl (by kernel_rfl) hc42 (by kernel_rfl) rfl (by decide) (fun a S => ?_)
                    exact leafL ⟨rfl, S⟩
                  · refine fI 40 (.bool (decide (x33.Y < 0))) [(39, .bool (decide (x33.Y < 0)))] 15 [some 14] rfl rfl (by kernel_rfl) rfl (by kernel_rfl) (by kernel_rfl) fun G a w S => ?_
                    refine sMove (.bool (decide (x33.Y < 0))) S (wN rfl) (.inl rfl) (by kernel_rfl) rfl (by decide) (fun a S => ?_)
                    exact leafL ⟨rfl, S⟩
                  · refine fI 41 (.slice ad1 p0.length cp2) [(0, .slice ad1 p0.length cp2), (40, .bool (decide (x33.Y < 0)))] 16 [none, some 15] rfl rfl (by kernel_rfl) rfl (by kernel_rfl) (by kernel_rfl) fun G a w S => ?_
                    refine sMove (.slice ad1 p0.length cp2) S (wG (c := decide (x33.Y < 0)) 15 false 40 rfl rfl (by kernel_rfl) hc53) (.inl rfl) (by kernel_rfl) rfl (by decide) (fun a S => ?_)
                    exact leafL ⟨rfl, S⟩
                  · refine fI 42 (.int .i64 s22) [(3, .int .i64 s22), (40, .bool (decide (x33.Y < 0)))] 17 [none, some 15] rfl rfl (by kernel_rfl) rfl (by kernel_rfl) (by kernel_rfl) fun G a w S => ?_
                    refine sMove (.int .i64 s22) S (wG (c := decide (x33.Y < 0)) 15 false 40 rfl rfl (by kernel_rfl) hc53) (.inl rfl) (by kernel_rfl) rfl (by decide) (fun a S => ?_)
                    exact leafL ⟨rfl, S⟩
                  · refine fI 43 q80 [(41, .slice ad1 p0.length cp2), (42, .int .i64 s22), (40, .bool (decide (x33.Y < 0)))] 18 [some 16, some 17, some 15] rfl rfl (by kernel_rfl) rfl (by kernel_rfl) (by kernel_rfl) fun G a w S => ?_
                    refine sIdxV (v := .slice ad1 p0.length cp2) (k := .i64) (j := s22) S (wG (c := decide (x33.Y < 0)) 15 false 40 rfl rfl (by kernel_rfl) hc53) rfl (by kernel_rfl) (by kernel_rfl) hq81 rfl (by decide) (fun a S => ?_)
                    exact leafL ⟨rfl, S⟩
                  · refine fI 44 q82 [(43, q80), (40, .bool (decide (x33.Y < 0)))] 19 [some 18, some 15] rfl rfl (by kernel_rfl) rfl (by kernel_rfl) (by kernel_rfl) fun G a w S => ?_
                    refine sFldV (q := q80) S (wG (c := decide (x33.Y < 0)) 15 false 40 rfl rfl (by kernel_rfl) hc53) rfl (by kernel_rfl) hq83 rfl (by decide) (fun a S => ?_)
                    exact leafL ⟨rfl, S⟩
                  · refine fI 45 (.int .i64 x33.Y) [(44, q82), (40, .bool (decide (x33.Y < 0)))] 20 [some 19, some 15] rfl rfl (by kernel_rfl) rfl (by kernel_rfl) (by kernel_rfl) fun G a w S => ?_
                    refine sLoadV1 (vq := q82) 0 (.int .i64 x33.Y) S (wG (c := decide (x33.Y < 0)) 15 false 40 rfl rfl (by kernel_rfl) hc53) rfl (by kernel_rfl) (by kernel_rfl) (by kernel_rfl) rfl (by decide) (fun a S => ?_)
                    exact leafL ⟨rfl, S⟩
                  · refine fI 46 (.bool (decide (99 < x33.Y))) [(45, .int .i64 x33.Y), (40, .bool (decide (x33.Y < 0)))] 21 [some 20, some 15] rfl rfl (by kernel_rfl) rfl (by kernel_rfl) (by kernel_rfl) fun G a w S => ?_
                    refine sBin (.bool (decide (99 < x33.Y))) S (wG (c := decide (x33.Y < 0)) 15 false 40 rfl rfl (by kernel_rfl) hc53) rfl (by kernel_rfl) (by kernel_rfl) (bGt _ _ _ _ .i64 x33.Y 99) rfl (by decide) (fun a S => ?_)
                    exact leafL ⟨rfl, S⟩
                  · refine fI 47 (.bool (decide (99 < x33.Y))) [(40, .bool (decide (x33.Y < 0))), (46, .bool (decide (99 < x33.Y)))] 22 [some 15, some 21] rfl rfl (by kernel_rfl) rfl (by kernel_rfl) (by kernel_rfl) fun G a w S => ?_
                    refine sPickF (b := decide (x33.Y < 0)) (.bool (decide (99 < x33.Y))) S (wN rfl) rfl (by kernel_rfl) hc53 (by kernel_rfl) rfl (by decide) (fun a S => ?_)
                    exact leafL ⟨rfl, S⟩
                  · refine fI 48 (.bool (decide (99 < x33.Y))) [(47, .bool (decide (99 < x33.Y)))] 23 [some 22] rfl rfl (by kernel_rfl) rfl (by kernel_rfl) (by kernel_rfl) fun G a w S => ?_
                    refine sMove (.bool (decide (99 < x33.Y))) S (wN rfl) (.inl rfl) (by kernel_rfl) rfl (by decide) (fun a S => ?_)
                    exact leafL ⟨rfl, S⟩
                  · refine fI 49 undef [(3, .int .i64 s22), (48, .bool (decide (99 < x33.Y)))] 24 [none, some 23] rfl rfl (by kernel_rfl) rfl (by kernel_rfl) (by kernel_rfl) fun G a w S => ?_
                    refine sSkip (c := decide (99 < x33.Y)) 23 false 48 49 S rfl rfl (by kernel_rfl) hc69 rfl (by decide) (fun a S => ?_)
                    exact leafL ⟨rfl, S⟩
                  · refine fI 50 undef [(49, undef), (48, .bool (decide (99 < x33.Y)))] 25 [some 24, some 23] rfl rfl (by kernel_rfl) rfl (by kernel_rfl) (by kernel_rfl) fun G a w S => ?_
                    refine sSkip (c := decide (99 < x33.Y)) 23 false 48 50 S rfl rfl (by kernel_rfl) hc69 rfl (by decide) (fun a S => ?_)
                    exact leafL ⟨rfl, S⟩
                  · refine fI 51 undef [(50, undef), (48, .bool (decide (99 < x33.Y)))] 26 [some 25, some 23] rfl rfl (by kernel_rfl) rfl (by kernel_rfl) (by kernel_rfl) fun G a w S => ?_
                    refine sSkip (c := decide (99 < x33.Y)) 23 false 48 51 S rfl rfl (by kernel_rfl) hc69 rfl (by decide) (fun a S => ?_)
                    exact leafL ⟨rfl, S⟩
                  · refine fI 52 undef [(0, .slice ad1 p0.length cp2), (51, undef)] 27 [none, some 26] rfl rfl (by kernel_rfl) rfl (by kernel_rfl) (by kernel_rfl) fun G a w S => ?_
                    refine sSkipU 26 true 51 52 S rfl rfl (by kernel_rfl) rfl (by decide) (fun a S => ?_)
                    exact leafL ⟨rfl, S⟩
                  · refine fI 53 undef [(3, .int .i64 s22), (51, undef)] 28 [none, some 26] rfl rfl (by kernel_rfl) rfl (by kernel_rfl) (by kernel_rfl) fun G a w S => ?_
                    refine sSkipU 26 true 51 53 S rfl rfl (by kernel_rfl) rfl (by decide) (fun a S => ?_)
                    exact leafL ⟨rfl, S⟩
                  · refine fI 54 undef [(52, undef), (53, undef), (51, undef)] 29 [some 27, some 28, some 26] rfl rfl (by kernel_rfl) rfl (by kernel_rfl) (by kernel_rfl) fun G a w S => ?_
                    refine sSkipU 26 true 51 54 S rfl rfl (by kernel_rfl) rfl (by decide) (fun a S => ?_)
                    exact leafL ⟨rfl, S⟩
                  · refine fI 55 undef [(54, undef), (51, undef)] 30 [some 29, some 26] rfl rfl (by kernel_rfl) rfl (by kernel_rfl) (by kernel_rfl) fun G a w S => ?_
                    refine sSkipU 26 true 51 55 S rfl rfl (by kernel_rfl) rfl (by decide) (fun a S => ?_)
                    exact leafL ⟨rfl, S⟩
                  · refine fI 56 undef [(55, undef), (51, undef)] 31 [some 30, some 26] rfl rfl (by kernel_rfl) rfl (by kernel_rfl) (by kernel_rfl) fun G a w S => ?_
                    refine sSkipU 26 true 51 56 S rfl rfl (by kernel_rfl) rfl (by decide) (fun a S => ?_)
                    exact leafL ⟨rfl, S⟩
                  · refine fI 57 undef [(0, .slice ad1 p0.length cp2), (51, undef)] 32 [none, some 26] rfl rfl (by kernel_rfl) rfl (by kernel_rfl) (by kernel_rfl) fun G a w S => ?_
                    refine sSkipU 26 true 51 57 S rfl rfl (by kernel_rfl) rfl (by decide) (fun a S => ?_)
                    exact leafL ⟨rfl, S⟩
                  · refine fI 58 undef [(3, .int .i64 s22), (51, undef)] 33 [none, some 26] rfl rfl (by kernel_rfl) rfl (by kernel_rfl) (by kernel_rfl) fun G a w S => ?_
                    refine sSkipU 26 true 51 58 S rfl rfl (by kernel_rfl) rfl (by decide) (fun a S => ?_)
                    exact leafL ⟨rfl, S⟩
                  · refine fI 59 undef [(58, undef), (51, undef)] 34 [some 33, some 26] rfl rfl (by kernel_rfl) rfl (by kernel_rfl) (by kernel_rfl) fun G a w S => ?_
                    refine sSkipU 26 true 51 59 S rfl rfl (by kernel_rfl) rfl (by decide) (fun a S => ?_)
                    exact leafL ⟨rfl, S⟩
                  · refine fI 60 undef [(57, undef), (59, undef), (51, undef)] 35 [some 32, some 34, some 26] rfl rfl (by kernel_rfl) rfl (by kernel_rfl) (by kernel_rfl) fun G a w S => ?_
                    refine sSkipU 26 true 51 60 S rfl rfl (by kernel_rfl) rfl (by decide) (fun a S => ?_)
                    exact leafL ⟨rfl, S⟩
                  · refine fI 61 undef [(60, undef), (51, undef)] 36 [some 35, some 26] rfl rfl (by kernel_rfl) rfl (by kernel_rfl) (by kernel_rfl) fun G a w S => ?_
                    refine sSkipU 26 true 51 61 S rfl rfl (by kernel_rfl) rfl (by decide) (fun a S => ?_)
                    exact leafL ⟨rfl, S⟩
                  · refine fI 62 undef [(61, undef), (51, undef)] 37 [some 36, some 26] rfl rfl (by kernel_rfl) rfl (by kernel_rfl) (by kernel_rfl) fun G a w S => ?_
                    refine sSkipU 26 true 51 62 S rfl rfl (by kernel_rfl) rfl (by decide) (fun a S => ?_)
                    exact leafL ⟨rfl, S⟩
                  · refine fI 63 undef [(56, undef), (62, undef), (51, undef)] 38 [some 31, some 37, some 26] rfl rfl (by kernel_rfl) rfl (by kernel_rfl) (by kernel_rfl) fun G a w S => ?_
                    refine sSkipU 26 true 51 63 S rfl rfl (by kernel_rfl) rfl (by decide) (fun a S => ?_)
                    exact leafL ⟨rfl, S⟩
                  · refine fI 64 undef [(51, undef), (63, undef), (48, .bool (decide (99 < x33.Y)))] 39 [some 26, some 38, some 23] rfl rfl (by kernel_rfl) rfl (by kernel_rfl) (by kernel_rfl) fun G a w S => ?_
                    refine sSkip (c := decide (99 < x33.Y)) 23 false 48 64 S rfl rfl (by kernel_rfl) hc69 rfl (by decide) (fun a S => ?_)
                    exact leafL ⟨rfl, S⟩
                  · refine fI 65 (.bool true) [(48, .bool (decide (99 < x33.Y))), (64, undef)] 40 [some 23, some 39] rfl rfl (by kernel_rfl) rfl (by kernel_rfl) (by kernel_rfl) fun G a w S => ?_
                    refine sPickT (b := decide (99 < x33.Y)) (.bool true) S (wN rfl) rfl (by kernel_rfl) hc69 (by kernel_rfl) rfl (by decide) (fun a S => ?_)
                    exact leafL ⟨rfl, S⟩
                  · exact leafT (⟨true, Option.some.inj h, S.fix [] [12] (by decide) (by kernel_rfl) (by kernel_rfl) (by kernel_rfl)⟩)
                · rcases iteSome h with ⟨hc85, h⟩ | ⟨hc85, h⟩
                  · obtain ⟨x91, hx92, h⟩ := bindSome h
                    obtain ⟨q98, hq99, S⟩ := pIdx (P := Try.prog) (r := r_api_Point) (v := .slice ad1 p0.length cp2) (xs := p0) (j := s22) 24 75 0 S Try.underlying24 (by kernel_rfl) (by kernel_rfl) hx34
                    obtain ⟨q100, hq101, S⟩ := pFld (P := Try.prog) (r := r_api_Point) (s2 := (rI .i64)) (g := (·.X)) (q := q98) (z := x33) 75 0 0 0 S (by kernel_rfl) (by kernel_rfl) comp_api_Point_X
                    obtain ⟨u102, S⟩ := pLoad (r := (rI .i64)) (q := q100) (x := x33.X) 0 S (by kernel_rfl)
                    obtain rfl : u102 = .int .i64 x33.X := S.mem.know (i := 1) (e := fRep (rI .i64) (u102) x33.X) (by kernel_rfl)
                    obtain ⟨q103, hq104, S⟩ := pIdx (P := Try.prog) (r := r_api_Point) (v := .slice ad1 p0.length cp2) (xs := p0) (j := s22) 24 75 4 S Try.underlying24 (by kernel_rfl) (by kernel_rfl) hx34
                    obtain ⟨q105, hq106, S⟩ := pFld (P := Try.prog) (r := r_api_Point) (s2 := (rI .i64)) (g := (·.Y)) (q := q103) (z := x33) 75 1 0 1 S (by kernel_rfl) (by kernel_rfl) comp_api_Point_Y
                    obtain ⟨u107, S⟩ := pLoad (r := (rI .i64)) (q := q105) (x := x33.Y) 0 S (by kernel_rfl)
                    obtain rfl : u107 = .int .i64 x33.Y := S.mem.know (i := 1) (e := fRep (rI .i64) (u107) x33.Y) (by kernel_rfl)
                    obtain ⟨q108, hq109, S⟩ := pIdx (P := Try.prog) (r := r_api_Point) (v := .slice ad1 p0.length cp2) (xs := p0) (j := s22) 24 75 8 S Try.underlying24 (by kernel_rfl) (by kernel_rfl) hx34
                    obtain ⟨q110, hq111, S⟩ := pFld (P := Try.prog) (r := r_api_Point) (s2 := (rI .i64)) (g := (·.Y)) (q := q108) (z := x33) 75 1 0 1 S (by kernel_rfl) (by kernel_rfl) comp_api_Point_Y
                    obtain ⟨u112, S⟩ := pLoad (r := (rI .i64)) (q := q110) (x := x33.Y) 0 S (by kernel_rfl)
                    obtain rfl : u112 = .int .i64 x33.Y := S.mem.know (i := 1) (e := fRep (rI .i64) (u112) x33.Y) (by kernel_rfl)
                    obtain ⟨q113, hq114, S⟩ := pIdx (P := Try.prog) (r := r_api_Point) (v := .slice ad1 p0.length cp2) (xs := p0) (j := s22) 24 75 12 S Try.underlying24 (by kernel_rfl) (by kernel_rfl) hx34
                    obtain ⟨q115, hq116, S⟩ := pFld (P := Try.prog) (r := r_api_Point) (s2 := (rI .i64)) (g := (·.Y)) (q := q113) (z := x33) 75 1 0 1 S (by kernel_rfl) (by kernel_rfl) comp_api_Point_Y
                    obtain ⟨u117, S⟩ := pLoad (r := (rI .i64)) (q := q115) (x := x33.Y) 0 S (by kernel_rfl)
                    obtain rfl : u117 = .int .i64 x33.Y := S.mem.know (i := 1) (e := fRep (rI .i64) (u117) x33.Y) (by kernel_rfl)
                    obtain ⟨q118, hq119, S⟩ := pIdx (P := Try.prog) (r := r_api_Point) (v := .slice ad1 p0.length cp2) (xs := p0) (j := w64 (s22 - 1)) 24 75 16 S Try.underlying24 (by kernel_rfl) (by kernel_rfl) hx92
                    obtain ⟨q120, hq121, S⟩ := pFld (P := Try.prog) (r := r_api_Point) (s2 := (rI .i64)) (g := (·.Y)) (q := q118) (z := x91) 75 1 0 1 S (by kernel_rfl) (by kernel_rfl) comp_api_Point_Y
                    obtain ⟨u122, S⟩ := pLoad (r := (rI .i64)) (q := q120) (x := x91.Y) 0 S (by kernel_rfl)
                    obtain rfl : u122 = .int .i64 x91.Y := S.mem.know (i := 1) (e := fRep (rI .i64) (u122) x91.Y) (by kernel_rfl)
                    refine sDraw (nf := []) (W := [(0, 25, .slice ad1 p0.length cp2), (1, 26, .int .i64 s22), (2, 27, q98), (3, 28, q100), (4, 29, .int .i64 x33.X), (5, 30, .bool r40), (6, 31, .bool (!r40)), (7, 32, .bool (!r40)), (8, 33, .slice ad1 p0.length cp2), (9, 34, .int .i64 s22), (10, 35, q103), (11, 36, q105), (12, 37, .int .i64 x33.Y), (13, 38, .bool (decide (x33.Y < 0))), (14, 39, .bool (decide (x33.Y < 0))), (15, 40, .bool (decide (x33.Y < 0))), (16, 41, .slice ad1 p0.length cp2), (17, 42, .int .i64 s22), (18, 43, q108), (19, 44, q110), (20, 45, .int .i64 x33.Y), (21, 46, .bool (decide (99 < x33.Y))), (22, 47, .bool (decide (99 < x33.Y))), (23, 48, .bool (decide (99 < x33.Y))), (24, 49, .int .i64 s22), (25, 50, .bool (decide (0 < s22))), (26, 51, .bool (decide (0 < s22))), (27, 52, .slice ad1 p0.length cp2), (28, 53, .int .i64 s22), (29, 54, q113), (30, 55, q115), (31, 56, .int .i64 x33.Y), (32, 57, .slice ad1 p0.length cp2), (33, 58, .int .i64 s22), (34, 59, .int .i64 (w64 (s22 - 1))), (35, 60, q118), (36, 61, q120), (37, 62, .int .i64 x91.Y), (38, 63, .bool (decide (x33.Y ≤ x91.Y))), (39, 64, .bool (decide (x33.Y ≤ x91.Y))), (40, 65, .bool (decide (x33.Y ≤ x91.Y)))]) (by kernel_rfl) S ?_
                    refine node_by (A := anc_raddleref37_side_0) (nf := []) (Y := []) (W := [(0, 25, .slice ad1 p0.length cp2), (1, 26, .int .i64 s22), (2, 27, q98), (3, 28, q100), (4, 29, .int .i64 x33.X), (5, 30, .bool r40), (6, 31, .bool (!r40)), (7, 32, .bool (!r40)), (8, 33, .slice ad1 p0.length cp2), (9, 34, .int .i64 s22), (10, 35, q103), (11, 36, q105), (12, 37, .int .i64 x33.Y), (13, 38, .bool (decide (x33.Y < 0))), (14, 39, .bool (decide (x33.Y < 0))), (15, 40, .bool (decide (x33.Y < 0))), (16, 41, .slice ad1 p0.length cp2), (17, 42, .int .i64 s22), (18, 43, q108), (19, 44, q110), (20, 45, .int .i64 x33.Y), (21, 46, .bool (decide (99 < x33.Y))), (22, 47, .bool (decide (99 < x33.Y))), (23, 48, .bool (decide (99 < x33.Y))), (24, 49, .int .i64 s22), (25, 50, .bool (decide (0 < s22))), (26, 51, .bool (decide (0 < s22))), (27, 52, .slice ad1 p0.length cp2), (28, 53, .int .i64 s22), (29, 54, q113), (30, 55, q115), (31, 56, .int .i64 x33.Y), (32, 57, .slice ad1 p0.length cp2), (33, 58, .int .i64 s22), (34, 59, .int .i64 (w64 (s22 - 1))), (35, 60, q118), (36, 61, q120), (37, 62, .int .i64 x91.Y), (38, 63, .bool (decide (x33.Y ≤ x91.Y))), (39, 64, .bool (decide (x33.Y ≤ x91.Y))), (40, 65, .bool (decide (x33.Y ≤ x91.Y)))]) 41 (by kernel_rfl) (by kernel_rfl) (by kernel_rfl) (by kernel_rfl) (by kernel_rfl) [0, 1, 2, 3, 4, 5, 6, 7, 8, 9, 10, 11, 12, 13, 14, 15, 16, 17, 18, 19, 20, 21, 22, 23, 24, 25, 26, 27, 28, 29, 30, 31, 32, 33, 34, 35, 36, 37, 38, 39, 40] (by kernel_rfl) (by decide) (by decide) (aF 0 40 (by decide) ?_ (aF 1 39 (by decide) ?_ (aF 2 38 (by decide) ?_ (aF 3 37 (by decide) ?_ (aF 4 36 (by decide) ?_ (aF 5 35 (by decide) ?_ (aF 6 34 (by decide) ?_ (aF 7 33 (by decide) ?_ (aF 8 32 (by decide) ?_ (aF 9 31 (by decide) ?_ (aF 10 30 (by decide) ?_ (aF 11 29 (by decide) ?_ (aF 12 28 (by decide) ?_ (aF 13 27 (by decide) ?_ (aF 14 26 (by decide) ?_ (aF 15 25 (by decide) ?_ (aF 16 24 (by decide) ?_ (aF 17 23 (by decide) ?_ (aF 18 22 (by decide) ?_ (aF 19 21 (by decide) ?_ (aF 20 20 (by decide) ?_ (aF 21 19 (by decide) ?_ (aF 22 18 (by decide) ?_ (aF 23 17 (by decide) ?_ (aF 24 16 (by decide) ?_ (aF 25 15 (by decide) ?_ (aF 26 14 (by decide) ?_ (aF 27 13 (by decide) ?_ (aF 28 12 (by decide) ?_ (aF 29 11 (by decide) ?_ (aF 30 10 (by decide) ?_ (aF 31 9 (by decide) ?_ (aF 32 8 (by decide) ?_ (aF 33 7 (by decide) ?_ (aF 34 6 (by decide) ?_ (aF 35 5 (by decide) ?_ (aF 36 4 (by decide) ?_ (aF 37 3 (by decide) ?_ (aF 38 2 (by decide) ?_ (aF 39 1 (by decide) ?_ (aF 40 0 (by decide) ?_ (trivial)))))))))))))))))))))))))))))))))))))))))) [(0, .slice ad1 p0.length cp2), (3, .int .i64 s22), (33, .slice ad1 p0.length cp2), (34, .int .i64 s22), (35, q103), (36, q105), (37, .int .i64 x33.Y), (38, .bool (decide (x33.Y < 0))), (41, .slice ad1 p0.length cp2), (42, .int .i64 s22), (43, q108), (44, q110), (45, .int .i64 x33.Y), (46, .bool (decide (99 < x33.Y))), (49, .int .i64 s22), (50, .bool (decide (0 < s22))), (51, .bool (decide (0 < s22))), (52, .slice ad1 p0.length cp2), (53, .int .i64 s22), (54, q113), (55, q115), (56, .int .i64 x33.Y), (57, .slice ad1 p0.length cp2), (58, .int .i64 s22), (59, .int .i64 (w64 (s22 - 1))), (60, q118), (61, q120), (62, .int .i64 x91.Y), (63, .bool (decide (x33.Y ≤ x91.Y))), (64, .bool (decide (x33.Y ≤ x91.Y))), (65, .bool (decide (x33.Y ≤ x91.Y)))] (fin_of [none, none, some 8, some 9, some 10, some 11, some 12, some 13, some 16, some 17, some 18, some 19, some 20, some 21, some 24, some 25, some 26, some 27, some 28, some 29, some 30, some 31, some 32, some 33, some 34, some 35, some 36, some 37, some 38, some 39, some 40] rfl (by kernel_rfl) (by kernel_rfl)) (fun _ a w S => ?_)
                    · refine fI 25 (.slice ad1 p0.length cp2) [(0, .slice ad1 p0.length cp2)] 0 [none] rfl rfl (by kernel_rfl) rfl (by kernel_rfl) (by kernel_rfl) fun G a w S => ?_
                      refine sMove (.slice ad1 p0.length cp2) S (wN rfl) (.inl rfl) (by kernel_rfl) rfl (by decide) (fun a S => ?_)
                      exact leafL ⟨rfl, S⟩
                    · refine fI 26 (.int .i64 s22) [(3, .int .i64 s22)] 1 [none] rfl rfl (by kernel_rfl) rfl (by kernel_rfl) (by kernel_rfl) fun G a w S => ?_
                      refine sMove (.int .i64 s22) S (wN rfl) (.inl rfl) (by kernel_rfl) rfl (by decide) (fun a S => ?_)
                      exact leafL ⟨rfl, S⟩
                    · refine fI 27 q98 [(25, .slice ad1 p0.length cp2), (26, .int .i64 s22)] 2 [some 0, some 1] rfl rfl (by kernel_rfl) rfl (by kernel_rfl) (by kernel_rfl) fun G a w S => ?_
                      refine sIdxV (v := .slice ad1 p0.length cp2) (k := .i64) (j := s22) S (wN rfl) rfl (by kernel_rfl) (by kernel_rfl) hq99 rfl (by decide) (fun a S => ?_)
                      exact leafL ⟨rfl, S⟩
                    · refine fI 28 q100 [(27, q98)] 3 [some 2] rfl rfl (by kernel_rfl) rfl (by kernel_rfl) (by kernel_rfl) fun G a w S => ?_
                      refine sFldV (q := q98) S (wN rfl) rfl (by kernel_rfl) hq101 rfl (by decide) (fun a S => ?_)
                      exact leafL ⟨rfl, S⟩
                    · refine fI 29 (.int .i64 x33.X) [(28, q100)] 4 [some 3] rfl rfl (by kernel_rfl) rfl (by kernel_rfl) (by kernel_rfl) fun G a w S => ?_
                      refine sLoadV1 (vq := q100) 16 (.int .i64 x33.X) S (wN rfl) rfl (by kernel_rfl) (by kernel_rfl) (by kernel_rfl) rfl (by decide) (fun a S => ?_)
                      exact leafL ⟨rfl, S⟩
                    · refine fI 30 (.bool r40) [(29, .int .i64 x33.X)] 5 [some 4] rfl rfl (by kernel_rfl) rfl (by kernel_rfl) (by kernel_rfl) fun G a w S => ?_
                      have S1 := S.mem
                      refine sCallQ (X := Unit) (f := 34) (vs := [.int .i64 x33.X]) (val := fun _ => .bool r40) S (wN rfl) rfl callee34 (by kernel_rfl) (S1.quiet [] (by kernel_rfl)) (fun E1 w1 S1 => c_raddleref37_in E1 w1 x33.X r40 hx41 S1) rfl (by decide) (fun _ a w S => ?_)
                      exact leafL ⟨rfl, S⟩
                    · refine fI 31 (.bool (!r40)) [(30, .bool r40)] 6 [some 5] rfl rfl (by kernel_rfl) rfl (by kernel_rfl) (by kernel_rfl) fun G a w S => ?_
                      refine sNot (b := r40) S (wN rfl) rfl (by kernel_rfl) rfl (by decide) (fun a S => ?_)
                      exact leafL ⟨rfl, S⟩
                    · refine fI 32 (.bool (!r40)) [(31, .bool (!r40))] 7 [some 6] rfl rfl (by kernel_rfl) rfl (by kernel_rfl) (by kernel_rfl) fun G a w S => ?_
                      refine sMove (.bool (!r40)) S (wN rfl) (.inl rfl) (by kernel_rfl) rfl (by decide) (fun a S => ?_)
                      exact leafL ⟨rfl, S⟩
                    · refine fI 33 (.slice ad1 p0.length cp2) [(0, .slice ad1 p0.length cp2), (32, .bool (!r40))] 8 [none, some 7] rfl rfl (by kernel_rfl) rfl (by kernel_rfl) (by kernel_rfl) fun G a w S => ?_
                      refine sMove (.slice ad1 p0.length cp2) S (wG (c := !r40) 7 false 32 rfl rfl (by kernel_rfl) hc42) (.inl rfl) (by kernel_rfl) rfl (by decide) (fun a S => ?_)
                      exact leafL ⟨rfl, S⟩
                    · refine fI 34 (.int .i64 s22) [(3, .int .i64 s22), (32, .bool (!r40))] 9 [none, some 7] rfl rfl (by kernel_rfl) rfl (by kernel_rfl) (by kernel_rfl) fun G a w S => ?_
                      refine sMove (.int .i64 s22) S (wG (c := !r40) 7 false 32 rfl rfl (by kernel_rfl) hc42) (.inl rfl) (by kernel_rfl) rfl (by decide) (fun a S => ?_)
                      exact leafL ⟨rfl, S⟩
                    · refine fI 35 q103 [(33, .slice ad1 p0.length cp2), (34, .int .i64 s22), (32, .bool (!r40))] 10 [some 8, some 9, some 7] rfl rfl (by kernel_rfl) rfl (by kernel_rfl) (by kernel_rfl) fun G a w S => ?_
                      refine sIdxV (v := .slice ad1 p0.length cp2) (k := .i64) (j := s22) S (wG (c := !r40) 7 false 32 rfl rfl (by kernel_rfl) hc42) rfl (by kernel_rfl) (by kernel_rfl) hq104 rfl (by decide) (fun a S => ?_)
                      exact leafL ⟨rfl, S⟩
                    · refine fI 36 q105 [(35, q103), (32, .bool (!r40))] 11 [some 10, some 7] rfl rfl (by kernel_rfl) rfl (by kernel_rfl) (by kernel_rfl) fun G a w S => ?_
                      refine sFldV (q := q103) S (wG (c := !r40) 7 false 32 rfl rfl (by kernel_rfl) hc42) rfl (by kernel_rfl) hq106 rfl (by decide) (fun a S => ?_)
                      exact leafL ⟨rfl, S⟩
                    · refine fI 37 (.int .i64 x33.Y) [(36, q105), (32, .bool (!r40))] 12 [some 11, some 7] rfl rfl (by kernel_rfl) rfl (by kernel_rfl) (by kernel_rfl) fun G a w S => ?_
                      refine sLoadV1 (vq := q105) 12 (.int .i64 x33.Y) S (wG (c := !r40) 7 false 32 rfl rfl (by kernel_rfl) hc42) rfl (by kernel_rfl) (by kernel_rfl) (by kernel_rfl) rfl (by decide) (fun a S => ?_)
                      exact leafL ⟨rfl, S⟩
                    · refine fI 38 (.bool (decide (x33.Y < 0))) [(37, .int .i64 x33.Y), (32, .bool (!r40))] 13 [some 12, some 7] rfl rfl (by kernel_rfl) rfl (by kernel_rfl) (by kernel_rfl) fun G a w S => ?_
                      refine sBin (.bool (decide (x33.Y < 0))) S (wG (c := !r40) 7 false 32 rfl rfl (by kernel_rfl) hc42) rfl (by kernel_rfl) (by kernel_rfl) (bLt _ _ _ _ .i64 x33.Y 0) rfl (by decide) (fun a S => ?_)
                      exact leafL ⟨rfl, S⟩
                    · refine fI 39 (.bool (decide (x33.Y < 0))) [(32, .bool (!r40)), (38, .bool (decide (x33.Y < 0)))] 14 [some 7, some 13] rfl rfl (by kernel_rfl) rfl (by kernel_rfl) (by kernel_rfl) fun G a w S => ?_
                      refine sPickF (b := !r40) (.bool (decide (x33.Y < 0))) S (wN rfl) rfl (by kernel_rfl) hc42 (by kernel_rfl) rfl (by decide) (fun a S => ?_)
                      exact leafL ⟨rfl, S⟩
                    · refine fI 40 (.bool (decide (x33.Y < 0))) [(39, .bool (decide (x33.Y < 0)))] 15 [some 14] rfl rfl (by kernel_rfl) rfl (by kernel_rfl) (by kernel_rfl) fun G a w S => ?_
                      refine sMove (.bool (decide (x33.Y < 0))) S (wN rfl) (.inl rfl) (by kernel_rfl) rfl (by decide) (fun a S => ?_)
                      exact leafL ⟨rfl, S⟩
                    · refine fI 41 (.slice ad1 p0.length cp2) [(0, .slice ad1 p0.length cp2), (40, .bool (decide (x33.Y < 0)))] 16 [none, some 15] rfl rfl (by kernel_rfl) rfl (by kernel_rfl) (by kernel_rfl) fun G a w S => ?_
                      refine sMove (.slice ad1 p0.length cp2) S (wG (c := decide (x33.Y < 0)) 15 false 40 rfl rfl (by kernel_rfl) hc53) (.inl rfl) (by kernel_rfl) rfl (by decide) (fun a S => ?_)
                      exact leafL ⟨rfl, S⟩
                    · refine fI 42 (.int .i64 s22) [(3, .int .i64 s22), (40, .bool (decide (x33.Y < 0)))] 17 [none, some 15] rfl rfl (by kernel_rfl) rfl (by kernel_rfl) (by kernel_rfl) fun G a w S => ?_
                      refine sMove (.int .i64 s22) S (wG (c := decide (x33.Y < 0)) 15 false 40 rfl rfl (by kernel_rfl) hc53) (.inl rfl) (by kernel_rfl) rfl (by decide) (fun a S => ?_)
                      exact leafL ⟨rfl, S⟩
                    · refine fI 43 q108 [(41, .slice ad1 p0.length cp2), (42, .int .i64 s22), (40, .bool (decide (x33.Y < 0)))] 18 [some 16, some 17, some 15] rfl rfl (by kernel_rfl) rfl (by kernel_rfl) (by kernel_rfl) fun G a w S => ?_
                      refine sIdxV (v := .slice ad1 p0.length cp2) (k := .i64) (j := s22) S (wG (c := decide (x33.Y < 0)) 15 false 40 rfl rfl (by kernel_rfl) hc53) rfl (by kernel_rfl) (by kernel_rfl) hq109 rfl (by decide) (fun a S => ?_)
                      exact leafL ⟨rfl, S⟩
                    · refine fI 44 q110 [(43, q108), (40, .bool (decide (x33.Y < 0)))] 19 [some 18, some 15] rfl rfl (by kernel_rfl) rfl (by kernel_rfl) (by kernel_rfl) fun G a w S => ?_
                      refine sFldV (q := q108) S (wG (c := decide (x33.Y < 0)) 15 false 40 rfl rfl (by kernel_rfl) hc53) rfl (by kernel_rfl) hq111 rfl (by decide) (fun a S => ?_)
                      exact leafL ⟨rfl, S⟩
                    · refine fI 45 (.int .i64 x33.Y) [(44, q110), (40, .bool (decide (x33.Y < 0)))] 20 [some 19, some 15] rfl rfl (by kernel_rfl) rfl (by kernel_rfl) (by kernel_rfl) fun G a w S => ?_
                      refine sLoadV1 (vq := q110) 8 (.int .i64 x33.Y) S (wG (c := decide (x33.Y < 0)) 15 false 40 rfl rfl (by kernel_rfl) hc53) rfl (by kernel_rfl) (by kernel_rfl) (by kernel_rfl) rfl (by decide) (fun a S => ?_)
                      exact leafL ⟨rfl, S⟩
                    · refine fI 46 (.bool (decide (99 < x33.Y))) [(45, .int .i64 x33.Y), (40, .bool (decide (x33.Y < 0)))] 21 [some 20, some 15] rfl rfl (by kernel_rfl) rfl (by kernel_rfl) (by kernel_rfl) fun G a w S => ?_
                      refine sBin (.bool (decide (99 < x33.Y))) S (wG (c := decide (x33.Y < 0)) 15 false 40 rfl rfl (by kernel_rfl) hc53) rfl (by kernel_rfl) (by kernel_rfl) (bGt _ _ _ _ .i64 x33.Y 99) rfl (by decide) (fun a S => ?_)
                      exact leafL ⟨rfl, S⟩
                    · refine fI 47 (.bool (decide (99 < x33.Y))) [(40, .bool (decide (x33.Y < 0))), (46, .bool (decide (99 < x33.Y)))] 22 [some 15, some 21] rfl rfl (by kernel_rfl) rfl (by kernel_rfl) (by kernel_rfl) fun G a w S => ?_
                      refine sPickF (b := decide (x33.Y < 0)) (.bool (decide (99 < x33.Y))) S (wN rfl) rfl (by kernel_rfl) hc53 (by kernel_rfl) rfl (by decide) (fun a S => ?_)
                      exact leafL ⟨rfl, S⟩
                    · refine fI 48 (.bool (decide (99 < x33.Y))) [(47, .bool (decide (99 < x33.Y)))] 23 [some 22] rfl rfl (by kernel_rfl) rfl (by kernel_rfl) (by kernel_rfl) fun G a w S => ?_
                      refine sMove (.bool (decide (99 < x33.Y))) S (wN rfl) (.inl rfl) (by kernel_rfl) rfl (by decide) (fun a S => ?_)
                      exact leafL ⟨rfl, S⟩
                    · refine fI 49 (.int .i64 s22) [(3, .int .i64 s22), (48, .bool (decide (99 < x33.Y)))] 24 [none, some 23] rfl rfl (by kernel_rfl) rfl (by kernel_rfl) (by kernel_rfl) fun G a w S => ?_
                      refine sMove (.int .i64 s22) S (wG (c := decide (99 < x33.Y)) 23 false 48 rfl rfl (by kernel_rfl) hc69) (.inl rfl) (by kernel_rfl) rfl (by decide) (fun a S => ?_)
                      exact leafL ⟨rfl, S⟩
                    · refine fI 50 (.bool (decide (0 < s22))) [(49, .int .i64 s22), (48, .bool (decide (99 < x33.Y)))] 25 [some 24, some 23] rfl rfl (by kernel_rfl) rfl (by kernel_rfl) (by kernel_rfl) fun G a w S => ?_
                      refine sBin (.bool (decide (0 < s22))) S (wG (c := decide (99 < x33.Y)) 23 false 48 rfl rfl (by kernel_rfl) hc69) rfl (by kernel_rfl) (by kernel_rfl) (bGt _ _ _ _ .i64 s22 0) rfl (by decide) (fun a S => ?_)
                      exact leafL ⟨rfl, S⟩
                    · refine fI 51 (.bool (decide (0 < s22))) [(50, .bool (decide (0 < s22))), (48, .bool (decide (99 < x33.Y)))] 26 [some 25, some 23] rfl rfl (by kernel_rfl) rfl (by kernel_rfl) (by kernel_rfl) fun G a w S => ?_
                      refine sMove (.bool (decide (0 < s22))) S (wG (c := decide (99 < x33.Y)) 23 false 48 rfl rfl (by kernel_rfl) hc69) (.inl rfl) (by kernel_rfl) rfl (by decide) (fun a S => ?_)
                      exact leafL ⟨rfl, S⟩
                    · refine fI 52 (.slice ad1 p0.length cp2) [(0, .slice ad1 p0.length cp2), (51, .bool (decide (0 < s22)))] 27 [none, some 26] rfl rfl (by kernel_rfl) rfl (by kernel_rfl) (by kernel_rfl) fun G a w S => ?_
                      refine sMove (.slice ad1 p0.length cp2) S (wG (c := decide (0 < s22)) 26 true 51 rfl rfl (by kernel_rfl) hc85) (.inl rfl) (by kernel_rfl) rfl (by decide) (fun a S => ?_)
                      exact leafL ⟨rfl, S⟩
                    · refine fI 53 (.int .i64 s22) [(3, .int .i64 s22), (51, .bool (decide (0 < s22)))] 28 [none, some 26] rfl rfl (by kernel_rfl) rfl (by kernel_rfl) (by kernel_rfl) fun G a w S => ?_
                      refine sMove (.int .i64 s22) S (wG (c := decide (0 < s22)) 26 true 51 rfl rfl (by kernel_rfl) hc85) (.inl rfl) (by kernel_rfl) rfl (by decide) (fun a S => ?_)
                      exact leafL ⟨rfl, S⟩
                    · refine fI 54 q113 [(52, .slice ad1 p0.length cp2), (53, .int .i64 s22), (51, .bool (decide (0 < s22)))] 29 [some 27, some 28, some 26] rfl rfl (by kernel_rfl) rfl (by kernel_rfl) (by kernel_rfl) fun G a w S => ?_
                      refine sIdxV (v := .slice ad1 p0.length cp2) (k := .i64) (j := s22) S (wG (c := decide (0 < s22)) 26 true 51 rfl rfl (by kernel_rfl) hc85) rfl (by kernel_rfl) (by kernel_rfl) hq114 rfl (by decide) (fun a S => ?_)
                      exact leafL ⟨rfl, S⟩
                    · refine fI 55 q115 [(54, q113), (51, .bool (decide (0 < s22)))] 30 [some 29, some 26] rfl rfl (by kernel_rfl) rfl (by kernel_rfl) (by kernel_rfl) fun G a w S => ?_
                      refine sFldV (q := q113) S (wG (c := decide (0 < s22)) 26 true 51 rfl rfl (by kernel_rfl) hc85) rfl (by kernel_rfl) hq116 rfl (by decide) (fun a S => ?_)
                      exact leafL ⟨rfl, S⟩
                    · refine fI 56 (.int .i64 x33.Y) [(55, q115), (51, .bool (decide (0 < s22)))] 31 [some 30, some 26] rfl rfl (by kernel_rfl) rfl (by kernel_rfl) (by kernel_rfl) fun G a w S => ?_
                      refine sLoadV1 (vq := q115) 4 (.int .i64 x33.Y) S (wG (c := decide (0 < s22)) 26 true 51 rfl rfl (by kernel_rfl) hc85) rfl (by kernel_rfl) (by kernel_rfl) (by kernel_rfl) rfl (by decide) (fun a S => ?_)
                      exact leafL ⟨rfl, S⟩
                    · refine fI 57 (.slice ad1 p0.length cp2) [(0, .slice ad1 p0.length cp2), (51, .bool (decide (0 < s22)))] 32 [none, some 26] rfl rfl (by kernel_rfl) rfl (by kernel_rfl) (by kernel_rfl) fun G a w S => ?_
                      refine sMove (.slice ad1 p0.length cp2) S (wG (c := decide (0 < s22)) 26 true 51 rfl rfl (by kernel_rfl) hc85) (.inl rfl) (by kernel_rfl) rfl (by decide) (fun a S => ?_)
                      exact leafL ⟨rfl, S⟩
                    · refine fI 58 (.int .i64 s22) [(3, .int .i64 s22), (51, .bool (decide (0 < s22)))] 33 [none, some 26] rfl rfl (by kernel_rfl) rfl (by kernel_rfl) (by kernel_rfl) fun G a w S => ?_
                      refine sMove (.int .i64 s22) S (wG (c := decide (0 < s22)) 26 true 51 rfl rfl (by kernel_rfl) hc85) (.inl rfl) (by kernel_rfl) rfl (by decide) (fun a S => ?_)
                      exact leafL ⟨rfl, S⟩
                    · refine fI 59 (.int .i64 (w64 (s22 - 1))) [(58, .int .i64 s22), (51, .bool (decide (0 < s22)))] 34 [some 33, some 26] rfl rfl (by kernel_rfl) rfl (by kernel_rfl) (by kernel_rfl) fun G a w S => ?_
                      refine sBin (.int .i64 (w64 (s22 - 1))) S (wG (c := decide (0 < s22)) 26 true 51 rfl rfl (by kernel_rfl) hc85) rfl (by kernel_rfl) (by kernel_rfl) (bSub _ _ _ _ s22 1) rfl (by decide) (fun a S => ?_)
                      exact leafL ⟨rfl, S⟩
                    · refine fI 60 q118 [(57, .slice ad1 p0.length cp2), (59, .int .i64 (w64 (s22 - 1))), (51, .bool (decide (0 < s22)))] 35 [some 32, some 34, some 26] rfl rfl (by kernel_rfl) rfl (by kernel_rfl) (by kernel_rfl) fun G a w S => ?_
                      refine sIdxV (v := .slice ad1 p0.length cp2) (k := .i64) (j := w64 (s22 - 1)) S (wG (c := decide (0 < s22)) 26 true 51 rfl rfl (by kernel_rfl) hc85) rfl (by kernel_rfl) (by kernel_rfl) hq119 rfl (by decide) (fun a S => ?_)
                      exact leafL ⟨rfl, S⟩
                    · refine fI 61 q120 [(60, q118), (51, .bool (decide (0 < s22)))] 36 [some 35, some 26] rfl rfl (by kernel_rfl) rfl (by kernel_rfl) (by kernel_rfl) fun G a w S => ?_
                      refine sFldV (q := q118) S (wG (c := decide (0 < s22)) 26 true 51 rfl rfl (by kernel_rfl) hc85) rfl (by kernel_rfl) hq121 rfl (by decide) (fun a S => ?_)
                      exact leafL ⟨rfl, S⟩
                    · refine fI 62 (.int .i64 x91.Y) [(61, q120), (51, .bool (decide (0 < s22)))] 37 [some 36, some 26] rfl rfl (by kernel_rfl) rfl (by kernel_rfl) (by kernel_rfl) fun G a w S => ?_
                      refine sLoadV1 (vq := q120) 0 (.int .i64 x91.Y) S (wG (c := decide (0 < s22)) 26 true 51 rfl rfl (by kernel_rfl) hc85) rfl (by kernel_rfl) (by kernel_rfl) (by kernel_rfl) rfl (by decide) (fun a S => ?_)
                      exact leafL ⟨rfl, S⟩
                    · refine fI 63 (.bool (decide (x33.Y ≤ x91.Y))) [(56, .int .i64 x33.Y), (62, .int .i64 x91.Y), (51, .bool (decide (0 < s22)))] 38 [some 31, some 37, some 26] rfl rfl (by kernel_rfl) rfl (by kernel_rfl) (by kernel_rfl) fun G a w S => ?_
                      refine sBin (.bool (decide (x33.Y ≤ x91.Y))) S (wG (c := decide (0 < s22)) 26 true 51 rfl rfl (by kernel_rfl) hc85) rfl (by kernel_rfl) (by kernel_rfl) (bLe _ _ _ _ .i64 x33.Y x91.Y) rfl (by decide) (fun a S => ?_)
                      exact leafL ⟨rfl, S⟩
                    · refine fI 64 (.bool (decide (x33.Y ≤ x91.Y))) [(51, .bool (decide (0 < s22))), (63, .bool (decide (x33.Y ≤ x91.Y))), (48, .bool (decide (99 < x33.Y)))] 39 [some 26, some 38, some 23] rfl rfl (by kernel_rfl) rfl (by kernel_rfl) (by kernel_rfl) fun G a w S => ?_
                      refine sPickT (b := decide (0 < s22)) (.bool (decide (x33.Y ≤ x91.Y))) S (wG (c := decide (99 < x33.Y)) 23 false 48 rfl rfl (by kernel_rfl) hc69) rfl (by kernel_rfl) hc85 (by kernel_rfl) rfl (by decide) (fun a S => ?_)
                      exact leafL ⟨rfl, S⟩
                    · refine fI 65 (.bool (decide (x33.Y ≤ x91.Y))) [(48, .bool (decide (99 < x33.Y))), (64, .bool (decide (x33.Y ≤ x91.Y)))] 40 [some 23, some 39] rfl rfl (by kernel_rfl) rfl (by kernel_rfl) (by kernel_rfl) fun G a w S => ?_
                      refine sPickF (b := decide (99 < x33.Y)) (.bool (decide (x33.Y ≤ x91.Y))) S (wN rfl) rfl (by kernel_rfl) hc69 (by kernel_rfl) rfl (by decide) (fun a S => ?_)
                      exact leafL ⟨rfl, S⟩
                    · exact leafT (⟨decide (x33.Y ≤ x91.Y), Option.some.inj h, S.fix [] [20] (by decide) (by kernel_rfl) (by kernel_rfl) (by kernel_rfl)⟩)
                  · obtain ⟨q123, hq124, S⟩ := pIdx (P := Try.prog) (r := r_api_Point) (v := .slice ad1 p0.length cp2) (xs := p0) (j := s22) 24 75 0 S Try.underlying24 (by kernel_rfl) (by kernel_rfl) hx34
                    obtain ⟨q125, hq126, S⟩ := pFld (P := Try.prog) (r := r_api_Point) (s2 := (rI .i64)) (g := (·.X)) (q := q123) (z := x33) 75 0 0 0 S (by kernel_rfl) (by kernel_rfl) comp_api_Point_X
                    obtain ⟨u127, S⟩ := pLoad (r := (rI .i64)) (q := q125) (x := x33.X) 0 S (by kernel_rfl)
                    obtain rfl : u127 = .int .i64 x33.X := S.mem.know (i := 1) (e := fRep (rI .i64) (u127) x33.X) (by kernel_rfl)
                    obtain ⟨q128, hq129, S⟩ := pIdx (P := Try.prog) (r := r_api_Point) (v := .slice ad1 p0.length cp2) (xs := p0) (j := s22) 24 75 4 S Try.underlying24 (by kernel_rfl) (by kernel_rfl) hx34
                    obtain ⟨q130, hq131, S⟩ := pFld (P := Try.prog) (r := r_api_Point) (s2 := (rI .i64)) (g := (·.Y)) (q := q128) (z := x33) 75 1 0 1 S (by kernel_rfl) (by kernel_rfl) comp_api_Point_Y
                    obtain ⟨u132, S⟩ := pLoad (r := (rI .i64)) (q := q130) (x := x33.Y) 0 S (by kernel_rfl)
                    obtain rfl : u132 = .int .i64 x33.Y := S.mem.know (i := 1) (e := fRep (rI .i64) (u132) x33.Y) (by kernel_rfl)
                    obtain ⟨q133, hq134, S⟩ := pIdx (P := Try.prog) (r := r_api_Point) (v := .slice ad1 p0.length cp2) (xs := p0) (j := s22) 24 75 8 S Try.underlying24 (by kernel_rfl) (by kernel_rfl) hx34
                    obtain ⟨q135, hq136, S⟩ := pFld (P := Try.prog) (r := r_api_Point) (s2 := (rI .i64)) (g := (·.Y)) (q := q133) (z := x33) 75 1 0 1 S (by kernel_rfl) (by kernel_rfl) comp_api_Point_Y
                    obtain ⟨u137, S⟩ := pLoad (r := (rI .i64)) (q := q135) (x := x33.Y) 0 S (by kernel_rfl)
                    obtain rfl : u137 = .int .i64 x33.Y := S.mem.know (i := 1) (e := fRep (rI .i64) (u137) x33.Y) (by kernel_rfl)
                    refine sDraw (nf := []) (W := [(0, 25, .slice ad1 p0.length cp2), (1, 26, .int .i64 s22), (2, 27, q123), (3, 28, q125), (4, 29, .int .i64 x33.X), (5, 30, .bool r40), (6, 31, .bool (!r40)), (7, 32, .bool (!r40)), (8, 33, .slice ad1 p0.length cp2), (9, 34, .int .i64 s22), (10, 35, q128), (11, 36, q130), (12, 37, .int .i64 x33.Y), (13, 38, .bool (decide (x33.Y < 0))), (14, 39, .bool (decide (x33.Y < 0))), (15, 40, .bool (decide (x33.Y < 0))), (16, 41, .slice ad1 p0.length cp2), (17, 42, .int .i64 s22), (18, 43, q133), (19, 44, q135), (20, 45, .int .i64 x33.Y), (21, 46, .bool (decide (99 < x33.Y))), (22, 47, .bool (decide (99 < x33.Y))), (23, 48, .bool (decide (99 < x33.Y))), (24, 49, .int .i64 s22), (25, 50, .bool (decide (0 < s22))), (26, 51, .bool (decide (0 < s22))), (27, 52, undef), (28, 53, undef), (29, 54, undef), (30, 55, undef), (31, 56, undef), (32, 57, undef), (33, 58, undef), (34, 59, undef), (35, 60, undef), (36, 61, undef), (37, 62, undef), (38, 63, undef), (39, 64, .bool false), (40, 65, .bool false)]) (by kernel_rfl) S ?_
                    refine node_by (A := anc_raddleref37_side_0) (nf := []) (Y := []) (W := [(0, 25, .slice ad1 p0.length cp2), (1, 26, .int .i64 s22), (2, 27, q123), (3, 28, q125), (4, 29, .int .i64 x33.X), (5, 30, .bool r40), (6, 31, .bool (!r40)), (7, 32, .bool (!r40)), (8, 33, .slice ad1 p0.length cp2), (9, 34, .int .i64 s22), (10, 35, q128), (11, 36, q130), (12, 37, .int .i64 x33.Y), (13, 38, .bool (decide (x33.Y < 0))), (14, 39, .bool (decide (x33.Y < 0))), (15, 40, .bool (decide (x33.Y < 0))), (16, 41, .slice ad1 p0.length cp2), (17, 42, .int .i64 s22), (18, 43, q133), (19, 44, q135), (20, 45, .int .i64 x33.Y), (21, 46, .bool (decide (99 < x33.Y))), (22, 47, .bool (decide (99 < x33.Y))), (23, 48, .bool (decide (99 < x33.Y))), (24, 49, .int .i64 s22), (25, 50, .bool (decide (0 < s22))), (26, 51, .bool (decide (0 < s22))), (27, 52, undef), (28, 53, undef), (29, 54, undef), (30, 55, undef), (31, 56, undef), (32, 57, undef), (33, 58, undef), (34, 59, undef), (35, 60, undef), (36, 61, undef), (37, 62, undef), (38, 63, undef), (39, 64, .bool false), (40, 65, .bool false)]) 41 (by kernel_rfl) (by kernel_rfl) (by kernel_rfl) (by kernel_rfl) (by kernel_rfl) [0, 1, 2, 3, 4, 5, 6, 7, 8, 9, 10, 11, 12, 13, 14, 15, 16, 17, 18, 19, 20, 21, 22, 23, 24, 25, 26, 27, 28, 29, 30, 31, 32, 33, 34, 35, 36, 37, 38, 39, 40] (by kernel_rfl) (by decide) (by decide) (aF 0 40 (by decide) ?_ (aF 1 39 (by decide) ?_ (aF 2 38 (by decide) ?_ (aF 3 37 (by decide) ?_ (aF 4 36 (by decide) ?_ (aF 5 35 (by decide) ?_ (aF 6 34 (by decide) ?_ (aF 7 33 (by decide) ?_ (aF 8 32 (by decide) ?_ (aF 9 31 (by decide) ?_ (aF 10 30 (by decide) ?_ (aF 11 29 (by decide) ?_ (aF 12 28 (by decide) ?_ (aF 13 27 (by decide) ?_ (aF 14 26 (by decide) ?_ (aF 15 25 (by decide) ?_ (aF 16 24 (by decide) ?_ (aF 17 23 (by decide) ?_ (aF 18 22 (by decide) ?_ (aF 19 21 (by decide) ?_ (aF 20 20 (by decide) ?_ (aF 21 19 (by decide) ?_ (aF 22 18 (by decide) ?_ (aF 23 17 (by decide) ?_ (aF 24 16 (by decide) ?_ (aF 25 15 (by decide) ?_ (aF 26 14 (by decide) ?_ (aF 27 13 (by decide) ?_ (aF 28 12 (by decide) ?_ (aF 29 11 (by decide) ?_ (aF 30 10 (by decide) ?_ (aF 31 9 (by decide) ?_ (aF 32 8 (by decide) ?_ (aF 33 7 (by decide) ?_ (aF 34 6 (by decide) ?_ (aF 35 5 (by decide) ?_ (aF 36 4 (by decide) ?_ (aF 37 3 (by decide) ?_ (aF 38 2 (by decide) ?_ (aF 39 1 (by decide) ?_ (aF 40 0 (by decide) ?_ (trivial)))))))))))))))))))))))))))))))))))))))))) [(0, .slice ad1 p0.length cp2), (3, .int .i64 s22), (33, .slice ad1 p0.length cp2), (34, .int .i64 s22), (35, q128), (36, q130), (37, .int .i64 x33.Y), (38, .bool (decide (x33.Y < 0))), (41, .slice ad1 p0.length cp2), (42, .int .i64 s22), (43, q133), (44, q135), (45, .int .i64 x33.Y), (46, .bool (decide (99 < x33.Y))), (49, .int .i64 s22), (50, .bool (decide (0 < s22))), (51, .bool (decide (0 < s22))), (52, undef), (53, undef), (54, undef), (55, undef), (56, undef), (57, undef), (58, undef), (59, undef), (60, undef), (61, undef), (62, undef), (63, undef), (64, .bool false), (65, .bool false)] (fin_of [none, none, some 8, some 9, some 10, some 11, some 12, some 13, some 16, some 17, some 18, some 19, some 20, some 21, some 24, some 25, some 26, some 27, some 28, some 29, some 30, some 31, some 32, some 33, some 34, some 35, some 36, some 37, some 38, some 39, some 40] rfl (by kernel_rfl) (by kernel_rfl)) (fun _ a w S => ?_)
                    · refine fI 25 (.slice ad1 p0.length cp2) [(0, .slice ad1 p0.length cp2)] 0 [none] rfl rfl (by kernel_rfl) rfl (by kernel_rfl) (by kernel_rfl) fun G a w S => ?_
                      refine sMove (.slice ad1 p0.length cp2) S (wN rfl) (.inl rfl) (by kernel_rfl) rfl (by decide) (fun a S => ?_)
                      exact leafL ⟨rfl, S⟩
                    · refine fI 26 (.int .i64 s22) [(3, .int .i64 s22)] 1 [none] rfl rfl (by kernel_rfl) rfl (by kernel_rfl) (by kernel_rfl) fun G a w S => ?_
                      refine sMove (.int .i64 s22) S (wN rfl) (.inl rfl) (by kernel_rfl) rfl (by decide) (fun a S => ?_)
                      exact leafL ⟨rfl, S⟩
                    · refine fI 27 q123 [(25, .slice ad1 p0.length cp2), (26, .int .i64 s22)] 2 [some 0, some 1] rfl rfl (by kernel_rfl) rfl (by kernel_rfl) (by kernel_rfl) fun G a w S => ?_
                      refine sIdxV (v := .slice ad1 p0.length cp2) (k := .i64) (j := s22) S (wN rfl) rfl (by kernel_rfl) (by kernel_rfl) hq124 rfl (by decide) (fun a S => ?_)
                      exact leafL ⟨rfl, S⟩
                    · refine fI 28 q125 [(27, q123)] 3 [some 2] rfl rfl (by kernel_rfl) rfl (by kernel_rfl) (by kernel_rfl) fun G a w S => ?_
                      refine sFldV (q := q123) S (wN rfl) rfl (by kernel_rfl) hq126 rfl (by decide) (fun a S => ?_)
                      exact leafL ⟨rfl, S⟩
                    · refine fI 29 (.int .i64 x33.X) [(28, q125)] 4 [some 3] rfl rfl (by kernel_rfl) rfl (by kernel_rfl) (by kernel_rfl) fun G a w S => ?_
                      refine sLoadV1 (vq := q125) 8 (.int .i64 x33.X) S (wN rfl) rfl (by kernel_rfl) (by kernel_rfl) (by kernel_rfl) rfl (by decide) (fun a S => ?_)
                      exact leafL ⟨rfl, S⟩
                    · refine fI 30 (.bool r40) [(29, .int .i64 x33.X)] 5 [some 4] rfl rfl (by kernel_rfl) rfl (by kernel_rfl) (by kernel_rfl) fun G a w S => ?_
                      have S1 := S.mem
                      refine sCallQ (X := Unit) (f := 34) (vs := [.int .i64 x33.X]) (val := fun _ => .bool r40) S (wN rfl) rfl callee34 (by kernel_rfl) (S1.quiet [] (by kernel_rfl)) (fun E1 w1 S1 => c_raddleref37_in E1 w1 x33.X r40 hx41 S1) rfl (by decide) (fun _ a w S => ?_)
                      exact leafL ⟨rfl, S⟩
                    · refine fI 31 (.bool (!r40)) [(30, .bool r40)] 6 [some 5] rfl rfl (by kernel_rfl) rfl (by kernel_rfl) (by kernel_rfl) fun G a w S => ?_
                      refine sNot (b := r40) S (wN rfl) rfl (by kernel_rfl) rfl (by decide) (fun a S => ?_)
                      exact leafL ⟨rfl, S⟩
                    · refine fI 32 (.bool (!r40)) [(31, .bool (!r40))] 7 [some 6] rfl rfl (by kernel_rfl) rfl (by kernel_rfl) (by kernel_rfl) fun G a w S => ?_
                      refine sMove (.bool (!r40)) S (wN rfl) (.inl rfl) (by kernel_rfl) rfl (by decide) (fun a S => ?_)
                      exact leafL ⟨rfl, S⟩
                    · refine fI 33 (.slice ad1 p0.length cp2) [(0, .slice ad1 p0.length cp2), (32, .bool (!r40))] 8 [none, some 7] rfl rfl (by kernel_rfl) rfl (by kernel_rfl) (by kernel_rfl) fun G a w S => ?_
                      refine sMove (.slice ad1 p0.length cp2) S (wG (c := !r40) 7 false 32 rfl rfl (by kernel_rfl) hc42) (.inl rfl) (by kernel_rfl) rfl (by decide) (fun a S => ?_)
                      exact leafL ⟨rfl, S⟩
                    · refine fI 34 (.int .i64 s22) [(3, .int .i64 s22), (32, .bool (!r40))] 9 [none, some 7] rfl rfl (by kernel_rfl) rfl (by kernel_rfl) (by kernel_rfl) fun G a w S => ?_
                      refine sMove (.int .i64 s22) S (wG (c := !r40) 7 false 32 rfl rfl (by kernel_rfl) hc42) (.inl rfl) (by kernel_rfl) rfl (by decide) (fun a S => ?_)
                      exact leafL ⟨rfl, S⟩
                    · refine fI 35 q128 [(33, .slice ad1 p0.length cp2), (34, .int .i64 s22), (32, .bool (!r40))] 10 [some 8, some 9, some 7] rfl rfl (by kernel_rfl) rfl (by kernel_rfl) (by kernel_rfl) fun G a w S => ?_
                      refine sIdxV (v := .slice ad1 p0.length cp2) (k := .i64) (j := s22) S (wG (c := !r40) 7 false 32 rfl rfl (by kernel_rfl) hc42) rfl (by kernel_rfl) (by kernel_rfl) hq129 rfl (by decide) (fun a S => ?_)
                      exact leafL ⟨rfl, S⟩
                    · refine fI 36 q130 [(35, q128), (32, .bool (!r40))] 11 [some 10, some 7] rfl rfl (by kernel_rfl) rfl (by kernel_rfl) (by kernel_rfl) fun G a w S => ?_
                      refine sFldV (q := q128) S (wG (c := !r40) 7 false 32 rfl rfl (by kernel_rfl) hc42) rfl (by kernel_rfl) hq131 rfl (by decide) (fun a S => ?_)
                      exact leafL ⟨rfl, S⟩
                    · refine fI 37 (.int .i64 x33.Y) [(36, q130), (32, .bool (!r40))] 12 [some 11, some 7] rfl rfl (by kernel_rfl) rfl (by kernel_rfl) (by kernel_rfl) fun G a w S => ?_
                      refine sLoadV1 (vq := q130) 4 (.int .i64 x33.Y) S (wG (c := !r40) 7 false 32 rfl rfl (by kernel_rfl) hc42) rfl (by kernel_rfl) (by kernel_rfl) (by kernel_rfl) rfl (by decide) (fun a S => ?_)
                      exact leafL ⟨rfl, S⟩
                    · refine fI 38 (.bool (decide (x33.Y < 0))) [(37, .int .i64 x33.Y), (32, .bool (!r40))] 13 [some 12, some 7] rfl rfl (by kernel_rfl) rfl (by kernel_rfl) (by kernel_rfl) fun G a w S => ?_
                      refine sBin (.bool (decide (x33.Y < 0))) S (wG (c := !r40) 7 false 32 rfl rfl (by kernel_rfl) hc42) rfl (by kernel_rfl) (by kernel_rfl) (bLt _ _ _ _ .i64 x33.Y 0) rfl (by decide) (fun a S => ?_)
                      exact leafL ⟨rfl, S⟩
                    · refine fI 39 (.bool (decide (x33.Y < 0))) [(32, .bool (!r40)), (38, .bool (decide (x33.Y < 0)))] 14 [some 7, some 13] rfl rfl (by kernel_rfl) rfl (by kernel_rfl) (by kernel_rfl) fun G a w S => ?_
                      refine sPickF (b := !r40) (.bool (decide (x33.Y < 0))) S (wN rfl) rfl (by kernel_rfl) hc42 (by kernel_rfl) rfl (by decide) (fun a S => ?_)
                      exact leafL ⟨rfl, S⟩
                    · refine fI 40 (.bool (decide (x33.Y < 0))) [(39, .bool (decide (x33.Y < 0)))] 15 [some 14] rfl rfl (by kernel_rfl) rfl (by kernel_rfl) (by kernel_rfl) fun G a w S => ?_
                      refine sMove (.bool (decide (x33.Y < 0))) S (wN rfl) (.inl rfl) (by kernel_rfl) rfl (by decide) (fun a S => ?_)
                      exact leafL ⟨rfl, S⟩
                    · refine fI 41 (.slice ad1 p0.length cp2) [(0, .slice ad1 p0.length cp2), (40, .bool (decide (x33.Y < 0)))] 16 [none, some 15] rfl rfl (by kernel_rfl) rfl (by kernel_rfl) (by kernel_rfl) fun G a w S => ?_
                      refine sMove (.slice ad1 p0.length cp2) S (wG (c := decide (x33.Y < 0)) 15 false 40 rfl rfl (by kernel_rfl) hc53) (.inl rfl) (by kernel_rfl) rfl (by decide) (fun a S => ?_)
                      exact leafL ⟨rfl, S⟩
                    · refine fI 42 (.int .i64 s22) [(3, .int .i64 s22), (40, .bool (decide (x33.Y < 0)))] 17 [none, some 15] rfl rfl (by kernel_rfl) rfl (by kernel_rfl) (by kernel_rfl) fun G a w S => ?_
                      refine sMove (.int .i64 s22) S (wG (c := decide (x33.Y < 0)) 15 false 40 rfl rfl (by kernel_rfl) hc53) (.inl rfl) (by kernel_rfl) rfl (by decide) (fun a S => ?_)
                      exact leafL ⟨rfl, S⟩
                    · refine fI 43 q133 [(41, .slice ad1 p0.length cp2), (42, .int .i64 s22), (40, .bool (decide (x33.Y < 0)))] 18 [some 16, some 17, some 15] rfl rfl (by kernel_rfl) rfl (by kernel_rfl) (by kernel_rfl) fun G a w S => ?_
                      refine sIdxV (v := .slice ad1 p0.length cp2) (k := .i64) (j := s22) S (wG (c := decide (x33.Y < 0)) 15 false 40 rfl rfl (by kernel_rfl) hc53) rfl (by kernel_rfl) (by kernel_rfl) hq134 rfl (by decide) (fun a S => ?_)
                      exact leafL ⟨rfl, S⟩
                    · refine fI 44 q135 [(43, q133), (40, .bool (decide (x33.Y < 0)))] 19 [some 18, some 15] rfl rfl (by kernel_rfl) rfl (by kernel_rfl) (by kernel_rfl) fun G a w S => ?_
                      refine sFldV (q := q133) S (wG (c := decide (x33.Y < 0)) 15 false 40 rfl rfl (by kernel_rfl) hc53) rfl (by kernel_rfl) hq136 rfl (by decide) (fun a S => ?_)
                      exact leafL ⟨rfl, S⟩
                    · refine fI 45 (.int .i64 x33.Y) [(44, q135), (40, .bool (decide (x33.Y < 0)))] 20 [some 19, some 15] rfl rfl (by kernel_rfl) rfl (by kernel_rfl) (by kernel_rfl) fun G a w S => ?_
                      refine sLoadV1 (vq := q135) 0 (.int .i64 x33.Y) S (wG (c := decide (x33.Y < 0)) 15 false 40 rfl rfl (by kernel_rfl) hc53) rfl (by kernel_rfl) (by kernel_rfl) (by kernel_rfl) rfl (by decide) (fun a S => ?_)
                      exact leafL ⟨rfl, S⟩
                    · refine fI 46 (.bool (decide (99 < x33.Y))) [(45, .int .i64 x33.Y), (40, .bool (decide (x33.Y < 0)))] 21 [some 20, some 15] rfl rfl (by kernel_rfl) rfl (by kernel_rfl) (by kernel_rfl) fun G a w S => ?_
                      refine sBin (.bool (decide (99 < x33.Y))) S (wG (c := decide (x33.Y < 0)) 15 false 40 rfl rfl (by kernel_rfl) hc53) rfl (by kernel_rfl) (by kernel_rfl) (bGt _ _ _ _ .i64 x33.Y 99) rfl (by decide) (fun a S => ?_)
                      exact leafL ⟨rfl, S⟩
                    · refine fI 47 (.bool (decide (99 < x33.Y))) [(40, .bool (decide (x33.Y < 0))), (46, .bool (decide (99 < x33.Y)))] 22 [some 15, some 21] rfl rfl (by kernel_rfl) rfl (by kernel_rfl) (by kernel_rfl) fun G a w S => ?_
                      refine sPickF (b := decide (x33.Y < 0)) (.bool (decide (99 < x33.Y))) S (wN rfl) rfl (by kernel_rfl) hc53 (by kernel_rfl) rfl (by decide) (fun a S => ?_)
                      exact leafL ⟨rfl, S⟩
                    · refine fI 48 (.bool (decide (99 < x33.Y))) [(47, .bool (decide (99 < x33.Y)))] 23 [some 22] rfl rfl (by kernel_rfl) rfl (by kernel_rfl) (by kernel_rfl) fun G a w S => ?_
                      refine sMove (.bool (decide (99 < x33.Y))) S (wN rfl) (.inl rfl) (by kernel_rfl) rfl (by decide) (fun a S => ?_)
                      exact leafL ⟨rfl, S⟩
                    · refine fI 49 (.int .i64 s22) [(3, .int .i64 s22), (48, .bool (decide (99 < x33.Y)))] 24 [none, some 23] rfl rfl (by kernel_rfl) rfl (by kernel_rfl) (by kernel_rfl) fun G a w S => ?_
                      refine sMove (.int .i64 s22) S (wG (c := decide (99 < x33.Y)) 23 false 48 rfl rfl (by kernel_rfl) hc69) (.inl rfl) (by kernel_rfl) rfl (by decide) (fun a S => ?_)
                      exact leafL ⟨rfl, S⟩
                    · refine fI 50 (.bool (decide (0 < s22))) [(49, .int .i64 s22), (48, .bool (decide (99 < x33.Y)))] 25 [some 24, some 23] rfl rfl (by kernel_rfl) rfl (by kernel_rfl) (by kernel_rfl) fun G a w S => ?_
                      refine sBin (.bool (decide (0 < s22))) S (wG (c := decide (99 < x33.Y)) 23 false 48 rfl rfl (by kernel_rfl) hc69) rfl (by kernel_rfl) (by kernel_rfl) (bGt _ _ _ _ .i64 s22 0) rfl (by decide) (fun a S => ?_)
                      exact leafL ⟨rfl, S⟩
                    · refine fI 51 (.bool (decide (0 < s22))) [(50, .bool (decide (0 < s22))), (48, .bool (decide (99 < x33.Y)))] 26 [some 25, some 23] rfl rfl (by kernel_rfl) rfl (by kernel_rfl) (by kernel_rfl) fun G a w S => ?_
                      refine sMove (.bool (decide (0 < s22))) S (wG (c := decide (99 < x33.Y)) 23 false 48 rfl rfl (by kernel_rfl) hc69) (.inl rfl) (by kernel_rfl) rfl (by decide) (fun a S => ?_)
                      exact leafL ⟨rfl, S⟩
                    · refine fI 52 undef [(0, .slice ad1 p0.length cp2), (51, .bool (decide (0 < s22)))] 27 [none, some 26] rfl rfl (by kernel_rfl) rfl (by kernel_rfl) (by kernel_rfl) fun G a w S => ?_
                      refine sSkip (c := decide (0 < s22)) 26 true 51 52 S rfl rfl (by kernel_rfl) hc85 rfl (by decide) (fun a S => ?_)
                      exact leafL ⟨rfl, S⟩
                    · refine fI 53 undef [(3, .int .i64 s22), (51, .bool (decide (0 < s22)))] 28 [none, some 26] rfl rfl (by kernel_rfl) rfl (by kernel_rfl) (by kernel_rfl) fun G a w S => ?_
                      refine sSkip (c := decide (0 < s22)) 26 true 51 53 S rfl rfl (by kernel_rfl) hc85 rfl (by decide) (fun a S => ?_)
                      exact leafL ⟨rfl, S⟩
                    · refine fI 54 undef [(52, undef), (53, undef), (51, .bool (decide (0 < s22)))] 29 [some 27, some 28, some 26] rfl rfl (by kernel_rfl) rfl (by kernel_rfl) (by kernel_rfl) fun G a w S => ?_
                      refine sSkip (c := decide (0 < s22)) 26 true 51 54 S rfl rfl (by kernel_rfl) hc85 rfl (by decide) (fun a S => ?_)
                      exact leafL ⟨rfl, S⟩
                    · refine fI 55 undef [(54, undef), (51, .bool (decide (0 < s22)))] 30 [some 29, some 26] rfl rfl (by kernel_rfl) rfl (by kernel_rfl) (by kernel_rfl) fun G a w S => ?_
                      refine sSkip (c := decide (0 < s22)) 26 true 51 55 S rfl rfl (by kernel_rfl) hc85 rfl (by decide) (fun a S => ?_)
                      exact leafL ⟨rfl, S⟩
                    · refine fI 56 undef [(55, undef), (51, .bool (decide (0 < s22)))] 31 [some 30, some 26] rfl rfl (by kernel_rfl) rfl (by kernel_rfl) (by kernel_rfl) fun G a w S => ?_
                      refine sSkip (c := decide (0 < s22)) 26 true 51 56 S rfl rfl (by kernel_rfl) hc85 rfl (by decide) (fun a S => ?_)
                      exact leafL ⟨rfl, S⟩
                    · refine fI 57 undef [(0, .slice ad1 p0.length cp2), (51, .bool (decide (0 < s22)))] 32 [none, some 26] rfl rfl (by kernel_rfl) rfl (by kernel_rfl) (by kernel_rfl) fun G a w S => ?_
                      refine sSkip (c := decide (0 < s22)) 26 true 51 57 S rfl rfl (by kernel_rfl) hc85 rfl (by decide) (fun a S => ?_)
                      exact leafL ⟨rfl, S⟩
                    · refine fI 58 undef [(3, .int .i64 s22), (51, .bool (decide (0 < s22)))] 33 [none, some 26] rfl rfl (by kernel_rfl) rfl (by kernel_rfl) (by kernel_rfl) fun G a w S => ?_
                      refine sSkip (c := decide (0 < s22)) 26 true 51 58 S rfl rfl (by kernel_rfl) hc85 rfl (by decide) (fun a S => ?_)
                      exact leafL ⟨rfl, S⟩
                    · refine fI 59 undef [(58, undef), (51, .bool (decide (0 < s22)))] 34 [some 33, some 26] rfl rfl (by kernel_rfl) rfl (by kernel_rfl) (by kernel_rfl) fun G a w S => ?_
                      refine sSkip (c := decide (0 < s22)) 26 true 51 59 S rfl rfl (by kernel_rfl) hc85 rfl (by decide) (fun a S => ?_)
                      exact leafL ⟨rfl, S⟩
                    · refine fI 60 undef [(57, undef), (59, undef), (51, .bool (decide (0 < s22)))] 35 [some 32, some 34, some 26] rfl rfl (by kernel_rfl) rfl (by kernel_rfl) (by kernel_rfl) fun G a w S => ?_
                      refine sSkip (c := decide (0 < s22)) 26 true 51 60 S rfl rfl (by kernel_rfl) hc85 rfl (by decide) (fun a S => ?_)
                      exact leafL ⟨rfl, S⟩
                    · refine fI 61 undef [(60, undef), (51, .bool (decide (0 < s22)))] 36 [some 35, some 26] rfl rfl (by kernel_rfl) rfl (by kernel_rfl) (by kernel_rfl) fun G a w S => ?_
                      refine sSkip (c := decide (0 < s22)) 26 true 51 61 S rfl rfl (by kernel_rfl) hc85 rfl (by decide) (fun a S => ?_)
                      exact leafL ⟨rfl, S⟩
                    · refine fI 62 undef [(61, undef), (51, .bool (decide (0 < s22)))] 37 [some 36, some 26] rfl rfl (by kernel_rfl) rfl (by kernel_rfl) (by kernel_rfl) fun G a w S => ?_
                      refine sSkip (c := decide (0 < s22)) 26 true 51 62 S rfl rfl (by kernel_rfl) hc85 rfl (by decide) (fun a S => ?_)
                      exact leafL ⟨rfl, S⟩
                    · refine fI 63 undef [(56, undef), (62, undef), (51, .bool (decide (0 < s22)))] 38 [some 31, some 37, some 26] rfl rfl (by kernel_rfl) rfl (by kernel_rfl) (by kernel_rfl) fun G a w S => ?_
                      refine sSkip (c := decide (0 < s22)) 26 true 51 63 S rfl rfl (by kernel_rfl) hc85 rfl (by decide) (fun a S => ?_)
                      exact leafL ⟨rfl, S⟩
                    · refine fI 64 (.bool false) [(51, .bool (decide (0 < s22))), (63, undef), (48, .bool (decide (99 < x33.Y)))] 39 [some 26, some 38, some 23] rfl rfl (by kernel_rfl) rfl (by kernel_rfl) (by kernel_rfl) fun G a w S => ?_
                      refine sPickF (b := decide (0 < s22)) (.bool false) S (wG (c := decide (99 < x33.Y)) 23 false 48 rfl rfl (by kernel_rfl) hc69) rfl (by kernel_rfl) hc85 (by kernel_rfl) rfl (by decide) (fun a S => ?_)
                      exact leafL ⟨rfl, S⟩
                    · refine fI 65 (.bool false) [(48, .bool (decide (99 < x33.Y))), (64, .bool false)] 40 [some 23, some 39] rfl rfl (by kernel_rfl) rfl (by kernel_rfl) (by kernel_rfl) fun G a w S => ?_
                      refine sPickF (b := decide (99 < x33.Y)) (.bool false) S (wN rfl) rfl (by kernel_rfl) hc69 (by kernel_rfl) rfl (by decide) (fun a S => ?_)
                      exact leafL ⟨rfl, S⟩
                    · exact leafT (⟨false, Option.some.inj h, S.fix [] [12] (by decide) (by kernel_rfl) (by kernel_rfl) (by kernel_rfl)⟩)
          · obtain ⟨o30, rfl, S⟩ := hI
            have h := g32
            clear g32
            try dsimp only at h
            rcases iteSome h with ⟨hc138, h⟩ | ⟨hc138, h⟩
            · refine sCondT (b := o30) S (by kernel_rfl) hc138 ?_
              refine sSeq (fun K139 hK139 => ?_)
              refine sRegion ?_
              refine sMove (.bool false) S (wN rfl) (.inr rfl) (by kernel_rfl) rfl (by decide) (fun a S => ?_)
              refine leafL (leafT (hK139 _ _ ?_))
              obtain rfl := Option.some.inj h
              obtain rfl := hu23 _ rfl
              have h := g24
              clear g24
              try dsimp only at h
              obtain rfl := Option.some.inj h
              have h := g20
              clear g20
              try dsimp only at h
              obtain rfl := Option.some.inj h
              exact wp_ret (rBlock (rThen (rThen (rBlock (rThen (sRet (.bool false) S (rsl1 rfl (rvT (t := 2) (v := .bool false) S (by kernel_rfl))) ⟨(), rfl, S.mem.sel [] [] (by decide) (by kernel_rfl) (by kernel_rfl)⟩))))))
            · refine sCondF (b := o30) S (by kernel_rfl) hc138 ?_
              refine wp_skip (leafB (leafT (hK29 _ _ ?_)))
              refine sRegion ?_
              refine sMove (.int .i64 s22) S (wN rfl) (.inl rfl) (by kernel_rfl) rfl (by decide) (fun a S => ?_)
              refine sBin (.int .i64 (w64 (s22 + 1))) S (wN rfl) rfl (by kernel_rfl) (by kernel_rfl) (bAdd _ _ _ _ s22 1) rfl (by decide) (fun a S => ?_)
              refine sMove (.int .i64 (w64 (s22 + 1))) S (wN rfl) (.inr rfl) (by kernel_rfl) rfl (by decide) (fun a S => ?_)
              exact leafL (leafT (⟨w64 (s22 + 1), (Option.some.inj h).symm, (S.fix [] [0] (by decide) (by kernel_rfl) (by kernel_rfl) (by kernel_rfl))⟩))
        · refine sCondF (b := decide (s22 < (p0.length : Int))) S (by kernel_rfl) hc28 ?_
          obtain rfl := Option.some.inj h
          obtain rfl := hu23 _ rfl
          have h := g24
          clear g24
          try dsimp only at h
          exact wp_exit (xThen (xThen (xHit (leafT (⟨Option.some.inj h, S.fix [] [] (by decide) (by kernel_rfl) (by kernel_rfl) (by kernel_rfl)⟩)))))
      · obtain ⟨rfl, S⟩ := hI
        have h := g20
        clear g20
        try dsimp only at h
        refine sSeq (fun K140 hK140 => ?_)
        refine sRegion ?_
        refine sMove (.bool true) S (wN rfl) (.inr rfl) (by kernel_rfl) rfl (by decide) (fun a S => ?_)
        refine leafL (leafT (hK140 _ _ ?_))
        obtain rfl := Option.some.inj h
        exact wp_ret (sRet (.bool true) S (rsl1 rfl (rvT (t := 2) (v := .bool true) S (by kernel_rfl))) ⟨(), rfl, S.mem.sel [] [] (by decide) (by kernel_rfl) (by kernel_rfl)⟩)

end Go.Proofs.Ytmedbnjhgkcndaa
