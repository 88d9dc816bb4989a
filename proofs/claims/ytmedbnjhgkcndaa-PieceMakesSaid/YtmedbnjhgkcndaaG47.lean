import Derived.Test.YtmedbnjhgkcndaaGTy
import Derived.Test.YtmedbnjhgkcndaaG33
namespace Go.Proofs.Ytmedbnjhgkcndaa
open Go.RowKit
set_option linter.unusedVariables false

def anc_piece_side_0 : List (List Nat) := [[], [0], [0, 1], [0, 1, 2], [0, 1, 2, 3], [0, 1, 2, 3, 4], [0, 1, 2, 3, 4, 5], [0, 1, 2, 3, 4, 5, 6], [0, 1, 2, 3, 4, 5, 6, 7], [0, 1, 2, 3, 4, 5, 6, 7, 8], [0, 1, 2, 3, 4, 5, 6, 7], [0, 1, 2, 3, 4, 5, 6, 7], [0, 1, 2, 3, 4, 5, 6, 7, 11], [0, 1, 2, 3, 4, 5, 6, 7, 10, 11, 12], [0, 1, 2, 3, 4, 5, 6, 7, 10, 11, 12, 13], [0, 1, 2, 3, 4, 5, 6, 7, 10, 11, 12, 13, 14], [0, 1, 2, 3, 4, 5, 6, 7, 8, 9, 10, 11, 12, 13, 14, 15], [0, 1, 2, 3, 4, 5, 6, 7, 8, 9, 10, 11, 12, 13, 14, 15, 16], [0, 1, 2, 3, 4, 5, 6, 7, 8, 9, 10, 11, 12, 13, 14, 15, 16, 17]]
noncomputable def piece_side_l1 (p0 : (List api_Point)) : Int → Option (Int ⊕ (Bool ⊕ Unit)) := fun s0 => match s0 with
  | s30 =>
    if decide (s30 < (p0.length : Int)) then
      Option.bind (idxO p0 s30) fun x39 =>
      Option.bind (α := Bool) (
        Option.bind (F_piece_column x39.X) fun r48 =>
        if !r48 then
          some true
        else
          if decide (0 < s30) then
            Option.bind (idxO p0 (w64 (s30 - 1))) fun x52 =>
            some (decide (x39.Y ≤ x52.Y))
          else
            some false) fun o45 =>
      if o45 then
        some (.inr (.inl false))
      else
        some (.inl (w64 (s30 + 1)))
    else
      some (.inr (.inr ()))
noncomputable def F_piece_side (p0 : (List api_Point)) : Option Bool :=
  Option.bind (α := Bool) (
    if (p0.length : Int) == 0 then
      some true
    else
      if decide (50 < (p0.length : Int)) then
        some true
      else
        Option.bind (idxO p0 0) fun x10 =>
        if x10.Y != 0 then
          some true
        else
          Option.bind (idxO p0 (w64 ((p0.length : Int) - 1))) fun x18 =>
          some (decide (100 ≤ x18.Y))) fun o5 =>
  if o5 then
    some false
  else
    Option.bind (α := Unit ⊕ Bool) (
      Option.bind (whileO (piece_side_l1 p0) 0) fun z0 => match z0 with
        | .inl z =>
          some (.inr z)
        | .inr _ =>
          some (.inl ())) fun z0 => match z0 with
      | .inl _ =>
        some true
      | .inr z =>
        some z
set_option maxHeartbeats 4000000 in
set_option maxRecDepth 100000 in
theorem c_piece_side (E : Nat → Prop) (w0 : World) (p0 : (List api_Point)) (v0 : Value) (r : Bool) (h : F_piece_side p0 = some r) (S : St0 E [] w0 w0 [] [fRep (rL r_api_Point) (v0) p0]) :
    Calls Try.prog 47 #[v0] w0 (Ret (X := Unit) E [] w0 (fun _ => .bool r) (fun _ => []) (fun _ => [])) := by
  unfold F_piece_side at h
  obtain ⟨ad1, cp2, _, rfl, _⟩ := S.know (i := 0) (e := fRep (rL r_api_Point) (v0) p0) (by kernel_rfl)
  refine sEnter (args := [.slice ad1 p0.length cp2]) 57 Try.func47 rfl rfl (by simp) S (fun a S => ?_)
  refine sSeq (fun K3 hK3 => ?_)
  refine sRegion ?_
  refine sMove (.bool false) S (wN rfl) (.inr rfl) (by kernel_rfl) rfl (by decide) (fun a S => ?_)
  refine leafL (leafT (hK3 _ _ ?_))
  refine sSeq (fun K4 hK4 => ?_)
  obtain ⟨t6, h, g7⟩ := bindSome h
  refine sCut (fun a w => ∃ o5, o5 = t6 ∧ St E [] w0 57 a w [(0, .slice ad1 p0.length cp2), (29, .bool o5)] [] [fRep (rL r_api_Point) (.slice ad1 p0.length cp2) p0]) ?_ (fun a w hI => ?_)
  · refine sRegion ?_
    refine sMove (.slice ad1 p0.length cp2) S (wN rfl) (.inl rfl) (by kernel_rfl) rfl (by decide) (fun a S => ?_)
    refine sLen (ad := ad1) (m := p0.length) (c := cp2) S (wN rfl) rfl Try.underlying24 (by kernel_rfl) rfl (by decide) (fun a S => ?_)
    refine sBin (.bool ((p0.length : Int) == 0)) S (wN rfl) rfl (by kernel_rfl) (by kernel_rfl) (bEq _ _ _ _ .i64 (p0.length : Int) 0) rfl (by decide) (fun a S => ?_)
    refine sMove (.bool ((p0.length : Int) == 0)) S (wN rfl) (.inl rfl) (by kernel_rfl) rfl (by decide) (fun a S => ?_)
    rcases iteSome h with ⟨hc8, h⟩ | ⟨hc8, h⟩
    · refine sSkip (c := (p0.length : Int) == 0) 3 false 8 9 S rfl rfl (by kernel_rfl) hc8 rfl (by decide) (fun a S => ?_)
      refine sSkip (c := (p0.length : Int) == 0) 3 false 8 10 S rfl rfl (by kernel_rfl) hc8 rfl (by decide) (fun a S => ?_)
      refine sSkip (c := (p0.length : Int) == 0) 3 false 8 11 S rfl rfl (by kernel_rfl) hc8 rfl (by decide) (fun a S => ?_)
      refine sPickT (b := (p0.length : Int) == 0) (.bool true) S (wN rfl) rfl (by kernel_rfl) hc8 (by kernel_rfl) rfl (by decide) (fun a S => ?_)
      refine sMove (.bool true) S (wN rfl) (.inl rfl) (by kernel_rfl) rfl (by decide) (fun a S => ?_)
      refine sSkip (c := true) 8 false 13 14 S rfl rfl (by kernel_rfl) rfl rfl (by decide) (fun a S => ?_)
      refine sSkip (c := true) 8 false 13 15 S rfl rfl (by kernel_rfl) rfl rfl (by decide) (fun a S => ?_)
      refine sSkip (c := true) 8 false 13 16 S rfl rfl (by kernel_rfl) rfl rfl (by decide) (fun a S => ?_)
      refine sSkip (c := true) 8 false 13 17 S rfl rfl (by kernel_rfl) rfl rfl (by decide) (fun a S => ?_)
      refine sSkip (c := true) 8 false 13 18 S rfl rfl (by kernel_rfl) rfl rfl (by decide) (fun a S => ?_)
      refine sPickT (b := true) (.bool true) S (wN rfl) rfl (by kernel_rfl) rfl (by kernel_rfl) rfl (by decide) (fun a S => ?_)
      refine sMove (.bool true) S (wN rfl) (.inl rfl) (by kernel_rfl) rfl (by decide) (fun a S => ?_)
      refine sSkip (c := true) 15 false 20 21 S rfl rfl (by kernel_rfl) rfl rfl (by decide) (fun a S => ?_)
      refine sSkip (c := true) 15 false 20 22 S rfl rfl (by kernel_rfl) rfl rfl (by decide) (fun a S => ?_)
      refine sSkip (c := true) 15 false 20 23 S rfl rfl (by kernel_rfl) rfl rfl (by decide) (fun a S => ?_)
      refine sSkip (c := true) 15 false 20 24 S rfl rfl (by kernel_rfl) rfl rfl (by decide) (fun a S => ?_)
      refine sSkip (c := true) 15 false 20 25 S rfl rfl (by kernel_rfl) rfl rfl (by decide) (fun a S => ?_)
      refine sSkip (c := true) 15 false 20 26 S rfl rfl (by kernel_rfl) rfl rfl (by decide) (fun a S => ?_)
      refine sSkip (c := true) 15 false 20 27 S rfl rfl (by kernel_rfl) rfl rfl (by decide) (fun a S => ?_)
      refine sSkip (c := true) 15 false 20 28 S rfl rfl (by kernel_rfl) rfl rfl (by decide) (fun a S => ?_)
      refine sPickT (b := true) (.bool true) S (wN rfl) rfl (by kernel_rfl) rfl (by kernel_rfl) rfl (by decide) (fun a S => ?_)
      exact leafL (leafT (⟨true, Option.some.inj h, S.fix [] [0] (by decide) (by kernel_rfl) (by kernel_rfl) (by kernel_rfl)⟩))
    · refine sMove (.slice ad1 p0.length cp2) S (wG (c := (p0.length : Int) == 0) 3 false 8 rfl rfl (by kernel_rfl) hc8) (.inl rfl) (by kernel_rfl) rfl (by decide) (fun a S => ?_)
      refine sLen (ad := ad1) (m := p0.length) (c := cp2) S (wG (c := (p0.length : Int) == 0) 3 false 8 rfl rfl (by kernel_rfl) hc8) rfl Try.underlying24 (by kernel_rfl) rfl (by decide) (fun a S => ?_)
      refine sBin (.bool (decide (50 < (p0.length : Int)))) S (wG (c := (p0.length : Int) == 0) 3 false 8 rfl rfl (by kernel_rfl) hc8) rfl (by kernel_rfl) (by kernel_rfl) (bGt _ _ _ _ .i64 (p0.length : Int) 50) rfl (by decide) (fun a S => ?_)
      refine sPickF (b := (p0.length : Int) == 0) (.bool (decide (50 < (p0.length : Int)))) S (wN rfl) rfl (by kernel_rfl) hc8 (by kernel_rfl) rfl (by decide) (fun a S => ?_)
      refine sMove (.bool (decide (50 < (p0.length : Int)))) S (wN rfl) (.inl rfl) (by kernel_rfl) rfl (by decide) (fun a S => ?_)
      rcases iteSome h with ⟨hc9, h⟩ | ⟨hc9, h⟩
      · refine sSkip (c := decide (50 < (p0.length : Int))) 8 false 13 14 S rfl rfl (by kernel_rfl) hc9 rfl (by decide) (fun a S => ?_)
        refine sSkip (c := decide (50 < (p0.length : Int))) 8 false 13 15 S rfl rfl (by kernel_rfl) hc9 rfl (by decide) (fun a S => ?_)
        refine sSkip (c := decide (50 < (p0.length : Int))) 8 false 13 16 S rfl rfl (by kernel_rfl) hc9 rfl (by decide) (fun a S => ?_)
        refine sSkip (c := decide (50 < (p0.length : Int))) 8 false 13 17 S rfl rfl (by kernel_rfl) hc9 rfl (by decide) (fun a S => ?_)
        refine sSkip (c := decide (50 < (p0.length : Int))) 8 false 13 18 S rfl rfl (by kernel_rfl) hc9 rfl (by decide) (fun a S => ?_)
        refine sPickT (b := decide (50 < (p0.length : Int))) (.bool true) S (wN rfl) rfl (by kernel_rfl) hc9 (by kernel_rfl) rfl (by decide) (fun a S => ?_)
        refine sMove (.bool true) S (wN rfl) (.inl rfl) (by kernel_rfl) rfl (by decide) (fun a S => ?_)
        refine sSkip (c := true) 15 false 20 21 S rfl rfl (by kernel_rfl) rfl rfl (by decide) (fun a S => ?_)
        refine sSkip (c := true) 15 false 20 22 S rfl rfl (by kernel_rfl) rfl rfl (by decide) (fun a S => ?_)
        refine sSkip (c := true) 15 false 20 23 S rfl rfl (by kernel_rfl) rfl rfl (by decide) (fun a S => ?_)
        refine sSkip (c := true) 15 false 20 24 S rfl rfl (by kernel_rfl) rfl rfl (by decide) (fun a S => ?_)
        refine sSkip (c := true) 15 false 20 25 S rfl rfl (by kernel_rfl) rfl rfl (by decide) (fun a S => ?_)
        refine sSkip (c := true) 15 false 20 26 S rfl rfl (by kernel_rfl) rfl rfl (by decide) (fun a S => ?_)
        refine sSkip (c := true) 15 false 20 27 S rfl rfl (by kernel_rfl) rfl rfl (by decide) (fun a S => ?_)
        refine sSkip (c := true) 15 false 20 28 S rfl rfl (by kernel_rfl) rfl rfl (by decide) (fun a S => ?_)
        refine sPickT (b := true) (.bool true) S (wN rfl) rfl (by kernel_rfl) rfl (by kernel_rfl) rfl (by decide) (fun a S => ?_)
        exact leafL (leafT (⟨true, Option.some.inj h, S.fix [] [0] (by decide) (by kernel_rfl) (by kernel_rfl) (by kernel_rfl)⟩))
      · refine sMove (.slice ad1 p0.length cp2) S (wG (c := decide (50 < (p0.length : Int))) 8 false 13 rfl rfl (by kernel_rfl) hc9) (.inl rfl) (by kernel_rfl) rfl (by decide) (fun a S => ?_)
        obtain ⟨x10, hx11, h⟩ := bindSome h
        obtain ⟨q12, hq13, S⟩ := pIdx (P := Try.prog) (r := r_api_Point) (v := .slice ad1 p0.length cp2) (xs := p0) (j := 0) 24 75 0 S Try.underlying24 (by kernel_rfl) (by kernel_rfl) hx11
        refine sIdxV (v := .slice ad1 p0.length cp2) (k := .i64) (j := 0) S (wG (c := decide (50 < (p0.length : Int))) 8 false 13 rfl rfl (by kernel_rfl) hc9) rfl (by kernel_rfl) (by kernel_rfl) hq13 rfl (by decide) (fun a S => ?_)
        obtain ⟨q14, hq15, S⟩ := pFld (P := Try.prog) (r := r_api_Point) (s2 := (rI .i64)) (g := (·.Y)) (q := q12) (z := x10) 75 1 0 1 S (by kernel_rfl) (by kernel_rfl) comp_api_Point_Y
        refine sFldV (q := q12) S (wG (c := decide (50 < (p0.length : Int))) 8 false 13 rfl rfl (by kernel_rfl) hc9) rfl (by kernel_rfl) hq15 rfl (by decide) (fun a S => ?_)
        obtain ⟨u16, S⟩ := pLoad (r := (rI .i64)) (q := q14) (x := x10.Y) 0 S (by kernel_rfl)
        obtain rfl : u16 = .int .i64 x10.Y := S.mem.know (i := 1) (e := fRep (rI .i64) (u16) x10.Y) (by kernel_rfl)
        refine sLoadV1 (vq := q14) 0 (.int .i64 x10.Y) S (wG (c := decide (50 < (p0.length : Int))) 8 false 13 rfl rfl (by kernel_rfl) hc9) rfl (by kernel_rfl) (by kernel_rfl) (by kernel_rfl) rfl (by decide) (fun a S => ?_)
        refine sBin (.bool (x10.Y != 0)) S (wG (c := decide (50 < (p0.length : Int))) 8 false 13 rfl rfl (by kernel_rfl) hc9) rfl (by kernel_rfl) (by kernel_rfl) (bNe _ _ _ _ .i64 x10.Y 0) rfl (by decide) (fun a S => ?_)
        refine sPickF (b := decide (50 < (p0.length : Int))) (.bool (x10.Y != 0)) S (wN rfl) rfl (by kernel_rfl) hc9 (by kernel_rfl) rfl (by decide) (fun a S => ?_)
        refine sMove (.bool (x10.Y != 0)) S (wN rfl) (.inl rfl) (by kernel_rfl) rfl (by decide) (fun a S => ?_)
        rcases iteSome h with ⟨hc17, h⟩ | ⟨hc17, h⟩
        · refine sSkip (c := x10.Y != 0) 15 false 20 21 S rfl rfl (by kernel_rfl) hc17 rfl (by decide) (fun a S => ?_)
          refine sSkip (c := x10.Y != 0) 15 false 20 22 S rfl rfl (by kernel_rfl) hc17 rfl (by decide) (fun a S => ?_)
          refine sSkip (c := x10.Y != 0) 15 false 20 23 S rfl rfl (by kernel_rfl) hc17 rfl (by decide) (fun a S => ?_)
          refine sSkip (c := x10.Y != 0) 15 false 20 24 S rfl rfl (by kernel_rfl) hc17 rfl (by decide) (fun a S => ?_)
          refine sSkip (c := x10.Y != 0) 15 false 20 25 S rfl rfl (by kernel_rfl) hc17 rfl (by decide) (fun a S => ?_)
          refine sSkip (c := x10.Y != 0) 15 false 20 26 S rfl rfl (by kernel_rfl) hc17 rfl (by decide) (fun a S => ?_)
          refine sSkip (c := x10.Y != 0) 15 false 20 27 S rfl rfl (by kernel_rfl) hc17 rfl (by decide) (fun a S => ?_)
          refine sSkip (c := x10.Y != 0) 15 false 20 28 S rfl rfl (by kernel_rfl) hc17 rfl (by decide) (fun a S => ?_)
          refine sPickT (b := x10.Y != 0) (.bool true) S (wN rfl) rfl (by kernel_rfl) hc17 (by kernel_rfl) rfl (by decide) (fun a S => ?_)
          exact leafL (leafT (⟨true, Option.some.inj h, S.fix [] [4] (by decide) (by kernel_rfl) (by kernel_rfl) (by kernel_rfl)⟩))
        · refine sMove (.slice ad1 p0.length cp2) S (wG (c := x10.Y != 0) 15 false 20 rfl rfl (by kernel_rfl) hc17) (.inl rfl) (by kernel_rfl) rfl (by decide) (fun a S => ?_)
          refine sMove (.slice ad1 p0.length cp2) S (wG (c := x10.Y != 0) 15 false 20 rfl rfl (by kernel_rfl) hc17) (.inl rfl) (by kernel_rfl) rfl (by decide) (fun a S => ?_)
          refine sLen (ad := ad1) (m := p0.length) (c := cp2) S (wG (c := x10.Y != 0) 15 false 20 rfl rfl (by kernel_rfl) hc17) rfl Try.underlying24 (by kernel_rfl) rfl (by decide) (fun a S => ?_)
          refine sBin (.int .i64 (w64 ((p0.length : Int) - 1))) S (wG (c := x10.Y != 0) 15 false 20 rfl rfl (by kernel_rfl) hc17) rfl (by kernel_rfl) (by kernel_rfl) (bSub _ _ _ _ (p0.length : Int) 1) rfl (by decide) (fun a S => ?_)
          obtain ⟨x18, hx19, h⟩ := bindSome h
          obtain ⟨q20, hq21, S⟩ := pIdx (P := Try.prog) (r := r_api_Point) (v := .slice ad1 p0.length cp2) (xs := p0) (j := w64 ((p0.length : Int) - 1)) 24 75 4 S Try.underlying24 (by kernel_rfl) (by kernel_rfl) hx19
          refine sIdxV (v := .slice ad1 p0.length cp2) (k := .i64) (j := w64 ((p0.length : Int) - 1)) S (wG (c := x10.Y != 0) 15 false 20 rfl rfl (by kernel_rfl) hc17) rfl (by kernel_rfl) (by kernel_rfl) hq21 rfl (by decide) (fun a S => ?_)
          obtain ⟨q22, hq23, S⟩ := pFld (P := Try.prog) (r := r_api_Point) (s2 := (rI .i64)) (g := (·.Y)) (q := q20) (z := x18) 75 1 0 1 S (by kernel_rfl) (by kernel_rfl) comp_api_Point_Y
          refine sFldV (q := q20) S (wG (c := x10.Y != 0) 15 false 20 rfl rfl (by kernel_rfl) hc17) rfl (by kernel_rfl) hq23 rfl (by decide) (fun a S => ?_)
          obtain ⟨u24, S⟩ := pLoad (r := (rI .i64)) (q := q22) (x := x18.Y) 0 S (by kernel_rfl)
          obtain rfl : u24 = .int .i64 x18.Y := S.mem.know (i := 1) (e := fRep (rI .i64) (u24) x18.Y) (by kernel_rfl)
          refine sLoadV1 (vq := q22) 0 (.int .i64 x18.Y) S (wG (c := x10.Y != 0) 15 false 20 rfl rfl (by kernel_rfl) hc17) rfl (by kernel_rfl) (by kernel_rfl) (by kernel_rfl) rfl (by decide) (fun a S => ?_)
          refine sBin (.bool (decide (100 ≤ x18.Y))) S (wG (c := x10.Y != 0) 15 false 20 rfl rfl (by kernel_rfl) hc17) rfl (by kernel_rfl) (by kernel_rfl) (bGe _ _ _ _ .i64 x18.Y 100) rfl (by decide) (fun a S => ?_)
          refine sPickF (b := x10.Y != 0) (.bool (decide (100 ≤ x18.Y))) S (wN rfl) rfl (by kernel_rfl) hc17 (by kernel_rfl) rfl (by decide) (fun a S => ?_)
          exact leafL (leafT (⟨decide (100 ≤ x18.Y), Option.some.inj h, S.fix [] [8] (by decide) (by kernel_rfl) (by kernel_rfl) (by kernel_rfl)⟩))
  · obtain ⟨o5, rfl, S⟩ := hI
    have h := g7
    clear g7
    try dsimp only at h
    rcases iteSome h with ⟨hc25, h⟩ | ⟨hc25, h⟩
    · refine sCondT (b := o5) S (by kernel_rfl) hc25 ?_
      refine sSeq (fun K26 hK26 => ?_)
      refine sRegion ?_
      refine sMove (.bool false) S (wN rfl) (.inr rfl) (by kernel_rfl) rfl (by decide) (fun a S => ?_)
      refine leafL (leafT (hK26 _ _ ?_))
      obtain rfl := Option.some.inj h
      exact wp_ret (rThen (sRet (.bool false) S (rsl1 rfl (rvT (t := 2) (v := .bool false) S (by kernel_rfl))) ⟨(), rfl, S.mem.sel [] [] (by decide) (by kernel_rfl) (by kernel_rfl)⟩))
    · refine sCondF (b := o5) S (by kernel_rfl) hc25 ?_
      refine wp_skip (leafT (hK4 _ _ ?_))
      obtain ⟨t27, h, g28⟩ := bindSome h
      refine sCut (fun a w => .inl () = t27 ∧ St E [] w0 57 a w [] [] []) ?_ (fun a w hI => ?_)
      · refine sSeq (fun K29 hK29 => ?_)
        refine sRegion ?_
        refine sMove (.slice ad1 p0.length cp2) S (wN rfl) (.inl rfl) (by kernel_rfl) rfl (by decide) (fun a S => ?_)
        refine sLen (ad := ad1) (m := p0.length) (c := cp2) S (wN rfl) rfl Try.underlying24 (by kernel_rfl) rfl (by decide) (fun a S => ?_)
        refine sMove (.int .i64 0) S (wN rfl) (.inl rfl) (by kernel_rfl) rfl (by decide) (fun a S => ?_)
        refine leafL (leafT (hK29 _ _ ?_))
        refine wp_block ?_
        obtain ⟨t33, hl, g32⟩ := bindSome h
        refine sLoop hl (fun s0 a w => match s0 with | s30 => St E [] w0 57 a w [(0, .slice ad1 p0.length cp2), (30, .slice ad1 p0.length cp2), (31, .int .i64 (p0.length : Int)), (32, .int .i64 s30)] [] [fRep (rL r_api_Point) (.slice ad1 p0.length cp2) p0]) (S.fix [] [0] (by decide) (by kernel_rfl) (by kernel_rfl) (by kernel_rfl)) ?_
        clear hl h
        intro s30 a w c0 hI h hu31
        unfold piece_side_l1 at h
        dsimp only at h hI
        have S := hI
        refine sSeq (fun K34 hK34 => ?_)
        refine sRegion ?_
        refine sBin (.bool (decide (s30 < (p0.length : Int)))) S (wN rfl) rfl (by kernel_rfl) (by kernel_rfl) (bLt _ _ _ _ .i64 s30 (p0.length : Int)) rfl (by decide) (fun a S => ?_)
        refine leafL (leafT (hK34 _ _ ?_))
        refine sSeq (fun K35 hK35 => ?_)
        rcases iteSome h with ⟨hc36, h⟩ | ⟨hc36, h⟩
        · refine sCondT (b := decide (s30 < (p0.length : Int))) S (by kernel_rfl) hc36 ?_
          refine wp_skip (leafT (hK35 _ _ ?_))
          refine sSeq (fun K37 hK37 => ?_)
          refine wp_block ?_
          refine sSeq (fun K38 hK38 => ?_)
          refine sRegion ?_
          refine sMove (.int .i64 s30) S (wN rfl) (.inl rfl) (by kernel_rfl) rfl (by decide) (fun a S => ?_)
          obtain ⟨x39, hx40, h⟩ := bindSome h
          obtain ⟨q41, hq42, S⟩ := pIdx (P := Try.prog) (r := r_api_Point) (v := .slice ad1 p0.length cp2) (xs := p0) (j := s30) 24 75 0 S Try.underlying24 (by kernel_rfl) (by kernel_rfl) hx40
          refine sIdxV (v := .slice ad1 p0.length cp2) (k := .i64) (j := s30) S (wN rfl) rfl (by kernel_rfl) (by kernel_rfl) hq42 rfl (by decide) (fun a S => ?_)
          obtain ⟨u43, S⟩ := pLoad (r := r_api_Point) (q := q41) (x := x39) 0 S (by kernel_rfl)
          obtain rfl : u43 = .agg #[.int .i64 x39.X, .int .i64 x39.Y] := S.mem.know (i := 1) (e := fRep r_api_Point (u43) x39) (by kernel_rfl)
          refine sLoadVN (vq := q41) 0 [.int .i64 x39.X, .int .i64 x39.Y] S (wN rfl) rfl (by kernel_rfl) (by kernel_rfl) (by kernel_rfl) (by kernel_rfl) rfl (by decide) (fun a S => ?_)
          refine sAlloc (.agg #[.int .i64 0, .int .i64 0]) S (wN rfl) rfl (by kernel_rfl) [.int .i64 0, .int .i64 0] rfl rfl (by decide) (fun a b44 w S => ?_)
          refine sMove (.int .i64 s30) S (wN rfl) (.inr rfl) (by kernel_rfl) rfl (by decide) (fun a S => ?_)
          refine sStore (p := b44) (off := 0) (T := 75) (vs := [.int .i64 0, .int .i64 0]) (v := .agg #[.int .i64 x39.X, .int .i64 x39.Y]) 0 [.int .i64 x39.X, .int .i64 x39.Y] S (wN rfl) rfl (by kernel_rfl) (by kernel_rfl) rfl (by kernel_rfl) (by kernel_rfl) rfl (by simp) rfl (fun a w S => ?_)
          refine leafL (leafT (hK38 _ _ ?_))
          obtain ⟨t46, h, g47⟩ := bindSome h
          refine sCut (fun a w => ∃ o45, o45 = t46 ∧ St E [] w0 57 a w [(0, .slice ad1 p0.length cp2), (30, .slice ad1 p0.length cp2), (31, .int .i64 (p0.length : Int)), (32, .int .i64 s30), (55, .bool o45)] [] [fRep (rL r_api_Point) (.slice ad1 p0.length cp2) p0]) ?_ (fun a w hI => ?_)
          · obtain ⟨r48, hx49, h⟩ := bindSome h
            rcases iteSome h with ⟨hc50, h⟩ | ⟨hc50, h⟩
            · refine sDraw (nf := []) (W := [(0, 37, .pointer (some ⟨b44, 0, none⟩)), (1, 38, .int .i64 x39.X), (2, 39, .bool r48), (3, 40, .bool (!r48)), (4, 41, .bool (!r48)), (5, 42, undef), (6, 43, undef), (7, 44, undef), (8, 45, undef), (9, 46, undef), (10, 47, undef), (11, 48, undef), (12, 49, undef), (13, 50, undef), (14, 51, undef), (15, 52, undef), (16, 53, undef), (17, 54, undef), (18, 55, .bool true)]) (by kernel_rfl) S ?_
              refine node_by (A := anc_piece_side_0) (nf := []) (Y := []) (W := [(0, 37, .pointer (some ⟨b44, 0, none⟩)), (1, 38, .int .i64 x39.X), (2, 39, .bool r48), (3, 40, .bool (!r48)), (4, 41, .bool (!r48)), (5, 42, undef), (6, 43, undef), (7, 44, undef), (8, 45, undef), (9, 46, undef), (10, 47, undef), (11, 48, undef), (12, 49, undef), (13, 50, undef), (14, 51, undef), (15, 52, undef), (16, 53, undef), (17, 54, undef), (18, 55, .bool true)]) 19 (by kernel_rfl) (by kernel_rfl) (by kernel_rfl) (by kernel_rfl) (by kernel_rfl) [0, 1, 2, 3, 4, 5, 6, 7, 8, 9, 10, 11, 12, 13, 14, 15, 16, 17, 18] (by kernel_rfl) (by decide) (by decide) (aF 0 18 (by decide) ?_ (aF 1 17 (by decide) ?_ (aF 2 16 (by decide) ?_ (aF 3 15 (by decide) ?_ (aF 4 14 (by decide) ?_ (aF 5 13 (by decide) ?_ (aF 6 12 (by decide) ?_ (aF 7 11 (by decide) ?_ (aF 8 10 (by decide) ?_ (aF 9 9 (by decide) ?_ (aF 10 8 (by decide) ?_ (aF 11 7 (by decide) ?_ (aF 12 6 (by decide) ?_ (aF 13 5 (by decide) ?_ (aF 14 4 (by decide) ?_ (aF 15 3 (by decide) ?_ (aF 16 2 (by decide) ?_ (aF 17 1 (by decide) ?_ (aF 18 0 (by decide) ?_ (trivial)))))))))))))))))))) [(0, .slice ad1 p0.length cp2), (30, .slice ad1 p0.length cp2), (31, .int .i64 (p0.length : Int)), (32, .int .i64 s30), (42, undef), (43, undef), (44, undef), (45, undef), (46, undef), (47, undef), (48, undef), (49, undef), (50, undef), (51, undef), (52, undef), (53, undef), (54, undef), (55, .bool true)] (fin_of [none, none, none, none, some 5, some 6, some 7, some 8, some 9, some 10, some 11, some 12, some 13, some 14, some 15, some 16, some 17, some 18] rfl (by kernel_rfl) (by kernel_rfl)) (fun _ a w S => ?_)
              · refine fI 37 (.pointer (some ⟨b44, 0, none⟩)) [(4, .pointer (some ⟨b44, 0, none⟩))] 0 [none] rfl rfl (by kernel_rfl) rfl (by kernel_rfl) (by kernel_rfl) fun G a w S => ?_
                refine sField (b := b44) (off := 0) 0 0 S (wN rfl) rfl (by kernel_rfl) (by kernel_rfl) rfl rfl (by decide) (fun a S => ?_)
                exact leafL ⟨rfl, S⟩
              · refine fI 38 (.int .i64 x39.X) [(37, .pointer (some ⟨b44, 0, none⟩))] 1 [some 0] rfl rfl (by kernel_rfl) rfl (by kernel_rfl) (by kernel_rfl) fun G a w S => ?_
                refine sLoad1 (p := b44) (off := 0) (T := 75) (vs := [.int .i64 x39.X, .int .i64 x39.Y]) 0 (.int .i64 x39.X) S (wN rfl) rfl (by kernel_rfl) (by kernel_rfl) (by kernel_rfl) rfl rfl (by decide) (fun a S => ?_)
                exact leafL ⟨rfl, S⟩
              · refine fI 39 (.bool r48) [(38, .int .i64 x39.X)] 2 [some 1] rfl rfl (by kernel_rfl) rfl (by kernel_rfl) (by kernel_rfl) fun G a w S => ?_
                have S1 := S.mem
                refine sCallQ (X := Unit) (f := 33) (vs := [.int .i64 x39.X]) (val := fun _ => .bool r48) S (wN rfl) rfl callee33 (by kernel_rfl) (S1.quiet [] (by kernel_rfl)) (fun E1 w1 S1 => c_piece_column E1 w1 x39.X r48 hx49 S1) rfl (by decide) (fun _ a w S => ?_)
                exact leafL ⟨rfl, S⟩
              · refine fI 40 (.bool (!r48)) [(39, .bool r48)] 3 [some 2] rfl rfl (by kernel_rfl) rfl (by kernel_rfl) (by kernel_rfl) fun G a w S => ?_
                refine sNot (b := r48) S (wN rfl) rfl (by kernel_rfl) rfl (by decide) (fun a S => ?_)
                exact leafL ⟨rfl, S⟩
              · refine fI 41 (.bool (!r48)) [(40, .bool (!r48))] 4 [some 3] rfl rfl (by kernel_rfl) rfl (by kernel_rfl) (by kernel_rfl) fun G a w S => ?_
                refine sMove (.bool (!r48)) S (wN rfl) (.inl rfl) (by kernel_rfl) rfl (by decide) (fun a S => ?_)
                exact leafL ⟨rfl, S⟩
              · refine fI 42 undef [(3, .int .i64 s30), (41, .bool (!r48))] 5 [none, some 4] rfl rfl (by kernel_rfl) rfl (by kernel_rfl) (by kernel_rfl) fun G a w S => ?_
                refine sSkip (c := !r48) 4 false 41 42 S rfl rfl (by kernel_rfl) hc50 rfl (by decide) (fun a S => ?_)
                exact leafL ⟨rfl, S⟩
              · refine fI 43 undef [(42, undef), (41, .bool (!r48))] 6 [some 5, some 4] rfl rfl (by kernel_rfl) rfl (by kernel_rfl) (by kernel_rfl) fun G a w S => ?_
                refine sSkip (c := !r48) 4 false 41 43 S rfl rfl (by kernel_rfl) hc50 rfl (by decide) (fun a S => ?_)
                exact leafL ⟨rfl, S⟩
              · refine fI 44 undef [(43, undef), (41, .bool (!r48))] 7 [some 6, some 4] rfl rfl (by kernel_rfl) rfl (by kernel_rfl) (by kernel_rfl) fun G a w S => ?_
                refine sSkip (c := !r48) 4 false 41 44 S rfl rfl (by kernel_rfl) hc50 rfl (by decide) (fun a S => ?_)
                exact leafL ⟨rfl, S⟩
              · refine fI 45 undef [(4, .pointer (some ⟨b44, 0, none⟩)), (44, undef)] 8 [none, some 7] rfl rfl (by kernel_rfl) rfl (by kernel_rfl) (by kernel_rfl) fun G a w S => ?_
                refine sSkipU 7 true 44 45 S rfl rfl (by kernel_rfl) rfl (by decide) (fun a S => ?_)
                exact leafL ⟨rfl, S⟩
              · refine fI 46 undef [(45, undef), (44, undef)] 9 [some 8, some 7] rfl rfl (by kernel_rfl) rfl (by kernel_rfl) (by kernel_rfl) fun G a w S => ?_
                refine sSkipU 7 true 44 46 S rfl rfl (by kernel_rfl) rfl (by decide) (fun a S => ?_)
                exact leafL ⟨rfl, S⟩
              · refine fI 47 undef [(0, .slice ad1 p0.length cp2), (44, undef)] 10 [none, some 7] rfl rfl (by kernel_rfl) rfl (by kernel_rfl) (by kernel_rfl) fun G a w S => ?_
                refine sSkipU 7 true 44 47 S rfl rfl (by kernel_rfl) rfl (by decide) (fun a S => ?_)
                exact leafL ⟨rfl, S⟩
              · refine fI 48 undef [(3, .int .i64 s30), (44, undef)] 11 [none, some 7] rfl rfl (by kernel_rfl) rfl (by kernel_rfl) (by kernel_rfl) fun G a w S => ?_
                refine sSkipU 7 true 44 48 S rfl rfl (by kernel_rfl) rfl (by decide) (fun a S => ?_)
                exact leafL ⟨rfl, S⟩
              · refine fI 49 undef [(48, undef), (44, undef)] 12 [some 11, some 7] rfl rfl (by kernel_rfl) rfl (by kernel_rfl) (by kernel_rfl) fun G a w S => ?_
                refine sSkipU 7 true 44 49 S rfl rfl (by kernel_rfl) rfl (by decide) (fun a S => ?_)
                exact leafL ⟨rfl, S⟩
              · refine fI 50 undef [(47, undef), (49, undef), (44, undef)] 13 [some 10, some 12, some 7] rfl rfl (by kernel_rfl) rfl (by kernel_rfl) (by kernel_rfl) fun G a w S => ?_
                refine sSkipU 7 true 44 50 S rfl rfl (by kernel_rfl) rfl (by decide) (fun a S => ?_)
                exact leafL ⟨rfl, S⟩
              · refine fI 51 undef [(50, undef), (44, undef)] 14 [some 13, some 7] rfl rfl (by kernel_rfl) rfl (by kernel_rfl) (by kernel_rfl) fun G a w S => ?_
                refine sSkipU 7 true 44 51 S rfl rfl (by kernel_rfl) rfl (by decide) (fun a S => ?_)
                exact leafL ⟨rfl, S⟩
              · refine fI 52 undef [(51, undef), (44, undef)] 15 [some 14, some 7] rfl rfl (by kernel_rfl) rfl (by kernel_rfl) (by kernel_rfl) fun G a w S => ?_
                refine sSkipU 7 true 44 52 S rfl rfl (by kernel_rfl) rfl (by decide) (fun a S => ?_)
                exact leafL ⟨rfl, S⟩
              · refine fI 53 undef [(46, undef), (52, undef), (44, undef)] 16 [some 9, some 15, some 7] rfl rfl (by kernel_rfl) rfl (by kernel_rfl) (by kernel_rfl) fun G a w S => ?_
                refine sSkipU 7 true 44 53 S rfl rfl (by kernel_rfl) rfl (by decide) (fun a S => ?_)
                exact leafL ⟨rfl, S⟩
              · refine fI 54 undef [(44, undef), (53, undef), (41, .bool (!r48))] 17 [some 7, some 16, some 4] rfl rfl (by kernel_rfl) rfl (by kernel_rfl) (by kernel_rfl) fun G a w S => ?_
                refine sSkip (c := !r48) 4 false 41 54 S rfl rfl (by kernel_rfl) hc50 rfl (by decide) (fun a S => ?_)
                exact leafL ⟨rfl, S⟩
              · refine fI 55 (.bool true) [(41, .bool (!r48)), (54, undef)] 18 [some 4, some 17] rfl rfl (by kernel_rfl) rfl (by kernel_rfl) (by kernel_rfl) fun G a w S => ?_
                refine sPickT (b := !r48) (.bool true) S (wN rfl) rfl (by kernel_rfl) hc50 (by kernel_rfl) rfl (by decide) (fun a S => ?_)
                exact leafL ⟨rfl, S⟩
              · exact leafT (⟨true, Option.some.inj h, S.fix [] [3] (by decide) (by kernel_rfl) (by kernel_rfl) (by kernel_rfl)⟩)
            · rcases iteSome h with ⟨hc51, h⟩ | ⟨hc51, h⟩
              · obtain ⟨x52, hx53, h⟩ := bindSome h
                obtain ⟨q59, hq60, S⟩ := pIdx (P := Try.prog) (r := r_api_Point) (v := .slice ad1 p0.length cp2) (xs := p0) (j := w64 (s30 - 1)) 24 75 3 S Try.underlying24 (by kernel_rfl) (by kernel_rfl) hx53
                obtain ⟨q61, hq62, S⟩ := pFld (P := Try.prog) (r := r_api_Point) (s2 := (rI .i64)) (g := (·.Y)) (q := q59) (z := x52) 75 1 0 1 S (by kernel_rfl) (by kernel_rfl) comp_api_Point_Y
                obtain ⟨u63, S⟩ := pLoad (r := (rI .i64)) (q := q61) (x := x52.Y) 0 S (by kernel_rfl)
                obtain rfl : u63 = .int .i64 x52.Y := S.mem.know (i := 1) (e := fRep (rI .i64) (u63) x52.Y) (by kernel_rfl)
                refine sDraw (nf := []) (W := [(0, 37, .pointer (some ⟨b44, 0, none⟩)), (1, 38, .int .i64 x39.X), (2, 39, .bool r48), (3, 40, .bool (!r48)), (4, 41, .bool (!r48)), (5, 42, .int .i64 s30), (6, 43, .bool (decide (0 < s30))), (7, 44, .bool (decide (0 < s30))), (8, 45, .pointer (some ⟨b44, 1, none⟩)), (9, 46, .int .i64 x39.Y), (10, 47, .slice ad1 p0.length cp2), (11, 48, .int .i64 s30), (12, 49, .int .i64 (w64 (s30 - 1))), (13, 50, q59), (14, 51, q61), (15, 52, .int .i64 x52.Y), (16, 53, .bool (decide (x39.Y ≤ x52.Y))), (17, 54, .bool (decide (x39.Y ≤ x52.Y))), (18, 55, .bool (decide (x39.Y ≤ x52.Y)))]) (by kernel_rfl) S ?_
                refine node_by (A := anc_piece_side_0) (nf := []) (Y := []) (W := [(0, 37, .pointer (some ⟨b44, 0, none⟩)), (1, 38, .int .i64 x39.X), (2, 39, .bool r48), (3, 40, .bool (!r48)), (4, 41, .bool (!r48)), (5, 42, .int .i64 s30), (6, 43, .bool (decide (0 < s30))), (7, 44, .bool (decide (0 < s30))), (8, 45, .pointer (some ⟨b44, 1, none⟩)), (9, 46, .int .i64 x39.Y), (10, 47, .slice ad1 p0.length cp2), (11, 48, .int .i64 s30), (12, 49, .int .i64 (w64 (s30 - 1))), (13, 50, q59), (14, 51, q61), (15, 52, .int .i64 x52.Y), (16, 53, .bool (decide (x39.Y ≤ x52.Y))), (17, 54, .bool (decide (x39.Y ≤ x52.Y))), (18, 55, .bool (decide (x39.Y ≤ x52.Y)))]) 19 (by kernel_rfl) (by kernel_rfl) (by kernel_rfl) (by kernel_rfl) (by kernel_rfl) [0, 1, 2, 3, 4, 5, 6, 7, 8, 9, 10, 11, 12, 13, 14, 15, 16, 17, 18] (by kernel_rfl) (by decide) (by decide) (aF 0 18 (by decide) ?_ (aF 1 17 (by decide) ?_ (aF 2 16 (by decide) ?_ (aF 3 15 (by decide) ?_ (aF 4 14 (by decide) ?_ (aF 5 13 (by decide) ?_ (aF 6 12 (by decide) ?_ (aF 7 11 (by decide) ?_ (aF 8 10 (by decide) ?_ (aF 9 9 (by decide) ?_ (aF 10 8 (by decide) ?_ (aF 11 7 (by decide) ?_ (aF 12 6 (by decide) ?_ (aF 13 5 (by decide) ?_ (aF 14 4 (by decide) ?_ (aF 15 3 (by decide) ?_ (aF 16 2 (by decide) ?_ (aF 17 1 (by decide) ?_ (aF 18 0 (by decide) ?_ (trivial)))))))))))))))))))) [(0, .slice ad1 p0.length cp2), (30, .slice ad1 p0.length cp2), (31, .int .i64 (p0.length : Int)), (32, .int .i64 s30), (42, .int .i64 s30), (43, .bool (decide (0 < s30))), (44, .bool (decide (0 < s30))), (45, .pointer (some ⟨b44, 1, none⟩)), (46, .int .i64 x39.Y), (47, .slice ad1 p0.length cp2), (48, .int .i64 s30), (49, .int .i64 (w64 (s30 - 1))), (50, q59), (51, q61), (52, .int .i64 x52.Y), (53, .bool (decide (x39.Y ≤ x52.Y))), (54, .bool (decide (x39.Y ≤ x52.Y))), (55, .bool (decide (x39.Y ≤ x52.Y)))] (fin_of [none, none, none, none, some 5, some 6, some 7, some 8, some 9, some 10, some 11, some 12, some 13, some 14, some 15, some 16, some 17, some 18] rfl (by kernel_rfl) (by kernel_rfl)) (fun _ a w S => ?_)
                · refine fI 37 (.pointer (some ⟨b44, 0, none⟩)) [(4, .pointer (some ⟨b44, 0, none⟩))] 0 [none] rfl rfl (by kernel_rfl) rfl (by kernel_rfl) (by kernel_rfl) fun G a w S => ?_
                  refine sField (b := b44) (off := 0) 0 0 S (wN rfl) rfl (by kernel_rfl) (by kernel_rfl) rfl rfl (by decide) (fun a S => ?_)
                  exact leafL ⟨rfl, S⟩
                · refine fI 38 (.int .i64 x39.X) [(37, .pointer (some ⟨b44, 0, none⟩))] 1 [some 0] rfl rfl (by kernel_rfl) rfl (by kernel_rfl) (by kernel_rfl) fun G a w S => ?_
                  refine sLoad1 (p := b44) (off := 0) (T := 75) (vs := [.int .i64 x39.X, .int .i64 x39.Y]) 0 (.int .i64 x39.X) S (wN rfl) rfl (by kernel_rfl) (by kernel_rfl) (by kernel_rfl) rfl rfl (by decide) (fun a S => ?_)
                  exact leafL ⟨rfl, S⟩
                · refine fI 39 (.bool r48) [(38, .int .i64 x39.X)] 2 [some 1] rfl rfl (by kernel_rfl) rfl (by kernel_rfl) (by kernel_rfl) fun G a w S => ?_
                  have S1 := S.mem
                  refine sCallQ (X := Unit) (f := 33) (vs := [.int .i64 x39.X]) (val := fun _ => .bool r48) S (wN rfl) rfl callee33 (by kernel_rfl) (S1.quiet [] (by kernel_rfl)) (fun E1 w1 S1 => c_piece_column E1 w1 x39.X r48 hx49 S1) rfl (by decide) (fun _ a w S => ?_)
                  exact leafL ⟨rfl, S⟩
                · refine fI 40 (.bool (!r48)) [(39, .bool r48)] 3 [some 2] rfl rfl (by kernel_rfl) rfl (by kernel_rfl) (by kernel_rfl) fun G a w S => ?_
                  refine sNot (b := r48) S (wN rfl) rfl (by kernel_rfl) rfl (by decide) (fun a S => ?_)
                  exact leafL ⟨rfl, S⟩
                · refine fI 41 (.bool (!r48)) [(40, .bool (!r48))] 4 [some 3] rfl rfl (by kernel_rfl) rfl (by kernel_rfl) (by kernel_rfl) fun G a w S => ?_
                  refine sMove (.bool (!r48)) S (wN rfl) (.inl rfl) (by kernel_rfl) rfl (by decide) (fun a S => ?_)
                  exact leafL ⟨rfl, S⟩
                · refine fI 42 (.int .i64 s30) [(3, .int .i64 s30), (41, .bool (!r48))] 5 [none, some 4] rfl rfl (by kernel_rfl) rfl (by kernel_rfl) (by kernel_rfl) fun G a w S => ?_
                  refine sMove (.int .i64 s30) S (wG (c := !r48) 4 false 41 rfl rfl (by kernel_rfl) hc50) (.inl rfl) (by kernel_rfl) rfl (by decide) (fun a S => ?_)
                  exact leafL ⟨rfl, S⟩
                · refine fI 43 (.bool (decide (0 < s30))) [(42, .int .i64 s30), (41, .bool (!r48))] 6 [some 5, some 4] rfl rfl (by kernel_rfl) rfl (by kernel_rfl) (by kernel_rfl) fun G a w S => ?_
                  refine sBin (.bool (decide (0 < s30))) S (wG (c := !r48) 4 false 41 rfl rfl (by kernel_rfl) hc50) rfl (by kernel_rfl) (by kernel_rfl) (bGt _ _ _ _ .i64 s30 0) rfl (by decide) (fun a S => ?_)
                  exact leafL ⟨rfl, S⟩
                · refine fI 44 (.bool (decide (0 < s30))) [(43, .bool (decide (0 < s30))), (41, .bool (!r48))] 7 [some 6, some 4] rfl rfl (by kernel_rfl) rfl (by kernel_rfl) (by kernel_rfl) fun G a w S => ?_
                  refine sMove (.bool (decide (0 < s30))) S (wG (c := !r48) 4 false 41 rfl rfl (by kernel_rfl) hc50) (.inl rfl) (by kernel_rfl) rfl (by decide) (fun a S => ?_)
                  exact leafL ⟨rfl, S⟩
                · refine fI 45 (.pointer (some ⟨b44, 1, none⟩)) [(4, .pointer (some ⟨b44, 0, none⟩)), (44, .bool (decide (0 < s30)))] 8 [none, some 7] rfl rfl (by kernel_rfl) rfl (by kernel_rfl) (by kernel_rfl) fun G a w S => ?_
                  refine sField (b := b44) (off := 0) 1 1 S (wG (c := decide (0 < s30)) 7 true 44 rfl rfl (by kernel_rfl) hc51) rfl (by kernel_rfl) (by kernel_rfl) rfl rfl (by decide) (fun a S => ?_)
                  exact leafL ⟨rfl, S⟩
                · refine fI 46 (.int .i64 x39.Y) [(45, .pointer (some ⟨b44, 1, none⟩)), (44, .bool (decide (0 < s30)))] 9 [some 8, some 7] rfl rfl (by kernel_rfl) rfl (by kernel_rfl) (by kernel_rfl) fun G a w S => ?_
                  refine sLoad1 (p := b44) (off := 1) (T := 75) (vs := [.int .i64 x39.X, .int .i64 x39.Y]) 0 (.int .i64 x39.Y) S (wG (c := decide (0 < s30)) 7 true 44 rfl rfl (by kernel_rfl) hc51) rfl (by kernel_rfl) (by kernel_rfl) (by kernel_rfl) rfl rfl (by decide) (fun a S => ?_)
                  exact leafL ⟨rfl, S⟩
                · refine fI 47 (.slice ad1 p0.length cp2) [(0, .slice ad1 p0.length cp2), (44, .bool (decide (0 < s30)))] 10 [none, some 7] rfl rfl (by kernel_rfl) rfl (by kernel_rfl) (by kernel_rfl) fun G a w S => ?_
                  refine sMove (.slice ad1 p0.length cp2) S (wG (c := decide (0 < s30)) 7 true 44 rfl rfl (by kernel_rfl) hc51) (.inl rfl) (by kernel_rfl) rfl (by decide) (fun a S => ?_)
                  exact leafL ⟨rfl, S⟩
                · refine fI 48 (.int .i64 s30) [(3, .int .i64 s30), (44, .bool (decide (0 < s30)))] 11 [none, some 7] rfl rfl (by kernel_rfl) rfl (by kernel_rfl) (by kernel_rfl) fun G a w S => ?_
                  refine sMove (.int .i64 s30) S (wG (c := decide (0 < s30)) 7 true 44 rfl rfl (by kernel_rfl) hc51) (.inl rfl) (by kernel_rfl) rfl (by decide) (fun a S => ?_)
                  exact leafL ⟨rfl, S⟩
                · refine fI 49 (.int .i64 (w64 (s30 - 1))) [(48, .int .i64 s30), (44, .bool (decide (0 < s30)))] 12 [some 11, some 7] rfl rfl (by kernel_rfl) rfl (by kernel_rfl) (by kernel_rfl) fun G a w S => ?_
                  refine sBin (.int .i64 (w64 (s30 - 1))) S (wG (c := decide (0 < s30)) 7 true 44 rfl rfl (by kernel_rfl) hc51) rfl (by kernel_rfl) (by kernel_rfl) (bSub _ _ _ _ s30 1) rfl (by decide) (fun a S => ?_)
                  exact leafL ⟨rfl, S⟩
                · refine fI 50 q59 [(47, .slice ad1 p0.length cp2), (49, .int .i64 (w64 (s30 - 1))), (44, .bool (decide (0 < s30)))] 13 [some 10, some 12, some 7] rfl rfl (by kernel_rfl) rfl (by kernel_rfl) (by kernel_rfl) fun G a w S => ?_
                  refine sIdxV (v := .slice ad1 p0.length cp2) (k := .i64) (j := w64 (s30 - 1)) S (wG (c := decide (0 < s30)) 7 true 44 rfl rfl (by kernel_rfl) hc51) rfl (by kernel_rfl) (by kernel_rfl) hq60 rfl (by decide) (fun a S => ?_)
                  exact leafL ⟨rfl, S⟩
                · refine fI 51 q61 [(50, q59), (44, .bool (decide (0 < s30)))] 14 [some 13, some 7] rfl rfl (by kernel_rfl) rfl (by kernel_rfl) (by kernel_rfl) fun G a w S => ?_
                  refine sFldV (q := q59) S (wG (c := decide (0 < s30)) 7 true 44 rfl rfl (by kernel_rfl) hc51) rfl (by kernel_rfl) hq62 rfl (by decide) (fun a S => ?_)
                  exact leafL ⟨rfl, S⟩
                · refine fI 52 (.int .i64 x52.Y) [(51, q61), (44, .bool (decide (0 < s30)))] 15 [some 14, some 7] rfl rfl (by kernel_rfl) rfl (by kernel_rfl) (by kernel_rfl) fun G a w S => ?_
                  refine sLoadV1 (vq := q61) 0 (.int .i64 x52.Y) S (wG (c := decide (0 < s30)) 7 true 44 rfl rfl (by kernel_rfl) hc51) rfl (by kernel_rfl) (by kernel_rfl) (by kernel_rfl) rfl (by decide) (fun a S => ?_)
                  exact leafL ⟨rfl, S⟩
                · refine fI 53 (.bool (decide (x39.Y ≤ x52.Y))) [(46, .int .i64 x39.Y), (52, .int .i64 x52.Y), (44, .bool (decide (0 < s30)))] 16 [some 9, some 15, some 7] rfl rfl (by kernel_rfl) rfl (by kernel_rfl) (by kernel_rfl) fun G a w S => ?_
                  refine sBin (.bool (decide (x39.Y ≤ x52.Y))) S (wG (c := decide (0 < s30)) 7 true 44 rfl rfl (by kernel_rfl) hc51) rfl (by kernel_rfl) (by kernel_rfl) (bLe _ _ _ _ .i64 x39.Y x52.Y) rfl (by decide) (fun a S => ?_)
                  exact leafL ⟨rfl, S⟩
                · refine fI 54 (.bool (decide (x39.Y ≤ x52.Y))) [(44, .bool (decide (0 < s30))), (53, .bool (decide (x39.Y ≤ x52.Y))), (41, .bool (!r48))] 17 [some 7, some 16, some 4] rfl rfl (by kernel_rfl) rfl (by kernel_rfl) (by kernel_rfl) fun G a w S => ?_
                  refine sPickT (b := decide (0 < s30)) (.bool (decide (x39.Y ≤ x52.Y))) S (wG (c := !r48) 4 false 41 rfl rfl (by kernel_rfl) hc50) rfl (by kernel_rfl) hc51 (by kernel_rfl) rfl (by decide) (fun a S => ?_)
                  exact leafL ⟨rfl, S⟩
                · refine fI 55 (.bool (decide (x39.Y ≤ x52.Y))) [(41, .bool (!r48)), (54, .bool (decide (x39.Y ≤ x52.Y)))] 18 [some 4, some 17] rfl rfl (by kernel_rfl) rfl (by kernel_rfl) (by kernel_rfl) fun G a w S => ?_
                  refine sPickF (b := !r48) (.bool (decide (x39.Y ≤ x52.Y))) S (wN rfl) rfl (by kernel_rfl) hc50 (by kernel_rfl) rfl (by decide) (fun a S => ?_)
                  exact leafL ⟨rfl, S⟩
                · exact leafT (⟨decide (x39.Y ≤ x52.Y), Option.some.inj h, S.fix [] [7] (by decide) (by kernel_rfl) (by kernel_rfl) (by kernel_rfl)⟩)
              · refine sDraw (nf := []) (W := [(0, 37, .pointer (some ⟨b44, 0, none⟩)), (1, 38, .int .i64 x39.X), (2, 39, .bool r48), (3, 40, .bool (!r48)), (4, 41, .bool (!r48)), (5, 42, .int .i64 s30), (6, 43, .bool (decide (0 < s30))), (7, 44, .bool (decide (0 < s30))), (8, 45, undef), (9, 46, undef), (10, 47, undef), (11, 48, undef), (12, 49, undef), (13, 50, undef), (14, 51, undef), (15, 52, undef), (16, 53, undef), (17, 54, .bool false), (18, 55, .bool false)]) (by kernel_rfl) S ?_
                refine node_by (A := anc_piece_side_0) (nf := []) (Y := []) (W := [(0, 37, .pointer (some ⟨b44, 0, none⟩)), (1, 38, .int .i64 x39.X), (2, 39, .bool r48), (3, 40, .bool (!r48)), (4, 41, .bool (!r48)), (5, 42, .int .i64 s30), (6, 43, .bool (decide (0 < s30))), (7, 44, .bool (decide (0 < s30))), (8, 45, undef), (9, 46, undef), (10, 47, undef), (11, 48, undef), (12, 49, undef), (13, 50, undef), (14, 51, undef), (15, 52, undef), (16, 53, undef), (17, 54, .bool false), (18, 55, .bool false)]) 19 (by kernel_rfl) (by kernel_rfl) (by kernel_rfl) (by kernel_rfl) (by kernel_rfl) [0, 1, 2, 3, 4, 5, 6, 7, 8, 9, 10, 11, 12, 13, 14, 15, 16, 17, 18] (by kernel_rfl) (by decide) (by decide) (aF 0 18 (by decide) ?_ (aF 1 17 (by decide) ?_ (aF 2 16 (by decide) ?_ (aF 3 15 (by decide) ?_ (aF 4 14 (by decide) ?_ (aF 5 13 (by decide) ?_ (aF 6 12 (by decide) ?_ (aF 7 11 (by decide) ?_ (aF 8 10 (by decide) ?_ (aF 9 9 (by decide) ?_ (aF 10 8 (by decide) ?_ (aF 11 7 (by decide) ?_ (aF 12 6 (by decide) ?_ (aF 13 5 (by decide) ?_ (aF 14 4 (by decide) ?_ (aF 15 3 (by decide) ?_ (aF 16 2 (by decide) ?_ (aF 17 1 (by decide) ?_ (aF 18 0 (by decide) ?_ (trivial)))))))))))))))))))) [(0, .slice ad1 p0.length cp2), (30, .slice ad1 p0.length cp2), (31, .int .i64 (p0.length : Int)), (32, .int .i64 s30), (42, .int .i64 s30), (43, .bool (decide (0 < s30))), (44, .bool (decide (0 < s30))), (45, undef), (46, undef), (47, undef), (48, undef), (49, undef), (50, undef), (51, undef), (52, undef), (53, undef), (54, .bool false), (55, .bool false)] (fin_of [none, none, none, none, some 5, some 6, some 7, some 8, some 9, some 10, some 11, some 12, some 13, some 14, some 15, some 16, some 17, some 18] rfl (by kernel_rfl) (by kernel_rfl)) (fun _ a w S => ?_)
                · refine fI 37 (.pointer (some ⟨b44, 0, none⟩)) [(4, .pointer (some ⟨b44, 0, none⟩))] 0 [none] rfl rfl (by kernel_rfl) rfl (by kernel_rfl) (by kernel_rfl) fun G a w S => ?_
                  refine sField (b := b44) (off := 0) 0 0 S (wN rfl) rfl (by kernel_rfl) (by kernel_rfl) rfl rfl (by decide) (fun a S => ?_)
                  exact leafL ⟨rfl, S⟩
                · refine fI 38 (.int .i64 x39.X) [(37, .pointer (some ⟨b44, 0, none⟩))] 1 [some 0] rfl rfl (by kernel_rfl) rfl (by kernel_rfl) (by kernel_rfl) fun G a w S => ?_
                  refine sLoad1 (p := b44) (off := 0) (T := 75) (vs := [.int .i64 x39.X, .int .i64 x39.Y]) 0 (.int .i64 x39.X) S (wN rfl) rfl (by kernel_rfl) (by kernel_rfl) (by kernel_rfl) rfl rfl (by decide) (fun a S => ?_)
                  exact leafL ⟨rfl, S⟩
                · refine fI 39 (.bool r48) [(38, .int .i64 x39.X)] 2 [some 1] rfl rfl (by kernel_rfl) rfl (by kernel_rfl) (by kernel_rfl) fun G a w S => ?_
                  have S1 := S.mem
                  refine sCallQ (X := Unit) (f := 33) (vs := [.int .i64 x39.X]) (val := fun _ => .bool r48) S (wN rfl) rfl callee33 (by kernel_rfl) (S1.quiet [] (by kernel_rfl)) (fun E1 w1 S1 => c_piece_column E1 w1 x39.X r48 hx49 S1) rfl (by decide) (fun _ a w S => ?_)
                  exact leafL ⟨rfl, S⟩
                · refine fI 40 (.bool (!r48)) [(39, .bool r48)] 3 [some 2] rfl rfl (by kernel_rfl) rfl (by kernel_rfl) (by kernel_rfl) fun G a w S => ?_
                  refine sNot (b := r48) S (wN rfl) rfl (by kernel_rfl) rfl (by decide) (fun a S => ?_)
                  exact leafL ⟨rfl, S⟩
                · refine fI 41 (.bool (!r48)) [(40, .bool (!r48))] 4 [some 3] rfl rfl (by kernel_rfl) rfl (by kernel_rfl) (by kernel_rfl) fun G a w S => ?_
                  refine sMove (.bool (!r48)) S (wN rfl) (.inl rfl) (by kernel_rfl) rfl (by decide) (fun a S => ?_)
                  exact leafL ⟨rfl, S⟩
                · refine fI 42 (.int .i64 s30) [(3, .int .i64 s30), (41, .bool (!r48))] 5 [none, some 4] rfl rfl (by kernel_rfl) rfl (by kernel_rfl) (by kernel_rfl) fun G a w S => ?_
                  refine sMove (.int .i64 s30) S (wG (c := !r48) 4 false 41 rfl rfl (by kernel_rfl) hc50) (.inl rfl) (by kernel_rfl) rfl (by decide) (fun a S => ?_)
                  exact leafL ⟨rfl, S⟩
                · refine fI 43 (.bool (decide (0 < s30))) [(42, .int .i64 s30), (41, .bool (!r48))] 6 [some 5, some 4] rfl rfl (by kernel_rfl) rfl (by kernel_rfl) (by kernel_rfl) fun G a w S => ?_
                  refine sBin (.bool (decide (0 < s30))) S (wG (c := !r48) 4 false 41 rfl rfl (by kernel_rfl) hc50) rfl (by kernel_rfl) (by kernel_rfl) (bGt _ _ _ _ .i64 s30 0) rfl (by decide) (fun a S => ?_)
                  exact leafL ⟨rfl, S⟩
                · refine fI 44 (.bool (decide (0 < s30))) [(43, .bool (decide (0 < s30))), (41, .bool (!r48))] 7 [some 6, some 4] rfl rfl (by kernel_rfl) rfl (by kernel_rfl) (by kernel_rfl) fun G a w S => ?_
                  refine sMove (.bool (decide (0 < s30))) S (wG (c := !r48) 4 false 41 rfl rfl (by kernel_rfl) hc50) (.inl rfl) (by kernel_rfl) rfl (by decide) (fun a S => ?_)
                  exact leafL ⟨rfl, S⟩
                · refine fI 45 undef [(4, .pointer (some ⟨b44, 0, none⟩)), (44, .bool (decide (0 < s30)))] 8 [none, some 7] rfl rfl (by kernel_rfl) rfl (by kernel_rfl) (by kernel_rfl) fun G a w S => ?_
                  refine sSkip (c := decide (0 < s30)) 7 true 44 45 S rfl rfl (by kernel_rfl) hc51 rfl (by decide) (fun a S => ?_)
                  exact leafL ⟨rfl, S⟩
                · refine fI 46 undef [(45, undef), (44, .bool (decide (0 < s30)))] 9 [some 8, some 7] rfl rfl (by kernel_rfl) rfl (by kernel_rfl) (by kernel_rfl) fun G a w S => ?_
                  refine sSkip (c := decide (0 < s30)) 7 true 44 46 S rfl rfl (by kernel_rfl) hc51 rfl (by decide) (fun a S => ?_)
                  exact leafL ⟨rfl, S⟩
                · refine fI 47 undef [(0, .slice ad1 p0.length cp2), (44, .bool (decide (0 < s30)))] 10 [none, some 7] rfl rfl (by kernel_rfl) rfl (by kernel_rfl) (by kernel_rfl) fun G a w S => ?_
                  refine sSkip (c := decide (0 < s30)) 7 true 44 47 S rfl rfl (by kernel_rfl) hc51 rfl (by decide) (fun a S => ?_)
                  exact leafL ⟨rfl, S⟩
                · refine fI 48 undef [(3, .int .i64 s30), (44, .bool (decide (0 < s30)))] 11 [none, some 7] rfl rfl (by kernel_rfl) rfl (by kernel_rfl) (by kernel_rfl) fun G a w S => ?_
                  refine sSkip (c := decide (0 < s30)) 7 true 44 48 S rfl rfl (by kernel_rfl) hc51 rfl (by decide) (fun a S => ?_)
                  exact leafL ⟨rfl, S⟩
                · refine fI 49 undef [(48, undef), (44, .bool (decide (0 < s30)))] 12 [some 11, some 7] rfl rfl (by kernel_rfl) rfl (by kernel_rfl) (by kernel_rfl) fun G a w S => ?_
                  refine sSkip (c := decide (0 < s30)) 7 true 44 49 S rfl rfl (by kernel_rfl) hc51 rfl (by decide) (fun a S => ?_)
                  exact leafL ⟨rfl, S⟩
                · refine fI 50 undef [(47, undef), (49, undef), (44, .bool (decide (0 < s30)))] 13 [some 10, some 12, some 7] rfl rfl (by kernel_rfl) rfl (by kernel_rfl) (by kernel_rfl) fun G a w S => ?_
                  refine sSkip (c := decide (0 < s30)) 7 true 44 50 S rfl rfl (by kernel_rfl) hc51 rfl (by decide) (fun a S => ?_)
                  exact leafL ⟨rfl, S⟩
                · refine fI 51 undef [(50, undef), (44, .bool (decide (0 < s30)))] 14 [some 13, some 7] rfl rfl (by kernel_rfl) rfl (by kernel_rfl) (by kernel_rfl) fun G a w S => ?_
                  refine sSkip (c := decide (0 < s30)) 7 true 44 51 S rfl rfl (by kernel_rfl) hc51 rfl (by decide) (fun a S => ?_)
                  exact leafL ⟨rfl, S⟩
                · refine fI 52 undef [(51, undef), (44, .bool (decide (0 < s30)))] 15 [some 14, some 7] rfl rfl (by kernel_rfl) rfl (by kernel_rfl) (by kernel_rfl) fun G a w S => ?_
                  refine sSkip (c := decide (0 < s30)) 7 true 44 52 S rfl rfl (by kernel_rfl) hc51 rfl (by decide) (fun a S => ?_)
                  exact leafL ⟨rfl, S⟩
                · refine fI 53 undef [(46, undef), (52, undef), (44, .bool (decide (0 < s30)))] 16 [some 9, some 15, some 7] rfl rfl (by kernel_rfl) rfl (by kernel_rfl) (by kernel_rfl) fun G a w S => ?_
                  refine sSkip (c := decide (0 < s30)) 7 true 44 53 S rfl rfl (by kernel_rfl) hc51 rfl (by decide) (fun a S => ?_)
                  exact leafL ⟨rfl, S⟩
                · refine fI 54 (.bool false) [(44, .bool (decide (0 < s30))), (53, undef), (41, .bool (!r48))] 17 [some 7, some 16, some 4] rfl rfl (by kernel_rfl) rfl (by kernel_rfl) (by kernel_rfl) fun G a w S => ?_
                  refine sPickF (b := decide (0 < s30)) (.bool false) S (wG (c := !r48) 4 false 41 rfl rfl (by kernel_rfl) hc50) rfl (by kernel_rfl) hc51 (by kernel_rfl) rfl (by decide) (fun a S => ?_)
                  exact leafL ⟨rfl, S⟩
                · refine fI 55 (.bool false) [(41, .bool (!r48)), (54, .bool false)] 18 [some 4, some 17] rfl rfl (by kernel_rfl) rfl (by kernel_rfl) (by kernel_rfl) fun G a w S => ?_
                  refine sPickF (b := !r48) (.bool false) S (wN rfl) rfl (by kernel_rfl) hc50 (by kernel_rfl) rfl (by decide) (fun a S => ?_)
                  exact leafL ⟨rfl, S⟩
                · exact leafT (⟨false, Option.some.inj h, S.fix [] [3] (by decide) (by kernel_rfl) (by kernel_rfl) (by kernel_rfl)⟩)
          · obtain ⟨o45, rfl, S⟩ := hI
            have h := g47
            clear g47
            try dsimp only at h
            rcases iteSome h with ⟨hc64, h⟩ | ⟨hc64, h⟩
            · refine sCondT (b := o45) S (by kernel_rfl) hc64 ?_
              refine sSeq (fun K65 hK65 => ?_)
              refine sRegion ?_
              refine sMove (.bool false) S (wN rfl) (.inr rfl) (by kernel_rfl) rfl (by decide) (fun a S => ?_)
              refine leafL (leafT (hK65 _ _ ?_))
              obtain rfl := Option.some.inj h
              obtain rfl := hu31 _ rfl
              have h := g32
              clear g32
              try dsimp only at h
              obtain rfl := Option.some.inj h
              have h := g28
              clear g28
              try dsimp only at h
              obtain rfl := Option.some.inj h
              exact wp_ret (rBlock (rThen (rThen (rBlock (rThen (sRet (.bool false) S (rsl1 rfl (rvT (t := 2) (v := .bool false) S (by kernel_rfl))) ⟨(), rfl, S.mem.sel [] [] (by decide) (by kernel_rfl) (by kernel_rfl)⟩))))))
            · refine sCondF (b := o45) S (by kernel_rfl) hc64 ?_
              refine wp_skip (leafB (leafT (hK37 _ _ ?_)))
              refine sRegion ?_
              refine sBin (.int .i64 (w64 (s30 + 1))) S (wN rfl) rfl (by kernel_rfl) (by kernel_rfl) (bAdd _ _ _ _ s30 1) rfl (by decide) (fun a S => ?_)
              refine sMove (.int .i64 (w64 (s30 + 1))) S (wN rfl) (.inl rfl) (by kernel_rfl) rfl (by decide) (fun a S => ?_)
              exact leafL (leafT (⟨w64 (s30 + 1), (Option.some.inj h).symm, (S.fix [] [0] (by decide) (by kernel_rfl) (by kernel_rfl) (by kernel_rfl))⟩))
        · refine sCondF (b := decide (s30 < (p0.length : Int))) S (by kernel_rfl) hc36 ?_
          obtain rfl := Option.some.inj h
          obtain rfl := hu31 _ rfl
          have h := g32
          clear g32
          try dsimp only at h
          exact wp_exit (xThen (xThen (xHit (leafT (⟨Option.some.inj h, S.fix [] [] (by decide) (by kernel_rfl) (by kernel_rfl) (by kernel_rfl)⟩)))))
      · obtain ⟨rfl, S⟩ := hI
        have h := g28
        clear g28
        try dsimp only at h
        refine sSeq (fun K66 hK66 => ?_)
        refine sRegion ?_
        refine sMove (.bool true) S (wN rfl) (.inr rfl) (by kernel_rfl) rfl (by decide) (fun a S => ?_)
        refine leafL (leafT (hK66 _ _ ?_))
        obtain rfl := Option.some.inj h
        exact wp_ret (sRet (.bool true) S (rsl1 rfl (rvT (t := 2) (v := .bool true) S (by kernel_rfl))) ⟨(), rfl, S.mem.sel [] [] (by decide) (by kernel_rfl) (by kernel_rfl)⟩)

end Go.Proofs.Ytmedbnjhgkcndaa
