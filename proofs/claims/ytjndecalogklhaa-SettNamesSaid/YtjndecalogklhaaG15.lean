import Derived.Test.YtjndecalogklhaaGTy
namespace Go.Proofs.Ytjndecalogklhaa
open Go.RowKit
set_option linter.unusedVariables false

def anc_raddleref24_Same_0 : List (List Nat) := [[], [], [0, 1], [0, 1, 2], [], [], [4, 5], [4, 5, 6], [0, 1, 2, 3, 4, 5, 6, 7]]
noncomputable def raddleref24_Same_l1 (p0 : (List Int)) (p1 : (List Int)) : Int → Option (Int ⊕ (Bool ⊕ Unit)) := fun s0 => match s0 with
  | s13 =>
    if decide (s13 < (p0.length : Int)) then
      Option.bind (idxO p0 s13) fun x22 =>
      Option.bind (idxO p1 s13) fun x27 =>
      if x22 != x27 then
        some (.inr (.inl false))
      else
        some (.inl (w64 (s13 + 1)))
    else
      some (.inr (.inr ()))
noncomputable def F_raddleref24_Same (p0 : (List Int)) (p1 : (List Int)) : Option Bool :=
  if (p0.length : Int) != (p1.length : Int) then
    some false
  else
    Option.bind (α := Unit ⊕ Bool) (
      Option.bind (whileO (raddleref24_Same_l1 p0 p1) 0) fun z0 => match z0 with
        | .inl z =>
          some (.inr z)
        | .inr _ =>
          some (.inl ())) fun z0 => match z0 with
      | .inl _ =>
        some true
      | .inr z =>
        some z
set_option maxHeartbeats 4000000 in
set_option maxRecDepth 100000 in
theorem c_raddleref24_Same (E : Nat → Prop) (w0 : World) (p0 : (List Int)) (v0 : Value) (p1 : (List Int)) (v1 : Value) (r : Bool) (h : F_raddleref24_Same p0 p1 = some r) (S : St0 E [] w0 w0 [] [fRep (rL (rI .i64)) (v0) p0, fRep (rL (rI .i64)) (v1) p1]) :
    Calls Try.prog 15 #[v0, v1] w0 (Ret (X := Unit) E [] w0 (fun _ => .bool r) (fun _ => []) (fun _ => [])) := by
  unfold F_raddleref24_Same at h
  obtain ⟨ad1, cp2, _, rfl, _⟩ := S.know (i := 0) (e := fRep (rL (rI .i64)) (v0) p0) (by kernel_rfl)
  obtain ⟨ad3, cp4, _, rfl, _⟩ := S.know (i := 1) (e := fRep (rL (rI .i64)) (v1) p1) (by kernel_rfl)
  refine sEnter (args := [.slice ad1 p0.length cp2, .slice ad3 p1.length cp4]) 26 Try.func15 rfl rfl (by simp) S (fun a S => ?_)
  refine sSeq (fun K5 hK5 => ?_)
  refine sRegion ?_
  refine sMove (.bool false) S (wN rfl) (.inr rfl) (by kernel_rfl) rfl (by decide) (fun a S => ?_)
  refine leafL (leafT (hK5 _ _ ?_))
  refine sSeq (fun K6 hK6 => ?_)
  refine sSeq (fun K7 hK7 => ?_)
  refine sRegion ?_
  refine sMove (.slice ad1 p0.length cp2) S (wN rfl) (.inl rfl) (by kernel_rfl) rfl (by decide) (fun a S => ?_)
  refine sLen (ad := ad1) (m := p0.length) (c := cp2) S (wN rfl) rfl Try.underlying27 (by kernel_rfl) rfl (by decide) (fun a S => ?_)
  refine sMove (.slice ad3 p1.length cp4) S (wN rfl) (.inl rfl) (by kernel_rfl) rfl (by decide) (fun a S => ?_)
  refine sLen (ad := ad3) (m := p1.length) (c := cp4) S (wN rfl) rfl Try.underlying27 (by kernel_rfl) rfl (by decide) (fun a S => ?_)
  refine sBin (.bool ((p0.length : Int) != (p1.length : Int))) S (wN rfl) rfl (by kernel_rfl) (by kernel_rfl) (bNe _ _ _ _ .i64 (p0.length : Int) (p1.length : Int)) rfl (by decide) (fun a S => ?_)
  refine leafL (leafT (hK7 _ _ ?_))
  rcases iteSome h with ⟨hc8, h⟩ | ⟨hc8, h⟩
  · refine sCondT (b := (p0.length : Int) != (p1.length : Int)) S (by kernel_rfl) hc8 ?_
    refine sSeq (fun K9 hK9 => ?_)
    refine sRegion ?_
    refine sMove (.bool false) S (wN rfl) (.inr rfl) (by kernel_rfl) rfl (by decide) (fun a S => ?_)
    refine leafL (leafT (hK9 _ _ ?_))
    obtain rfl := Option.some.inj h
    exact wp_ret (rThen (sRet (.bool false) S (rsl1 rfl (rvT (t := 4) (v := .bool false) S (by kernel_rfl))) ⟨(), rfl, S.mem.sel [] [] (by decide) (by kernel_rfl) (by kernel_rfl)⟩))
  · refine sCondF (b := (p0.length : Int) != (p1.length : Int)) S (by kernel_rfl) hc8 ?_
    refine wp_skip (leafT (hK6 _ _ ?_))
    obtain ⟨t10, h, g11⟩ := bindSome h
    refine sCut (fun a w => .inl () = t10 ∧ St E [] w0 26 a w [] [] []) ?_ (fun a w hI => ?_)
    · refine sSeq (fun K12 hK12 => ?_)
      refine sRegion ?_
      refine sMove (.int .i64 0) S (wN rfl) (.inr rfl) (by kernel_rfl) rfl (by decide) (fun a S => ?_)
      refine leafL (leafT (hK12 _ _ ?_))
      refine wp_block ?_
      obtain ⟨t16, hl, g15⟩ := bindSome h
      refine sLoop hl (fun s0 a w => match s0 with | s13 => St E [] w0 26 a w [(0, .slice ad1 p0.length cp2), (1, .slice ad3 p1.length cp4), (5, .int .i64 s13)] [] [fRep (rL (rI .i64)) (.slice ad1 p0.length cp2) p0, fRep (rL (rI .i64)) (.slice ad3 p1.length cp4) p1]) (S.fix [] [0, 1] (by decide) (by kernel_rfl) (by kernel_rfl) (by kernel_rfl)) ?_
      clear hl h
      intro s13 a w c0 hI h hu14
      unfold raddleref24_Same_l1 at h
      dsimp only at h hI
      have S := hI
      refine sSeq (fun K17 hK17 => ?_)
      refine sSeq (fun K18 hK18 => ?_)
      refine sRegion ?_
      refine sMove (.int .i64 s13) S (wN rfl) (.inl rfl) (by kernel_rfl) rfl (by decide) (fun a S => ?_)
      refine sMove (.slice ad1 p0.length cp2) S (wN rfl) (.inl rfl) (by kernel_rfl) rfl (by decide) (fun a S => ?_)
      refine sLen (ad := ad1) (m := p0.length) (c := cp2) S (wN rfl) rfl Try.underlying27 (by kernel_rfl) rfl (by decide) (fun a S => ?_)
      refine sBin (.bool (decide (s13 < (p0.length : Int)))) S (wN rfl) rfl (by kernel_rfl) (by kernel_rfl) (bLt _ _ _ _ .i64 s13 (p0.length : Int)) rfl (by decide) (fun a S => ?_)
      refine leafL (leafT (hK18 _ _ ?_))
      rcases iteSome h with ⟨hc19, h⟩ | ⟨hc19, h⟩
      · refine sCondT (b := decide (s13 < (p0.length : Int))) S (by kernel_rfl) hc19 ?_
        refine wp_skip (leafT (hK17 _ _ ?_))
        refine sSeq (fun K20 hK20 => ?_)
        refine wp_block ?_
        refine sSeq (fun K21 hK21 => ?_)
        obtain ⟨x22, hx23, h⟩ := bindSome h
        obtain ⟨x27, hx28, h⟩ := bindSome h
        obtain ⟨q32, hq33, S⟩ := pIdx (P := Try.prog) (r := (rI .i64)) (v := .slice ad1 p0.length cp2) (xs := p0) (j := s13) 27 3 0 S Try.underlying27 (by kernel_rfl) (by kernel_rfl) hx23
        obtain ⟨u34, S⟩ := pLoad (r := (rI .i64)) (q := q32) (x := x22) 0 S (by kernel_rfl)
        obtain rfl : u34 = .int .i64 x22 := S.mem.know (i := 1) (e := fRep (rI .i64) (u34) x22) (by kernel_rfl)
        obtain ⟨q35, hq36, S⟩ := pIdx (P := Try.prog) (r := (rI .i64)) (v := .slice ad3 p1.length cp4) (xs := p1) (j := s13) 27 3 4 S Try.underlying27 (by kernel_rfl) (by kernel_rfl) hx28
        obtain ⟨u37, S⟩ := pLoad (r := (rI .i64)) (q := q35) (x := x27) 0 S (by kernel_rfl)
        obtain rfl : u37 = .int .i64 x27 := S.mem.know (i := 1) (e := fRep (rI .i64) (u37) x27) (by kernel_rfl)
        refine sDraw (nf := []) (W := [(0, 17, .slice ad1 p0.length cp2), (1, 18, .int .i64 s13), (2, 19, q32), (3, 20, .int .i64 x22), (4, 21, .slice ad3 p1.length cp4), (5, 22, .int .i64 s13), (6, 23, q35), (7, 24, .int .i64 x27), (8, 25, .bool (x22 != x27))]) (by kernel_rfl) S ?_
        refine node_by (A := anc_raddleref24_Same_0) (nf := []) (Y := []) (W := [(0, 17, .slice ad1 p0.length cp2), (1, 18, .int .i64 s13), (2, 19, q32), (3, 20, .int .i64 x22), (4, 21, .slice ad3 p1.length cp4), (5, 22, .int .i64 s13), (6, 23, q35), (7, 24, .int .i64 x27), (8, 25, .bool (x22 != x27))]) 9 (by kernel_rfl) (by kernel_rfl) (by kernel_rfl) (by kernel_rfl) (by kernel_rfl) [0, 1, 2, 3, 4, 5, 6, 7, 8] (by kernel_rfl) (by decide) (by decide) (aF 0 8 (by decide) ?_ (aF 1 7 (by decide) ?_ (aF 2 6 (by decide) ?_ (aF 3 5 (by decide) ?_ (aF 4 4 (by decide) ?_ (aF 5 3 (by decide) ?_ (aF 6 2 (by decide) ?_ (aF 7 1 (by decide) ?_ (aF 8 0 (by decide) ?_ (trivial)))))))))) [(0, .slice ad1 p0.length cp2), (1, .slice ad3 p1.length cp4), (5, .int .i64 s13), (25, .bool (x22 != x27))] (fin_of [none, none, none, some 8] rfl (by kernel_rfl) (by kernel_rfl)) (fun _ a w S => ?_)
        · refine fI 17 (.slice ad1 p0.length cp2) [(0, .slice ad1 p0.length cp2)] 0 [none] rfl rfl (by kernel_rfl) rfl (by kernel_rfl) (by kernel_rfl) fun G a w S => ?_
          refine sMove (.slice ad1 p0.length cp2) S (wN rfl) (.inl rfl) (by kernel_rfl) rfl (by decide) (fun a S => ?_)
          exact leafL ⟨rfl, S⟩
        · refine fI 18 (.int .i64 s13) [(5, .int .i64 s13)] 1 [none] rfl rfl (by kernel_rfl) rfl (by kernel_rfl) (by kernel_rfl) fun G a w S => ?_
          refine sMove (.int .i64 s13) S (wN rfl) (.inl rfl) (by kernel_rfl) rfl (by decide) (fun a S => ?_)
          exact leafL ⟨rfl, S⟩
        · refine fI 19 q32 [(17, .slice ad1 p0.length cp2), (18, .int .i64 s13)] 2 [some 0, some 1] rfl rfl (by kernel_rfl) rfl (by kernel_rfl) (by kernel_rfl) fun G a w S => ?_
          refine sIdxV (v := .slice ad1 p0.length cp2) (k := .i64) (j := s13) S (wN rfl) rfl (by kernel_rfl) (by kernel_rfl) hq33 rfl (by decide) (fun a S => ?_)
          exact leafL ⟨rfl, S⟩
        · refine fI 20 (.int .i64 x22) [(19, q32)] 3 [some 2] rfl rfl (by kernel_rfl) rfl (by kernel_rfl) (by kernel_rfl) fun G a w S => ?_
          refine sLoadV1 (vq := q32) 3 (.int .i64 x22) S (wN rfl) rfl (by kernel_rfl) (by kernel_rfl) (by kernel_rfl) rfl (by decide) (fun a S => ?_)
          exact leafL ⟨rfl, S⟩
        · refine fI 21 (.slice ad3 p1.length cp4) [(1, .slice ad3 p1.length cp4)] 4 [none] rfl rfl (by kernel_rfl) rfl (by kernel_rfl) (by kernel_rfl) fun G a w S => ?_
          refine sMove (.slice ad3 p1.length cp4) S (wN rfl) (.inl rfl) (by kernel_rfl) rfl (by decide) (fun a S => ?_)
          exact leafL ⟨rfl, S⟩
        · refine fI 22 (.int .i64 s13) [(5, .int .i64 s13)] 5 [none] rfl rfl (by kernel_rfl) rfl (by kernel_rfl) (by kernel_rfl) fun G a w S => ?_
          refine sMove (.int .i64 s13) S (wN rfl) (.inl rfl) (by kernel_rfl) rfl (by decide) (fun a S => ?_)
          exact leafL ⟨rfl, S⟩
        · refine fI 23 q35 [(21, .slice ad3 p1.length cp4), (22, .int .i64 s13)] 6 [some 4, some 5] rfl rfl (by kernel_rfl) rfl (by kernel_rfl) (by kernel_rfl) fun G a w S => ?_
          refine sIdxV (v := .slice ad3 p1.length cp4) (k := .i64) (j := s13) S (wN rfl) rfl (by kernel_rfl) (by kernel_rfl) hq36 rfl (by decide) (fun a S => ?_)
          exact leafL ⟨rfl, S⟩
        · refine fI 24 (.int .i64 x27) [(23, q35)] 7 [some 6] rfl rfl (by kernel_rfl) rfl (by kernel_rfl) (by kernel_rfl) fun G a w S => ?_
          refine sLoadV1 (vq := q35) 0 (.int .i64 x27) S (wN rfl) rfl (by kernel_rfl) (by kernel_rfl) (by kernel_rfl) rfl (by decide) (fun a S => ?_)
          exact leafL ⟨rfl, S⟩
        · refine fI 25 (.bool (x22 != x27)) [(20, .int .i64 x22), (24, .int .i64 x27)] 8 [some 3, some 7] rfl rfl (by kernel_rfl) rfl (by kernel_rfl) (by kernel_rfl) fun G a w S => ?_
          refine sBin (.bool (x22 != x27)) S (wN rfl) rfl (by kernel_rfl) (by kernel_rfl) (bNe _ _ _ _ .i64 x22 x27) rfl (by decide) (fun a S => ?_)
          exact leafL ⟨rfl, S⟩
        · refine leafT (hK21 _ _ ?_)
          rcases iteSome h with ⟨hc38, h⟩ | ⟨hc38, h⟩
          · refine sCondT (b := x22 != x27) S (by kernel_rfl) hc38 ?_
            refine sSeq (fun K39 hK39 => ?_)
            refine sRegion ?_
            refine sMove (.bool false) S (wN rfl) (.inr rfl) (by kernel_rfl) rfl (by decide) (fun a S => ?_)
            refine leafL (leafT (hK39 _ _ ?_))
            obtain rfl := Option.some.inj h
            obtain rfl := hu14 _ rfl
            have h := g15
            clear g15
            try dsimp only at h
            obtain rfl := Option.some.inj h
            have h := g11
            clear g11
            try dsimp only at h
            obtain rfl := Option.some.inj h
            exact wp_ret (rBlock (rThen (rThen (rBlock (rThen (sRet (.bool false) S (rsl1 rfl (rvT (t := 4) (v := .bool false) S (by kernel_rfl))) ⟨(), rfl, S.mem.sel [] [] (by decide) (by kernel_rfl) (by kernel_rfl)⟩))))))
          · refine sCondF (b := x22 != x27) S (by kernel_rfl) hc38 ?_
            refine wp_skip (leafB (leafT (hK20 _ _ ?_)))
            refine sRegion ?_
            refine sMove (.int .i64 s13) S (wN rfl) (.inl rfl) (by kernel_rfl) rfl (by decide) (fun a S => ?_)
            refine sBin (.int .i64 (w64 (s13 + 1))) S (wN rfl) rfl (by kernel_rfl) (by kernel_rfl) (bAdd _ _ _ _ s13 1) rfl (by decide) (fun a S => ?_)
            refine sMove (.int .i64 (w64 (s13 + 1))) S (wN rfl) (.inr rfl) (by kernel_rfl) rfl (by decide) (fun a S => ?_)
            exact leafL (leafT (⟨w64 (s13 + 1), (Option.some.inj h).symm, (S.fix [] [6, 7] (by decide) (by kernel_rfl) (by kernel_rfl) (by kernel_rfl))⟩))
      · refine sCondF (b := decide (s13 < (p0.length : Int))) S (by kernel_rfl) hc19 ?_
        obtain rfl := Option.some.inj h
        obtain rfl := hu14 _ rfl
        have h := g15
        clear g15
        try dsimp only at h
        exact wp_exit (xThen (xThen (xHit (leafT (⟨Option.some.inj h, S.fix [] [] (by decide) (by kernel_rfl) (by kernel_rfl) (by kernel_rfl)⟩)))))
    · obtain ⟨rfl, S⟩ := hI
      have h := g11
      clear g11
      try dsimp only at h
      refine sSeq (fun K40 hK40 => ?_)
      refine sRegion ?_
      refine sMove (.bool true) S (wN rfl) (.inr rfl) (by kernel_rfl) rfl (by decide) (fun a S => ?_)
      refine leafL (leafT (hK40 _ _ ?_))
      obtain rfl := Option.some.inj h
      exact wp_ret (sRet (.bool true) S (rsl1 rfl (rvT (t := 4) (v := .bool true) S (by kernel_rfl))) ⟨(), rfl, S.mem.sel [] [] (by decide) (by kernel_rfl) (by kernel_rfl)⟩)

end Go.Proofs.Ytjndecalogklhaa
