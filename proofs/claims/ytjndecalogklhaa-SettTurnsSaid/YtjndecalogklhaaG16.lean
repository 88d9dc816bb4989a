import Derived.Test.YtjndecalogklhaaGTy
namespace Go.Proofs.Ytjndecalogklhaa
open Go.RowKit
set_option linter.unusedVariables false

def anc_raddleref01_Same_0 : List (List Nat) := [[], [0], [], [0, 1, 2], [0, 1, 2, 3], [], [5], [], [5, 6, 7], [5, 6, 7, 8], [0, 1, 2, 3, 4, 5, 6, 7, 8, 9]]
noncomputable def raddleref01_Same_l1 (p0 : api_Grid) (p1 : api_Grid) : Int → Option (Int ⊕ (Bool ⊕ Unit)) := fun s0 => match s0 with
  | s23 =>
    if decide (s23 < (p0.Bits.length : Int)) then
      Option.bind (idxO p0.Bits s23) fun x32 =>
      Option.bind (idxO p1.Bits s23) fun x37 =>
      if x32 != x37 then
        some (.inr (.inl false))
      else
        some (.inl (w64 (s23 + 1)))
    else
      some (.inr (.inr ()))
noncomputable def F_raddleref01_Same (p0 : api_Grid) (p1 : api_Grid) : Option Bool :=
  Option.bind (α := Bool) (
    if p0.W != p1.W then
      some true
    else
      if p0.H != p1.H then
        some true
      else
        some ((p0.Bits.length : Int) != (p1.Bits.length : Int))) fun o13 =>
  if o13 then
    some false
  else
    Option.bind (α := Unit ⊕ Bool) (
      Option.bind (whileO (raddleref01_Same_l1 p0 p1) 0) fun z0 => match z0 with
        | .inl z =>
          some (.inr z)
        | .inr _ =>
          some (.inl ())) fun z0 => match z0 with
      | .inl _ =>
        some true
      | .inr z =>
        some z
set_option maxHeartbeats 4000000 in
set_option maxRecDepth 100000 in
theorem c_raddleref01_Same (E : Nat → Prop) (w0 : World) (p0 : api_Grid) (v0 : Value) (p1 : api_Grid) (v1 : Value) (r : Bool) (h : F_raddleref01_Same p0 p1 = some r) (S : St0 E [] w0 w0 [] [fRep r_api_Grid (v0) p0, fRep r_api_Grid (v1) p1]) :
    Calls Try.prog 16 #[v0, v1] w0 (Ret (X := Unit) E [] w0 (fun _ => .bool r) (fun _ => []) (fun _ => [])) := by
  unfold F_raddleref01_Same at h
  obtain ⟨u1, rfl, hu2⟩ := S.know (i := 0) (e := fRep r_api_Grid (v0) p0) (by kernel_rfl)
  have S := S.learn (fRep (rL rB) u1 p0.Bits) hu2
  obtain ⟨ad3, cp4, _, rfl, _⟩ := hu2
  obtain ⟨u5, rfl, hu6⟩ := S.know (i := 2) (e := fRep r_api_Grid (v1) p1) (by kernel_rfl)
  have S := S.learn (fRep (rL rB) u5 p1.Bits) hu6
  obtain ⟨ad7, cp8, _, rfl, _⟩ := hu6
  refine sEnter (args := [.agg #[.int .i64 p0.W, .int .i64 p0.H, .slice ad3 p0.Bits.length cp4], .agg #[.int .i64 p1.W, .int .i64 p1.H, .slice ad7 p1.Bits.length cp8]]) 45 Try.func16 rfl rfl (by simp) S (fun a S => ?_)
  refine sSeq (fun K9 hK9 => ?_)
  refine sRegion ?_
  refine sBox (v := .agg #[.int .i64 p0.W, .int .i64 p0.H, .slice ad3 p0.Bits.length cp4]) S (wN rfl) rfl (by kernel_rfl) [.int .i64 p0.W, .int .i64 p0.H, .slice ad3 p0.Bits.length cp4] rfl rfl (by decide) (fun a b10 w S => ?_)
  refine sBox (v := .agg #[.int .i64 p1.W, .int .i64 p1.H, .slice ad7 p1.Bits.length cp8]) S (wN rfl) rfl (by kernel_rfl) [.int .i64 p1.W, .int .i64 p1.H, .slice ad7 p1.Bits.length cp8] rfl rfl (by decide) (fun a b11 w S => ?_)
  refine sMove (.bool false) S (wN rfl) (.inr rfl) (by kernel_rfl) rfl (by decide) (fun a S => ?_)
  refine leafL (leafT (hK9 _ _ ?_))
  refine sSeq (fun K12 hK12 => ?_)
  obtain ⟨t14, h, g15⟩ := bindSome h
  refine sCut (fun a w => ∃ o13, o13 = t14 ∧ St E [] w0 45 a w [(2, .pointer (some ⟨b10, 0, none⟩)), (3, .pointer (some ⟨b11, 0, none⟩)), (26, .bool o13)] [eBox b10 24 [.int .i64 p0.W, .int .i64 p0.H, .slice ad3 p0.Bits.length cp4], eBox b11 24 [.int .i64 p1.W, .int .i64 p1.H, .slice ad7 p1.Bits.length cp8]] [fRep (rL rB) (.slice ad3 p0.Bits.length cp4) p0.Bits, fRep (rL rB) (.slice ad7 p1.Bits.length cp8) p1.Bits]) ?_ (fun a w hI => ?_)
  · refine sRegion ?_
    refine sField (b := b10) (off := 0) 0 0 S (wN rfl) rfl (by kernel_rfl) (by kernel_rfl) rfl rfl (by decide) (fun a S => ?_)
    refine sLoad1 (p := b10) (off := 0) (T := 24) (vs := [.int .i64 p0.W, .int .i64 p0.H, .slice ad3 p0.Bits.length cp4]) 1 (.int .i64 p0.W) S (wN rfl) rfl (by kernel_rfl) (by kernel_rfl) (by kernel_rfl) rfl rfl (by decide) (fun a S => ?_)
    refine sField (b := b11) (off := 0) 0 0 S (wN rfl) rfl (by kernel_rfl) (by kernel_rfl) rfl rfl (by decide) (fun a S => ?_)
    refine sLoad1 (p := b11) (off := 0) (T := 24) (vs := [.int .i64 p1.W, .int .i64 p1.H, .slice ad7 p1.Bits.length cp8]) 0 (.int .i64 p1.W) S (wN rfl) rfl (by kernel_rfl) (by kernel_rfl) (by kernel_rfl) rfl rfl (by decide) (fun a S => ?_)
    refine sBin (.bool (p0.W != p1.W)) S (wN rfl) rfl (by kernel_rfl) (by kernel_rfl) (bNe _ _ _ _ .i64 p0.W p1.W) rfl (by decide) (fun a S => ?_)
    refine sMove (.bool (p0.W != p1.W)) S (wN rfl) (.inl rfl) (by kernel_rfl) rfl (by decide) (fun a S => ?_)
    rcases iteSome h with ⟨hc16, h⟩ | ⟨hc16, h⟩
    · refine sSkip (c := p0.W != p1.W) 5 false 11 12 S rfl rfl (by kernel_rfl) hc16 rfl (by decide) (fun a S => ?_)
      refine sSkip (c := p0.W != p1.W) 5 false 11 13 S rfl rfl (by kernel_rfl) hc16 rfl (by decide) (fun a S => ?_)
      refine sSkip (c := p0.W != p1.W) 5 false 11 14 S rfl rfl (by kernel_rfl) hc16 rfl (by decide) (fun a S => ?_)
      refine sSkip (c := p0.W != p1.W) 5 false 11 15 S rfl rfl (by kernel_rfl) hc16 rfl (by decide) (fun a S => ?_)
      refine sSkip (c := p0.W != p1.W) 5 false 11 16 S rfl rfl (by kernel_rfl) hc16 rfl (by decide) (fun a S => ?_)
      refine sPickT (b := p0.W != p1.W) (.bool true) S (wN rfl) rfl (by kernel_rfl) hc16 (by kernel_rfl) rfl (by decide) (fun a S => ?_)
      refine sMove (.bool true) S (wN rfl) (.inl rfl) (by kernel_rfl) rfl (by decide) (fun a S => ?_)
      refine sSkip (c := true) 12 false 18 19 S rfl rfl (by kernel_rfl) rfl rfl (by decide) (fun a S => ?_)
      refine sSkip (c := true) 12 false 18 20 S rfl rfl (by kernel_rfl) rfl rfl (by decide) (fun a S => ?_)
      refine sSkip (c := true) 12 false 18 21 S rfl rfl (by kernel_rfl) rfl rfl (by decide) (fun a S => ?_)
      refine sSkip (c := true) 12 false 18 22 S rfl rfl (by kernel_rfl) rfl rfl (by decide) (fun a S => ?_)
      refine sSkip (c := true) 12 false 18 23 S rfl rfl (by kernel_rfl) rfl rfl (by decide) (fun a S => ?_)
      refine sSkip (c := true) 12 false 18 24 S rfl rfl (by kernel_rfl) rfl rfl (by decide) (fun a S => ?_)
      refine sSkip (c := true) 12 false 18 25 S rfl rfl (by kernel_rfl) rfl rfl (by decide) (fun a S => ?_)
      refine sPickT (b := true) (.bool true) S (wN rfl) rfl (by kernel_rfl) rfl (by kernel_rfl) rfl (by decide) (fun a S => ?_)
      exact leafL (leafT (⟨true, Option.some.inj h, S.fix [1, 0] [1, 0] (by decide) (by kernel_rfl) (by kernel_rfl) (by kernel_rfl)⟩))
    · refine sField (b := b10) (off := 0) 1 1 S (wG (c := p0.W != p1.W) 5 false 11 rfl rfl (by kernel_rfl) hc16) rfl (by kernel_rfl) (by kernel_rfl) rfl rfl (by decide) (fun a S => ?_)
      refine sLoad1 (p := b10) (off := 1) (T := 24) (vs := [.int .i64 p0.W, .int .i64 p0.H, .slice ad3 p0.Bits.length cp4]) 1 (.int .i64 p0.H) S (wG (c := p0.W != p1.W) 5 false 11 rfl rfl (by kernel_rfl) hc16) rfl (by kernel_rfl) (by kernel_rfl) (by kernel_rfl) rfl rfl (by decide) (fun a S => ?_)
      refine sField (b := b11) (off := 0) 1 1 S (wG (c := p0.W != p1.W) 5 false 11 rfl rfl (by kernel_rfl) hc16) rfl (by kernel_rfl) (by kernel_rfl) rfl rfl (by decide) (fun a S => ?_)
      refine sLoad1 (p := b11) (off := 1) (T := 24) (vs := [.int .i64 p1.W, .int .i64 p1.H, .slice ad7 p1.Bits.length cp8]) 0 (.int .i64 p1.H) S (wG (c := p0.W != p1.W) 5 false 11 rfl rfl (by kernel_rfl) hc16) rfl (by kernel_rfl) (by kernel_rfl) (by kernel_rfl) rfl rfl (by decide) (fun a S => ?_)
      refine sBin (.bool (p0.H != p1.H)) S (wG (c := p0.W != p1.W) 5 false 11 rfl rfl (by kernel_rfl) hc16) rfl (by kernel_rfl) (by kernel_rfl) (bNe _ _ _ _ .i64 p0.H p1.H) rfl (by decide) (fun a S => ?_)
      refine sPickF (b := p0.W != p1.W) (.bool (p0.H != p1.H)) S (wN rfl) rfl (by kernel_rfl) hc16 (by kernel_rfl) rfl (by decide) (fun a S => ?_)
      refine sMove (.bool (p0.H != p1.H)) S (wN rfl) (.inl rfl) (by kernel_rfl) rfl (by decide) (fun a S => ?_)
      rcases iteSome h with ⟨hc17, h⟩ | ⟨hc17, h⟩
      · refine sSkip (c := p0.H != p1.H) 12 false 18 19 S rfl rfl (by kernel_rfl) hc17 rfl (by decide) (fun a S => ?_)
        refine sSkip (c := p0.H != p1.H) 12 false 18 20 S rfl rfl (by kernel_rfl) hc17 rfl (by decide) (fun a S => ?_)
        refine sSkip (c := p0.H != p1.H) 12 false 18 21 S rfl rfl (by kernel_rfl) hc17 rfl (by decide) (fun a S => ?_)
        refine sSkip (c := p0.H != p1.H) 12 false 18 22 S rfl rfl (by kernel_rfl) hc17 rfl (by decide) (fun a S => ?_)
        refine sSkip (c := p0.H != p1.H) 12 false 18 23 S rfl rfl (by kernel_rfl) hc17 rfl (by decide) (fun a S => ?_)
        refine sSkip (c := p0.H != p1.H) 12 false 18 24 S rfl rfl (by kernel_rfl) hc17 rfl (by decide) (fun a S => ?_)
        refine sSkip (c := p0.H != p1.H) 12 false 18 25 S rfl rfl (by kernel_rfl) hc17 rfl (by decide) (fun a S => ?_)
        refine sPickT (b := p0.H != p1.H) (.bool true) S (wN rfl) rfl (by kernel_rfl) hc17 (by kernel_rfl) rfl (by decide) (fun a S => ?_)
        exact leafL (leafT (⟨true, Option.some.inj h, S.fix [1, 0] [1, 0] (by decide) (by kernel_rfl) (by kernel_rfl) (by kernel_rfl)⟩))
      · refine sField (b := b10) (off := 0) 2 2 S (wG (c := p0.H != p1.H) 12 false 18 rfl rfl (by kernel_rfl) hc17) rfl (by kernel_rfl) (by kernel_rfl) rfl rfl (by decide) (fun a S => ?_)
        refine sLoad1 (p := b10) (off := 2) (T := 24) (vs := [.int .i64 p0.W, .int .i64 p0.H, .slice ad3 p0.Bits.length cp4]) 1 (.slice ad3 p0.Bits.length cp4) S (wG (c := p0.H != p1.H) 12 false 18 rfl rfl (by kernel_rfl) hc17) rfl (by kernel_rfl) (by kernel_rfl) (by kernel_rfl) rfl rfl (by decide) (fun a S => ?_)
        refine sLen (ad := ad3) (m := p0.Bits.length) (c := cp4) S (wG (c := p0.H != p1.H) 12 false 18 rfl rfl (by kernel_rfl) hc17) rfl Try.underlying22 (by kernel_rfl) rfl (by decide) (fun a S => ?_)
        refine sField (b := b11) (off := 0) 2 2 S (wG (c := p0.H != p1.H) 12 false 18 rfl rfl (by kernel_rfl) hc17) rfl (by kernel_rfl) (by kernel_rfl) rfl rfl (by decide) (fun a S => ?_)
        refine sLoad1 (p := b11) (off := 2) (T := 24) (vs := [.int .i64 p1.W, .int .i64 p1.H, .slice ad7 p1.Bits.length cp8]) 0 (.slice ad7 p1.Bits.length cp8) S (wG (c := p0.H != p1.H) 12 false 18 rfl rfl (by kernel_rfl) hc17) rfl (by kernel_rfl) (by kernel_rfl) (by kernel_rfl) rfl rfl (by decide) (fun a S => ?_)
        refine sLen (ad := ad7) (m := p1.Bits.length) (c := cp8) S (wG (c := p0.H != p1.H) 12 false 18 rfl rfl (by kernel_rfl) hc17) rfl Try.underlying22 (by kernel_rfl) rfl (by decide) (fun a S => ?_)
        refine sBin (.bool ((p0.Bits.length : Int) != (p1.Bits.length : Int))) S (wG (c := p0.H != p1.H) 12 false 18 rfl rfl (by kernel_rfl) hc17) rfl (by kernel_rfl) (by kernel_rfl) (bNe _ _ _ _ .i64 (p0.Bits.length : Int) (p1.Bits.length : Int)) rfl (by decide) (fun a S => ?_)
        refine sPickF (b := p0.H != p1.H) (.bool ((p0.Bits.length : Int) != (p1.Bits.length : Int))) S (wN rfl) rfl (by kernel_rfl) hc17 (by kernel_rfl) rfl (by decide) (fun a S => ?_)
        exact leafL (leafT (⟨(p0.Bits.length : Int) != (p1.Bits.length : Int), Option.some.inj h, S.fix [1, 0] [1, 0] (by decide) (by kernel_rfl) (by kernel_rfl) (by kernel_rfl)⟩))
  · obtain ⟨o13, rfl, S⟩ := hI
    have h := g15
    clear g15
    try dsimp only at h
    rcases iteSome h with ⟨hc18, h⟩ | ⟨hc18, h⟩
    · refine sCondT (b := o13) S (by kernel_rfl) hc18 ?_
      refine sSeq (fun K19 hK19 => ?_)
      refine sRegion ?_
      refine sMove (.bool false) S (wN rfl) (.inr rfl) (by kernel_rfl) rfl (by decide) (fun a S => ?_)
      refine leafL (leafT (hK19 _ _ ?_))
      obtain rfl := Option.some.inj h
      exact wp_ret (rThen (sRet (.bool false) S (rsl1 rfl (rvT (t := 4) (v := .bool false) S (by kernel_rfl))) ⟨(), rfl, S.mem.sel [] [] (by decide) (by kernel_rfl) (by kernel_rfl)⟩))
    · refine sCondF (b := o13) S (by kernel_rfl) hc18 ?_
      refine wp_skip (leafT (hK12 _ _ ?_))
      obtain ⟨t20, h, g21⟩ := bindSome h
      refine sCut (fun a w => .inl () = t20 ∧ St E [] w0 45 a w [] [] []) ?_ (fun a w hI => ?_)
      · refine sSeq (fun K22 hK22 => ?_)
        refine sRegion ?_
        refine sMove (.int .i64 0) S (wN rfl) (.inr rfl) (by kernel_rfl) rfl (by decide) (fun a S => ?_)
        refine leafL (leafT (hK22 _ _ ?_))
        refine wp_block ?_
        obtain ⟨t26, hl, g25⟩ := bindSome h
        refine sLoop hl (fun s0 a w => match s0 with | s23 => St E [] w0 45 a w [(2, .pointer (some ⟨b10, 0, none⟩)), (3, .pointer (some ⟨b11, 0, none⟩)), (5, .int .i64 s23)] [eBox b10 24 [.int .i64 p0.W, .int .i64 p0.H, .slice ad3 p0.Bits.length cp4], eBox b11 24 [.int .i64 p1.W, .int .i64 p1.H, .slice ad7 p1.Bits.length cp8]] [fRep (rL rB) (.slice ad3 p0.Bits.length cp4) p0.Bits, fRep (rL rB) (.slice ad7 p1.Bits.length cp8) p1.Bits]) (S.fix [0, 1] [0, 1] (by decide) (by kernel_rfl) (by kernel_rfl) (by kernel_rfl)) ?_
        clear hl h
        intro s23 a w c0 hI h hu24
        unfold raddleref01_Same_l1 at h
        dsimp only at h hI
        have S := hI
        refine sSeq (fun K27 hK27 => ?_)
        refine sSeq (fun K28 hK28 => ?_)
        refine sRegion ?_
        refine sMove (.int .i64 s23) S (wN rfl) (.inl rfl) (by kernel_rfl) rfl (by decide) (fun a S => ?_)
        refine sField (b := b10) (off := 0) 2 2 S (wN rfl) rfl (by kernel_rfl) (by kernel_rfl) rfl rfl (by decide) (fun a S => ?_)
        refine sLoad1 (p := b10) (off := 2) (T := 24) (vs := [.int .i64 p0.W, .int .i64 p0.H, .slice ad3 p0.Bits.length cp4]) 0 (.slice ad3 p0.Bits.length cp4) S (wN rfl) rfl (by kernel_rfl) (by kernel_rfl) (by kernel_rfl) rfl rfl (by decide) (fun a S => ?_)
        refine sLen (ad := ad3) (m := p0.Bits.length) (c := cp4) S (wN rfl) rfl Try.underlying22 (by kernel_rfl) rfl (by decide) (fun a S => ?_)
        refine sBin (.bool (decide (s23 < (p0.Bits.length : Int)))) S (wN rfl) rfl (by kernel_rfl) (by kernel_rfl) (bLt _ _ _ _ .i64 s23 (p0.Bits.length : Int)) rfl (by decide) (fun a S => ?_)
        refine leafL (leafT (hK28 _ _ ?_))
        rcases iteSome h with ⟨hc29, h⟩ | ⟨hc29, h⟩
        · refine sCondT (b := decide (s23 < (p0.Bits.length : Int))) S (by kernel_rfl) hc29 ?_
          refine wp_skip (leafT (hK27 _ _ ?_))
          refine sSeq (fun K30 hK30 => ?_)
          refine wp_block ?_
          refine sSeq (fun K31 hK31 => ?_)
          obtain ⟨x32, hx33, h⟩ := bindSome h
          obtain ⟨x37, hx38, h⟩ := bindSome h
          obtain ⟨q42, hq43, S⟩ := pIdx (P := Try.prog) (r := rB) (v := .slice ad3 p0.Bits.length cp4) (xs := p0.Bits) (j := s23) 22 4 0 S Try.underlying22 (by kernel_rfl) (by kernel_rfl) hx33
          obtain ⟨u44, S⟩ := pLoad (r := rB) (q := q42) (x := x32) 0 S (by kernel_rfl)
          obtain rfl : u44 = .bool x32 := S.mem.know (i := 1) (e := fRep rB (u44) x32) (by kernel_rfl)
          obtain ⟨q45, hq46, S⟩ := pIdx (P := Try.prog) (r := rB) (v := .slice ad7 p1.Bits.length cp8) (xs := p1.Bits) (j := s23) 22 4 4 S Try.underlying22 (by kernel_rfl) (by kernel_rfl) hx38
          obtain ⟨u47, S⟩ := pLoad (r := rB) (q := q45) (x := x37) 0 S (by kernel_rfl)
          obtain rfl : u47 = .bool x37 := S.mem.know (i := 1) (e := fRep rB (u47) x37) (by kernel_rfl)
          refine sDraw (nf := []) (W := [(0, 34, .pointer (some ⟨b10, 2, none⟩)), (1, 35, .slice ad3 p0.Bits.length cp4), (2, 36, .int .i64 s23), (3, 37, q42), (4, 38, .bool x32), (5, 39, .pointer (some ⟨b11, 2, none⟩)), (6, 40, .slice ad7 p1.Bits.length cp8), (7, 41, .int .i64 s23), (8, 42, q45), (9, 43, .bool x37), (10, 44, .bool (x32 != x37))]) (by kernel_rfl) S ?_
          refine node_by (A := anc_raddleref01_Same_0) (nf := []) (Y := []) (W := [(0, 34, .pointer (some ⟨b10, 2, none⟩)), (1, 35, .slice ad3 p0.Bits.length cp4), (2, 36, .int .i64 s23), (3, 37, q42), (4, 38, .bool x32), (5, 39, .pointer (some ⟨b11, 2, none⟩)), (6, 40, .slice ad7 p1.Bits.length cp8), (7, 41, .int .i64 s23), (8, 42, q45), (9, 43, .bool x37), (10, 44, .bool (x32 != x37))]) 11 (by kernel_rfl) (by kernel_rfl) (by kernel_rfl) (by kernel_rfl) (by kernel_rfl) [0, 1, 2, 3, 4, 5, 6, 7, 8, 9, 10] (by kernel_rfl) (by decide) (by decide) (aF 0 10 (by decide) ?_ (aF 1 9 (by decide) ?_ (aF 2 8 (by decide) ?_ (aF 3 7 (by decide) ?_ (aF 4 6 (by decide) ?_ (aF 5 5 (by decide) ?_ (aF 6 4 (by decide) ?_ (aF 7 3 (by decide) ?_ (aF 8 2 (by decide) ?_ (aF 9 1 (by decide) ?_ (aF 10 0 (by decide) ?_ (trivial)))))))))))) [(2, .pointer (some ⟨b10, 0, none⟩)), (3, .pointer (some ⟨b11, 0, none⟩)), (5, .int .i64 s23), (44, .bool (x32 != x37))] (fin_of [none, none, none, some 10] rfl (by kernel_rfl) (by kernel_rfl)) (fun _ a w S => ?_)
          · refine fI 34 (.pointer (some ⟨b10, 2, none⟩)) [(2, .pointer (some ⟨b10, 0, none⟩))] 0 [none] rfl rfl (by kernel_rfl) rfl (by kernel_rfl) (by kernel_rfl) fun G a w S => ?_
            refine sField (b := b10) (off := 0) 2 2 S (wN rfl) rfl (by kernel_rfl) (by kernel_rfl) rfl rfl (by decide) (fun a S => ?_)
            exact leafL ⟨rfl, S⟩
          · refine fI 35 (.slice ad3 p0.Bits.length cp4) [(34, .pointer (some ⟨b10, 2, none⟩))] 1 [some 0] rfl rfl (by kernel_rfl) rfl (by kernel_rfl) (by kernel_rfl) fun G a w S => ?_
            refine sLoad1 (p := b10) (off := 2) (T := 24) (vs := [.int .i64 p0.W, .int .i64 p0.H, .slice ad3 p0.Bits.length cp4]) 0 (.slice ad3 p0.Bits.length cp4) S (wN rfl) rfl (by kernel_rfl) (by kernel_rfl) (by kernel_rfl) rfl rfl (by decide) (fun a S => ?_)
            exact leafL ⟨rfl, S⟩
          · refine fI 36 (.int .i64 s23) [(5, .int .i64 s23)] 2 [none] rfl rfl (by kernel_rfl) rfl (by kernel_rfl) (by kernel_rfl) fun G a w S => ?_
            refine sMove (.int .i64 s23) S (wN rfl) (.inl rfl) (by kernel_rfl) rfl (by decide) (fun a S => ?_)
            exact leafL ⟨rfl, S⟩
          · refine fI 37 q42 [(35, .slice ad3 p0.Bits.length cp4), (36, .int .i64 s23)] 3 [some 1, some 2] rfl rfl (by kernel_rfl) rfl (by kernel_rfl) (by kernel_rfl) fun G a w S => ?_
            refine sIdxV (v := .slice ad3 p0.Bits.length cp4) (k := .i64) (j := s23) S (wN rfl) rfl (by kernel_rfl) (by kernel_rfl) hq43 rfl (by decide) (fun a S => ?_)
            exact leafL ⟨rfl, S⟩
          · refine fI 38 (.bool x32) [(37, q42)] 4 [some 3] rfl rfl (by kernel_rfl) rfl (by kernel_rfl) (by kernel_rfl) fun G a w S => ?_
            refine sLoadV1 (vq := q42) 3 (.bool x32) S (wN rfl) rfl (by kernel_rfl) (by kernel_rfl) (by kernel_rfl) rfl (by decide) (fun a S => ?_)
            exact leafL ⟨rfl, S⟩
          · refine fI 39 (.pointer (some ⟨b11, 2, none⟩)) [(3, .pointer (some ⟨b11, 0, none⟩))] 5 [none] rfl rfl (by kernel_rfl) rfl (by kernel_rfl) (by kernel_rfl) fun G a w S => ?_
            refine sField (b := b11) (off := 0) 2 2 S (wN rfl) rfl (by kernel_rfl) (by kernel_rfl) rfl rfl (by decide) (fun a S => ?_)
            exact leafL ⟨rfl, S⟩
          · refine fI 40 (.slice ad7 p1.Bits.length cp8) [(39, .pointer (some ⟨b11, 2, none⟩))] 6 [some 5] rfl rfl (by kernel_rfl) rfl (by kernel_rfl) (by kernel_rfl) fun G a w S => ?_
            refine sLoad1 (p := b11) (off := 2) (T := 24) (vs := [.int .i64 p1.W, .int .i64 p1.H, .slice ad7 p1.Bits.length cp8]) 1 (.slice ad7 p1.Bits.length cp8) S (wN rfl) rfl (by kernel_rfl) (by kernel_rfl) (by kernel_rfl) rfl rfl (by decide) (fun a S => ?_)
            exact leafL ⟨rfl, S⟩
          · refine fI 41 (.int .i64 s23) [(5, .int .i64 s23)] 7 [none] rfl rfl (by kernel_rfl) rfl (by kernel_rfl) (by kernel_rfl) fun G a w S => ?_
            refine sMove (.int .i64 s23) S (wN rfl) (.inl rfl) (by kernel_rfl) rfl (by decide) (fun a S => ?_)
            exact leafL ⟨rfl, S⟩
          · refine fI 42 q45 [(40, .slice ad7 p1.Bits.length cp8), (41, .int .i64 s23)] 8 [some 6, some 7] rfl rfl (by kernel_rfl) rfl (by kernel_rfl) (by kernel_rfl) fun G a w S => ?_
            refine sIdxV (v := .slice ad7 p1.Bits.length cp8) (k := .i64) (j := s23) S (wN rfl) rfl (by kernel_rfl) (by kernel_rfl) hq46 rfl (by decide) (fun a S => ?_)
            exact leafL ⟨rfl, S⟩
          · refine fI 43 (.bool x37) [(42, q45)] 9 [some 8] rfl rfl (by kernel_rfl) rfl (by kernel_rfl) (by kernel_rfl) fun G a w S => ?_
            refine sLoadV1 (vq := q45) 0 (.bool x37) S (wN rfl) rfl (by kernel_rfl) (by kernel_rfl) (by kernel_rfl) rfl (by decide) (fun a S => ?_)
            exact leafL ⟨rfl, S⟩
          · refine fI 44 (.bool (x32 != x37)) [(38, .bool x32), (43, .bool x37)] 10 [some 4, some 9] rfl rfl (by kernel_rfl) rfl (by kernel_rfl) (by kernel_rfl) fun G a w S => ?_
            refine sBin (.bool (x32 != x37)) S (wN rfl) rfl (by kernel_rfl) (by kernel_rfl) (bNeB _ _ _ _ Try.underlying4 x32 x37) rfl (by decide) (fun a S => ?_)
            exact leafL ⟨rfl, S⟩
          · refine leafT (hK31 _ _ ?_)
            rcases iteSome h with ⟨hc48, h⟩ | ⟨hc48, h⟩
            · refine sCondT (b := x32 != x37) S (by kernel_rfl) hc48 ?_
              refine sSeq (fun K49 hK49 => ?_)
              refine sRegion ?_
              refine sMove (.bool false) S (wN rfl) (.inr rfl) (by kernel_rfl) rfl (by decide) (fun a S => ?_)
              refine leafL (leafT (hK49 _ _ ?_))
              obtain rfl := Option.some.inj h
              obtain rfl := hu24 _ rfl
              have h := g25
              clear g25
              try dsimp only at h
              obtain rfl := Option.some.inj h
              have h := g21
              clear g21
              try dsimp only at h
              obtain rfl := Option.some.inj h
              exact wp_ret (rBlock (rThen (rThen (rBlock (rThen (sRet (.bool false) S (rsl1 rfl (rvT (t := 4) (v := .bool false) S (by kernel_rfl))) ⟨(), rfl, S.mem.sel [] [] (by decide) (by kernel_rfl) (by kernel_rfl)⟩))))))
            · refine sCondF (b := x32 != x37) S (by kernel_rfl) hc48 ?_
              refine wp_skip (leafB (leafT (hK30 _ _ ?_)))
              refine sRegion ?_
              refine sMove (.int .i64 s23) S (wN rfl) (.inl rfl) (by kernel_rfl) rfl (by decide) (fun a S => ?_)
              refine sBin (.int .i64 (w64 (s23 + 1))) S (wN rfl) rfl (by kernel_rfl) (by kernel_rfl) (bAdd _ _ _ _ s23 1) rfl (by decide) (fun a S => ?_)
              refine sMove (.int .i64 (w64 (s23 + 1))) S (wN rfl) (.inr rfl) (by kernel_rfl) rfl (by decide) (fun a S => ?_)
              exact leafL (leafT (⟨w64 (s23 + 1), (Option.some.inj h).symm, (S.fix [0, 1] [6, 7] (by decide) (by kernel_rfl) (by kernel_rfl) (by kernel_rfl))⟩))
        · refine sCondF (b := decide (s23 < (p0.Bits.length : Int))) S (by kernel_rfl) hc29 ?_
          obtain rfl := Option.some.inj h
          obtain rfl := hu24 _ rfl
          have h := g25
          clear g25
          try dsimp only at h
          exact wp_exit (xThen (xThen (xHit (leafT (⟨Option.some.inj h, S.fix [] [] (by decide) (by kernel_rfl) (by kernel_rfl) (by kernel_rfl)⟩)))))
      · obtain ⟨rfl, S⟩ := hI
        have h := g21
        clear g21
        try dsimp only at h
        refine sSeq (fun K50 hK50 => ?_)
        refine sRegion ?_
        refine sMove (.bool true) S (wN rfl) (.inr rfl) (by kernel_rfl) rfl (by decide) (fun a S => ?_)
        refine leafL (leafT (hK50 _ _ ?_))
        obtain rfl := Option.some.inj h
        exact wp_ret (sRet (.bool true) S (rsl1 rfl (rvT (t := 4) (v := .bool true) S (by kernel_rfl))) ⟨(), rfl, S.mem.sel [] [] (by decide) (by kernel_rfl) (by kernel_rfl)⟩)

end Go.Proofs.Ytjndecalogklhaa
