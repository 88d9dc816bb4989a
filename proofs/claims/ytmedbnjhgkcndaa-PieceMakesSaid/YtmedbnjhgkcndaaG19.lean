import Derived.Test.YtmedbnjhgkcndaaGTy
import Derived.Test.YtmedbnjhgkcndaaG20
namespace Go.Proofs.Ytmedbnjhgkcndaa
open Go.RowKit
set_option linter.unusedVariables false

noncomputable def F_raddleref37_Same (p0 : api_Piece) (p1 : api_Piece) : Option Bool :=
  Option.bind (α := Bool) (
    Option.bind (F_raddleref36_Same p0.Left p1.Left) fun r23 =>
    if r23 then
      Option.bind (F_raddleref36_Same p0.Right p1.Right) fun r26 =>
      some r26
    else
      some false) fun o20 =>
  some o20
set_option maxHeartbeats 4000000 in
set_option maxRecDepth 100000 in
theorem c_raddleref37_Same (E : Nat → Prop) (w0 : World) (p0 : api_Piece) (v0 : Value) (p1 : api_Piece) (v1 : Value) (r : Bool) (h : F_raddleref37_Same p0 p1 = some r) (S : St0 E [] w0 w0 [] [fRep r_api_Piece (v0) p0, fRep r_api_Piece (v1) p1]) :
    Calls Try.prog 19 #[v0, v1] w0 (Ret (X := Unit) E [] w0 (fun _ => .bool r) (fun _ => []) (fun _ => [])) := by
  unfold F_raddleref37_Same at h
  obtain ⟨u1, u2, rfl, hu3, hu4⟩ := S.know (i := 0) (e := fRep r_api_Piece (v0) p0) (by kernel_rfl)
  have S := S.learn (fRep (rL (rI .i64)) u1 p0.Left) hu3
  obtain ⟨ad5, cp6, _, rfl, _⟩ := hu3
  have S := S.learn (fRep (rL (rI .i64)) u2 p0.Right) hu4
  obtain ⟨ad7, cp8, _, rfl, _⟩ := hu4
  obtain ⟨u9, u10, rfl, hu11, hu12⟩ := S.know (i := 3) (e := fRep r_api_Piece (v1) p1) (by kernel_rfl)
  have S := S.learn (fRep (rL (rI .i64)) u9 p1.Left) hu11
  obtain ⟨ad13, cp14, _, rfl, _⟩ := hu11
  have S := S.learn (fRep (rL (rI .i64)) u10 p1.Right) hu12
  obtain ⟨ad15, cp16, _, rfl, _⟩ := hu12
  refine sEnter (args := [.agg #[.slice ad5 p0.Left.length cp6, .slice ad7 p0.Right.length cp8], .agg #[.slice ad13 p1.Left.length cp14, .slice ad15 p1.Right.length cp16]]) 17 Try.func19 rfl rfl (by simp) S (fun a S => ?_)
  refine sSeq (fun K17 hK17 => ?_)
  refine sRegion ?_
  refine sBox (v := .agg #[.slice ad5 p0.Left.length cp6, .slice ad7 p0.Right.length cp8]) S (wN rfl) rfl (by kernel_rfl) [.slice ad5 p0.Left.length cp6, .slice ad7 p0.Right.length cp8] rfl rfl (by decide) (fun a b18 w S => ?_)
  refine sBox (v := .agg #[.slice ad13 p1.Left.length cp14, .slice ad15 p1.Right.length cp16]) S (wN rfl) rfl (by kernel_rfl) [.slice ad13 p1.Left.length cp14, .slice ad15 p1.Right.length cp16] rfl rfl (by decide) (fun a b19 w S => ?_)
  refine sMove (.bool false) S (wN rfl) (.inr rfl) (by kernel_rfl) rfl (by decide) (fun a S => ?_)
  refine leafL (leafT (hK17 _ _ ?_))
  obtain ⟨t21, h, g22⟩ := bindSome h
  refine sCut (fun a w => ∃ o20, o20 = t21 ∧ St E [] w0 17 a w [(4, .bool o20)] [] []) ?_ (fun a w hI => ?_)
  · refine sRegion ?_
    refine sField (b := b18) (off := 0) 0 0 S (wN rfl) rfl (by kernel_rfl) (by kernel_rfl) rfl rfl (by decide) (fun a S => ?_)
    refine sLoad1 (p := b18) (off := 0) (T := 36) (vs := [.slice ad5 p0.Left.length cp6, .slice ad7 p0.Right.length cp8]) 1 (.slice ad5 p0.Left.length cp6) S (wN rfl) rfl (by kernel_rfl) (by kernel_rfl) (by kernel_rfl) rfl rfl (by decide) (fun a S => ?_)
    refine sField (b := b19) (off := 0) 0 0 S (wN rfl) rfl (by kernel_rfl) (by kernel_rfl) rfl rfl (by decide) (fun a S => ?_)
    refine sLoad1 (p := b19) (off := 0) (T := 36) (vs := [.slice ad13 p1.Left.length cp14, .slice ad15 p1.Right.length cp16]) 0 (.slice ad13 p1.Left.length cp14) S (wN rfl) rfl (by kernel_rfl) (by kernel_rfl) (by kernel_rfl) rfl rfl (by decide) (fun a S => ?_)
    obtain ⟨r23, hx24, h⟩ := bindSome h
    have S1 := S.mem
    refine sCallQ (X := Unit) (f := 20) (vs := [.slice ad5 p0.Left.length cp6, .slice ad13 p1.Left.length cp14]) (val := fun _ => .bool r23) S (wN rfl) rfl callee20 (by kernel_rfl) (S1.quiet [3, 1] (by kernel_rfl)) (fun E1 w1 S1 => c_raddleref36_Same E1 w1 p0.Left (.slice ad5 p0.Left.length cp6) p1.Left (.slice ad13 p1.Left.length cp14) r23 hx24 S1) rfl (by decide) (fun _ a w S => ?_)
    refine sMove (.bool r23) S (wN rfl) (.inl rfl) (by kernel_rfl) rfl (by decide) (fun a S => ?_)
    rcases iteSome h with ⟨hc25, h⟩ | ⟨hc25, h⟩
    · refine sField (b := b18) (off := 0) 1 1 S (wG (c := r23) 5 true 10 rfl rfl (by kernel_rfl) hc25) rfl (by kernel_rfl) (by kernel_rfl) rfl rfl (by decide) (fun a S => ?_)
      refine sLoad1 (p := b18) (off := 1) (T := 36) (vs := [.slice ad5 p0.Left.length cp6, .slice ad7 p0.Right.length cp8]) 1 (.slice ad7 p0.Right.length cp8) S (wG (c := r23) 5 true 10 rfl rfl (by kernel_rfl) hc25) rfl (by kernel_rfl) (by kernel_rfl) (by kernel_rfl) rfl rfl (by decide) (fun a S => ?_)
      refine sField (b := b19) (off := 0) 1 1 S (wG (c := r23) 5 true 10 rfl rfl (by kernel_rfl) hc25) rfl (by kernel_rfl) (by kernel_rfl) rfl rfl (by decide) (fun a S => ?_)
      refine sLoad1 (p := b19) (off := 1) (T := 36) (vs := [.slice ad13 p1.Left.length cp14, .slice ad15 p1.Right.length cp16]) 0 (.slice ad15 p1.Right.length cp16) S (wG (c := r23) 5 true 10 rfl rfl (by kernel_rfl) hc25) rfl (by kernel_rfl) (by kernel_rfl) (by kernel_rfl) rfl rfl (by decide) (fun a S => ?_)
      obtain ⟨r26, hx27, h⟩ := bindSome h
      have S1 := S.mem
      refine sCallQ (X := Unit) (f := 20) (vs := [.slice ad7 p0.Right.length cp8, .slice ad15 p1.Right.length cp16]) (val := fun _ => .bool r26) S (wG (c := r23) 5 true 10 rfl rfl (by kernel_rfl) hc25) rfl callee20 (by kernel_rfl) (S1.quiet [2, 0] (by kernel_rfl)) (fun E1 w1 S1 => c_raddleref36_Same E1 w1 p0.Right (.slice ad7 p0.Right.length cp8) p1.Right (.slice ad15 p1.Right.length cp16) r26 hx27 S1) rfl (by decide) (fun _ a w S => ?_)
      refine sPickT (b := r23) (.bool r26) S (wN rfl) rfl (by kernel_rfl) hc25 (by kernel_rfl) rfl (by decide) (fun a S => ?_)
      refine sMove (.bool r26) S (wN rfl) (.inr rfl) (by kernel_rfl) rfl (by decide) (fun a S => ?_)
      exact leafL (leafT (⟨r26, Option.some.inj h, S.fix [] [] (by decide) (by kernel_rfl) (by kernel_rfl) (by kernel_rfl)⟩))
    · refine sSkip (c := r23) 5 true 10 11 S rfl rfl (by kernel_rfl) hc25 rfl (by decide) (fun a S => ?_)
      refine sSkip (c := r23) 5 true 10 12 S rfl rfl (by kernel_rfl) hc25 rfl (by decide) (fun a S => ?_)
      refine sSkip (c := r23) 5 true 10 13 S rfl rfl (by kernel_rfl) hc25 rfl (by decide) (fun a S => ?_)
      refine sSkip (c := r23) 5 true 10 14 S rfl rfl (by kernel_rfl) hc25 rfl (by decide) (fun a S => ?_)
      refine sSkip (c := r23) 5 true 10 15 S rfl rfl (by kernel_rfl) hc25 rfl (by decide) (fun a S => ?_)
      refine sPickF (b := r23) (.bool false) S (wN rfl) rfl (by kernel_rfl) hc25 (by kernel_rfl) rfl (by decide) (fun a S => ?_)
      refine sMove (.bool false) S (wN rfl) (.inr rfl) (by kernel_rfl) rfl (by decide) (fun a S => ?_)
      exact leafL (leafT (⟨false, Option.some.inj h, S.fix [] [] (by decide) (by kernel_rfl) (by kernel_rfl) (by kernel_rfl)⟩))
  · obtain ⟨o20, rfl, S⟩ := hI
    have h := g22
    clear g22
    try dsimp only at h
    obtain rfl := Option.some.inj h
    exact wp_ret (sRet (.bool o20) S (rsl1 rfl (rvT (t := 4) (v := .bool o20) S (by kernel_rfl))) ⟨(), rfl, S.mem.sel [] [] (by decide) (by kernel_rfl) (by kernel_rfl)⟩)

end Go.Proofs.Ytmedbnjhgkcndaa
