import Derived.Test.YtmedbnjhgkcndaaGTy
namespace Go.Proofs.Ytmedbnjhgkcndaa
open Go.RowKit
set_option linter.unusedVariables false

noncomputable def F_raddleref37_GreatShape (p0 : api_Shape) : Option Bool :=
  Option.bind (α := Bool) (
    if decide (55 < (p0.Left.length : Int)) then
      some true
    else
      some (decide (55 < (p0.Right.length : Int)))) fun o11 =>
  some o11
set_option maxHeartbeats 4000000 in
set_option maxRecDepth 100000 in
theorem c_raddleref37_GreatShape (E : Nat → Prop) (w0 : World) (p0 : api_Shape) (v0 : Value) (r : Bool) (h : F_raddleref37_GreatShape p0 = some r) (S : St0 E [] w0 w0 [] [fRep r_api_Shape (v0) p0]) :
    Calls Try.prog 9 #[v0] w0 (Ret (X := Unit) E [] w0 (fun _ => .bool r) (fun _ => []) (fun _ => [])) := by
  unfold F_raddleref37_GreatShape at h
  obtain ⟨u1, u2, rfl, hu3, hu4⟩ := S.know (i := 0) (e := fRep r_api_Shape (v0) p0) (by kernel_rfl)
  have S := S.learn (fRep (rL r_api_Point) u1 p0.Left) hu3
  obtain ⟨ad5, cp6, _, rfl, _⟩ := hu3
  have S := S.learn (fRep (rL r_api_Point) u2 p0.Right) hu4
  obtain ⟨ad7, cp8, _, rfl, _⟩ := hu4
  refine sEnter (args := [.agg #[.slice ad5 p0.Left.length cp6, .slice ad7 p0.Right.length cp8]]) 13 Try.func9 rfl rfl (by simp) S (fun a S => ?_)
  refine sSeq (fun K9 hK9 => ?_)
  refine sRegion ?_
  refine sBox (v := .agg #[.slice ad5 p0.Left.length cp6, .slice ad7 p0.Right.length cp8]) S (wN rfl) rfl (by kernel_rfl) [.slice ad5 p0.Left.length cp6, .slice ad7 p0.Right.length cp8] rfl rfl (by decide) (fun a b10 w S => ?_)
  refine sMove (.bool false) S (wN rfl) (.inr rfl) (by kernel_rfl) rfl (by decide) (fun a S => ?_)
  refine leafL (leafT (hK9 _ _ ?_))
  obtain ⟨t12, h, g13⟩ := bindSome h
  refine sCut (fun a w => ∃ o11, o11 = t12 ∧ St E [] w0 13 a w [(2, .bool o11)] [] []) ?_ (fun a w hI => ?_)
  · refine sRegion ?_
    refine sField (b := b10) (off := 0) 0 0 S (wN rfl) rfl (by kernel_rfl) (by kernel_rfl) rfl rfl (by decide) (fun a S => ?_)
    refine sLoad1 (p := b10) (off := 0) (T := 26) (vs := [.slice ad5 p0.Left.length cp6, .slice ad7 p0.Right.length cp8]) 0 (.slice ad5 p0.Left.length cp6) S (wN rfl) rfl (by kernel_rfl) (by kernel_rfl) (by kernel_rfl) rfl rfl (by decide) (fun a S => ?_)
    refine sLen (ad := ad5) (m := p0.Left.length) (c := cp6) S (wN rfl) rfl Try.underlying24 (by kernel_rfl) rfl (by decide) (fun a S => ?_)
    refine sBin (.bool (decide (55 < (p0.Left.length : Int)))) S (wN rfl) rfl (by kernel_rfl) (by kernel_rfl) (bGt _ _ _ _ .i64 (p0.Left.length : Int) 55) rfl (by decide) (fun a S => ?_)
    refine sMove (.bool (decide (55 < (p0.Left.length : Int)))) S (wN rfl) (.inl rfl) (by kernel_rfl) rfl (by decide) (fun a S => ?_)
    rcases iteSome h with ⟨hc14, h⟩ | ⟨hc14, h⟩
    · refine sSkip (c := decide (55 < (p0.Left.length : Int))) 4 false 7 8 S rfl rfl (by kernel_rfl) hc14 rfl (by decide) (fun a S => ?_)
      refine sSkip (c := decide (55 < (p0.Left.length : Int))) 4 false 7 9 S rfl rfl (by kernel_rfl) hc14 rfl (by decide) (fun a S => ?_)
      refine sSkip (c := decide (55 < (p0.Left.length : Int))) 4 false 7 10 S rfl rfl (by kernel_rfl) hc14 rfl (by decide) (fun a S => ?_)
      refine sSkip (c := decide (55 < (p0.Left.length : Int))) 4 false 7 11 S rfl rfl (by kernel_rfl) hc14 rfl (by decide) (fun a S => ?_)
      refine sPickT (b := decide (55 < (p0.Left.length : Int))) (.bool true) S (wN rfl) rfl (by kernel_rfl) hc14 (by kernel_rfl) rfl (by decide) (fun a S => ?_)
      refine sMove (.bool true) S (wN rfl) (.inr rfl) (by kernel_rfl) rfl (by decide) (fun a S => ?_)
      exact leafL (leafT (⟨true, Option.some.inj h, S.fix [] [] (by decide) (by kernel_rfl) (by kernel_rfl) (by kernel_rfl)⟩))
    · refine sField (b := b10) (off := 0) 1 1 S (wG (c := decide (55 < (p0.Left.length : Int))) 4 false 7 rfl rfl (by kernel_rfl) hc14) rfl (by kernel_rfl) (by kernel_rfl) rfl rfl (by decide) (fun a S => ?_)
      refine sLoad1 (p := b10) (off := 1) (T := 26) (vs := [.slice ad5 p0.Left.length cp6, .slice ad7 p0.Right.length cp8]) 0 (.slice ad7 p0.Right.length cp8) S (wG (c := decide (55 < (p0.Left.length : Int))) 4 false 7 rfl rfl (by kernel_rfl) hc14) rfl (by kernel_rfl) (by kernel_rfl) (by kernel_rfl) rfl rfl (by decide) (fun a S => ?_)
      refine sLen (ad := ad7) (m := p0.Right.length) (c := cp8) S (wG (c := decide (55 < (p0.Left.length : Int))) 4 false 7 rfl rfl (by kernel_rfl) hc14) rfl Try.underlying24 (by kernel_rfl) rfl (by decide) (fun a S => ?_)
      refine sBin (.bool (decide (55 < (p0.Right.length : Int)))) S (wG (c := decide (55 < (p0.Left.length : Int))) 4 false 7 rfl rfl (by kernel_rfl) hc14) rfl (by kernel_rfl) (by kernel_rfl) (bGt _ _ _ _ .i64 (p0.Right.length : Int) 55) rfl (by decide) (fun a S => ?_)
      refine sPickF (b := decide (55 < (p0.Left.length : Int))) (.bool (decide (55 < (p0.Right.length : Int)))) S (wN rfl) rfl (by kernel_rfl) hc14 (by kernel_rfl) rfl (by decide) (fun a S => ?_)
      refine sMove (.bool (decide (55 < (p0.Right.length : Int)))) S (wN rfl) (.inr rfl) (by kernel_rfl) rfl (by decide) (fun a S => ?_)
      exact leafL (leafT (⟨decide (55 < (p0.Right.length : Int)), Option.some.inj h, S.fix [] [] (by decide) (by kernel_rfl) (by kernel_rfl) (by kernel_rfl)⟩))
  · obtain ⟨o11, rfl, S⟩ := hI
    have h := g13
    clear g13
    try dsimp only at h
    obtain rfl := Option.some.inj h
    exact wp_ret (sRet (.bool o11) S (rsl1 rfl (rvT (t := 2) (v := .bool o11) S (by kernel_rfl))) ⟨(), rfl, S.mem.sel [] [] (by decide) (by kernel_rfl) (by kernel_rfl)⟩)

end Go.Proofs.Ytmedbnjhgkcndaa
