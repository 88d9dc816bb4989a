import Derived.Test.YtjndecalogklhaaGTy
namespace Go.Proofs.Ytjndecalogklhaa
open Go.RowKit
set_option linter.unusedVariables false

noncomputable def F_sett_Turns_1_s0 (p0 : Int) (p1 : api_Grid) (p2 : Int) : Option Bool :=
  Option.bind (idxO p1.Bits (w64 ((w64 (p2 * p1.W)) + p0))) fun x12 =>
  some x12
set_option maxHeartbeats 4000000 in
set_option maxRecDepth 100000 in
theorem c_sett_Turns_1_s0 (E : Nat → Prop) (w0 : World) (p0 : Int) (p1 : api_Grid) (v1 : Value) (p2 : Int) (v2 : Value) (r : Bool) (h : F_sett_Turns_1_s0 p0 p1 p2 = some r) (S : St0 E [] w0 w0 [] [fPtr r_api_Grid (v1) p1, fPtr (rI .i64) (v2) p2]) :
    Calls Try.prog 33 #[.int .i64 p0, v1, v2] w0 (Ret (X := Unit) E [] w0 (fun _ => .bool r) (fun _ => []) (fun _ => [])) := by
  unfold F_sett_Turns_1_s0 at h
  refine sEnter (args := [.int .i64 p0, v1, v2]) 15 Try.func33 rfl rfl (by simp) S (fun a S => ?_)
  refine sSeq (fun K1 hK1 => ?_)
  refine sRegion ?_
  refine sMove (.bool false) S (wN rfl) (.inr rfl) (by kernel_rfl) rfl (by decide) (fun a S => ?_)
  refine leafL (leafT (hK1 _ _ ?_))
  refine sSeq (fun K2 hK2 => ?_)
  refine sRegion ?_
  obtain ⟨q3, hq4, S⟩ := pFld (P := Try.prog) (r := r_api_Grid) (s2 := (rL rB)) (g := (·.Bits)) (q := v1) (z := p1) 24 2 0 2 S (by kernel_rfl) (by kernel_rfl) comp_api_Grid_Bits
  refine sFldV (q := v1) S (wN rfl) rfl (by kernel_rfl) hq4 rfl (by decide) (fun a S => ?_)
  obtain ⟨u5, S⟩ := pLoad (r := (rL rB)) (q := q3) (x := p1.Bits) 0 S (by kernel_rfl)
  obtain ⟨ad6, cp7, _, rfl, _⟩ := S.mem.know (i := 1) (e := fRep (rL rB) (u5) p1.Bits) (by kernel_rfl)
  refine sLoadV1 (vq := q3) 0 (.slice ad6 p1.Bits.length cp7) S (wN rfl) rfl (by kernel_rfl) (by kernel_rfl) (by kernel_rfl) rfl (by decide) (fun a S => ?_)
  obtain ⟨u8, S⟩ := pLoad (r := (rI .i64)) (q := v2) (x := p2) 4 S (by kernel_rfl)
  obtain rfl : u8 = .int .i64 p2 := S.mem.know (i := 1) (e := fRep (rI .i64) (u8) p2) (by kernel_rfl)
  refine sLoadV1 (vq := v2) 0 (.int .i64 p2) S (wN rfl) rfl (by kernel_rfl) (by kernel_rfl) (by kernel_rfl) rfl (by decide) (fun a S => ?_)
  obtain ⟨q9, hq10, S⟩ := pFld (P := Try.prog) (r := r_api_Grid) (s2 := (rI .i64)) (g := (·.W)) (q := v1) (z := p1) 24 0 5 0 S (by kernel_rfl) (by kernel_rfl) comp_api_Grid_W
  refine sFldV (q := v1) S (wN rfl) rfl (by kernel_rfl) hq10 rfl (by decide) (fun a S => ?_)
  obtain ⟨u11, S⟩ := pLoad (r := (rI .i64)) (q := q9) (x := p1.W) 0 S (by kernel_rfl)
  obtain rfl : u11 = .int .i64 p1.W := S.mem.know (i := 1) (e := fRep (rI .i64) (u11) p1.W) (by kernel_rfl)
  refine sLoadV1 (vq := q9) 0 (.int .i64 p1.W) S (wN rfl) rfl (by kernel_rfl) (by kernel_rfl) (by kernel_rfl) rfl (by decide) (fun a S => ?_)
  refine sBin (.int .i64 (w64 (p2 * p1.W))) S (wN rfl) rfl (by kernel_rfl) (by kernel_rfl) (bMul _ _ _ _ p2 p1.W) rfl (by decide) (fun a S => ?_)
  refine sMove (.int .i64 p0) S (wN rfl) (.inl rfl) (by kernel_rfl) rfl (by decide) (fun a S => ?_)
  refine sBin (.int .i64 (w64 ((w64 (p2 * p1.W)) + p0))) S (wN rfl) rfl (by kernel_rfl) (by kernel_rfl) (bAdd _ _ _ _ (w64 (p2 * p1.W)) p0) rfl (by decide) (fun a S => ?_)
  obtain ⟨x12, hx13, h⟩ := bindSome h
  obtain ⟨q14, hq15, S⟩ := pIdx (P := Try.prog) (r := rB) (v := .slice ad6 p1.Bits.length cp7) (xs := p1.Bits) (j := w64 ((w64 (p2 * p1.W)) + p0)) 22 4 6 S Try.underlying22 (by kernel_rfl) (by kernel_rfl) hx13
  refine sIdxV (v := .slice ad6 p1.Bits.length cp7) (k := .i64) (j := w64 ((w64 (p2 * p1.W)) + p0)) S (wN rfl) rfl (by kernel_rfl) (by kernel_rfl) hq15 rfl (by decide) (fun a S => ?_)
  obtain ⟨u16, S⟩ := pLoad (r := rB) (q := q14) (x := x12) 0 S (by kernel_rfl)
  obtain rfl : u16 = .bool x12 := S.mem.know (i := 1) (e := fRep rB (u16) x12) (by kernel_rfl)
  refine sLoadV1 (vq := q14) 0 (.bool x12) S (wN rfl) rfl (by kernel_rfl) (by kernel_rfl) (by kernel_rfl) rfl (by decide) (fun a S => ?_)
  refine sMove (.bool x12) S (wN rfl) (.inr rfl) (by kernel_rfl) rfl (by decide) (fun a S => ?_)
  refine leafL (leafT (hK2 _ _ ?_))
  obtain rfl := Option.some.inj h
  exact wp_ret (sRet (.bool x12) S (rsl1 rfl (rvT (t := 4) (v := .bool x12) S (by kernel_rfl))) ⟨(), rfl, S.mem.sel [] [] (by decide) (by kernel_rfl) (by kernel_rfl)⟩)

end Go.Proofs.Ytjndecalogklhaa
