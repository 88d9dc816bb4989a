import Derived.Test.YtjndecalogklhaaGTy
namespace Go.Proofs.Ytjndecalogklhaa
open Go.RowKit
set_option linter.unusedVariables false

noncomputable def F_raddleref01_Great (p0 : api_Grid) : Option Bool :=
  some (decide (4200 < (p0.Bits.length : Int)))
set_option maxHeartbeats 4000000 in
set_option maxRecDepth 100000 in
theorem c_raddleref01_Great (E : Nat → Prop) (w0 : World) (p0 : api_Grid) (v0 : Value) (r : Bool) (h : F_raddleref01_Great p0 = some r) (S : St0 E [] w0 w0 [] [fRep r_api_Grid (v0) p0]) :
    Calls Try.prog 9 #[v0] w0 (Ret (X := Unit) E [] w0 (fun _ => .bool r) (fun _ => []) (fun _ => [])) := by
  unfold F_raddleref01_Great at h
  obtain ⟨u1, rfl, hu2⟩ := S.know (i := 0) (e := fRep r_api_Grid (v0) p0) (by kernel_rfl)
  have S := S.learn (fRep (rL rB) u1 p0.Bits) hu2
  obtain ⟨ad3, cp4, _, rfl, _⟩ := hu2
  refine sEnter (args := [.agg #[.int .i64 p0.W, .int .i64 p0.H, .slice ad3 p0.Bits.length cp4]]) 7 Try.func9 rfl rfl (by simp) S (fun a S => ?_)
  refine sSeq (fun K5 hK5 => ?_)
  refine sRegion ?_
  refine sBox (v := .agg #[.int .i64 p0.W, .int .i64 p0.H, .slice ad3 p0.Bits.length cp4]) S (wN rfl) rfl (by kernel_rfl) [.int .i64 p0.W, .int .i64 p0.H, .slice ad3 p0.Bits.length cp4] rfl rfl (by decide) (fun a b6 w S => ?_)
  refine sMove (.bool false) S (wN rfl) (.inr rfl) (by kernel_rfl) rfl (by decide) (fun a S => ?_)
  refine leafL (leafT (hK5 _ _ ?_))
  refine sSeq (fun K7 hK7 => ?_)
  refine sRegion ?_
  refine sField (b := b6) (off := 0) 2 2 S (wN rfl) rfl (by kernel_rfl) (by kernel_rfl) rfl rfl (by decide) (fun a S => ?_)
  refine sLoad1 (p := b6) (off := 2) (T := 24) (vs := [.int .i64 p0.W, .int .i64 p0.H, .slice ad3 p0.Bits.length cp4]) 0 (.slice ad3 p0.Bits.length cp4) S (wN rfl) rfl (by kernel_rfl) (by kernel_rfl) (by kernel_rfl) rfl rfl (by decide) (fun a S => ?_)
  refine sLen (ad := ad3) (m := p0.Bits.length) (c := cp4) S (wN rfl) rfl Try.underlying22 (by kernel_rfl) rfl (by decide) (fun a S => ?_)
  refine sBin (.bool (decide (4200 < (p0.Bits.length : Int)))) S (wN rfl) rfl (by kernel_rfl) (by kernel_rfl) (bGt _ _ _ _ .i64 (p0.Bits.length : Int) 4200) rfl (by decide) (fun a S => ?_)
  refine sMove (.bool (decide (4200 < (p0.Bits.length : Int)))) S (wN rfl) (.inr rfl) (by kernel_rfl) rfl (by decide) (fun a S => ?_)
  refine leafL (leafT (hK7 _ _ ?_))
  obtain rfl := Option.some.inj h
  exact wp_ret (sRet (.bool (decide (4200 < (p0.Bits.length : Int)))) S (rsl1 rfl (rvT (t := 2) (v := .bool (decide (4200 < (p0.Bits.length : Int)))) S (by kernel_rfl))) ⟨(), rfl, S.mem.sel [] [] (by decide) (by kernel_rfl) (by kernel_rfl)⟩)

end Go.Proofs.Ytjndecalogklhaa
