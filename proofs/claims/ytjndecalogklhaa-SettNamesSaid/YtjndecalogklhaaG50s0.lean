import Derived.Test.YtjndecalogklhaaGTy
namespace Go.Proofs.Ytjndecalogklhaa
open Go.RowKit
set_option linter.unusedVariables false

noncomputable def F_raddleref01_Zero_s0 (p0 : Int) (p1 : Int) : Option api_Grid :=
  Option.bind (makeO (w64 (p0 * p1)) false) fun m6 =>
  some (api_Grid.mk p0 p1 m6)
set_option maxHeartbeats 4000000 in
set_option maxRecDepth 100000 in
theorem c_raddleref01_Zero_s0 (E : Nat → Prop) (w0 : World) (p0 : Int) (p1 : Int) (r : api_Grid) (h : F_raddleref01_Zero_s0 p0 p1 = some r) (S : St0 E [] w0 w0 [] []) :
    Calls Try.prog 50 #[.int .i64 p0, .int .i64 p1] w0 (Ret (X := Option Addr × Nat) E [] w0 (fun x => .agg #[.int .i64 r.W, .int .i64 r.H, .slice x.1 r.Bits.length x.2]) (fun x => [eRow rB 4 (.slice x.1 r.Bits.length x.2) r.Bits]) (fun _ => [])) := by
  unfold F_raddleref01_Zero_s0 at h
  refine sEnter (args := [.int .i64 p0, .int .i64 p1]) 12 Try.func50 rfl rfl (by simp) S (fun a S => ?_)
  refine sSeq (fun K1 hK1 => ?_)
  refine sRegion ?_
  refine sAlloc (.agg #[.int .i64 0, .int .i64 0, .slice none 0 0]) S (wN rfl) rfl (by kernel_rfl) [.int .i64 0, .int .i64 0, .slice none 0 0] rfl rfl (by decide) (fun a b2 w S => ?_)
  refine leafL (leafT (hK1 _ _ ?_))
  refine sSeq (fun K3 hK3 => ?_)
  refine sRegion ?_
  refine sMove (.int .i64 p0) S (wN rfl) (.inl rfl) (by kernel_rfl) rfl (by decide) (fun a S => ?_)
  refine sMove (.int .i64 p1) S (wN rfl) (.inl rfl) (by kernel_rfl) rfl (by decide) (fun a S => ?_)
  refine sMove (.int .i64 p0) S (wN rfl) (.inl rfl) (by kernel_rfl) rfl (by decide) (fun a S => ?_)
  refine sMove (.int .i64 p1) S (wN rfl) (.inl rfl) (by kernel_rfl) rfl (by decide) (fun a S => ?_)
  refine sBin (.int .i64 (w64 (p0 * p1))) S (wN rfl) rfl (by kernel_rfl) (by kernel_rfl) (bMul _ _ _ _ p0 p1) rfl (by decide) (fun a S => ?_)
  obtain ⟨m6, hx7, h⟩ := bindSome h
  refine sMake (r := rB) (m := w64 (p0 * p1)) (xs := m6) (.bool false) false 1 S (wN rfl) rfl Try.underlying22 (by kernel_rfl) rfl (by decide) (fun _ _ => rfl) (by kernel_rfl) (by kernel_rfl) hx7 rfl (by decide) (fun a w ad4 cp5 S => ?_)
  refine sBuild [(0, .int .i64 p0), (1, .int .i64 p1), (2, .slice ad4 m6.length cp5)] [.int .i64 p0, .int .i64 p1, .slice ad4 m6.length cp5] S (wN rfl) rfl (by kernel_rfl) (by kernel_rfl) rfl (by decide) (fun a S => ?_)
  refine sStore (p := b2) (off := 0) (T := 24) (vs := [.int .i64 0, .int .i64 0, .slice none 0 0]) (v := .agg #[.int .i64 p0, .int .i64 p1, .slice ad4 m6.length cp5]) 1 [.int .i64 p0, .int .i64 p1, .slice ad4 m6.length cp5] S (wN rfl) rfl (by kernel_rfl) (by kernel_rfl) rfl (by kernel_rfl) (by kernel_rfl) rfl (by simp) rfl (fun a w S => ?_)
  refine leafL (leafT (hK3 _ _ ?_))
  obtain rfl := Option.some.inj h
  exact wp_ret (sRet (.agg #[.int .i64 p0, .int .i64 p1, .slice ad4 m6.length cp5]) S (rsl1 rfl (rvN (c := 4) (t := 24) (T := 24) (p := b2) 0 [.int .i64 p0, .int .i64 p1, .slice ad4 m6.length cp5] S (by kernel_rfl) (by kernel_rfl) (by kernel_rfl) (by kernel_rfl))) ⟨(ad4, cp5), rfl, S.mem.sel [1] [] (by decide) (by kernel_rfl) (by kernel_rfl)⟩)

end Go.Proofs.Ytjndecalogklhaa
