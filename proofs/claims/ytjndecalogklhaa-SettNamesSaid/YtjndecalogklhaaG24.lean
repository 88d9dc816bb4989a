import Derived.Test.YtjndecalogklhaaGTy
namespace Go.Proofs.Ytjndecalogklhaa
open Go.RowKit
set_option linter.unusedVariables false

noncomputable def F_raddlelaw24_part (p0 : Int) (p1 : Int) : Option api_Ratio :=
  some (api_Ratio.mk p0 p1)
def c_raddlelaw24_part_val (r : api_Ratio) (x : Value) : Value := x
def c_raddlelaw24_part_D (r : api_Ratio) (x : Value) : List Fact := [fRep r_api_Ratio x r]
set_option maxHeartbeats 4000000 in
set_option maxRecDepth 100000 in
theorem c_raddlelaw24_part (E : Nat → Prop) (w0 : World) (p0 : Int) (p1 : Int) (r : api_Ratio) (h : F_raddlelaw24_part p0 p1 = some r) (S : St0 E [] w0 w0 [] []) :
    Calls Try.prog 24 #[.int .i64 p0, .int .i64 p1] w0 (Ret (X := Value) E [] w0 (c_raddlelaw24_part_val r) (fun _ => []) (c_raddlelaw24_part_D r)) := by
  unfold F_raddlelaw24_part at h
  refine sEnter (args := [.int .i64 p0, .int .i64 p1]) 8 Try.func24 rfl rfl (by simp) S (fun a S => ?_)
  refine sSeq (fun K1 hK1 => ?_)
  refine sRegion ?_
  refine sAlloc (.agg #[.int .i64 0, .int .i64 0]) S (wN rfl) rfl (by kernel_rfl) [.int .i64 0, .int .i64 0] rfl rfl (by decide) (fun a b2 w S => ?_)
  refine leafL (leafT (hK1 _ _ ?_))
  refine sSeq (fun K3 hK3 => ?_)
  refine sRegion ?_
  refine sMove (.int .i64 p0) S (wN rfl) (.inl rfl) (by kernel_rfl) rfl (by decide) (fun a S => ?_)
  refine sMove (.int .i64 p1) S (wN rfl) (.inl rfl) (by kernel_rfl) rfl (by decide) (fun a S => ?_)
  refine sBuild [(0, .int .i64 p0), (1, .int .i64 p1)] [.int .i64 p0, .int .i64 p1] S (wN rfl) rfl (by kernel_rfl) (by kernel_rfl) rfl (by decide) (fun a S => ?_)
  refine sStore (p := b2) (off := 0) (T := 34) (vs := [.int .i64 0, .int .i64 0]) (v := .agg #[.int .i64 p0, .int .i64 p1]) 0 [.int .i64 p0, .int .i64 p1] S (wN rfl) rfl (by kernel_rfl) (by kernel_rfl) rfl (by kernel_rfl) (by kernel_rfl) rfl (by simp) rfl (fun a w S => ?_)
  refine leafL (leafT (hK3 _ _ ?_))
  obtain rfl := Option.some.inj h
  have S := S.learn (fRep r_api_Ratio (.agg #[.int .i64 p0, .int .i64 p1]) (api_Ratio.mk p0 p1)) rfl
  exact wp_ret (sRet (.agg #[.int .i64 p0, .int .i64 p1]) S (rsl1 rfl (rvN (c := 4) (t := 34) (T := 34) (p := b2) 0 [.int .i64 p0, .int .i64 p1] S (by kernel_rfl) (by kernel_rfl) (by kernel_rfl) (by kernel_rfl))) ⟨(.agg #[.int .i64 p0, .int .i64 p1]), rfl, S.mem.sel [] [0] (by decide) (by kernel_rfl) (by kernel_rfl)⟩)

end Go.Proofs.Ytjndecalogklhaa
