import Derived.Test.YtjndecalogklhaaGTy
namespace Go.Proofs.Ytjndecalogklhaa
open Go.RowKit
set_option linter.unusedVariables false

noncomputable def F_raddleref01_Set_s0 (p0 : Int) (p1 : Int) (p2 : (List Bool)) (p3 : Int) (p4 : Int) (p5 : Bool) : Option (List Bool) :=
  Option.bind (idxO p2 (w64 ((w64 (p4 * p0)) + p3))) fun x3 =>
  Option.bind (setO p2 (w64 ((w64 (p4 * p0)) + p3)) p5) fun l8 =>
  (keepO p2 l8).bind fun _ =>
  some l8
set_option maxHeartbeats 4000000 in
set_option maxRecDepth 100000 in
theorem c_raddleref01_Set_s0 (E : Nat → Prop) (w0 : World) (p0 : Int) (p1 : Int) (p2 : (List Bool)) (ad_2 : Option Addr) (cp_2 : Nat) (p3 : Int) (p4 : Int) (p5 : Bool) (r : (List Bool)) (h : F_raddleref01_Set_s0 p0 p1 p2 p3 p4 p5 = some r) (S : St0 E (keysL [eRow rB 4 (.slice ad_2 p2.length cp_2) p2]) w0 w0 [eRow rB 4 (.slice ad_2 p2.length cp_2) p2] []) :
    Calls Try.prog 51 #[.agg #[.int .i64 p0, .int .i64 p1, .slice ad_2 p2.length cp_2], .int .i64 p3, .int .i64 p4, .bool p5] w0 (Ret (X := Unit) E (keysL [eRow rB 4 (.slice ad_2 p2.length cp_2) p2]) w0 (fun _ => .tuple #[]) (fun _ => [eRow rB 4 (.slice ad_2 p2.length cp_2) r]) (fun _ => [])) := by
  unfold F_raddleref01_Set_s0 at h
  refine sEnter (args := [.agg #[.int .i64 p0, .int .i64 p1, .slice ad_2 p2.length cp_2], .int .i64 p3, .int .i64 p4, .bool p5]) 18 Try.func51 rfl rfl (by simp) S (fun a S => ?_)
  refine sSeq (fun K1 hK1 => ?_)
  refine sRegion ?_
  refine sBox (v := .agg #[.int .i64 p0, .int .i64 p1, .slice ad_2 p2.length cp_2]) S (wN rfl) rfl (by kernel_rfl) [.int .i64 p0, .int .i64 p1, .slice ad_2 p2.length cp_2] rfl rfl (by decide) (fun a b2 w S => ?_)
  refine leafL (leafT (hK1 _ _ ?_))
  refine sRegion ?_
  refine sField (b := b2) (off := 0) 2 2 S (wN rfl) rfl (by kernel_rfl) (by kernel_rfl) rfl rfl (by decide) (fun a S => ?_)
  refine sLoad1 (p := b2) (off := 2) (T := 24) (vs := [.int .i64 p0, .int .i64 p1, .slice ad_2 p2.length cp_2]) 0 (.slice ad_2 p2.length cp_2) S (wN rfl) rfl (by kernel_rfl) (by kernel_rfl) (by kernel_rfl) rfl rfl (by decide) (fun a S => ?_)
  refine sMove (.int .i64 p4) S (wN rfl) (.inl rfl) (by kernel_rfl) rfl (by decide) (fun a S => ?_)
  refine sField (b := b2) (off := 0) 0 0 S (wN rfl) rfl (by kernel_rfl) (by kernel_rfl) rfl rfl (by decide) (fun a S => ?_)
  refine sLoad1 (p := b2) (off := 0) (T := 24) (vs := [.int .i64 p0, .int .i64 p1, .slice ad_2 p2.length cp_2]) 0 (.int .i64 p0) S (wN rfl) rfl (by kernel_rfl) (by kernel_rfl) (by kernel_rfl) rfl rfl (by decide) (fun a S => ?_)
  refine sBin (.int .i64 (w64 (p4 * p0))) S (wN rfl) rfl (by kernel_rfl) (by kernel_rfl) (bMul _ _ _ _ p4 p0) rfl (by decide) (fun a S => ?_)
  refine sMove (.int .i64 p3) S (wN rfl) (.inl rfl) (by kernel_rfl) rfl (by decide) (fun a S => ?_)
  refine sBin (.int .i64 (w64 ((w64 (p4 * p0)) + p3))) S (wN rfl) rfl (by kernel_rfl) (by kernel_rfl) (bAdd _ _ _ _ (w64 (p4 * p0)) p3) rfl (by decide) (fun a S => ?_)
  refine sMove (.bool p5) S (wN rfl) (.inl rfl) (by kernel_rfl) rfl (by decide) (fun a S => ?_)
  obtain ⟨x3, hx4, h⟩ := bindSome h
  obtain ⟨q5, hq6, hp7⟩ := pIdxR (P := Try.prog) (r := rB) (T := 4) (v := .slice ad_2 p2.length cp_2) (xs := p2) (j := w64 ((w64 (p4 * p0)) + p3)) 22 4 1 S Try.underlying22 (by kernel_rfl) (by kernel_rfl) hx4
  refine sIdxV (v := .slice ad_2 p2.length cp_2) (k := .i64) (j := w64 ((w64 (p4 * p0)) + p3)) S (wN rfl) rfl (by kernel_rfl) (by kernel_rfl) hq6 rfl (by decide) (fun a S => ?_)
  obtain ⟨l8, hx9, h⟩ := bindSome h
  refine sStoreR (r := rB) (T := 4) (xs := p2) (ys := l8) (y := p5) (v := .slice ad_2 p2.length cp_2) (vq := q5) (u := .bool p5) (j := w64 ((w64 (p4 * p0)) + p3)) 1 S hp7 (wN rfl) rfl (by kernel_rfl) (by kernel_rfl) (by kernel_rfl) rfl hx9 (by kernel_rfl) rfl (fun a w S => ?_)
  rw [setO_v hx9 ad_2 cp_2] at S
  obtain ⟨_, hk10, h⟩ := bindSome h
  rw [keepO_v hk10 ad_2 cp_2] at S
  obtain rfl := Option.some.inj h
  exact leafL (sEnd (.tuple #[]) S (rsl0 rfl ) ⟨(), rfl, S.mem.sel [0] [] (by decide) (by kernel_rfl) (by kernel_rfl)⟩)

end Go.Proofs.Ytjndecalogklhaa
