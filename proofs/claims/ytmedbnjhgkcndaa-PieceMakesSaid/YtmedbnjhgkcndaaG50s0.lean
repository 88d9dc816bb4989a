import Derived.Test.YtmedbnjhgkcndaaGTy
import Derived.Test.YtmedbnjhgkcndaaG66
import Derived.Test.YtmedbnjhgkcndaaG67s1
namespace Go.Proofs.Ytmedbnjhgkcndaa
open Go.RowKit
set_option linter.unusedVariables false

noncomputable def F_slope_Line_s0 (p0 : Int) (p1 : Int) (p2 : Int) : Option ((List Int) × Int) :=
  Option.bind (F_slope_check p0 p1 p2) fun r7 =>
  if r7 != 0 then
    some (([] : (List Int)), r7)
  else
    Option.bind (F_slope_list_int__s1 (w64 (p2 + 1)) p0 p1 p2) fun r13 =>
    some (r13, 0)
set_option maxHeartbeats 4000000 in
set_option maxRecDepth 100000 in
theorem c_slope_Line_s0 (E : Nat → Prop) (w0 : World) (p0 : Int) (p1 : Int) (p2 : Int) (r : ((List Int) × Int)) (h : F_slope_Line_s0 p0 p1 p2 = some r) (S : St0 E [] w0 w0 [] []) :
    Calls Try.prog 50 #[.int .i64 p0, .int .i64 p1, .int .i64 p2] w0 (Ret (X := Option Addr × Nat) E [] w0 (fun x => .tuple #[.slice x.1 r.1.length x.2, .int .i64 r.2]) (fun x => [eRow (rI .i64) 3 (.slice x.1 r.1.length x.2) r.1]) (fun _ => [])) := by
  unfold F_slope_Line_s0 at h
  refine sEnter (args := [.int .i64 p0, .int .i64 p1, .int .i64 p2]) 20 Try.func50 rfl rfl (by simp) S (fun a S => ?_)
  refine sSeq (fun K1 hK1 => ?_)
  refine sRegion ?_
  refine sBox (v := .int .i64 p0) S (wN rfl) rfl (by kernel_rfl) [.int .i64 p0] rfl rfl (by decide) (fun a b2 w S => ?_)
  refine sBox (v := .int .i64 p1) S (wN rfl) rfl (by kernel_rfl) [.int .i64 p1] rfl rfl (by decide) (fun a b3 w S => ?_)
  refine sBox (v := .int .i64 p2) S (wN rfl) rfl (by kernel_rfl) [.int .i64 p2] rfl rfl (by decide) (fun a b4 w S => ?_)
  refine sMove (.slice none 0 0) S (wN rfl) (.inr rfl) (by kernel_rfl) rfl (by decide) (fun a S => ?_)
  refine sMove (.int .i64 0) S (wN rfl) (.inr rfl) (by kernel_rfl) rfl (by decide) (fun a S => ?_)
  refine leafL (leafT (hK1 _ _ ?_))
  refine sSeq (fun K5 hK5 => ?_)
  refine sSeq (fun K6 hK6 => ?_)
  refine sRegion ?_
  refine sLoad1 (p := b2) (off := 0) (T := 3) (vs := [.int .i64 p0]) 2 (.int .i64 p0) S (wN rfl) rfl (by kernel_rfl) (by kernel_rfl) (by kernel_rfl) rfl rfl (by decide) (fun a S => ?_)
  refine sLoad1 (p := b3) (off := 0) (T := 3) (vs := [.int .i64 p1]) 1 (.int .i64 p1) S (wN rfl) rfl (by kernel_rfl) (by kernel_rfl) (by kernel_rfl) rfl rfl (by decide) (fun a S => ?_)
  refine sLoad1 (p := b4) (off := 0) (T := 3) (vs := [.int .i64 p2]) 0 (.int .i64 p2) S (wN rfl) rfl (by kernel_rfl) (by kernel_rfl) (by kernel_rfl) rfl rfl (by decide) (fun a S => ?_)
  obtain ⟨r7, hx8, h⟩ := bindSome h
  have S1 := S.mem
  refine sCallQ (X := Unit) (f := 66) (vs := [.int .i64 p0, .int .i64 p1, .int .i64 p2]) (val := fun _ => .int .i64 r7) S (wN rfl) rfl callee66 (by kernel_rfl) (S1.quiet [] (by kernel_rfl)) (fun E1 w1 S1 => c_slope_check E1 w1 p0 p1 p2 r7 hx8 S1) rfl (by decide) (fun _ a w S => ?_)
  refine sMove (.int .i64 r7) S (wN rfl) (.inr rfl) (by kernel_rfl) rfl (by decide) (fun a S => ?_)
  refine leafL (leafT (hK6 _ _ ?_))
  refine sSeq (fun K9 hK9 => ?_)
  refine sRegion ?_
  refine sMove (.int .i64 r7) S (wN rfl) (.inl rfl) (by kernel_rfl) rfl (by decide) (fun a S => ?_)
  refine sBin (.bool (r7 != 0)) S (wN rfl) rfl (by kernel_rfl) (by kernel_rfl) (bNe _ _ _ _ .i64 r7 0) rfl (by decide) (fun a S => ?_)
  refine leafL (leafT (hK9 _ _ ?_))
  rcases iteSome h with ⟨hc10, h⟩ | ⟨hc10, h⟩
  · refine sCondT (b := r7 != 0) S (by kernel_rfl) hc10 ?_
    refine sSeq (fun K11 hK11 => ?_)
    refine sRegion ?_
    refine sMove (.int .i64 r7) S (wN rfl) (.inl rfl) (by kernel_rfl) rfl (by decide) (fun a S => ?_)
    refine sMove (.slice none 0 0) S (wN rfl) (.inr rfl) (by kernel_rfl) rfl (by decide) (fun a S => ?_)
    refine sMove (.int .i64 r7) S (wN rfl) (.inr rfl) (by kernel_rfl) rfl (by decide) (fun a S => ?_)
    refine leafL (leafT (hK11 _ _ ?_))
    obtain rfl := Option.some.inj h
    have S := S.nilRow (rI .i64) 3 (α := Int)
    exact wp_ret (rThen (sRet (.tuple #[.slice none 0 0, .int .i64 r7]) S (rsl2 rfl (rvT (t := 6) (v := .slice none 0 0) S (by kernel_rfl)) (rvT (t := 7) (v := .int .i64 r7) S (by kernel_rfl))) ⟨(none, 0), rfl, S.mem.sel [0] [] (by decide) (by kernel_rfl) (by kernel_rfl)⟩))
  · refine sCondF (b := r7 != 0) S (by kernel_rfl) hc10 ?_
    refine wp_skip (leafT (hK5 _ _ ?_))
    refine sSeq (fun K12 hK12 => ?_)
    refine sRegion ?_
    refine sLoad1 (p := b4) (off := 0) (T := 3) (vs := [.int .i64 p2]) 0 (.int .i64 p2) S (wN rfl) rfl (by kernel_rfl) (by kernel_rfl) (by kernel_rfl) rfl rfl (by decide) (fun a S => ?_)
    refine sBin (.int .i64 (w64 (p2 + 1))) S (wN rfl) rfl (by kernel_rfl) (by kernel_rfl) (bAdd _ _ _ _ p2 1) rfl (by decide) (fun a S => ?_)
    refine sFunc (g := 68) (vs := [.pointer (some ⟨b2, 0, none⟩), .pointer (some ⟨b3, 0, none⟩), .pointer (some ⟨b4, 0, none⟩)]) S (wN rfl) rfl (by kernel_rfl) rfl (by decide) (fun a S => ?_)
    obtain ⟨r13, hx14, h⟩ := bindSome h
    have S := S.shutB (r := (rI .i64)) (T := 3) (b := b2) (cs := [.int .i64 p0]) 2 (.int .i64 p0) p0 (by kernel_rfl) rfl (rfl)
    have S := S.shutB (r := (rI .i64)) (T := 3) (b := b3) (cs := [.int .i64 p1]) 1 (.int .i64 p1) p1 (by kernel_rfl) rfl (rfl)
    have S := S.shutB (r := (rI .i64)) (T := 3) (b := b4) (cs := [.int .i64 p2]) 0 (.int .i64 p2) p2 (by kernel_rfl) rfl (rfl)
    refine sCall (X := Option Addr × Nat) (f := 67) (vs := [.int .i64 (w64 (p2 + 1)), .func (.func 68) #[] #[.pointer (some ⟨b2, 0, none⟩), .pointer (some ⟨b3, 0, none⟩), .pointer (some ⟨b4, 0, none⟩)]]) (val := fun x => .slice x.1 r13.length x.2) (B' := fun x => [eRow (rI .i64) 3 (.slice x.1 r13.length x.2) r13]) (D' := fun _ => []) [] [] [fPtr (rI .i64) (.pointer (some ⟨b2, 0, none⟩)) p0, fPtr (rI .i64) (.pointer (some ⟨b3, 0, none⟩)) p1, fPtr (rI .i64) (.pointer (some ⟨b4, 0, none⟩)) p2] [] [2, 1, 0] S (wN rfl) rfl callee67 (by kernel_rfl) (by decide) (by kernel_rfl) (by kernel_rfl) (fun E1 w1 S1 => c_slope_list_int__s1 E1 w1 (w64 (p2 + 1)) p0 (.pointer (some ⟨b2, 0, none⟩)) p1 (.pointer (some ⟨b3, 0, none⟩)) p2 (.pointer (some ⟨b4, 0, none⟩)) r13 hx14 S1) rfl (by decide) (fun xx a w S => ?_)
    obtain ⟨ad15, cp16⟩ := xx
    dsimp only at S
    refine sMove (.slice ad15 r13.length cp16) S (wN rfl) (.inr rfl) (by kernel_rfl) rfl (by decide) (fun a S => ?_)
    refine sMove (.int .i64 0) S (wN rfl) (.inr rfl) (by kernel_rfl) rfl (by decide) (fun a S => ?_)
    refine leafL (leafT (hK12 _ _ ?_))
    obtain rfl := Option.some.inj h
    exact wp_ret (sRet (.tuple #[.slice ad15 r13.length cp16, .int .i64 0]) S (rsl2 rfl (rvT (t := 6) (v := .slice ad15 r13.length cp16) S (by kernel_rfl)) (rvT (t := 7) (v := .int .i64 0) S (by kernel_rfl))) ⟨(ad15, cp16), rfl, S.mem.sel [0] [] (by decide) (by kernel_rfl) (by kernel_rfl)⟩)

end Go.Proofs.Ytmedbnjhgkcndaa
