import Derived.Test.YtdbgkakmhlmpbaaGTy
import Derived.Test.YtdbgkakmhlmpbaaG45
import Derived.Test.YtdbgkakmhlmpbaaG62
namespace Go.Proofs.Ytdbgkakmhlmpbaa
open Go.RowKit
set_option linter.unusedVariables false

def anc_raddleref23_over_0 : List (List Nat) := [[], [], [0, 1], [], [3], [0, 1, 2, 3, 4], [], [], [6, 7], [], [9], [6, 7, 8, 9, 10], [0, 1, 2, 3, 4, 5, 6, 7, 8, 9, 10, 11], [0, 1, 2, 3, 4, 5, 6, 7, 8, 9, 10, 11, 12], [0, 1, 2, 3, 4, 5, 6, 7, 8, 9, 10, 11, 12], [0, 1, 2, 3, 4, 5, 6, 7, 8, 9, 10, 11, 12, 13, 14], [0, 1, 2, 3, 4, 5, 6, 7, 8, 9, 10, 11, 12, 13, 14, 15]]
noncomputable def F_raddleref23_over (p0 : Int) (p1 : Int) (p2 : api_Ratio) (p3 : Bool) : Option (api_Ratio × Int) :=
  Option.bind (F_raddleref23_common p0 p1) fun r5 =>
  if p3 then
    Option.bind (quoI p0 r5) fun z11 =>
    Option.bind (quoI p1 r5) fun z13 =>
    Option.bind (F_raddleref23_Make (w64 (z11 * p2.Num)) (w64 (z13 * p2.Den))) fun r15 =>
    some (r15.1, r15.2)
  else
    Option.bind (quoI p0 r5) fun z20 =>
    Option.bind (quoI p1 r5) fun z22 =>
    Option.bind (F_raddleref23_Make (w64 (z20 * p2.Den)) (w64 (z22 * p2.Num))) fun r24 =>
    some (r24.1, r24.2)
def c_raddleref23_over_val (r : (api_Ratio × Int)) (x : Value) : Value := .tuple #[x, .int .i64 r.2]
def c_raddleref23_over_D (r : (api_Ratio × Int)) (x : Value) : List Fact := [fRep r_api_Ratio x r.1]
set_option maxHeartbeats 4000000 in
set_option maxRecDepth 100000 in
theorem c_raddleref23_over (E : Nat → Prop) (w0 : World) (p0 : Int) (p1 : Int) (p2 : api_Ratio) (v2 : Value) (p3 : Bool) (r : (api_Ratio × Int)) (h : F_raddleref23_over p0 p1 p2 p3 = some r) (S : St0 E [] w0 w0 [] [fRep r_api_Ratio (v2) p2]) :
    Calls Try.prog 95 #[.int .i64 p0, .int .i64 p1, v2, .bool p3] w0 (Ret (X := Value) E [] w0 (c_raddleref23_over_val r) (fun _ => []) (c_raddleref23_over_D r)) := by
  unfold F_raddleref23_over at h
  obtain rfl : v2 = .agg #[.int .i64 p2.Num, .int .i64 p2.Den] := S.know (i := 0) (e := fRep r_api_Ratio (v2) p2) (by kernel_rfl)
  refine sEnter (args := [.int .i64 p0, .int .i64 p1, .agg #[.int .i64 p2.Num, .int .i64 p2.Den], .bool p3]) 45 Try.func95 rfl rfl (by simp) S (fun a S => ?_)
  refine sSeq (fun K1 hK1 => ?_)
  refine sRegion ?_
  refine sBox (v := .agg #[.int .i64 p2.Num, .int .i64 p2.Den]) S (wN rfl) rfl (by kernel_rfl) [.int .i64 p2.Num, .int .i64 p2.Den] rfl rfl (by decide) (fun a b2 w S => ?_)
  refine sAlloc (.agg #[.int .i64 0, .int .i64 0]) S (wN rfl) rfl (by kernel_rfl) [.int .i64 0, .int .i64 0] rfl rfl (by decide) (fun a b3 w S => ?_)
  refine sMove (.int .i64 0) S (wN rfl) (.inr rfl) (by kernel_rfl) rfl (by decide) (fun a S => ?_)
  refine leafL (leafT (hK1 _ _ ?_))
  refine sSeq (fun K4 hK4 => ?_)
  refine sRegion ?_
  refine sMove (.int .i64 p0) S (wN rfl) (.inl rfl) (by kernel_rfl) rfl (by decide) (fun a S => ?_)
  refine sMove (.int .i64 p1) S (wN rfl) (.inl rfl) (by kernel_rfl) rfl (by decide) (fun a S => ?_)
  obtain ⟨r5, hx6, h⟩ := bindSome h
  have S1 := S.mem
  refine sCallQ (X := Unit) (f := 45) (vs := [.int .i64 p0, .int .i64 p1]) (val := fun _ => .int .i64 r5) S (wN rfl) rfl callee45 (by kernel_rfl) (S1.quiet [] (by kernel_rfl)) (fun E1 w1 S1 => c_raddleref23_common E1 w1 p0 p1 r5 hx6 S1) rfl (by decide) (fun _ a w S => ?_)
  refine sMove (.int .i64 r5) S (wN rfl) (.inr rfl) (by kernel_rfl) rfl (by decide) (fun a S => ?_)
  refine leafL (leafT (hK4 _ _ ?_))
  refine sSeq (fun K7 hK7 => ?_)
  refine sSeq (fun K8 hK8 => ?_)
  refine sRegion ?_
  refine sMove (.bool p3) S (wN rfl) (.inl rfl) (by kernel_rfl) rfl (by decide) (fun a S => ?_)
  refine leafL (leafT (hK8 _ _ ?_))
  rcases iteSome h with ⟨hc9, h⟩ | ⟨hc9, h⟩
  · refine sCondT (b := p3) S (by kernel_rfl) hc9 ?_
    refine sSeq (fun K10 hK10 => ?_)
    obtain ⟨z11, hx12, h⟩ := bindSome h
    obtain ⟨z13, hx14, h⟩ := bindSome h
    obtain ⟨r15, hx16, h⟩ := bindSome h
    refine sDraw (nf := [12, 15]) (W := [(0, 15, .int .i64 p0), (1, 16, .int .i64 r5), (2, 17, .int .i64 z11), (3, 18, .pointer (some ⟨b2, 0, none⟩)), (4, 19, .int .i64 p2.Num), (5, 20, .int .i64 (w64 (z11 * p2.Num))), (6, 21, .int .i64 p1), (7, 22, .int .i64 r5), (8, 23, .int .i64 z13), (9, 24, .pointer (some ⟨b2, 1, none⟩)), (10, 25, .int .i64 p2.Den), (11, 26, .int .i64 (w64 (z13 * p2.Den)))]) (by kernel_rfl) S ?_
    refine node_by (A := anc_raddleref23_over_0) (nf := [12, 15]) (Y := []) (W := [(0, 15, .int .i64 p0), (1, 16, .int .i64 r5), (2, 17, .int .i64 z11), (3, 18, .pointer (some ⟨b2, 0, none⟩)), (4, 19, .int .i64 p2.Num), (5, 20, .int .i64 (w64 (z11 * p2.Num))), (6, 21, .int .i64 p1), (7, 22, .int .i64 r5), (8, 23, .int .i64 z13), (9, 24, .pointer (some ⟨b2, 1, none⟩)), (10, 25, .int .i64 p2.Den), (11, 26, .int .i64 (w64 (z13 * p2.Den)))]) 17 (by kernel_rfl) (by kernel_rfl) (by kernel_rfl) (by kernel_rfl) (by kernel_rfl) [0, 1, 2, 3, 4, 5, 6, 7, 8, 9, 10, 11] (by kernel_rfl) (by decide) (by decide) (aF 0 16 (by decide) ?_ (aF 1 15 (by decide) ?_ (aF 2 14 (by decide) ?_ (aF 3 13 (by decide) ?_ (aF 4 12 (by decide) ?_ (aF 5 11 (by decide) ?_ (aF 6 10 (by decide) ?_ (aF 7 9 (by decide) ?_ (aF 8 8 (by decide) ?_ (aF 9 7 (by decide) ?_ (aF 10 6 (by decide) ?_ (aF 11 5 (by decide) ?_ (aN 12 4 (by decide) ?_ (aE 13 3 12 (by decide) (aE 14 2 12 (by decide) (aB 15 1 12 (by decide) (aE 16 0 12 (by decide) (trivial)))))))))))))))))) [] (fun q hq => by cases hq) (fun hY => absurd (hY 12 (by decide)) (by decide))
    · refine fI 15 (.int .i64 p0) [(0, .int .i64 p0)] 0 [none] rfl rfl (by kernel_rfl) rfl (by kernel_rfl) (by kernel_rfl) fun G a w S => ?_
      refine sMove (.int .i64 p0) S (wN rfl) (.inl rfl) (by kernel_rfl) rfl (by decide) (fun a S => ?_)
      exact leafL ⟨rfl, S⟩
    · refine fI 16 (.int .i64 r5) [(10, .int .i64 r5)] 1 [none] rfl rfl (by kernel_rfl) rfl (by kernel_rfl) (by kernel_rfl) fun G a w S => ?_
      refine sMove (.int .i64 r5) S (wN rfl) (.inl rfl) (by kernel_rfl) rfl (by decide) (fun a S => ?_)
      exact leafL ⟨rfl, S⟩
    · refine fI 17 (.int .i64 z11) [(15, .int .i64 p0), (16, .int .i64 r5)] 2 [some 0, some 1] rfl rfl (by kernel_rfl) rfl (by kernel_rfl) (by kernel_rfl) fun G a w S => ?_
      refine sBin (.int .i64 z11) S (wN rfl) rfl (by kernel_rfl) (by kernel_rfl) (bQuo _ _ _ _ (x := p0) (y := r5) hx12) rfl (by decide) (fun a S => ?_)
      exact leafL ⟨rfl, S⟩
    · refine fI 18 (.pointer (some ⟨b2, 0, none⟩)) [(6, .pointer (some ⟨b2, 0, none⟩))] 3 [none] rfl rfl (by kernel_rfl) rfl (by kernel_rfl) (by kernel_rfl) fun G a w S => ?_
      refine sField (b := b2) (off := 0) 0 0 S (wN rfl) rfl (by kernel_rfl) (by kernel_rfl) rfl rfl (by decide) (fun a S => ?_)
      exact leafL ⟨rfl, S⟩
    · refine fI 19 (.int .i64 p2.Num) [(18, .pointer (some ⟨b2, 0, none⟩))] 4 [some 3] rfl rfl (by kernel_rfl) rfl (by kernel_rfl) (by kernel_rfl) fun G a w S => ?_
      refine sLoad1 (p := b2) (off := 0) (T := 25) (vs := [.int .i64 p2.Num, .int .i64 p2.Den]) 1 (.int .i64 p2.Num) S (wN rfl) rfl (by kernel_rfl) (by kernel_rfl) (by kernel_rfl) rfl rfl (by decide) (fun a S => ?_)
      exact leafL ⟨rfl, S⟩
    · refine fI 20 (.int .i64 (w64 (z11 * p2.Num))) [(17, .int .i64 z11), (19, .int .i64 p2.Num)] 5 [some 2, some 4] rfl rfl (by kernel_rfl) rfl (by kernel_rfl) (by kernel_rfl) fun G a w S => ?_
      refine sBin (.int .i64 (w64 (z11 * p2.Num))) S (wN rfl) rfl (by kernel_rfl) (by kernel_rfl) (bMul _ _ _ _ z11 p2.Num) rfl (by decide) (fun a S => ?_)
      exact leafL ⟨rfl, S⟩
    · refine fI 21 (.int .i64 p1) [(1, .int .i64 p1)] 6 [none] rfl rfl (by kernel_rfl) rfl (by kernel_rfl) (by kernel_rfl) fun G a w S => ?_
      refine sMove (.int .i64 p1) S (wN rfl) (.inl rfl) (by kernel_rfl) rfl (by decide) (fun a S => ?_)
      exact leafL ⟨rfl, S⟩
    · refine fI 22 (.int .i64 r5) [(10, .int .i64 r5)] 7 [none] rfl rfl (by kernel_rfl) rfl (by kernel_rfl) (by kernel_rfl) fun G a w S => ?_
      refine sMove (.int .i64 r5) S (wN rfl) (.inl rfl) (by kernel_rfl) rfl (by decide) (fun a S => ?_)
      exact leafL ⟨rfl, S⟩
    · refine fI 23 (.int .i64 z13) [(21, .int .i64 p1), (22, .int .i64 r5)] 8 [some 6, some 7] rfl rfl (by kernel_rfl) rfl (by kernel_rfl) (by kernel_rfl) fun G a w S => ?_
      refine sBin (.int .i64 z13) S (wN rfl) rfl (by kernel_rfl) (by kernel_rfl) (bQuo _ _ _ _ (x := p1) (y := r5) hx14) rfl (by decide) (fun a S => ?_)
      exact leafL ⟨rfl, S⟩
    · refine fI 24 (.pointer (some ⟨b2, 1, none⟩)) [(6, .pointer (some ⟨b2, 0, none⟩))] 9 [none] rfl rfl (by kernel_rfl) rfl (by kernel_rfl) (by kernel_rfl) fun G a w S => ?_
      refine sField (b := b2) (off := 0) 1 1 S (wN rfl) rfl (by kernel_rfl) (by kernel_rfl) rfl rfl (by decide) (fun a S => ?_)
      exact leafL ⟨rfl, S⟩
    · refine fI 25 (.int .i64 p2.Den) [(24, .pointer (some ⟨b2, 1, none⟩))] 10 [some 9] rfl rfl (by kernel_rfl) rfl (by kernel_rfl) (by kernel_rfl) fun G a w S => ?_
      refine sLoad1 (p := b2) (off := 1) (T := 25) (vs := [.int .i64 p2.Num, .int .i64 p2.Den]) 1 (.int .i64 p2.Den) S (wN rfl) rfl (by kernel_rfl) (by kernel_rfl) (by kernel_rfl) rfl rfl (by decide) (fun a S => ?_)
      exact leafL ⟨rfl, S⟩
    · refine fI 26 (.int .i64 (w64 (z13 * p2.Den))) [(23, .int .i64 z13), (25, .int .i64 p2.Den)] 11 [some 8, some 10] rfl rfl (by kernel_rfl) rfl (by kernel_rfl) (by kernel_rfl) fun G a w S => ?_
      refine sBin (.int .i64 (w64 (z13 * p2.Den))) S (wN rfl) rfl (by kernel_rfl) (by kernel_rfl) (bMul _ _ _ _ z13 p2.Den) rfl (by decide) (fun a S => ?_)
      exact leafL ⟨rfl, S⟩
    · refine ⟨_, [(20, .int .i64 (w64 (z11 * p2.Num))), (26, .int .i64 (w64 (z13 * p2.Den)))], rfl, (srcs_of [some 5, some 11] rfl (by kernel_rfl) (by kernel_rfl)), fun G a w S => ?_⟩
      refine sCall (X := Value) (f := 62) (vs := [.int .i64 (w64 (z11 * p2.Num)), .int .i64 (w64 (z13 * p2.Den))]) (val := c_raddleref23_Make_val r15) (B' := fun _ => []) (D' := c_raddleref23_Make_D r15) [] [eBox b3 25 [.int .i64 0, .int .i64 0], eBox b2 25 [.int .i64 p2.Num, .int .i64 p2.Den]] [] [0, 1] [] S (wN rfl) rfl callee62 (by kernel_rfl) (by decide) (by kernel_rfl) (by kernel_rfl) (fun E1 w1 S1 => c_raddleref23_Make E1 w1 (w64 (z11 * p2.Num)) (w64 (z13 * p2.Den)) r15 hx16 S1) rfl (by decide) (fun u18 a w S => ?_)
      obtain rfl : u18 = .agg #[.int .i64 r15.1.Num, .int .i64 r15.1.Den] := S.mem.know (i := 0) (e := fRep r_api_Ratio (u18) r15.1) (by kernel_rfl)
      refine leafL ⟨rfl, _, _, .inl ⟨27, (.tuple #[.agg #[.int .i64 r15.1.Num, .int .i64 r15.1.Den], .int .i64 r15.2]), [(13, 28, .agg #[.int .i64 r15.1.Num, .int .i64 r15.1.Den]), (14, 29, .int .i64 r15.2)], rfl, S, hz_of (by kernel_rfl), ?_⟩⟩
      refine node_by (A := anc_raddleref23_over_0) (nf := [12, 15]) (Y := [12]) 17 (by kernel_rfl) (by kernel_rfl) (by kernel_rfl) (by kernel_rfl) (by kernel_rfl) [13, 14, 12, 0, 1, 2, 3, 4, 5, 6, 7, 8, 9, 10, 11] (by kernel_rfl) (by decide) (by decide) (aD 0 16 12 (by decide) (aD 1 15 12 (by decide) (aD 2 14 12 (by decide) (aD 3 13 12 (by decide) (aD 4 12 12 (by decide) (aD 5 11 12 (by decide) (aD 6 10 12 (by decide) (aD 7 9 12 (by decide) (aD 8 8 12 (by decide) (aD 9 7 12 (by decide) (aD 10 6 12 (by decide) (aD 11 5 12 (by decide) (aY 12 4 (by decide) (aF 13 3 (by decide) ?_ (aF 14 2 (by decide) ?_ (aN 15 1 (by decide) ?_ (aE 16 0 15 (by decide) (trivial)))))))))))))))))) [] (fun q hq => by cases hq) (fun hY => absurd (hY 15 (by decide)) (by decide))
      · refine fI 28 (.agg #[.int .i64 r15.1.Num, .int .i64 r15.1.Den]) [(27, .tuple #[.agg #[.int .i64 r15.1.Num, .int .i64 r15.1.Den], .int .i64 r15.2])] 0 [some 2] rfl rfl (by kernel_rfl) rfl (by kernel_rfl) (by kernel_rfl) fun G a w S => ?_
        refine sExtract (vs := [.agg #[.int .i64 r15.1.Num, .int .i64 r15.1.Den], .int .i64 r15.2]) (.agg #[.int .i64 r15.1.Num, .int .i64 r15.1.Den]) S (wN rfl) rfl (by kernel_rfl) rfl rfl (by decide) (fun a S => ?_)
        exact leafL ⟨rfl, S⟩
      · refine fI 29 (.int .i64 r15.2) [(27, .tuple #[.agg #[.int .i64 r15.1.Num, .int .i64 r15.1.Den], .int .i64 r15.2])] 1 [some 2] rfl rfl (by kernel_rfl) rfl (by kernel_rfl) (by kernel_rfl) fun G a w S => ?_
        refine sExtract (vs := [.agg #[.int .i64 r15.1.Num, .int .i64 r15.1.Den], .int .i64 r15.2]) (.int .i64 r15.2) S (wN rfl) rfl (by kernel_rfl) rfl rfl (by decide) (fun a S => ?_)
        exact leafL ⟨rfl, S⟩
      · refine ⟨_, [(8, .pointer (some ⟨b3, 0, none⟩)), (28, .agg #[.int .i64 r15.1.Num, .int .i64 r15.1.Den])], rfl, (srcs_of [none, some 0] rfl (by kernel_rfl) (by kernel_rfl)), fun G a w S => ?_⟩
        refine sStore (p := b3) (off := 0) (T := 25) (vs := [.int .i64 0, .int .i64 0]) (v := .agg #[.int .i64 r15.1.Num, .int .i64 r15.1.Den]) 0 [.int .i64 r15.1.Num, .int .i64 r15.1.Den] S (wN rfl) rfl (by kernel_rfl) (by kernel_rfl) rfl (by kernel_rfl) (by kernel_rfl) rfl (by simp) rfl (fun a w S => ?_)
        refine leafL ⟨rfl, _, _, .inr ⟨[(16, 9, .int .i64 r15.2)], rfl, S, hz_of (by kernel_rfl), ?_⟩⟩
        refine node_by (A := anc_raddleref23_over_0) (nf := [12, 15]) (Y := [15, 12]) 17 (by kernel_rfl) (by kernel_rfl) (by kernel_rfl) (by kernel_rfl) (by kernel_rfl) [16, 13, 14, 12, 0, 1, 2, 3, 4, 5, 6, 7, 8, 9, 10, 11] (by kernel_rfl) (by decide) (by decide) (aD 0 16 15 (by decide) (aD 1 15 15 (by decide) (aD 2 14 15 (by decide) (aD 3 13 15 (by decide) (aD 4 12 15 (by decide) (aD 5 11 15 (by decide) (aD 6 10 15 (by decide) (aD 7 9 15 (by decide) (aD 8 8 15 (by decide) (aD 9 7 15 (by decide) (aD 10 6 15 (by decide) (aD 11 5 15 (by decide) (aY 12 4 (by decide) (aD 13 3 15 (by decide) (aD 14 2 15 (by decide) (aY 15 1 (by decide) (aF 16 0 (by decide) ?_ (trivial)))))))))))))))))) [(8, .pointer (some ⟨b3, 0, none⟩)), (9, .int .i64 r15.2)] (fin_of [none, some 0] rfl (by kernel_rfl) (by kernel_rfl)) (fun _ a w S => ?_)
        · refine fI 9 (.int .i64 r15.2) [(29, .int .i64 r15.2)] 0 [some 2] rfl rfl (by kernel_rfl) rfl (by kernel_rfl) (by kernel_rfl) fun G a w S => ?_
          refine sMove (.int .i64 r15.2) S (wN rfl) (.inr rfl) (by kernel_rfl) rfl (by decide) (fun a S => ?_)
          exact leafL ⟨rfl, S⟩
        · refine leafT (hK10 _ _ ?_)
          obtain rfl := Option.some.inj h
          exact wp_ret (rThen (sRet (.tuple #[.agg #[.int .i64 r15.1.Num, .int .i64 r15.1.Den], .int .i64 r15.2]) S (rsl2 rfl (rvN (c := 8) (t := 25) (T := 25) (p := b3) 0 [.int .i64 r15.1.Num, .int .i64 r15.1.Den] S (by kernel_rfl) (by kernel_rfl) (by kernel_rfl) (by kernel_rfl)) (rvT (t := 9) (v := .int .i64 r15.2) S (by kernel_rfl))) ⟨(.agg #[.int .i64 r15.1.Num, .int .i64 r15.1.Den]), rfl, S.mem.sel [] [0] (by decide) (by kernel_rfl) (by kernel_rfl)⟩))
  · refine sCondF (b := p3) S (by kernel_rfl) hc9 ?_
    refine wp_skip (leafT (hK7 _ _ ?_))
    refine sSeq (fun K19 hK19 => ?_)
    obtain ⟨z20, hx21, h⟩ := bindSome h
    obtain ⟨z22, hx23, h⟩ := bindSome h
    obtain ⟨r24, hx25, h⟩ := bindSome h
    refine sDraw (nf := [12, 15]) (W := [(0, 30, .int .i64 p0), (1, 31, .int .i64 r5), (2, 32, .int .i64 z20), (3, 33, .pointer (some ⟨b2, 1, none⟩)), (4, 34, .int .i64 p2.Den), (5, 35, .int .i64 (w64 (z20 * p2.Den))), (6, 36, .int .i64 p1), (7, 37, .int .i64 r5), (8, 38, .int .i64 z22), (9, 39, .pointer (some ⟨b2, 0, none⟩)), (10, 40, .int .i64 p2.Num), (11, 41, .int .i64 (w64 (z22 * p2.Num)))]) (by kernel_rfl) S ?_
    refine node_by (A := anc_raddleref23_over_0) (nf := [12, 15]) (Y := []) (W := [(0, 30, .int .i64 p0), (1, 31, .int .i64 r5), (2, 32, .int .i64 z20), (3, 33, .pointer (some ⟨b2, 1, none⟩)), (4, 34, .int .i64 p2.Den), (5, 35, .int .i64 (w64 (z20 * p2.Den))), (6, 36, .int .i64 p1), (7, 37, .int .i64 r5), (8, 38, .int .i64 z22), (9, 39, .pointer (some ⟨b2, 0, none⟩)), (10, 40, .int .i64 p2.Num), (11, 41, .int .i64 (w64 (z22 * p2.Num)))]) 17 (by kernel_rfl) (by kernel_rfl) (by kernel_rfl) (by kernel_rfl) (by kernel_rfl) [0, 1, 2, 3, 4, 5, 6, 7, 8, 9, 10, 11] (by kernel_rfl) (by decide) (by decide) (aF 0 16 (by decide) ?_ (aF 1 15 (by decide) ?_ (aF 2 14 (by decide) ?_ (aF 3 13 (by decide) ?_ (aF 4 12 (by decide) ?_ (aF 5 11 (by decide) ?_ (aF 6 10 (by decide) ?_ (aF 7 9 (by decide) ?_ (aF 8 8 (by decide) ?_ (aF 9 7 (by decide) ?_ (aF 10 6 (by decide) ?_ (aF 11 5 (by decide) ?_ (aN 12 4 (by decide) ?_ (aE 13 3 12 (by decide) (aE 14 2 12 (by decide) (aB 15 1 12 (by decide) (aE 16 0 12 (by decide) (trivial)))))))))))))))))) [] (fun q hq => by cases hq) (fun hY => absurd (hY 12 (by decide)) (by decide))
    · refine fI 30 (.int .i64 p0) [(0, .int .i64 p0)] 0 [none] rfl rfl (by kernel_rfl) rfl (by kernel_rfl) (by kernel_rfl) fun G a w S => ?_
      refine sMove (.int .i64 p0) S (wN rfl) (.inl rfl) (by kernel_rfl) rfl (by decide) (fun a S => ?_)
      exact leafL ⟨rfl, S⟩
    · refine fI 31 (.int .i64 r5) [(10, .int .i64 r5)] 1 [none] rfl rfl (by kernel_rfl) rfl (by kernel_rfl) (by kernel_rfl) fun G a w S => ?_
      refine sMove (.int .i64 r5) S (wN rfl) (.inl rfl) (by kernel_rfl) rfl (by decide) (fun a S => ?_)
      exact leafL ⟨rfl, S⟩
    · refine fI 32 (.int .i64 z20) [(30, .int .i64 p0), (31, .int .i64 r5)] 2 [some 0, some 1] rfl rfl (by kernel_rfl) rfl (by kernel_rfl) (by kernel_rfl) fun G a w S => ?_
      refine sBin (.int .i64 z20) S (wN rfl) rfl (by kernel_rfl) (by kernel_rfl) (bQuo _ _ _ _ (x := p0) (y := r5) hx21) rfl (by decide) (fun a S => ?_)
      exact leafL ⟨rfl, S⟩
    · refine fI 33 (.pointer (some ⟨b2, 1, none⟩)) [(6, .pointer (some ⟨b2, 0, none⟩))] 3 [none] rfl rfl (by kernel_rfl) rfl (by kernel_rfl) (by kernel_rfl) fun G a w S => ?_
      refine sField (b := b2) (off := 0) 1 1 S (wN rfl) rfl (by kernel_rfl) (by kernel_rfl) rfl rfl (by decide) (fun a S => ?_)
      exact leafL ⟨rfl, S⟩
    · refine fI 34 (.int .i64 p2.Den) [(33, .pointer (some ⟨b2, 1, none⟩))] 4 [some 3] rfl rfl (by kernel_rfl) rfl (by kernel_rfl) (by kernel_rfl) fun G a w S => ?_
      refine sLoad1 (p := b2) (off := 1) (T := 25) (vs := [.int .i64 p2.Num, .int .i64 p2.Den]) 1 (.int .i64 p2.Den) S (wN rfl) rfl (by kernel_rfl) (by kernel_rfl) (by kernel_rfl) rfl rfl (by decide) (fun a S => ?_)
      exact leafL ⟨rfl, S⟩
    · refine fI 35 (.int .i64 (w64 (z20 * p2.Den))) [(32, .int .i64 z20), (34, .int .i64 p2.Den)] 5 [some 2, some 4] rfl rfl (by kernel_rfl) rfl (by kernel_rfl) (by kernel_rfl) fun G a w S => ?_
      refine sBin (.int .i64 (w64 (z20 * p2.Den))) S (wN rfl) rfl (by kernel_rfl) (by kernel_rfl) (bMul _ _ _ _ z20 p2.Den) rfl (by decide) (fun a S => ?_)
      exact leafL ⟨rfl, S⟩
    · refine fI 36 (.int .i64 p1) [(1, .int .i64 p1)] 6 [none] rfl rfl (by kernel_rfl) rfl (by kernel_rfl) (by kernel_rfl) fun G a w S => ?_
      refine sMove (.int .i64 p1) S (wN rfl) (.inl rfl) (by kernel_rfl) rfl (by decide) (fun a S => ?_)
      exact leafL ⟨rfl, S⟩
    · refine fI 37 (.int .i64 r5) [(10, .int .i64 r5)] 7 [none] rfl rfl (by kernel_rfl) rfl (by kernel_rfl) (by kernel_rfl) fun G a w S => ?_
      refine sMove (.int .i64 r5) S (wN rfl) (.inl rfl) (by kernel_rfl) rfl (by decide) (fun a S => ?_)
      exact leafL ⟨rfl, S⟩
    · refine fI 38 (.int .i64 z22) [(36, .int .i64 p1), (37, .int .i64 r5)] 8 [some 6, some 7] rfl rfl (by kernel_rfl) rfl (by kernel_rfl) (by kernel_rfl) fun G a w S => ?_
      refine sBin (.int .i64 z22) S (wN rfl) rfl (by kernel_rfl) (by kernel_rfl) (bQuo _ _ _ _ (x := p1) (y := r5) hx23) rfl (by decide) (fun a S => ?_)
      exact leafL ⟨rfl, S⟩
    · refine fI 39 (.pointer (some ⟨b2, 0, none⟩)) [(6, .pointer (some ⟨b2, 0, none⟩))] 9 [none] rfl rfl (by kernel_rfl) rfl (by kernel_rfl) (by kernel_rfl) fun G a w S => ?_
      refine sField (b := b2) (off := 0) 0 0 S (wN rfl) rfl (by kernel_rfl) (by kernel_rfl) rfl rfl (by decide) (fun a S => ?_)
      exact leafL ⟨rfl, S⟩
    · refine fI 40 (.int .i64 p2.Num) [(39, .pointer (some ⟨b2, 0, none⟩))] 10 [some 9] rfl rfl (by kernel_rfl) rfl (by kernel_rfl) (by kernel_rfl) fun G a w S => ?_
      refine sLoad1 (p := b2) (off := 0) (T := 25) (vs := [.int .i64 p2.Num, .int .i64 p2.Den]) 1 (.int .i64 p2.Num) S (wN rfl) rfl (by kernel_rfl) (by kernel_rfl) (by kernel_rfl) rfl rfl (by decide) (fun a S => ?_)
      exact leafL ⟨rfl, S⟩
    · refine fI 41 (.int .i64 (w64 (z22 * p2.Num))) [(38, .int .i64 z22), (40, .int .i64 p2.Num)] 11 [some 8, some 10] rfl rfl (by kernel_rfl) rfl (by kernel_rfl) (by kernel_rfl) fun G a w S => ?_
      refine sBin (.int .i64 (w64 (z22 * p2.Num))) S (wN rfl) rfl (by kernel_rfl) (by kernel_rfl) (bMul _ _ _ _ z22 p2.Num) rfl (by decide) (fun a S => ?_)
      exact leafL ⟨rfl, S⟩
    · refine ⟨_, [(35, .int .i64 (w64 (z20 * p2.Den))), (41, .int .i64 (w64 (z22 * p2.Num)))], rfl, (srcs_of [some 5, some 11] rfl (by kernel_rfl) (by kernel_rfl)), fun G a w S => ?_⟩
      refine sCall (X := Value) (f := 62) (vs := [.int .i64 (w64 (z20 * p2.Den)), .int .i64 (w64 (z22 * p2.Num))]) (val := c_raddleref23_Make_val r24) (B' := fun _ => []) (D' := c_raddleref23_Make_D r24) [] [eBox b3 25 [.int .i64 0, .int .i64 0], eBox b2 25 [.int .i64 p2.Num, .int .i64 p2.Den]] [] [0, 1] [] S (wN rfl) rfl callee62 (by kernel_rfl) (by decide) (by kernel_rfl) (by kernel_rfl) (fun E1 w1 S1 => c_raddleref23_Make E1 w1 (w64 (z20 * p2.Den)) (w64 (z22 * p2.Num)) r24 hx25 S1) rfl (by decide) (fun u27 a w S => ?_)
      obtain rfl : u27 = .agg #[.int .i64 r24.1.Num, .int .i64 r24.1.Den] := S.mem.know (i := 0) (e := fRep r_api_Ratio (u27) r24.1) (by kernel_rfl)
      refine leafL ⟨rfl, _, _, .inl ⟨42, (.tuple #[.agg #[.int .i64 r24.1.Num, .int .i64 r24.1.Den], .int .i64 r24.2]), [(13, 43, .agg #[.int .i64 r24.1.Num, .int .i64 r24.1.Den]), (14, 44, .int .i64 r24.2)], rfl, S, hz_of (by kernel_rfl), ?_⟩⟩
      refine node_by (A := anc_raddleref23_over_0) (nf := [12, 15]) (Y := [12]) 17 (by kernel_rfl) (by kernel_rfl) (by kernel_rfl) (by kernel_rfl) (by kernel_rfl) [13, 14, 12, 0, 1, 2, 3, 4, 5, 6, 7, 8, 9, 10, 11] (by kernel_rfl) (by decide) (by decide) (aD 0 16 12 (by decide) (aD 1 15 12 (by decide) (aD 2 14 12 (by decide) (aD 3 13 12 (by decide) (aD 4 12 12 (by decide) (aD 5 11 12 (by decide) (aD 6 10 12 (by decide) (aD 7 9 12 (by decide) (aD 8 8 12 (by decide) (aD 9 7 12 (by decide) (aD 10 6 12 (by decide) (aD 11 5 12 (by decide) (aY 12 4 (by decide) (aF 13 3 (by decide) ?_ (aF 14 2 (by decide) ?_ (aN 15 1 (by decide) ?_ (aE 16 0 15 (by decide) (trivial)))))))))))))))))) [] (fun q hq => by cases hq) (fun hY => absurd (hY 15 (by decide)) (by decide))
      · refine fI 43 (.agg #[.int .i64 r24.1.Num, .int .i64 r24.1.Den]) [(42, .tuple #[.agg #[.int .i64 r24.1.Num, .int .i64 r24.1.Den], .int .i64 r24.2])] 0 [some 2] rfl rfl (by kernel_rfl) rfl (by kernel_rfl) (by kernel_rfl) fun G a w S => ?_
        refine sExtract (vs := [.agg #[.int .i64 r24.1.Num, .int .i64 r24.1.Den], .int .i64 r24.2]) (.agg #[.int .i64 r24.1.Num, .int .i64 r24.1.Den]) S (wN rfl) rfl (by kernel_rfl) rfl rfl (by decide) (fun a S => ?_)
        exact leafL ⟨rfl, S⟩
      · refine fI 44 (.int .i64 r24.2) [(42, .tuple #[.agg #[.int .i64 r24.1.Num, .int .i64 r24.1.Den], .int .i64 r24.2])] 1 [some 2] rfl rfl (by kernel_rfl) rfl (by kernel_rfl) (by kernel_rfl) fun G a w S => ?_
        refine sExtract (vs := [.agg #[.int .i64 r24.1.Num, .int .i64 r24.1.Den], .int .i64 r24.2]) (.int .i64 r24.2) S (wN rfl) rfl (by kernel_rfl) rfl rfl (by decide) (fun a S => ?_)
        exact leafL ⟨rfl, S⟩
      · refine ⟨_, [(8, .pointer (some ⟨b3, 0, none⟩)), (43, .agg #[.int .i64 r24.1.Num, .int .i64 r24.1.Den])], rfl, (srcs_of [none, some 0] rfl (by kernel_rfl) (by kernel_rfl)), fun G a w S => ?_⟩
        refine sStore (p := b3) (off := 0) (T := 25) (vs := [.int .i64 0, .int .i64 0]) (v := .agg #[.int .i64 r24.1.Num, .int .i64 r24.1.Den]) 0 [.int .i64 r24.1.Num, .int .i64 r24.1.Den] S (wN rfl) rfl (by kernel_rfl) (by kernel_rfl) rfl (by kernel_rfl) (by kernel_rfl) rfl (by simp) rfl (fun a w S => ?_)
        refine leafL ⟨rfl, _, _, .inr ⟨[(16, 9, .int .i64 r24.2)], rfl, S, hz_of (by kernel_rfl), ?_⟩⟩
        refine node_by (A := anc_raddleref23_over_0) (nf := [12, 15]) (Y := [15, 12]) 17 (by kernel_rfl) (by kernel_rfl) (by kernel_rfl) (by kernel_rfl) (by kernel_rfl) [16, 13, 14, 12, 0, 1, 2, 3, 4, 5, 6, 7, 8, 9, 10, 11] (by kernel_rfl) (by decide) (by decide) (aD 0 16 15 (by decide) (aD 1 15 15 (by decide) (aD 2 14 15 (by decide) (aD 3 13 15 (by decide) (aD 4 12 15 (by decide) (aD 5 11 15 (by decide) (aD 6 10 15 (by decide) (aD 7 9 15 (by decide) (aD 8 8 15 (by decide) (aD 9 7 15 (by decide) (aD 10 6 15 (by decide) (aD 11 5 15 (by decide) (aY 12 4 (by decide) (aD 13 3 15 (by decide) (aD 14 2 15 (by decide) (aY 15 1 (by decide) (aF 16 0 (by decide) ?_ (trivial)))))))))))))))))) [(8, .pointer (some ⟨b3, 0, none⟩)), (9, .int .i64 r24.2)] (fin_of [none, some 0] rfl (by kernel_rfl) (by kernel_rfl)) (fun _ a w S => ?_)
        · refine fI 9 (.int .i64 r24.2) [(44, .int .i64 r24.2)] 0 [some 2] rfl rfl (by kernel_rfl) rfl (by kernel_rfl) (by kernel_rfl) fun G a w S => ?_
          refine sMove (.int .i64 r24.2) S (wN rfl) (.inr rfl) (by kernel_rfl) rfl (by decide) (fun a S => ?_)
          exact leafL ⟨rfl, S⟩
        · refine leafT (hK19 _ _ ?_)
          obtain rfl := Option.some.inj h
          exact wp_ret (sRet (.tuple #[.agg #[.int .i64 r24.1.Num, .int .i64 r24.1.Den], .int .i64 r24.2]) S (rsl2 rfl (rvN (c := 8) (t := 25) (T := 25) (p := b3) 0 [.int .i64 r24.1.Num, .int .i64 r24.1.Den] S (by kernel_rfl) (by kernel_rfl) (by kernel_rfl) (by kernel_rfl)) (rvT (t := 9) (v := .int .i64 r24.2) S (by kernel_rfl))) ⟨(.agg #[.int .i64 r24.1.Num, .int .i64 r24.1.Den]), rfl, S.mem.sel [] [0] (by decide) (by kernel_rfl) (by kernel_rfl)⟩)

end Go.Proofs.Ytdbgkakmhlmpbaa
