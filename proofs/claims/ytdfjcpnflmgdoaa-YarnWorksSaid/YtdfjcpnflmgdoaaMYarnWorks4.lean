/- Several texts in one: G15 G56 G44 G16 G17 G45 G18 G19 G20 G21 G34 G33s0 G6 G7 G3 LYK FrYarnWorks -/
import Derived.WalkKit
import Derived.Maps.AppendAt
import Derived.Deep.AppendLies
import Derived.KernelRfl
import Derived.Laws.OwnMore
import Derived.Great.BuildSlice
import Derived.Orders
import Derived.Laws.StructEq
import Derived.ChangeKeysEq
import Derived.Defers
import Derived.Test.YtdfjcpnflmgdoaaProg
import Derived.ProofKit
import Derived.OpenShut
import Derived.ChangeOld
import Derived.Deep.Slices
import Derived.Lib.SmallJoins
import Derived.JoinedOf
import Derived.JoinedAt
import Derived.Below
import Derived.Test.YtdfjcpnflmgdoaaRows
import Derived.Test.YtdfjcpnflmgdoaaMYarnWorks3
namespace Go.Proofs.Ytdfjcpnflmgdoaa
open Go.RowKit
set_option linter.unusedVariables false

noncomputable def F_raddleref23_Div (p0 : api_Ratio) (p1 : api_Ratio) : Option (api_Ratio × Int) :=
  Option.bind (F_raddleref23_Both p0 p1) fun r7 =>
  if r7 != 0 then
    some ((api_Ratio.mk 0 0), r7)
  else
    Option.bind (F_raddleref23_Make (w64 (p0.Num * p1.Den)) (w64 (p0.Den * p1.Num))) fun r12 =>
    some (r12.1, r12.2)
def c_raddleref23_Div_val (r : (api_Ratio × Int)) (x : Value) : Value := .tuple #[x, .int .i64 r.2]
def c_raddleref23_Div_D (r : (api_Ratio × Int)) (x : Value) : List Fact := [fRep r_api_Ratio x r.1]
set_option maxHeartbeats 4000000 in
set_option maxRecDepth 100000 in
theorem c_raddleref23_Div (E : Nat → Prop) (w0 : World) (p0 : api_Ratio) (v0 : Value) (p1 : api_Ratio) (v1 : Value) (r : (api_Ratio × Int)) (h : F_raddleref23_Div p0 p1 = some r) (S : St0 E [] w0 w0 [] [fRep r_api_Ratio (v0) p0, fRep r_api_Ratio (v1) p1]) :
    Calls Try.prog 15 #[v0, v1] w0 (Ret (X := Value) E [] w0 (c_raddleref23_Div_val r) (fun _ => []) (c_raddleref23_Div_D r)) := by
  unfold F_raddleref23_Div at h
  obtain rfl : v0 = .agg #[.int .i64 p0.Num, .int .i64 p0.Den] := S.know (i := 0) (e := fRep r_api_Ratio (v0) p0) (by kernel_rfl)
  obtain rfl : v1 = .agg #[.int .i64 p1.Num, .int .i64 p1.Den] := S.know (i := 1) (e := fRep r_api_Ratio (v1) p1) (by kernel_rfl)
  refine sEnter (args := [.agg #[.int .i64 p0.Num, .int .i64 p0.Den], .agg #[.int .i64 p1.Num, .int .i64 p1.Den]]) 27 Try.func15 rfl rfl (by simp) S (fun a S => ?_)
  refine sSeq (fun K1 hK1 => ?_)
  refine sRegion ?_
  refine sBox (v := .agg #[.int .i64 p0.Num, .int .i64 p0.Den]) S (wN rfl) rfl (by kernel_rfl) [.int .i64 p0.Num, .int .i64 p0.Den] rfl rfl (by decide) (fun a b2 w S => ?_)
  refine sBox (v := .agg #[.int .i64 p1.Num, .int .i64 p1.Den]) S (wN rfl) rfl (by kernel_rfl) [.int .i64 p1.Num, .int .i64 p1.Den] rfl rfl (by decide) (fun a b3 w S => ?_)
  refine sAlloc (.agg #[.int .i64 0, .int .i64 0]) S (wN rfl) rfl (by kernel_rfl) [.int .i64 0, .int .i64 0] rfl rfl (by decide) (fun a b4 w S => ?_)
  refine sMove (.int .i64 0) S (wN rfl) (.inr rfl) (by kernel_rfl) rfl (by decide) (fun a S => ?_)
  refine leafL (leafT (hK1 _ _ ?_))
  refine sSeq (fun K5 hK5 => ?_)
  refine sSeq (fun K6 hK6 => ?_)
  refine sRegion ?_
  refine sLoadN (p := b2) (off := 0) (T := 23) (vs := [.int .i64 p0.Num, .int .i64 p0.Den]) 2 [.int .i64 p0.Num, .int .i64 p0.Den] S (wN rfl) rfl (by kernel_rfl) (by kernel_rfl) (by kernel_rfl) (by kernel_rfl) rfl rfl (by decide) (fun a S => ?_)
  refine sLoadN (p := b3) (off := 0) (T := 23) (vs := [.int .i64 p1.Num, .int .i64 p1.Den]) 1 [.int .i64 p1.Num, .int .i64 p1.Den] S (wN rfl) rfl (by kernel_rfl) (by kernel_rfl) (by kernel_rfl) (by kernel_rfl) rfl rfl (by decide) (fun a S => ?_)
  obtain ⟨r7, hx8, h⟩ := bindSome h
  have S1 := S.mem
  refine sCallQ (X := Unit) (f := 35) (vs := [.agg #[.int .i64 p0.Num, .int .i64 p0.Den], .agg #[.int .i64 p1.Num, .int .i64 p1.Den]]) (val := fun _ => .int .i64 r7) S (wN rfl) rfl callee35 (by kernel_rfl) (S1.quiet [0, 1] (by kernel_rfl)) (fun E1 w1 S1 => c_raddleref23_Both E1 w1 p0 (.agg #[.int .i64 p0.Num, .int .i64 p0.Den]) p1 (.agg #[.int .i64 p1.Num, .int .i64 p1.Den]) r7 hx8 S1) rfl (by decide) (fun _ a w S => ?_)
  refine sBin (.bool (r7 != 0)) S (wN rfl) rfl (by kernel_rfl) (by kernel_rfl) (bNe _ _ _ _ .i64 r7 0) rfl (by decide) (fun a S => ?_)
  refine leafL (leafT (hK6 _ _ ?_))
  rcases iteSome h with ⟨hc9, h⟩ | ⟨hc9, h⟩
  · refine sCondT (b := r7 != 0) S (by kernel_rfl) hc9 ?_
    refine sSeq (fun K10 hK10 => ?_)
    refine sRegion ?_
    refine sBuild [] [.int .i64 0, .int .i64 0] S (wN rfl) rfl (by kernel_rfl) (by kernel_rfl) rfl (by decide) (fun a S => ?_)
    refine sLoadN (p := b2) (off := 0) (T := 23) (vs := [.int .i64 p0.Num, .int .i64 p0.Den]) 2 [.int .i64 p0.Num, .int .i64 p0.Den] S (wN rfl) rfl (by kernel_rfl) (by kernel_rfl) (by kernel_rfl) (by kernel_rfl) rfl rfl (by decide) (fun a S => ?_)
    refine sLoadN (p := b3) (off := 0) (T := 23) (vs := [.int .i64 p1.Num, .int .i64 p1.Den]) 1 [.int .i64 p1.Num, .int .i64 p1.Den] S (wN rfl) rfl (by kernel_rfl) (by kernel_rfl) (by kernel_rfl) (by kernel_rfl) rfl rfl (by decide) (fun a S => ?_)
    have S1 := S.mem
    refine sCallQ (X := Unit) (f := 35) (vs := [.agg #[.int .i64 p0.Num, .int .i64 p0.Den], .agg #[.int .i64 p1.Num, .int .i64 p1.Den]]) (val := fun _ => .int .i64 r7) S (wN rfl) rfl callee35 (by kernel_rfl) (S1.quiet [0, 1] (by kernel_rfl)) (fun E1 w1 S1 => c_raddleref23_Both E1 w1 p0 (.agg #[.int .i64 p0.Num, .int .i64 p0.Den]) p1 (.agg #[.int .i64 p1.Num, .int .i64 p1.Den]) r7 hx8 S1) rfl (by decide) (fun _ a w S => ?_)
    refine sStore (p := b4) (off := 0) (T := 23) (vs := [.int .i64 0, .int .i64 0]) (v := .agg #[.int .i64 0, .int .i64 0]) 0 [.int .i64 0, .int .i64 0] S (wN rfl) rfl (by kernel_rfl) (by kernel_rfl) rfl (by kernel_rfl) (by kernel_rfl) rfl (by simp) rfl (fun a w S => ?_)
    refine sMove (.int .i64 r7) S (wN rfl) (.inr rfl) (by kernel_rfl) rfl (by decide) (fun a S => ?_)
    refine leafL (leafT (hK10 _ _ ?_))
    obtain rfl := Option.some.inj h
    have S := S.learn (fRep r_api_Ratio (.agg #[.int .i64 0, .int .i64 0]) (api_Ratio.mk 0 0)) rfl
    exact wp_ret (rThen (sRet (.tuple #[.agg #[.int .i64 0, .int .i64 0], .int .i64 r7]) S (rsl2 rfl (rvN (c := 4) (t := 23) (T := 23) (p := b4) 0 [.int .i64 0, .int .i64 0] S (by kernel_rfl) (by kernel_rfl) (by kernel_rfl) (by kernel_rfl)) (rvT (t := 5) (v := .int .i64 r7) S (by kernel_rfl))) ⟨(.agg #[.int .i64 0, .int .i64 0]), rfl, S.mem.sel [] [0] (by decide) (by kernel_rfl) (by kernel_rfl)⟩))
  · refine sCondF (b := r7 != 0) S (by kernel_rfl) hc9 ?_
    refine wp_skip (leafT (hK5 _ _ ?_))
    refine sSeq (fun K11 hK11 => ?_)
    refine sRegion ?_
    refine sField (b := b2) (off := 0) 0 0 S (wN rfl) rfl (by kernel_rfl) (by kernel_rfl) rfl rfl (by decide) (fun a S => ?_)
    refine sLoad1 (p := b2) (off := 0) (T := 23) (vs := [.int .i64 p0.Num, .int .i64 p0.Den]) 2 (.int .i64 p0.Num) S (wN rfl) rfl (by kernel_rfl) (by kernel_rfl) (by kernel_rfl) rfl rfl (by decide) (fun a S => ?_)
    refine sField (b := b3) (off := 0) 1 1 S (wN rfl) rfl (by kernel_rfl) (by kernel_rfl) rfl rfl (by decide) (fun a S => ?_)
    refine sLoad1 (p := b3) (off := 1) (T := 23) (vs := [.int .i64 p1.Num, .int .i64 p1.Den]) 1 (.int .i64 p1.Den) S (wN rfl) rfl (by kernel_rfl) (by kernel_rfl) (by kernel_rfl) rfl rfl (by decide) (fun a S => ?_)
    refine sBin (.int .i64 (w64 (p0.Num * p1.Den))) S (wN rfl) rfl (by kernel_rfl) (by kernel_rfl) (bMul _ _ _ _ p0.Num p1.Den) rfl (by decide) (fun a S => ?_)
    refine sField (b := b2) (off := 0) 1 1 S (wN rfl) rfl (by kernel_rfl) (by kernel_rfl) rfl rfl (by decide) (fun a S => ?_)
    refine sLoad1 (p := b2) (off := 1) (T := 23) (vs := [.int .i64 p0.Num, .int .i64 p0.Den]) 2 (.int .i64 p0.Den) S (wN rfl) rfl (by kernel_rfl) (by kernel_rfl) (by kernel_rfl) rfl rfl (by decide) (fun a S => ?_)
    refine sField (b := b3) (off := 0) 0 0 S (wN rfl) rfl (by kernel_rfl) (by kernel_rfl) rfl rfl (by decide) (fun a S => ?_)
    refine sLoad1 (p := b3) (off := 0) (T := 23) (vs := [.int .i64 p1.Num, .int .i64 p1.Den]) 1 (.int .i64 p1.Num) S (wN rfl) rfl (by kernel_rfl) (by kernel_rfl) (by kernel_rfl) rfl rfl (by decide) (fun a S => ?_)
    refine sBin (.int .i64 (w64 (p0.Den * p1.Num))) S (wN rfl) rfl (by kernel_rfl) (by kernel_rfl) (bMul _ _ _ _ p0.Den p1.Num) rfl (by decide) (fun a S => ?_)
    obtain ⟨r12, hx13, h⟩ := bindSome h
    refine sCall (X := Value) (f := 36) (vs := [.int .i64 (w64 (p0.Num * p1.Den)), .int .i64 (w64 (p0.Den * p1.Num))]) (val := c_raddleref23_Make_val r12) (B' := fun _ => []) (D' := c_raddleref23_Make_D r12) [] [eBox b4 23 [.int .i64 0, .int .i64 0], eBox b3 23 [.int .i64 p1.Num, .int .i64 p1.Den], eBox b2 23 [.int .i64 p0.Num, .int .i64 p0.Den]] [] [0, 1, 2] [] S (wN rfl) rfl callee36 (by kernel_rfl) (by decide) (by kernel_rfl) (by kernel_rfl) (fun E1 w1 S1 => c_raddleref23_Make E1 w1 (w64 (p0.Num * p1.Den)) (w64 (p0.Den * p1.Num)) r12 hx13 S1) rfl (by decide) (fun u14 a w S => ?_)
    obtain rfl : u14 = .agg #[.int .i64 r12.1.Num, .int .i64 r12.1.Den] := S.mem.know (i := 0) (e := fRep r_api_Ratio (u14) r12.1) (by kernel_rfl)
    refine sExtract (vs := [.agg #[.int .i64 r12.1.Num, .int .i64 r12.1.Den], .int .i64 r12.2]) (.agg #[.int .i64 r12.1.Num, .int .i64 r12.1.Den]) S (wN rfl) rfl (by kernel_rfl) rfl rfl (by decide) (fun a S => ?_)
    refine sExtract (vs := [.agg #[.int .i64 r12.1.Num, .int .i64 r12.1.Den], .int .i64 r12.2]) (.int .i64 r12.2) S (wN rfl) rfl (by kernel_rfl) rfl rfl (by decide) (fun a S => ?_)
    refine sStore (p := b4) (off := 0) (T := 23) (vs := [.int .i64 0, .int .i64 0]) (v := .agg #[.int .i64 r12.1.Num, .int .i64 r12.1.Den]) 0 [.int .i64 r12.1.Num, .int .i64 r12.1.Den] S (wN rfl) rfl (by kernel_rfl) (by kernel_rfl) rfl (by kernel_rfl) (by kernel_rfl) rfl (by simp) rfl (fun a w S => ?_)
    refine sMove (.int .i64 r12.2) S (wN rfl) (.inr rfl) (by kernel_rfl) rfl (by decide) (fun a S => ?_)
    refine leafL (leafT (hK11 _ _ ?_))
    obtain rfl := Option.some.inj h
    exact wp_ret (sRet (.tuple #[.agg #[.int .i64 r12.1.Num, .int .i64 r12.1.Den], .int .i64 r12.2]) S (rsl2 rfl (rvN (c := 4) (t := 23) (T := 23) (p := b4) 0 [.int .i64 r12.1.Num, .int .i64 r12.1.Den] S (by kernel_rfl) (by kernel_rfl) (by kernel_rfl) (by kernel_rfl)) (rvT (t := 5) (v := .int .i64 r12.2) S (by kernel_rfl))) ⟨(.agg #[.int .i64 r12.1.Num, .int .i64 r12.1.Den]), rfl, S.mem.sel [] [0] (by decide) (by kernel_rfl) (by kernel_rfl)⟩)

end Go.Proofs.Ytdfjcpnflmgdoaa
namespace Go.Proofs.Ytdfjcpnflmgdoaa
open Go.RowKit
set_option linter.unusedVariables false

noncomputable def F_cmp_isNaN_int64_ (p0 : Int) : Option Bool :=
  some (p0 != p0)
set_option maxHeartbeats 4000000 in
set_option maxRecDepth 100000 in
theorem c_cmp_isNaN_int64_ (E : Nat → Prop) (w0 : World) (p0 : Int) (r : Bool) (h : F_cmp_isNaN_int64_ p0 = some r) (S : St0 E [] w0 w0 [] []) :
    Calls Try.prog 56 #[.int .i64 p0] w0 (Ret (X := Unit) E [] w0 (fun _ => .bool r) (fun _ => []) (fun _ => [])) := by
  unfold F_cmp_isNaN_int64_ at h
  refine sEnter (args := [.int .i64 p0]) 6 Try.func56 rfl rfl (by simp) S (fun a S => ?_)
  refine sSeq (fun K1 hK1 => ?_)
  refine sRegion ?_
  refine sMove (.bool false) S (wN rfl) (.inr rfl) (by kernel_rfl) rfl (by decide) (fun a S => ?_)
  refine leafL (leafT (hK1 _ _ ?_))
  refine sSeq (fun K2 hK2 => ?_)
  refine sRegion ?_
  refine sMove (.int .i64 p0) S (wN rfl) (.inl rfl) (by kernel_rfl) rfl (by decide) (fun a S => ?_)
  refine sMove (.int .i64 p0) S (wN rfl) (.inl rfl) (by kernel_rfl) rfl (by decide) (fun a S => ?_)
  refine sBin (.bool (p0 != p0)) S (wN rfl) rfl (by kernel_rfl) (by kernel_rfl) (bNe _ _ _ _ .i64 p0 p0) rfl (by decide) (fun a S => ?_)
  refine sMove (.bool (p0 != p0)) S (wN rfl) (.inr rfl) (by kernel_rfl) rfl (by decide) (fun a S => ?_)
  refine leafL (leafT (hK2 _ _ ?_))
  obtain rfl := Option.some.inj h
  exact wp_ret (sRet (.bool (p0 != p0)) S (rsl1 rfl (rvT (t := 2) (v := .bool (p0 != p0)) S (by kernel_rfl))) ⟨(), rfl, S.mem.sel [] [] (by decide) (by kernel_rfl) (by kernel_rfl)⟩)

end Go.Proofs.Ytdfjcpnflmgdoaa
namespace Go.Proofs.Ytdfjcpnflmgdoaa
open Go.RowKit
set_option linter.unusedVariables false

noncomputable def F_cmp_Compare_int64_ (p0 : Int) (p1 : Int) : Option Int :=
  Option.bind (F_cmp_isNaN_int64_ p0) fun r3 =>
  Option.bind (F_cmp_isNaN_int64_ p1) fun r6 =>
  if r3 then
    if r6 then
      some 0
    else
      some (-1)
  else
    if r6 then
      some 1
    else
      if decide (p0 < p1) then
        some (-1)
      else
        if decide (p1 < p0) then
          some 1
        else
          some 0
set_option maxHeartbeats 4000000 in
set_option maxRecDepth 100000 in
theorem c_cmp_Compare_int64_ (E : Nat → Prop) (w0 : World) (p0 : Int) (p1 : Int) (r : Int) (h : F_cmp_Compare_int64_ p0 p1 = some r) (S : St0 E [] w0 w0 [] []) :
    Calls Try.prog 44 #[.int .i64 p0, .int .i64 p1] w0 (Ret (X := Unit) E [] w0 (fun _ => .int .i64 r) (fun _ => []) (fun _ => [])) := by
  unfold F_cmp_Compare_int64_ at h
  refine sEnter (args := [.int .i64 p0, .int .i64 p1]) 20 Try.func44 rfl rfl (by simp) S (fun a S => ?_)
  refine sSeq (fun K1 hK1 => ?_)
  refine sRegion ?_
  refine sMove (.int .i64 0) S (wN rfl) (.inr rfl) (by kernel_rfl) rfl (by decide) (fun a S => ?_)
  refine leafL (leafT (hK1 _ _ ?_))
  refine sSeq (fun K2 hK2 => ?_)
  refine sRegion ?_
  refine sMove (.int .i64 p0) S (wN rfl) (.inl rfl) (by kernel_rfl) rfl (by decide) (fun a S => ?_)
  obtain ⟨r3, hx4, h⟩ := bindSome h
  have S1 := S.mem
  refine sCallQ (X := Unit) (f := 56) (vs := [.int .i64 p0]) (val := fun _ => .bool r3) S (wN rfl) rfl callee56 (by kernel_rfl) (S1.quiet [] (by kernel_rfl)) (fun E1 w1 S1 => c_cmp_isNaN_int64_ E1 w1 p0 r3 hx4 S1) rfl (by decide) (fun _ a w S => ?_)
  refine sMove (.bool r3) S (wN rfl) (.inr rfl) (by kernel_rfl) rfl (by decide) (fun a S => ?_)
  refine leafL (leafT (hK2 _ _ ?_))
  refine sSeq (fun K5 hK5 => ?_)
  refine sRegion ?_
  refine sMove (.int .i64 p1) S (wN rfl) (.inl rfl) (by kernel_rfl) rfl (by decide) (fun a S => ?_)
  obtain ⟨r6, hx7, h⟩ := bindSome h
  have S1 := S.mem
  refine sCallQ (X := Unit) (f := 56) (vs := [.int .i64 p1]) (val := fun _ => .bool r6) S (wN rfl) rfl callee56 (by kernel_rfl) (S1.quiet [] (by kernel_rfl)) (fun E1 w1 S1 => c_cmp_isNaN_int64_ E1 w1 p1 r6 hx7 S1) rfl (by decide) (fun _ a w S => ?_)
  refine sMove (.bool r6) S (wN rfl) (.inr rfl) (by kernel_rfl) rfl (by decide) (fun a S => ?_)
  refine leafL (leafT (hK5 _ _ ?_))
  refine sSeq (fun K8 hK8 => ?_)
  refine sSeq (fun K9 hK9 => ?_)
  refine sRegion ?_
  refine sMove (.bool r3) S (wN rfl) (.inl rfl) (by kernel_rfl) rfl (by decide) (fun a S => ?_)
  refine leafL (leafT (hK9 _ _ ?_))
  rcases iteSome h with ⟨hc10, h⟩ | ⟨hc10, h⟩
  · refine sCondT (b := r3) S (by kernel_rfl) hc10 ?_
    refine sSeq (fun K11 hK11 => ?_)
    refine sSeq (fun K12 hK12 => ?_)
    refine sRegion ?_
    refine sMove (.bool r6) S (wN rfl) (.inl rfl) (by kernel_rfl) rfl (by decide) (fun a S => ?_)
    refine leafL (leafT (hK12 _ _ ?_))
    rcases iteSome h with ⟨hc13, h⟩ | ⟨hc13, h⟩
    · refine sCondT (b := r6) S (by kernel_rfl) hc13 ?_
      refine sSeq (fun K14 hK14 => ?_)
      refine sRegion ?_
      refine sMove (.int .i64 0) S (wN rfl) (.inr rfl) (by kernel_rfl) rfl (by decide) (fun a S => ?_)
      refine leafL (leafT (hK14 _ _ ?_))
      obtain rfl := Option.some.inj h
      exact wp_ret (rThen (rThen (sRet (.int .i64 0) S (rsl1 rfl (rvT (t := 4) (v := .int .i64 0) S (by kernel_rfl))) ⟨(), rfl, S.mem.sel [] [] (by decide) (by kernel_rfl) (by kernel_rfl)⟩)))
    · refine sCondF (b := r6) S (by kernel_rfl) hc13 ?_
      refine wp_skip (leafT (hK11 _ _ ?_))
      refine sSeq (fun K15 hK15 => ?_)
      refine sRegion ?_
      refine sMove (.int .i64 (-1)) S (wN rfl) (.inr rfl) (by kernel_rfl) rfl (by decide) (fun a S => ?_)
      refine leafL (leafT (hK15 _ _ ?_))
      obtain rfl := Option.some.inj h
      exact wp_ret (rThen (sRet (.int .i64 (-1)) S (rsl1 rfl (rvT (t := 4) (v := .int .i64 (-1)) S (by kernel_rfl))) ⟨(), rfl, S.mem.sel [] [] (by decide) (by kernel_rfl) (by kernel_rfl)⟩))
  · refine sCondF (b := r3) S (by kernel_rfl) hc10 ?_
    refine wp_skip (leafT (hK8 _ _ ?_))
    refine sSeq (fun K16 hK16 => ?_)
    refine sSeq (fun K17 hK17 => ?_)
    refine sRegion ?_
    refine sMove (.bool r6) S (wN rfl) (.inl rfl) (by kernel_rfl) rfl (by decide) (fun a S => ?_)
    refine leafL (leafT (hK17 _ _ ?_))
    rcases iteSome h with ⟨hc18, h⟩ | ⟨hc18, h⟩
    · refine sCondT (b := r6) S (by kernel_rfl) hc18 ?_
      refine sSeq (fun K19 hK19 => ?_)
      refine sRegion ?_
      refine sMove (.int .i64 1) S (wN rfl) (.inr rfl) (by kernel_rfl) rfl (by decide) (fun a S => ?_)
      refine leafL (leafT (hK19 _ _ ?_))
      obtain rfl := Option.some.inj h
      exact wp_ret (rThen (sRet (.int .i64 1) S (rsl1 rfl (rvT (t := 4) (v := .int .i64 1) S (by kernel_rfl))) ⟨(), rfl, S.mem.sel [] [] (by decide) (by kernel_rfl) (by kernel_rfl)⟩))
    · refine sCondF (b := r6) S (by kernel_rfl) hc18 ?_
      refine wp_skip (leafT (hK16 _ _ ?_))
      refine sSeq (fun K20 hK20 => ?_)
      refine sSeq (fun K21 hK21 => ?_)
      refine sRegion ?_
      refine sMove (.int .i64 p0) S (wN rfl) (.inl rfl) (by kernel_rfl) rfl (by decide) (fun a S => ?_)
      refine sMove (.int .i64 p1) S (wN rfl) (.inl rfl) (by kernel_rfl) rfl (by decide) (fun a S => ?_)
      refine sBin (.bool (decide (p0 < p1))) S (wN rfl) rfl (by kernel_rfl) (by kernel_rfl) (bLt _ _ _ _ .i64 p0 p1) rfl (by decide) (fun a S => ?_)
      refine leafL (leafT (hK21 _ _ ?_))
      rcases iteSome h with ⟨hc22, h⟩ | ⟨hc22, h⟩
      · refine sCondT (b := decide (p0 < p1)) S (by kernel_rfl) hc22 ?_
        refine sSeq (fun K23 hK23 => ?_)
        refine sRegion ?_
        refine sMove (.int .i64 (-1)) S (wN rfl) (.inr rfl) (by kernel_rfl) rfl (by decide) (fun a S => ?_)
        refine leafL (leafT (hK23 _ _ ?_))
        obtain rfl := Option.some.inj h
        exact wp_ret (rThen (sRet (.int .i64 (-1)) S (rsl1 rfl (rvT (t := 4) (v := .int .i64 (-1)) S (by kernel_rfl))) ⟨(), rfl, S.mem.sel [] [] (by decide) (by kernel_rfl) (by kernel_rfl)⟩))
      · refine sCondF (b := decide (p0 < p1)) S (by kernel_rfl) hc22 ?_
        refine wp_skip (leafT (hK20 _ _ ?_))
        refine sSeq (fun K24 hK24 => ?_)
        refine sSeq (fun K25 hK25 => ?_)
        refine sRegion ?_
        refine sMove (.int .i64 p0) S (wN rfl) (.inl rfl) (by kernel_rfl) rfl (by decide) (fun a S => ?_)
        refine sMove (.int .i64 p1) S (wN rfl) (.inl rfl) (by kernel_rfl) rfl (by decide) (fun a S => ?_)
        refine sBin (.bool (decide (p1 < p0))) S (wN rfl) rfl (by kernel_rfl) (by kernel_rfl) (bGt _ _ _ _ .i64 p0 p1) rfl (by decide) (fun a S => ?_)
        refine leafL (leafT (hK25 _ _ ?_))
        rcases iteSome h with ⟨hc26, h⟩ | ⟨hc26, h⟩
        · refine sCondT (b := decide (p1 < p0)) S (by kernel_rfl) hc26 ?_
          refine sSeq (fun K27 hK27 => ?_)
          refine sRegion ?_
          refine sMove (.int .i64 1) S (wN rfl) (.inr rfl) (by kernel_rfl) rfl (by decide) (fun a S => ?_)
          refine leafL (leafT (hK27 _ _ ?_))
          obtain rfl := Option.some.inj h
          exact wp_ret (rThen (sRet (.int .i64 1) S (rsl1 rfl (rvT (t := 4) (v := .int .i64 1) S (by kernel_rfl))) ⟨(), rfl, S.mem.sel [] [] (by decide) (by kernel_rfl) (by kernel_rfl)⟩))
        · refine sCondF (b := decide (p1 < p0)) S (by kernel_rfl) hc26 ?_
          refine wp_skip (leafT (hK24 _ _ ?_))
          refine sSeq (fun K28 hK28 => ?_)
          refine sRegion ?_
          refine sMove (.int .i64 0) S (wN rfl) (.inr rfl) (by kernel_rfl) rfl (by decide) (fun a S => ?_)
          refine leafL (leafT (hK28 _ _ ?_))
          obtain rfl := Option.some.inj h
          exact wp_ret (sRet (.int .i64 0) S (rsl1 rfl (rvT (t := 4) (v := .int .i64 0) S (by kernel_rfl))) ⟨(), rfl, S.mem.sel [] [] (by decide) (by kernel_rfl) (by kernel_rfl)⟩)

end Go.Proofs.Ytdfjcpnflmgdoaa
namespace Go.Proofs.Ytdfjcpnflmgdoaa
open Go.RowKit
set_option linter.unusedVariables false

noncomputable def F_yarn_Cmp (p0 : api_Ratio) (p1 : api_Ratio) : Option (Int × Int) :=
  Option.bind (F_yarn_with p0 p1) fun r6 =>
  if r6.e != 0 then
    some (0, r6.e)
  else
    Option.bind (F_cmp_Compare_int64_ (w64 (p0.Num * p1.Den)) (w64 (p1.Num * p0.Den))) fun r14 =>
    some (r14, 0)
set_option maxHeartbeats 4000000 in
set_option maxRecDepth 100000 in
theorem c_yarn_Cmp (E : Nat → Prop) (w0 : World) (p0 : api_Ratio) (v0 : Value) (p1 : api_Ratio) (v1 : Value) (r : (Int × Int)) (h : F_yarn_Cmp p0 p1 = some r) (S : St0 E [] w0 w0 [] [fRep r_api_Ratio (v0) p0, fRep r_api_Ratio (v1) p1]) :
    Calls Try.prog 16 #[v0, v1] w0 (Ret (X := Unit) E [] w0 (fun _ => .tuple #[.int .i64 r.1, .int .i64 r.2]) (fun _ => []) (fun _ => [])) := by
  unfold F_yarn_Cmp at h
  obtain rfl : v0 = .agg #[.int .i64 p0.Num, .int .i64 p0.Den] := S.know (i := 0) (e := fRep r_api_Ratio (v0) p0) (by kernel_rfl)
  obtain rfl : v1 = .agg #[.int .i64 p1.Num, .int .i64 p1.Den] := S.know (i := 1) (e := fRep r_api_Ratio (v1) p1) (by kernel_rfl)
  refine sEnter (args := [.agg #[.int .i64 p0.Num, .int .i64 p0.Den], .agg #[.int .i64 p1.Num, .int .i64 p1.Den]]) 26 Try.func16 rfl rfl (by simp) S (fun a S => ?_)
  refine sSeq (fun K1 hK1 => ?_)
  refine sRegion ?_
  refine sBox (v := .agg #[.int .i64 p0.Num, .int .i64 p0.Den]) S (wN rfl) rfl (by kernel_rfl) [.int .i64 p0.Num, .int .i64 p0.Den] rfl rfl (by decide) (fun a b2 w S => ?_)
  refine sBox (v := .agg #[.int .i64 p1.Num, .int .i64 p1.Den]) S (wN rfl) rfl (by kernel_rfl) [.int .i64 p1.Num, .int .i64 p1.Den] rfl rfl (by decide) (fun a b3 w S => ?_)
  refine sMove (.int .i64 0) S (wN rfl) (.inr rfl) (by kernel_rfl) rfl (by decide) (fun a S => ?_)
  refine sMove (.int .i64 0) S (wN rfl) (.inr rfl) (by kernel_rfl) rfl (by decide) (fun a S => ?_)
  refine leafL (leafT (hK1 _ _ ?_))
  refine sSeq (fun K4 hK4 => ?_)
  refine sSeq (fun K5 hK5 => ?_)
  refine sRegion ?_
  refine sLoadN (p := b2) (off := 0) (T := 23) (vs := [.int .i64 p0.Num, .int .i64 p0.Den]) 1 [.int .i64 p0.Num, .int .i64 p0.Den] S (wN rfl) rfl (by kernel_rfl) (by kernel_rfl) (by kernel_rfl) (by kernel_rfl) rfl rfl (by decide) (fun a S => ?_)
  refine sLoadN (p := b3) (off := 0) (T := 23) (vs := [.int .i64 p1.Num, .int .i64 p1.Den]) 0 [.int .i64 p1.Num, .int .i64 p1.Den] S (wN rfl) rfl (by kernel_rfl) (by kernel_rfl) (by kernel_rfl) (by kernel_rfl) rfl rfl (by decide) (fun a S => ?_)
  obtain ⟨r6, hx7, h⟩ := bindSome h
  refine sCall (X := Value) (f := 43) (vs := [.agg #[.int .i64 p0.Num, .int .i64 p0.Den], .agg #[.int .i64 p1.Num, .int .i64 p1.Den]]) (val := c_yarn_with_val r6) (B' := fun _ => []) (D' := c_yarn_with_D r6) [] [eBox b3 23 [.int .i64 p1.Num, .int .i64 p1.Den], eBox b2 23 [.int .i64 p0.Num, .int .i64 p0.Den]] [fRep r_api_Ratio (.agg #[.int .i64 p0.Num, .int .i64 p0.Den]) p0, fRep r_api_Ratio (.agg #[.int .i64 p1.Num, .int .i64 p1.Den]) p1] [0, 1] [0, 1] S (wN rfl) rfl callee43 (by kernel_rfl) (by decide) (by kernel_rfl) (by kernel_rfl) (fun E1 w1 S1 => c_yarn_with E1 w1 p0 (.agg #[.int .i64 p0.Num, .int .i64 p0.Den]) p1 (.agg #[.int .i64 p1.Num, .int .i64 p1.Den]) r6 hx7 S1) rfl (by decide) (fun u8 a w S => ?_)
  obtain rfl : u8 = .agg #[.int .i64 r6.a.Num, .int .i64 r6.a.Den, .int .i64 r6.b.Num, .int .i64 r6.b.Den, .int .i64 r6.out.Num, .int .i64 r6.out.Den, .int .i64 r6.e] := S.mem.know (i := 0) (e := fRep r_yarn_calc (u8) r6) (by kernel_rfl)
  refine sAlloc (.agg #[.int .i64 0, .int .i64 0, .int .i64 0, .int .i64 0, .int .i64 0, .int .i64 0, .int .i64 0]) S (wN rfl) rfl (by kernel_rfl) [.int .i64 0, .int .i64 0, .int .i64 0, .int .i64 0, .int .i64 0, .int .i64 0, .int .i64 0] rfl rfl (by decide) (fun a b9 w S => ?_)
  refine sStore (p := b9) (off := 0) (T := 65) (vs := [.int .i64 0, .int .i64 0, .int .i64 0, .int .i64 0, .int .i64 0, .int .i64 0, .int .i64 0]) (v := .agg #[.int .i64 r6.a.Num, .int .i64 r6.a.Den, .int .i64 r6.b.Num, .int .i64 r6.b.Den, .int .i64 r6.out.Num, .int .i64 r6.out.Den, .int .i64 r6.e]) 0 [.int .i64 r6.a.Num, .int .i64 r6.a.Den, .int .i64 r6.b.Num, .int .i64 r6.b.Den, .int .i64 r6.out.Num, .int .i64 r6.out.Den, .int .i64 r6.e] S (wN rfl) rfl (by kernel_rfl) (by kernel_rfl) rfl (by kernel_rfl) (by kernel_rfl) rfl (by simp) rfl (fun a w S => ?_)
  refine leafL (leafT (hK5 _ _ ?_))
  refine sSeq (fun K10 hK10 => ?_)
  refine sRegion ?_
  refine sField (b := b9) (off := 0) 6 6 S (wN rfl) rfl (by kernel_rfl) (by kernel_rfl) rfl rfl (by decide) (fun a S => ?_)
  refine sLoad1 (p := b9) (off := 6) (T := 65) (vs := [.int .i64 r6.a.Num, .int .i64 r6.a.Den, .int .i64 r6.b.Num, .int .i64 r6.b.Den, .int .i64 r6.out.Num, .int .i64 r6.out.Den, .int .i64 r6.e]) 0 (.int .i64 r6.e) S (wN rfl) rfl (by kernel_rfl) (by kernel_rfl) (by kernel_rfl) rfl rfl (by decide) (fun a S => ?_)
  refine sBin (.bool (r6.e != 0)) S (wN rfl) rfl (by kernel_rfl) (by kernel_rfl) (bNe _ _ _ _ .i64 r6.e 0) rfl (by decide) (fun a S => ?_)
  refine leafL (leafT (hK10 _ _ ?_))
  rcases iteSome h with ⟨hc11, h⟩ | ⟨hc11, h⟩
  · refine sCondT (b := r6.e != 0) S (by kernel_rfl) hc11 ?_
    refine sSeq (fun K12 hK12 => ?_)
    refine sDraw (nf := []) (W := [(0, 13, .pointer (some ⟨b9, 6, none⟩)), (1, 14, .int .i64 r6.e), (2, 4, .int .i64 0), (3, 5, .int .i64 r6.e)]) (by kernel_rfl) S ?_
    refine node_by (A := [[], [0], [], [0, 1, 2]]) (nf := []) (Y := []) (W := [(0, 13, .pointer (some ⟨b9, 6, none⟩)), (1, 14, .int .i64 r6.e), (2, 4, .int .i64 0), (3, 5, .int .i64 r6.e)]) 4 (by kernel_rfl) (by kernel_rfl) (by kernel_rfl) (by kernel_rfl) (by kernel_rfl) [0, 1, 2, 3] (by kernel_rfl) (by decide) (by decide) (aF 0 3 (by decide) ?_ (aF 1 2 (by decide) ?_ (aF 2 1 (by decide) ?_ (aF 3 0 (by decide) ?_ (trivial))))) [(4, .int .i64 0), (5, .int .i64 r6.e)] (fin_of [some 2, some 3] rfl (by kernel_rfl) (by kernel_rfl)) (fun _ a w S => ?_)
    · refine fI 13 (.pointer (some ⟨b9, 6, none⟩)) [(6, .pointer (some ⟨b9, 0, none⟩))] 0 [none] rfl rfl (by kernel_rfl) rfl (by kernel_rfl) (by kernel_rfl) fun G a w S => ?_
      refine sField (b := b9) (off := 0) 6 6 S (wN rfl) rfl (by kernel_rfl) (by kernel_rfl) rfl rfl (by decide) (fun a S => ?_)
      exact leafL ⟨rfl, S⟩
    · refine fI 14 (.int .i64 r6.e) [(13, .pointer (some ⟨b9, 6, none⟩))] 1 [some 0] rfl rfl (by kernel_rfl) rfl (by kernel_rfl) (by kernel_rfl) fun G a w S => ?_
      refine sLoad1 (p := b9) (off := 6) (T := 65) (vs := [.int .i64 r6.a.Num, .int .i64 r6.a.Den, .int .i64 r6.b.Num, .int .i64 r6.b.Den, .int .i64 r6.out.Num, .int .i64 r6.out.Den, .int .i64 r6.e]) 0 (.int .i64 r6.e) S (wN rfl) rfl (by kernel_rfl) (by kernel_rfl) (by kernel_rfl) rfl rfl (by decide) (fun a S => ?_)
      exact leafL ⟨rfl, S⟩
    · refine fI 4 (.int .i64 0) [] 2 [] rfl rfl (by kernel_rfl) rfl (by kernel_rfl) (by kernel_rfl) fun G a w S => ?_
      refine sMove (.int .i64 0) S (wN rfl) (.inr rfl) (by kernel_rfl) rfl (by decide) (fun a S => ?_)
      exact leafL ⟨rfl, S⟩
    · refine fI 5 (.int .i64 r6.e) [(14, .int .i64 r6.e)] 3 [some 1] rfl rfl (by kernel_rfl) rfl (by kernel_rfl) (by kernel_rfl) fun G a w S => ?_
      refine sMove (.int .i64 r6.e) S (wN rfl) (.inr rfl) (by kernel_rfl) rfl (by decide) (fun a S => ?_)
      exact leafL ⟨rfl, S⟩
    · refine leafT (hK12 _ _ ?_)
      obtain rfl := Option.some.inj h
      exact wp_ret (rThen (sRet (.tuple #[.int .i64 0, .int .i64 r6.e]) S (rsl2 rfl (rvT (t := 4) (v := .int .i64 0) S (by kernel_rfl)) (rvT (t := 5) (v := .int .i64 r6.e) S (by kernel_rfl))) ⟨(), rfl, S.mem.sel [] [] (by decide) (by kernel_rfl) (by kernel_rfl)⟩))
  · refine sCondF (b := r6.e != 0) S (by kernel_rfl) hc11 ?_
    refine wp_skip (leafT (hK4 _ _ ?_))
    refine sSeq (fun K13 hK13 => ?_)
    refine sRegion ?_
    refine sField (b := b2) (off := 0) 0 0 S (wN rfl) rfl (by kernel_rfl) (by kernel_rfl) rfl rfl (by decide) (fun a S => ?_)
    refine sLoad1 (p := b2) (off := 0) (T := 23) (vs := [.int .i64 p0.Num, .int .i64 p0.Den]) 2 (.int .i64 p0.Num) S (wN rfl) rfl (by kernel_rfl) (by kernel_rfl) (by kernel_rfl) rfl rfl (by decide) (fun a S => ?_)
    refine sField (b := b3) (off := 0) 1 1 S (wN rfl) rfl (by kernel_rfl) (by kernel_rfl) rfl rfl (by decide) (fun a S => ?_)
    refine sLoad1 (p := b3) (off := 1) (T := 23) (vs := [.int .i64 p1.Num, .int .i64 p1.Den]) 1 (.int .i64 p1.Den) S (wN rfl) rfl (by kernel_rfl) (by kernel_rfl) (by kernel_rfl) rfl rfl (by decide) (fun a S => ?_)
    refine sBin (.int .i64 (w64 (p0.Num * p1.Den))) S (wN rfl) rfl (by kernel_rfl) (by kernel_rfl) (bMul _ _ _ _ p0.Num p1.Den) rfl (by decide) (fun a S => ?_)
    refine sField (b := b3) (off := 0) 0 0 S (wN rfl) rfl (by kernel_rfl) (by kernel_rfl) rfl rfl (by decide) (fun a S => ?_)
    refine sLoad1 (p := b3) (off := 0) (T := 23) (vs := [.int .i64 p1.Num, .int .i64 p1.Den]) 1 (.int .i64 p1.Num) S (wN rfl) rfl (by kernel_rfl) (by kernel_rfl) (by kernel_rfl) rfl rfl (by decide) (fun a S => ?_)
    refine sField (b := b2) (off := 0) 1 1 S (wN rfl) rfl (by kernel_rfl) (by kernel_rfl) rfl rfl (by decide) (fun a S => ?_)
    refine sLoad1 (p := b2) (off := 1) (T := 23) (vs := [.int .i64 p0.Num, .int .i64 p0.Den]) 2 (.int .i64 p0.Den) S (wN rfl) rfl (by kernel_rfl) (by kernel_rfl) (by kernel_rfl) rfl rfl (by decide) (fun a S => ?_)
    refine sBin (.int .i64 (w64 (p1.Num * p0.Den))) S (wN rfl) rfl (by kernel_rfl) (by kernel_rfl) (bMul _ _ _ _ p1.Num p0.Den) rfl (by decide) (fun a S => ?_)
    obtain ⟨r14, hx15, h⟩ := bindSome h
    have S1 := S.mem
    refine sCallQ (X := Unit) (f := 44) (vs := [.int .i64 (w64 (p0.Num * p1.Den)), .int .i64 (w64 (p1.Num * p0.Den))]) (val := fun _ => .int .i64 r14) S (wN rfl) rfl callee44 (by kernel_rfl) (S1.quiet [] (by kernel_rfl)) (fun E1 w1 S1 => c_cmp_Compare_int64_ E1 w1 (w64 (p0.Num * p1.Den)) (w64 (p1.Num * p0.Den)) r14 hx15 S1) rfl (by decide) (fun _ a w S => ?_)
    refine sMove (.int .i64 r14) S (wN rfl) (.inr rfl) (by kernel_rfl) rfl (by decide) (fun a S => ?_)
    refine sMove (.int .i64 0) S (wN rfl) (.inr rfl) (by kernel_rfl) rfl (by decide) (fun a S => ?_)
    refine leafL (leafT (hK13 _ _ ?_))
    obtain rfl := Option.some.inj h
    exact wp_ret (sRet (.tuple #[.int .i64 r14, .int .i64 0]) S (rsl2 rfl (rvT (t := 4) (v := .int .i64 r14) S (by kernel_rfl)) (rvT (t := 5) (v := .int .i64 0) S (by kernel_rfl))) ⟨(), rfl, S.mem.sel [] [] (by decide) (by kernel_rfl) (by kernel_rfl)⟩)

end Go.Proofs.Ytdfjcpnflmgdoaa
namespace Go.Proofs.Ytdfjcpnflmgdoaa
open Go.RowKit
set_option linter.unusedVariables false

noncomputable def F_raddleref23_Cmp (p0 : api_Ratio) (p1 : api_Ratio) : Option (Int × Int) :=
  Option.bind (F_raddleref23_Both p0 p1) fun r6 =>
  if r6 != 0 then
    some (0, r6)
  else
    if decide ((w64 (p0.Num * p1.Den)) < (w64 (p1.Num * p0.Den))) then
      some ((-1), 0)
    else
      if decide ((w64 (p1.Num * p0.Den)) < (w64 (p0.Num * p1.Den))) then
        some (1, 0)
      else
        some (0, 0)
set_option maxHeartbeats 4000000 in
set_option maxRecDepth 100000 in
theorem c_raddleref23_Cmp (E : Nat → Prop) (w0 : World) (p0 : api_Ratio) (v0 : Value) (p1 : api_Ratio) (v1 : Value) (r : (Int × Int)) (h : F_raddleref23_Cmp p0 p1 = some r) (S : St0 E [] w0 w0 [] [fRep r_api_Ratio (v0) p0, fRep r_api_Ratio (v1) p1]) :
    Calls Try.prog 17 #[v0, v1] w0 (Ret (X := Unit) E [] w0 (fun _ => .tuple #[.int .i64 r.1, .int .i64 r.2]) (fun _ => []) (fun _ => [])) := by
  unfold F_raddleref23_Cmp at h
  obtain rfl : v0 = .agg #[.int .i64 p0.Num, .int .i64 p0.Den] := S.know (i := 0) (e := fRep r_api_Ratio (v0) p0) (by kernel_rfl)
  obtain rfl : v1 = .agg #[.int .i64 p1.Num, .int .i64 p1.Den] := S.know (i := 1) (e := fRep r_api_Ratio (v1) p1) (by kernel_rfl)
  refine sEnter (args := [.agg #[.int .i64 p0.Num, .int .i64 p0.Den], .agg #[.int .i64 p1.Num, .int .i64 p1.Den]]) 35 Try.func17 rfl rfl (by simp) S (fun a S => ?_)
  refine sSeq (fun K1 hK1 => ?_)
  refine sRegion ?_
  refine sBox (v := .agg #[.int .i64 p0.Num, .int .i64 p0.Den]) S (wN rfl) rfl (by kernel_rfl) [.int .i64 p0.Num, .int .i64 p0.Den] rfl rfl (by decide) (fun a b2 w S => ?_)
  refine sBox (v := .agg #[.int .i64 p1.Num, .int .i64 p1.Den]) S (wN rfl) rfl (by kernel_rfl) [.int .i64 p1.Num, .int .i64 p1.Den] rfl rfl (by decide) (fun a b3 w S => ?_)
  refine sMove (.int .i64 0) S (wN rfl) (.inr rfl) (by kernel_rfl) rfl (by decide) (fun a S => ?_)
  refine sMove (.int .i64 0) S (wN rfl) (.inr rfl) (by kernel_rfl) rfl (by decide) (fun a S => ?_)
  refine leafL (leafT (hK1 _ _ ?_))
  refine sSeq (fun K4 hK4 => ?_)
  refine sSeq (fun K5 hK5 => ?_)
  refine sRegion ?_
  refine sLoadN (p := b2) (off := 0) (T := 23) (vs := [.int .i64 p0.Num, .int .i64 p0.Den]) 1 [.int .i64 p0.Num, .int .i64 p0.Den] S (wN rfl) rfl (by kernel_rfl) (by kernel_rfl) (by kernel_rfl) (by kernel_rfl) rfl rfl (by decide) (fun a S => ?_)
  refine sLoadN (p := b3) (off := 0) (T := 23) (vs := [.int .i64 p1.Num, .int .i64 p1.Den]) 0 [.int .i64 p1.Num, .int .i64 p1.Den] S (wN rfl) rfl (by kernel_rfl) (by kernel_rfl) (by kernel_rfl) (by kernel_rfl) rfl rfl (by decide) (fun a S => ?_)
  obtain ⟨r6, hx7, h⟩ := bindSome h
  have S1 := S.mem
  refine sCallQ (X := Unit) (f := 35) (vs := [.agg #[.int .i64 p0.Num, .int .i64 p0.Den], .agg #[.int .i64 p1.Num, .int .i64 p1.Den]]) (val := fun _ => .int .i64 r6) S (wN rfl) rfl callee35 (by kernel_rfl) (S1.quiet [0, 1] (by kernel_rfl)) (fun E1 w1 S1 => c_raddleref23_Both E1 w1 p0 (.agg #[.int .i64 p0.Num, .int .i64 p0.Den]) p1 (.agg #[.int .i64 p1.Num, .int .i64 p1.Den]) r6 hx7 S1) rfl (by decide) (fun _ a w S => ?_)
  refine sBin (.bool (r6 != 0)) S (wN rfl) rfl (by kernel_rfl) (by kernel_rfl) (bNe _ _ _ _ .i64 r6 0) rfl (by decide) (fun a S => ?_)
  refine leafL (leafT (hK5 _ _ ?_))
  rcases iteSome h with ⟨hc8, h⟩ | ⟨hc8, h⟩
  · refine sCondT (b := r6 != 0) S (by kernel_rfl) hc8 ?_
    refine sSeq (fun K9 hK9 => ?_)
    refine sRegion ?_
    refine sLoadN (p := b2) (off := 0) (T := 23) (vs := [.int .i64 p0.Num, .int .i64 p0.Den]) 1 [.int .i64 p0.Num, .int .i64 p0.Den] S (wN rfl) rfl (by kernel_rfl) (by kernel_rfl) (by kernel_rfl) (by kernel_rfl) rfl rfl (by decide) (fun a S => ?_)
    refine sLoadN (p := b3) (off := 0) (T := 23) (vs := [.int .i64 p1.Num, .int .i64 p1.Den]) 0 [.int .i64 p1.Num, .int .i64 p1.Den] S (wN rfl) rfl (by kernel_rfl) (by kernel_rfl) (by kernel_rfl) (by kernel_rfl) rfl rfl (by decide) (fun a S => ?_)
    have S1 := S.mem
    refine sCallQ (X := Unit) (f := 35) (vs := [.agg #[.int .i64 p0.Num, .int .i64 p0.Den], .agg #[.int .i64 p1.Num, .int .i64 p1.Den]]) (val := fun _ => .int .i64 r6) S (wN rfl) rfl callee35 (by kernel_rfl) (S1.quiet [0, 1] (by kernel_rfl)) (fun E1 w1 S1 => c_raddleref23_Both E1 w1 p0 (.agg #[.int .i64 p0.Num, .int .i64 p0.Den]) p1 (.agg #[.int .i64 p1.Num, .int .i64 p1.Den]) r6 hx7 S1) rfl (by decide) (fun _ a w S => ?_)
    refine sMove (.int .i64 0) S (wN rfl) (.inr rfl) (by kernel_rfl) rfl (by decide) (fun a S => ?_)
    refine sMove (.int .i64 r6) S (wN rfl) (.inr rfl) (by kernel_rfl) rfl (by decide) (fun a S => ?_)
    refine leafL (leafT (hK9 _ _ ?_))
    obtain rfl := Option.some.inj h
    exact wp_ret (rThen (sRet (.tuple #[.int .i64 0, .int .i64 r6]) S (rsl2 rfl (rvT (t := 4) (v := .int .i64 0) S (by kernel_rfl)) (rvT (t := 5) (v := .int .i64 r6) S (by kernel_rfl))) ⟨(), rfl, S.mem.sel [] [] (by decide) (by kernel_rfl) (by kernel_rfl)⟩))
  · refine sCondF (b := r6 != 0) S (by kernel_rfl) hc8 ?_
    refine wp_skip (leafT (hK4 _ _ ?_))
    refine sSeq (fun K10 hK10 => ?_)
    refine sSeq (fun K11 hK11 => ?_)
    refine sRegion ?_
    refine sField (b := b2) (off := 0) 0 0 S (wN rfl) rfl (by kernel_rfl) (by kernel_rfl) rfl rfl (by decide) (fun a S => ?_)
    refine sLoad1 (p := b2) (off := 0) (T := 23) (vs := [.int .i64 p0.Num, .int .i64 p0.Den]) 1 (.int .i64 p0.Num) S (wN rfl) rfl (by kernel_rfl) (by kernel_rfl) (by kernel_rfl) rfl rfl (by decide) (fun a S => ?_)
    refine sField (b := b3) (off := 0) 1 1 S (wN rfl) rfl (by kernel_rfl) (by kernel_rfl) rfl rfl (by decide) (fun a S => ?_)
    refine sLoad1 (p := b3) (off := 1) (T := 23) (vs := [.int .i64 p1.Num, .int .i64 p1.Den]) 0 (.int .i64 p1.Den) S (wN rfl) rfl (by kernel_rfl) (by kernel_rfl) (by kernel_rfl) rfl rfl (by decide) (fun a S => ?_)
    refine sBin (.int .i64 (w64 (p0.Num * p1.Den))) S (wN rfl) rfl (by kernel_rfl) (by kernel_rfl) (bMul _ _ _ _ p0.Num p1.Den) rfl (by decide) (fun a S => ?_)
    refine sField (b := b3) (off := 0) 0 0 S (wN rfl) rfl (by kernel_rfl) (by kernel_rfl) rfl rfl (by decide) (fun a S => ?_)
    refine sLoad1 (p := b3) (off := 0) (T := 23) (vs := [.int .i64 p1.Num, .int .i64 p1.Den]) 0 (.int .i64 p1.Num) S (wN rfl) rfl (by kernel_rfl) (by kernel_rfl) (by kernel_rfl) rfl rfl (by decide) (fun a S => ?_)
    refine sField (b := b2) (off := 0) 1 1 S (wN rfl) rfl (by kernel_rfl) (by kernel_rfl) rfl rfl (by decide) (fun a S => ?_)
    refine sLoad1 (p := b2) (off := 1) (T := 23) (vs := [.int .i64 p0.Num, .int .i64 p0.Den]) 1 (.int .i64 p0.Den) S (wN rfl) rfl (by kernel_rfl) (by kernel_rfl) (by kernel_rfl) rfl rfl (by decide) (fun a S => ?_)
    refine sBin (.int .i64 (w64 (p1.Num * p0.Den))) S (wN rfl) rfl (by kernel_rfl) (by kernel_rfl) (bMul _ _ _ _ p1.Num p0.Den) rfl (by decide) (fun a S => ?_)
    refine sBin (.bool (decide ((w64 (p0.Num * p1.Den)) < (w64 (p1.Num * p0.Den))))) S (wN rfl) rfl (by kernel_rfl) (by kernel_rfl) (bLt _ _ _ _ .i64 (w64 (p0.Num * p1.Den)) (w64 (p1.Num * p0.Den))) rfl (by decide) (fun a S => ?_)
    refine leafL (leafT (hK11 _ _ ?_))
    rcases iteSome h with ⟨hc12, h⟩ | ⟨hc12, h⟩
    · refine sCondT (b := decide ((w64 (p0.Num * p1.Den)) < (w64 (p1.Num * p0.Den)))) S (by kernel_rfl) hc12 ?_
      refine sSeq (fun K13 hK13 => ?_)
      refine sRegion ?_
      refine sMove (.int .i64 (-1)) S (wN rfl) (.inr rfl) (by kernel_rfl) rfl (by decide) (fun a S => ?_)
      refine sMove (.int .i64 0) S (wN rfl) (.inr rfl) (by kernel_rfl) rfl (by decide) (fun a S => ?_)
      refine leafL (leafT (hK13 _ _ ?_))
      obtain rfl := Option.some.inj h
      exact wp_ret (rThen (sRet (.tuple #[.int .i64 (-1), .int .i64 0]) S (rsl2 rfl (rvT (t := 4) (v := .int .i64 (-1)) S (by kernel_rfl)) (rvT (t := 5) (v := .int .i64 0) S (by kernel_rfl))) ⟨(), rfl, S.mem.sel [] [] (by decide) (by kernel_rfl) (by kernel_rfl)⟩))
    · refine sCondF (b := decide ((w64 (p0.Num * p1.Den)) < (w64 (p1.Num * p0.Den)))) S (by kernel_rfl) hc12 ?_
      refine wp_skip (leafT (hK10 _ _ ?_))
      refine sSeq (fun K14 hK14 => ?_)
      refine sSeq (fun K15 hK15 => ?_)
      refine sRegion ?_
      refine sField (b := b2) (off := 0) 0 0 S (wN rfl) rfl (by kernel_rfl) (by kernel_rfl) rfl rfl (by decide) (fun a S => ?_)
      refine sLoad1 (p := b2) (off := 0) (T := 23) (vs := [.int .i64 p0.Num, .int .i64 p0.Den]) 1 (.int .i64 p0.Num) S (wN rfl) rfl (by kernel_rfl) (by kernel_rfl) (by kernel_rfl) rfl rfl (by decide) (fun a S => ?_)
      refine sField (b := b3) (off := 0) 1 1 S (wN rfl) rfl (by kernel_rfl) (by kernel_rfl) rfl rfl (by decide) (fun a S => ?_)
      refine sLoad1 (p := b3) (off := 1) (T := 23) (vs := [.int .i64 p1.Num, .int .i64 p1.Den]) 0 (.int .i64 p1.Den) S (wN rfl) rfl (by kernel_rfl) (by kernel_rfl) (by kernel_rfl) rfl rfl (by decide) (fun a S => ?_)
      refine sBin (.int .i64 (w64 (p0.Num * p1.Den))) S (wN rfl) rfl (by kernel_rfl) (by kernel_rfl) (bMul _ _ _ _ p0.Num p1.Den) rfl (by decide) (fun a S => ?_)
      refine sField (b := b3) (off := 0) 0 0 S (wN rfl) rfl (by kernel_rfl) (by kernel_rfl) rfl rfl (by decide) (fun a S => ?_)
      refine sLoad1 (p := b3) (off := 0) (T := 23) (vs := [.int .i64 p1.Num, .int .i64 p1.Den]) 0 (.int .i64 p1.Num) S (wN rfl) rfl (by kernel_rfl) (by kernel_rfl) (by kernel_rfl) rfl rfl (by decide) (fun a S => ?_)
      refine sField (b := b2) (off := 0) 1 1 S (wN rfl) rfl (by kernel_rfl) (by kernel_rfl) rfl rfl (by decide) (fun a S => ?_)
      refine sLoad1 (p := b2) (off := 1) (T := 23) (vs := [.int .i64 p0.Num, .int .i64 p0.Den]) 1 (.int .i64 p0.Den) S (wN rfl) rfl (by kernel_rfl) (by kernel_rfl) (by kernel_rfl) rfl rfl (by decide) (fun a S => ?_)
      refine sBin (.int .i64 (w64 (p1.Num * p0.Den))) S (wN rfl) rfl (by kernel_rfl) (by kernel_rfl) (bMul _ _ _ _ p1.Num p0.Den) rfl (by decide) (fun a S => ?_)
      refine sBin (.bool (decide ((w64 (p1.Num * p0.Den)) < (w64 (p0.Num * p1.Den))))) S (wN rfl) rfl (by kernel_rfl) (by kernel_rfl) (bGt _ _ _ _ .i64 (w64 (p0.Num * p1.Den)) (w64 (p1.Num * p0.Den))) rfl (by decide) (fun a S => ?_)
      refine leafL (leafT (hK15 _ _ ?_))
      rcases iteSome h with ⟨hc16, h⟩ | ⟨hc16, h⟩
      · refine sCondT (b := decide ((w64 (p1.Num * p0.Den)) < (w64 (p0.Num * p1.Den)))) S (by kernel_rfl) hc16 ?_
        refine sSeq (fun K17 hK17 => ?_)
        refine sRegion ?_
        refine sMove (.int .i64 1) S (wN rfl) (.inr rfl) (by kernel_rfl) rfl (by decide) (fun a S => ?_)
        refine sMove (.int .i64 0) S (wN rfl) (.inr rfl) (by kernel_rfl) rfl (by decide) (fun a S => ?_)
        refine leafL (leafT (hK17 _ _ ?_))
        obtain rfl := Option.some.inj h
        exact wp_ret (rThen (sRet (.tuple #[.int .i64 1, .int .i64 0]) S (rsl2 rfl (rvT (t := 4) (v := .int .i64 1) S (by kernel_rfl)) (rvT (t := 5) (v := .int .i64 0) S (by kernel_rfl))) ⟨(), rfl, S.mem.sel [] [] (by decide) (by kernel_rfl) (by kernel_rfl)⟩))
      · refine sCondF (b := decide ((w64 (p1.Num * p0.Den)) < (w64 (p0.Num * p1.Den)))) S (by kernel_rfl) hc16 ?_
        refine wp_skip (leafT (hK14 _ _ ?_))
        refine sSeq (fun K18 hK18 => ?_)
        refine sRegion ?_
        refine sMove (.int .i64 0) S (wN rfl) (.inr rfl) (by kernel_rfl) rfl (by decide) (fun a S => ?_)
        refine sMove (.int .i64 0) S (wN rfl) (.inr rfl) (by kernel_rfl) rfl (by decide) (fun a S => ?_)
        refine leafL (leafT (hK18 _ _ ?_))
        obtain rfl := Option.some.inj h
        exact wp_ret (sRet (.tuple #[.int .i64 0, .int .i64 0]) S (rsl2 rfl (rvT (t := 4) (v := .int .i64 0) S (by kernel_rfl)) (rvT (t := 5) (v := .int .i64 0) S (by kernel_rfl))) ⟨(), rfl, S.mem.sel [] [] (by decide) (by kernel_rfl) (by kernel_rfl)⟩)

end Go.Proofs.Ytdfjcpnflmgdoaa
namespace Go.Proofs.Ytdfjcpnflmgdoaa
open Go.RowKit
set_option linter.unusedVariables false

noncomputable def F_yarn_floor (p0 : Int) (p1 : Int) : Option Int :=
  Option.bind (quoI p0 p1) fun z3 =>
  Option.bind (α := Int) (
    Option.bind (remI p0 p1) fun z9 =>
    if decide (z9 < 0) then
      some (w64 (z3 - 1))
    else
      some z3) fun o5 =>
  some o5
set_option maxHeartbeats 4000000 in
set_option maxRecDepth 100000 in
theorem c_yarn_floor (E : Nat → Prop) (w0 : World) (p0 : Int) (p1 : Int) (r : Int) (h : F_yarn_floor p0 p1 = some r) (S : St0 E [] w0 w0 [] []) :
    Calls Try.prog 45 #[.int .i64 p0, .int .i64 p1] w0 (Ret (X := Unit) E [] w0 (fun _ => .int .i64 r) (fun _ => []) (fun _ => [])) := by
  unfold F_yarn_floor at h
  refine sEnter (args := [.int .i64 p0, .int .i64 p1]) 16 Try.func45 rfl rfl (by simp) S (fun a S => ?_)
  refine sSeq (fun K1 hK1 => ?_)
  refine sRegion ?_
  refine sMove (.int .i64 0) S (wN rfl) (.inr rfl) (by kernel_rfl) rfl (by decide) (fun a S => ?_)
  refine leafL (leafT (hK1 _ _ ?_))
  refine sSeq (fun K2 hK2 => ?_)
  refine sRegion ?_
  refine sMove (.int .i64 p0) S (wN rfl) (.inl rfl) (by kernel_rfl) rfl (by decide) (fun a S => ?_)
  refine sMove (.int .i64 p1) S (wN rfl) (.inl rfl) (by kernel_rfl) rfl (by decide) (fun a S => ?_)
  obtain ⟨z3, hx4, h⟩ := bindSome h
  refine sBin (.int .i64 z3) S (wN rfl) rfl (by kernel_rfl) (by kernel_rfl) (bQuo _ _ _ _ (x := p0) (y := p1) hx4) rfl (by decide) (fun a S => ?_)
  refine sMove (.int .i64 z3) S (wN rfl) (.inr rfl) (by kernel_rfl) rfl (by decide) (fun a S => ?_)
  refine leafL (leafT (hK2 _ _ ?_))
  obtain ⟨t6, h, g7⟩ := bindSome h
  refine sCut (fun a w => ∃ o5, o5 = t6 ∧ St [] E [] w0 16 a w [(5, .int .i64 o5)] [] []) ?_ (fun a w hI => ?_)
  · refine sSeq (fun K8 hK8 => ?_)
    refine sRegion ?_
    refine sMove (.int .i64 p0) S (wN rfl) (.inl rfl) (by kernel_rfl) rfl (by decide) (fun a S => ?_)
    refine sMove (.int .i64 p1) S (wN rfl) (.inl rfl) (by kernel_rfl) rfl (by decide) (fun a S => ?_)
    obtain ⟨z9, hx10, h⟩ := bindSome h
    refine sBin (.int .i64 z9) S (wN rfl) rfl (by kernel_rfl) (by kernel_rfl) (bRem _ _ _ _ (x := p0) (y := p1) hx10) rfl (by decide) (fun a S => ?_)
    refine sBin (.bool (decide (z9 < 0))) S (wN rfl) rfl (by kernel_rfl) (by kernel_rfl) (bLt _ _ _ _ .i64 z9 0) rfl (by decide) (fun a S => ?_)
    refine leafL (leafT (hK8 _ _ ?_))
    rcases iteSome h with ⟨hc11, h⟩ | ⟨hc11, h⟩
    · refine sCondT (b := decide (z9 < 0)) S (by kernel_rfl) hc11 ?_
      refine sRegion ?_
      refine sMove (.int .i64 z3) S (wN rfl) (.inl rfl) (by kernel_rfl) rfl (by decide) (fun a S => ?_)
      refine sBin (.int .i64 (w64 (z3 - 1))) S (wN rfl) rfl (by kernel_rfl) (by kernel_rfl) (bSub _ _ _ _ z3 1) rfl (by decide) (fun a S => ?_)
      refine sMove (.int .i64 (w64 (z3 - 1))) S (wN rfl) (.inr rfl) (by kernel_rfl) rfl (by decide) (fun a S => ?_)
      exact leafL (leafT (⟨w64 (z3 - 1), Option.some.inj h, S.fix [] [] (by decide) (by kernel_rfl) (by kernel_rfl) (by kernel_rfl)⟩))
    · refine sCondF (b := decide (z9 < 0)) S (by kernel_rfl) hc11 ?_
      exact wp_skip (leafT (⟨z3, Option.some.inj h, S.fix [] [] (by decide) (by kernel_rfl) (by kernel_rfl) (by kernel_rfl)⟩))
  · obtain ⟨o5, rfl, S⟩ := hI
    have h := g7
    clear g7
    try dsimp only at h
    refine sSeq (fun K12 hK12 => ?_)
    refine sRegion ?_
    refine sMove (.int .i64 o5) S (wN rfl) (.inl rfl) (by kernel_rfl) rfl (by decide) (fun a S => ?_)
    refine sMove (.int .i64 o5) S (wN rfl) (.inr rfl) (by kernel_rfl) rfl (by decide) (fun a S => ?_)
    refine leafL (leafT (hK12 _ _ ?_))
    obtain rfl := Option.some.inj h
    exact wp_ret (sRet (.int .i64 o5) S (rsl1 rfl (rvT (t := 4) (v := .int .i64 o5) S (by kernel_rfl))) ⟨(), rfl, S.mem.sel [] [] (by decide) (by kernel_rfl) (by kernel_rfl)⟩)

end Go.Proofs.Ytdfjcpnflmgdoaa
namespace Go.Proofs.Ytdfjcpnflmgdoaa
open Go.RowKit
set_option linter.unusedVariables false

noncomputable def F_yarn_Floor (p0 : api_Ratio) : Option (Int × Int) :=
  Option.bind (F_yarn_Check p0) fun r5 =>
  if r5 != 0 then
    some (0, r5)
  else
    Option.bind (F_yarn_floor p0.Num p0.Den) fun r11 =>
    some (r11, 0)
set_option maxHeartbeats 4000000 in
set_option maxRecDepth 100000 in
theorem c_yarn_Floor (E : Nat → Prop) (w0 : World) (p0 : api_Ratio) (v0 : Value) (r : (Int × Int)) (h : F_yarn_Floor p0 = some r) (S : St0 E [] w0 w0 [] [fRep r_api_Ratio (v0) p0]) :
    Calls Try.prog 18 #[v0] w0 (Ret (X := Unit) E [] w0 (fun _ => .tuple #[.int .i64 r.1, .int .i64 r.2]) (fun _ => []) (fun _ => [])) := by
  unfold F_yarn_Floor at h
  obtain rfl : v0 = .agg #[.int .i64 p0.Num, .int .i64 p0.Den] := S.know (i := 0) (e := fRep r_api_Ratio (v0) p0) (by kernel_rfl)
  refine sEnter (args := [.agg #[.int .i64 p0.Num, .int .i64 p0.Den]]) 15 Try.func18 rfl rfl (by simp) S (fun a S => ?_)
  refine sSeq (fun K1 hK1 => ?_)
  refine sRegion ?_
  refine sBox (v := .agg #[.int .i64 p0.Num, .int .i64 p0.Den]) S (wN rfl) rfl (by kernel_rfl) [.int .i64 p0.Num, .int .i64 p0.Den] rfl rfl (by decide) (fun a b2 w S => ?_)
  refine sMove (.int .i64 0) S (wN rfl) (.inr rfl) (by kernel_rfl) rfl (by decide) (fun a S => ?_)
  refine sMove (.int .i64 0) S (wN rfl) (.inr rfl) (by kernel_rfl) rfl (by decide) (fun a S => ?_)
  refine leafL (leafT (hK1 _ _ ?_))
  refine sSeq (fun K3 hK3 => ?_)
  refine sSeq (fun K4 hK4 => ?_)
  refine sRegion ?_
  refine sLoadN (p := b2) (off := 0) (T := 23) (vs := [.int .i64 p0.Num, .int .i64 p0.Den]) 0 [.int .i64 p0.Num, .int .i64 p0.Den] S (wN rfl) rfl (by kernel_rfl) (by kernel_rfl) (by kernel_rfl) (by kernel_rfl) rfl rfl (by decide) (fun a S => ?_)
  obtain ⟨r5, hx6, h⟩ := bindSome h
  have S1 := S.mem
  refine sCallQ (X := Unit) (f := 8) (vs := [.agg #[.int .i64 p0.Num, .int .i64 p0.Den]]) (val := fun _ => .int .i64 r5) S (wN rfl) rfl callee8 (by kernel_rfl) (S1.quiet [0] (by kernel_rfl)) (fun E1 w1 S1 => c_yarn_Check E1 w1 p0 (.agg #[.int .i64 p0.Num, .int .i64 p0.Den]) r5 hx6 S1) rfl (by decide) (fun _ a w S => ?_)
  refine sMove (.int .i64 r5) S (wN rfl) (.inr rfl) (by kernel_rfl) rfl (by decide) (fun a S => ?_)
  refine leafL (leafT (hK4 _ _ ?_))
  refine sSeq (fun K7 hK7 => ?_)
  refine sRegion ?_
  refine sMove (.int .i64 r5) S (wN rfl) (.inl rfl) (by kernel_rfl) rfl (by decide) (fun a S => ?_)
  refine sBin (.bool (r5 != 0)) S (wN rfl) rfl (by kernel_rfl) (by kernel_rfl) (bNe _ _ _ _ .i64 r5 0) rfl (by decide) (fun a S => ?_)
  refine leafL (leafT (hK7 _ _ ?_))
  rcases iteSome h with ⟨hc8, h⟩ | ⟨hc8, h⟩
  · refine sCondT (b := r5 != 0) S (by kernel_rfl) hc8 ?_
    refine sSeq (fun K9 hK9 => ?_)
    refine sRegion ?_
    refine sMove (.int .i64 r5) S (wN rfl) (.inl rfl) (by kernel_rfl) rfl (by decide) (fun a S => ?_)
    refine sMove (.int .i64 0) S (wN rfl) (.inr rfl) (by kernel_rfl) rfl (by decide) (fun a S => ?_)
    refine sMove (.int .i64 r5) S (wN rfl) (.inr rfl) (by kernel_rfl) rfl (by decide) (fun a S => ?_)
    refine leafL (leafT (hK9 _ _ ?_))
    obtain rfl := Option.some.inj h
    exact wp_ret (rThen (sRet (.tuple #[.int .i64 0, .int .i64 r5]) S (rsl2 rfl (rvT (t := 2) (v := .int .i64 0) S (by kernel_rfl)) (rvT (t := 3) (v := .int .i64 r5) S (by kernel_rfl))) ⟨(), rfl, S.mem.sel [] [] (by decide) (by kernel_rfl) (by kernel_rfl)⟩))
  · refine sCondF (b := r5 != 0) S (by kernel_rfl) hc8 ?_
    refine wp_skip (leafT (hK3 _ _ ?_))
    refine sSeq (fun K10 hK10 => ?_)
    refine sRegion ?_
    refine sField (b := b2) (off := 0) 0 0 S (wN rfl) rfl (by kernel_rfl) (by kernel_rfl) rfl rfl (by decide) (fun a S => ?_)
    refine sLoad1 (p := b2) (off := 0) (T := 23) (vs := [.int .i64 p0.Num, .int .i64 p0.Den]) 0 (.int .i64 p0.Num) S (wN rfl) rfl (by kernel_rfl) (by kernel_rfl) (by kernel_rfl) rfl rfl (by decide) (fun a S => ?_)
    refine sField (b := b2) (off := 0) 1 1 S (wN rfl) rfl (by kernel_rfl) (by kernel_rfl) rfl rfl (by decide) (fun a S => ?_)
    refine sLoad1 (p := b2) (off := 1) (T := 23) (vs := [.int .i64 p0.Num, .int .i64 p0.Den]) 0 (.int .i64 p0.Den) S (wN rfl) rfl (by kernel_rfl) (by kernel_rfl) (by kernel_rfl) rfl rfl (by decide) (fun a S => ?_)
    obtain ⟨r11, hx12, h⟩ := bindSome h
    have S1 := S.mem
    refine sCallQ (X := Unit) (f := 45) (vs := [.int .i64 p0.Num, .int .i64 p0.Den]) (val := fun _ => .int .i64 r11) S (wN rfl) rfl callee45 (by kernel_rfl) (S1.quiet [] (by kernel_rfl)) (fun E1 w1 S1 => c_yarn_floor E1 w1 p0.Num p0.Den r11 hx12 S1) rfl (by decide) (fun _ a w S => ?_)
    refine sMove (.int .i64 r11) S (wN rfl) (.inr rfl) (by kernel_rfl) rfl (by decide) (fun a S => ?_)
    refine sMove (.int .i64 0) S (wN rfl) (.inr rfl) (by kernel_rfl) rfl (by decide) (fun a S => ?_)
    refine leafL (leafT (hK10 _ _ ?_))
    obtain rfl := Option.some.inj h
    exact wp_ret (sRet (.tuple #[.int .i64 r11, .int .i64 0]) S (rsl2 rfl (rvT (t := 2) (v := .int .i64 r11) S (by kernel_rfl)) (rvT (t := 3) (v := .int .i64 0) S (by kernel_rfl))) ⟨(), rfl, S.mem.sel [] [] (by decide) (by kernel_rfl) (by kernel_rfl)⟩)

end Go.Proofs.Ytdfjcpnflmgdoaa
namespace Go.Proofs.Ytdfjcpnflmgdoaa
open Go.RowKit
set_option linter.unusedVariables false

noncomputable def F_raddleref23_Floor (p0 : api_Ratio) : Option (Int × Int) :=
  Option.bind (F_raddleref23_Check p0) fun r5 =>
  if r5 != 0 then
    some (0, r5)
  else
    Option.bind (quoI p0.Num p0.Den) fun z10 =>
    Option.bind (α := Int) (
      if decide (p0.Num < (w64 (z10 * p0.Den))) then
        some (w64 (z10 - 1))
      else
        some z10) fun o12 =>
    some (o12, 0)
set_option maxHeartbeats 4000000 in
set_option maxRecDepth 100000 in
theorem c_raddleref23_Floor (E : Nat → Prop) (w0 : World) (p0 : api_Ratio) (v0 : Value) (r : (Int × Int)) (h : F_raddleref23_Floor p0 = some r) (S : St0 E [] w0 w0 [] [fRep r_api_Ratio (v0) p0]) :
    Calls Try.prog 19 #[v0] w0 (Ret (X := Unit) E [] w0 (fun _ => .tuple #[.int .i64 r.1, .int .i64 r.2]) (fun _ => []) (fun _ => [])) := by
  unfold F_raddleref23_Floor at h
  obtain rfl : v0 = .agg #[.int .i64 p0.Num, .int .i64 p0.Den] := S.know (i := 0) (e := fRep r_api_Ratio (v0) p0) (by kernel_rfl)
  refine sEnter (args := [.agg #[.int .i64 p0.Num, .int .i64 p0.Den]]) 25 Try.func19 rfl rfl (by simp) S (fun a S => ?_)
  refine sSeq (fun K1 hK1 => ?_)
  refine sRegion ?_
  refine sBox (v := .agg #[.int .i64 p0.Num, .int .i64 p0.Den]) S (wN rfl) rfl (by kernel_rfl) [.int .i64 p0.Num, .int .i64 p0.Den] rfl rfl (by decide) (fun a b2 w S => ?_)
  refine sMove (.int .i64 0) S (wN rfl) (.inr rfl) (by kernel_rfl) rfl (by decide) (fun a S => ?_)
  refine sMove (.int .i64 0) S (wN rfl) (.inr rfl) (by kernel_rfl) rfl (by decide) (fun a S => ?_)
  refine leafL (leafT (hK1 _ _ ?_))
  refine sSeq (fun K3 hK3 => ?_)
  refine sSeq (fun K4 hK4 => ?_)
  refine sRegion ?_
  refine sLoadN (p := b2) (off := 0) (T := 23) (vs := [.int .i64 p0.Num, .int .i64 p0.Den]) 0 [.int .i64 p0.Num, .int .i64 p0.Den] S (wN rfl) rfl (by kernel_rfl) (by kernel_rfl) (by kernel_rfl) (by kernel_rfl) rfl rfl (by decide) (fun a S => ?_)
  obtain ⟨r5, hx6, h⟩ := bindSome h
  have S1 := S.mem
  refine sCallQ (X := Unit) (f := 9) (vs := [.agg #[.int .i64 p0.Num, .int .i64 p0.Den]]) (val := fun _ => .int .i64 r5) S (wN rfl) rfl callee9 (by kernel_rfl) (S1.quiet [0] (by kernel_rfl)) (fun E1 w1 S1 => c_raddleref23_Check E1 w1 p0 (.agg #[.int .i64 p0.Num, .int .i64 p0.Den]) r5 hx6 S1) rfl (by decide) (fun _ a w S => ?_)
  refine sBin (.bool (r5 != 0)) S (wN rfl) rfl (by kernel_rfl) (by kernel_rfl) (bNe _ _ _ _ .i64 r5 0) rfl (by decide) (fun a S => ?_)
  refine leafL (leafT (hK4 _ _ ?_))
  rcases iteSome h with ⟨hc7, h⟩ | ⟨hc7, h⟩
  · refine sCondT (b := r5 != 0) S (by kernel_rfl) hc7 ?_
    refine sSeq (fun K8 hK8 => ?_)
    refine sRegion ?_
    refine sLoadN (p := b2) (off := 0) (T := 23) (vs := [.int .i64 p0.Num, .int .i64 p0.Den]) 0 [.int .i64 p0.Num, .int .i64 p0.Den] S (wN rfl) rfl (by kernel_rfl) (by kernel_rfl) (by kernel_rfl) (by kernel_rfl) rfl rfl (by decide) (fun a S => ?_)
    have S1 := S.mem
    refine sCallQ (X := Unit) (f := 9) (vs := [.agg #[.int .i64 p0.Num, .int .i64 p0.Den]]) (val := fun _ => .int .i64 r5) S (wN rfl) rfl callee9 (by kernel_rfl) (S1.quiet [0] (by kernel_rfl)) (fun E1 w1 S1 => c_raddleref23_Check E1 w1 p0 (.agg #[.int .i64 p0.Num, .int .i64 p0.Den]) r5 hx6 S1) rfl (by decide) (fun _ a w S => ?_)
    refine sMove (.int .i64 0) S (wN rfl) (.inr rfl) (by kernel_rfl) rfl (by decide) (fun a S => ?_)
    refine sMove (.int .i64 r5) S (wN rfl) (.inr rfl) (by kernel_rfl) rfl (by decide) (fun a S => ?_)
    refine leafL (leafT (hK8 _ _ ?_))
    obtain rfl := Option.some.inj h
    exact wp_ret (rThen (sRet (.tuple #[.int .i64 0, .int .i64 r5]) S (rsl2 rfl (rvT (t := 2) (v := .int .i64 0) S (by kernel_rfl)) (rvT (t := 3) (v := .int .i64 r5) S (by kernel_rfl))) ⟨(), rfl, S.mem.sel [] [] (by decide) (by kernel_rfl) (by kernel_rfl)⟩))
  · refine sCondF (b := r5 != 0) S (by kernel_rfl) hc7 ?_
    refine wp_skip (leafT (hK3 _ _ ?_))
    refine sSeq (fun K9 hK9 => ?_)
    refine sRegion ?_
    refine sField (b := b2) (off := 0) 0 0 S (wN rfl) rfl (by kernel_rfl) (by kernel_rfl) rfl rfl (by decide) (fun a S => ?_)
    refine sLoad1 (p := b2) (off := 0) (T := 23) (vs := [.int .i64 p0.Num, .int .i64 p0.Den]) 0 (.int .i64 p0.Num) S (wN rfl) rfl (by kernel_rfl) (by kernel_rfl) (by kernel_rfl) rfl rfl (by decide) (fun a S => ?_)
    refine sField (b := b2) (off := 0) 1 1 S (wN rfl) rfl (by kernel_rfl) (by kernel_rfl) rfl rfl (by decide) (fun a S => ?_)
    refine sLoad1 (p := b2) (off := 1) (T := 23) (vs := [.int .i64 p0.Num, .int .i64 p0.Den]) 0 (.int .i64 p0.Den) S (wN rfl) rfl (by kernel_rfl) (by kernel_rfl) (by kernel_rfl) rfl rfl (by decide) (fun a S => ?_)
    obtain ⟨z10, hx11, h⟩ := bindSome h
    refine sBin (.int .i64 z10) S (wN rfl) rfl (by kernel_rfl) (by kernel_rfl) (bQuo _ _ _ _ (x := p0.Num) (y := p0.Den) hx11) rfl (by decide) (fun a S => ?_)
    refine sMove (.int .i64 z10) S (wN rfl) (.inr rfl) (by kernel_rfl) rfl (by decide) (fun a S => ?_)
    refine leafL (leafT (hK9 _ _ ?_))
    obtain ⟨t13, h, g14⟩ := bindSome h
    refine sCut (fun a w => ∃ o12, o12 = t13 ∧ St [] E [] w0 25 a w [(4, .int .i64 o12)] [] []) ?_ (fun a w hI => ?_)
    · refine sSeq (fun K15 hK15 => ?_)
      refine sRegion ?_
      refine sMove (.int .i64 z10) S (wN rfl) (.inl rfl) (by kernel_rfl) rfl (by decide) (fun a S => ?_)
      refine sField (b := b2) (off := 0) 1 1 S (wN rfl) rfl (by kernel_rfl) (by kernel_rfl) rfl rfl (by decide) (fun a S => ?_)
      refine sLoad1 (p := b2) (off := 1) (T := 23) (vs := [.int .i64 p0.Num, .int .i64 p0.Den]) 0 (.int .i64 p0.Den) S (wN rfl) rfl (by kernel_rfl) (by kernel_rfl) (by kernel_rfl) rfl rfl (by decide) (fun a S => ?_)
      refine sBin (.int .i64 (w64 (z10 * p0.Den))) S (wN rfl) rfl (by kernel_rfl) (by kernel_rfl) (bMul _ _ _ _ z10 p0.Den) rfl (by decide) (fun a S => ?_)
      refine sField (b := b2) (off := 0) 0 0 S (wN rfl) rfl (by kernel_rfl) (by kernel_rfl) rfl rfl (by decide) (fun a S => ?_)
      refine sLoad1 (p := b2) (off := 0) (T := 23) (vs := [.int .i64 p0.Num, .int .i64 p0.Den]) 0 (.int .i64 p0.Num) S (wN rfl) rfl (by kernel_rfl) (by kernel_rfl) (by kernel_rfl) rfl rfl (by decide) (fun a S => ?_)
      refine sBin (.bool (decide (p0.Num < (w64 (z10 * p0.Den))))) S (wN rfl) rfl (by kernel_rfl) (by kernel_rfl) (bGt _ _ _ _ .i64 (w64 (z10 * p0.Den)) p0.Num) rfl (by decide) (fun a S => ?_)
      refine leafL (leafT (hK15 _ _ ?_))
      rcases iteSome h with ⟨hc16, h⟩ | ⟨hc16, h⟩
      · refine sCondT (b := decide (p0.Num < (w64 (z10 * p0.Den)))) S (by kernel_rfl) hc16 ?_
        refine sRegion ?_
        refine sMove (.int .i64 z10) S (wN rfl) (.inl rfl) (by kernel_rfl) rfl (by decide) (fun a S => ?_)
        refine sBin (.int .i64 (w64 (z10 - 1))) S (wN rfl) rfl (by kernel_rfl) (by kernel_rfl) (bSub _ _ _ _ z10 1) rfl (by decide) (fun a S => ?_)
        refine sMove (.int .i64 (w64 (z10 - 1))) S (wN rfl) (.inr rfl) (by kernel_rfl) rfl (by decide) (fun a S => ?_)
        exact leafL (leafT (⟨w64 (z10 - 1), Option.some.inj h, S.fix [] [] (by decide) (by kernel_rfl) (by kernel_rfl) (by kernel_rfl)⟩))
      · refine sCondF (b := decide (p0.Num < (w64 (z10 * p0.Den)))) S (by kernel_rfl) hc16 ?_
        exact wp_skip (leafT (⟨z10, Option.some.inj h, S.fix [] [] (by decide) (by kernel_rfl) (by kernel_rfl) (by kernel_rfl)⟩))
    · obtain ⟨o12, rfl, S⟩ := hI
      have h := g14
      clear g14
      try dsimp only at h
      refine sSeq (fun K17 hK17 => ?_)
      refine sRegion ?_
      refine sMove (.int .i64 o12) S (wN rfl) (.inl rfl) (by kernel_rfl) rfl (by decide) (fun a S => ?_)
      refine sMove (.int .i64 o12) S (wN rfl) (.inr rfl) (by kernel_rfl) rfl (by decide) (fun a S => ?_)
      refine sMove (.int .i64 0) S (wN rfl) (.inr rfl) (by kernel_rfl) rfl (by decide) (fun a S => ?_)
      refine leafL (leafT (hK17 _ _ ?_))
      obtain rfl := Option.some.inj h
      exact wp_ret (sRet (.tuple #[.int .i64 o12, .int .i64 0]) S (rsl2 rfl (rvT (t := 2) (v := .int .i64 o12) S (by kernel_rfl)) (rvT (t := 3) (v := .int .i64 0) S (by kernel_rfl))) ⟨(), rfl, S.mem.sel [] [] (by decide) (by kernel_rfl) (by kernel_rfl)⟩)

end Go.Proofs.Ytdfjcpnflmgdoaa
namespace Go.Proofs.Ytdfjcpnflmgdoaa
open Go.RowKit
set_option linter.unusedVariables false

noncomputable def F_yarn_Ceil (p0 : api_Ratio) : Option (Int × Int) :=
  Option.bind (F_yarn_Check p0) fun r5 =>
  if r5 != 0 then
    some (0, r5)
  else
    Option.bind (F_yarn_floor (w64 (0 - p0.Num)) p0.Den) fun r11 =>
    some (w64 (0 - r11), 0)
set_option maxHeartbeats 4000000 in
set_option maxRecDepth 100000 in
theorem c_yarn_Ceil (E : Nat → Prop) (w0 : World) (p0 : api_Ratio) (v0 : Value) (r : (Int × Int)) (h : F_yarn_Ceil p0 = some r) (S : St0 E [] w0 w0 [] [fRep r_api_Ratio (v0) p0]) :
    Calls Try.prog 20 #[v0] w0 (Ret (X := Unit) E [] w0 (fun _ => .tuple #[.int .i64 r.1, .int .i64 r.2]) (fun _ => []) (fun _ => [])) := by
  unfold F_yarn_Ceil at h
  obtain rfl : v0 = .agg #[.int .i64 p0.Num, .int .i64 p0.Den] := S.know (i := 0) (e := fRep r_api_Ratio (v0) p0) (by kernel_rfl)
  refine sEnter (args := [.agg #[.int .i64 p0.Num, .int .i64 p0.Den]]) 17 Try.func20 rfl rfl (by simp) S (fun a S => ?_)
  refine sSeq (fun K1 hK1 => ?_)
  refine sRegion ?_
  refine sBox (v := .agg #[.int .i64 p0.Num, .int .i64 p0.Den]) S (wN rfl) rfl (by kernel_rfl) [.int .i64 p0.Num, .int .i64 p0.Den] rfl rfl (by decide) (fun a b2 w S => ?_)
  refine sMove (.int .i64 0) S (wN rfl) (.inr rfl) (by kernel_rfl) rfl (by decide) (fun a S => ?_)
  refine sMove (.int .i64 0) S (wN rfl) (.inr rfl) (by kernel_rfl) rfl (by decide) (fun a S => ?_)
  refine leafL (leafT (hK1 _ _ ?_))
  refine sSeq (fun K3 hK3 => ?_)
  refine sSeq (fun K4 hK4 => ?_)
  refine sRegion ?_
  refine sLoadN (p := b2) (off := 0) (T := 23) (vs := [.int .i64 p0.Num, .int .i64 p0.Den]) 0 [.int .i64 p0.Num, .int .i64 p0.Den] S (wN rfl) rfl (by kernel_rfl) (by kernel_rfl) (by kernel_rfl) (by kernel_rfl) rfl rfl (by decide) (fun a S => ?_)
  obtain ⟨r5, hx6, h⟩ := bindSome h
  have S1 := S.mem
  refine sCallQ (X := Unit) (f := 8) (vs := [.agg #[.int .i64 p0.Num, .int .i64 p0.Den]]) (val := fun _ => .int .i64 r5) S (wN rfl) rfl callee8 (by kernel_rfl) (S1.quiet [0] (by kernel_rfl)) (fun E1 w1 S1 => c_yarn_Check E1 w1 p0 (.agg #[.int .i64 p0.Num, .int .i64 p0.Den]) r5 hx6 S1) rfl (by decide) (fun _ a w S => ?_)
  refine sMove (.int .i64 r5) S (wN rfl) (.inr rfl) (by kernel_rfl) rfl (by decide) (fun a S => ?_)
  refine leafL (leafT (hK4 _ _ ?_))
  refine sSeq (fun K7 hK7 => ?_)
  refine sRegion ?_
  refine sMove (.int .i64 r5) S (wN rfl) (.inl rfl) (by kernel_rfl) rfl (by decide) (fun a S => ?_)
  refine sBin (.bool (r5 != 0)) S (wN rfl) rfl (by kernel_rfl) (by kernel_rfl) (bNe _ _ _ _ .i64 r5 0) rfl (by decide) (fun a S => ?_)
  refine leafL (leafT (hK7 _ _ ?_))
  rcases iteSome h with ⟨hc8, h⟩ | ⟨hc8, h⟩
  · refine sCondT (b := r5 != 0) S (by kernel_rfl) hc8 ?_
    refine sSeq (fun K9 hK9 => ?_)
    refine sRegion ?_
    refine sMove (.int .i64 r5) S (wN rfl) (.inl rfl) (by kernel_rfl) rfl (by decide) (fun a S => ?_)
    refine sMove (.int .i64 0) S (wN rfl) (.inr rfl) (by kernel_rfl) rfl (by decide) (fun a S => ?_)
    refine sMove (.int .i64 r5) S (wN rfl) (.inr rfl) (by kernel_rfl) rfl (by decide) (fun a S => ?_)
    refine leafL (leafT (hK9 _ _ ?_))
    obtain rfl := Option.some.inj h
    exact wp_ret (rThen (sRet (.tuple #[.int .i64 0, .int .i64 r5]) S (rsl2 rfl (rvT (t := 2) (v := .int .i64 0) S (by kernel_rfl)) (rvT (t := 3) (v := .int .i64 r5) S (by kernel_rfl))) ⟨(), rfl, S.mem.sel [] [] (by decide) (by kernel_rfl) (by kernel_rfl)⟩))
  · refine sCondF (b := r5 != 0) S (by kernel_rfl) hc8 ?_
    refine wp_skip (leafT (hK3 _ _ ?_))
    refine sSeq (fun K10 hK10 => ?_)
    refine sRegion ?_
    refine sField (b := b2) (off := 0) 0 0 S (wN rfl) rfl (by kernel_rfl) (by kernel_rfl) rfl rfl (by decide) (fun a S => ?_)
    refine sLoad1 (p := b2) (off := 0) (T := 23) (vs := [.int .i64 p0.Num, .int .i64 p0.Den]) 0 (.int .i64 p0.Num) S (wN rfl) rfl (by kernel_rfl) (by kernel_rfl) (by kernel_rfl) rfl rfl (by decide) (fun a S => ?_)
    refine sNeg (b := p0.Num) S (wN rfl) rfl (by kernel_rfl) rfl (by decide) (fun a S => ?_)
    refine sField (b := b2) (off := 0) 1 1 S (wN rfl) rfl (by kernel_rfl) (by kernel_rfl) rfl rfl (by decide) (fun a S => ?_)
    refine sLoad1 (p := b2) (off := 1) (T := 23) (vs := [.int .i64 p0.Num, .int .i64 p0.Den]) 0 (.int .i64 p0.Den) S (wN rfl) rfl (by kernel_rfl) (by kernel_rfl) (by kernel_rfl) rfl rfl (by decide) (fun a S => ?_)
    obtain ⟨r11, hx12, h⟩ := bindSome h
    have S1 := S.mem
    refine sCallQ (X := Unit) (f := 45) (vs := [.int .i64 (w64 (0 - p0.Num)), .int .i64 p0.Den]) (val := fun _ => .int .i64 r11) S (wN rfl) rfl callee45 (by kernel_rfl) (S1.quiet [] (by kernel_rfl)) (fun E1 w1 S1 => c_yarn_floor E1 w1 (w64 (0 - p0.Num)) p0.Den r11 hx12 S1) rfl (by decide) (fun _ a w S => ?_)
    refine sNeg (b := r11) S (wN rfl) rfl (by kernel_rfl) rfl (by decide) (fun a S => ?_)
    refine sMove (.int .i64 (w64 (0 - r11))) S (wN rfl) (.inr rfl) (by kernel_rfl) rfl (by decide) (fun a S => ?_)
    refine sMove (.int .i64 0) S (wN rfl) (.inr rfl) (by kernel_rfl) rfl (by decide) (fun a S => ?_)
    refine leafL (leafT (hK10 _ _ ?_))
    obtain rfl := Option.some.inj h
    exact wp_ret (sRet (.tuple #[.int .i64 (w64 (0 - r11)), .int .i64 0]) S (rsl2 rfl (rvT (t := 2) (v := .int .i64 (w64 (0 - r11))) S (by kernel_rfl)) (rvT (t := 3) (v := .int .i64 0) S (by kernel_rfl))) ⟨(), rfl, S.mem.sel [] [] (by decide) (by kernel_rfl) (by kernel_rfl)⟩)

end Go.Proofs.Ytdfjcpnflmgdoaa
namespace Go.Proofs.Ytdfjcpnflmgdoaa
open Go.RowKit
set_option linter.unusedVariables false

noncomputable def F_raddleref23_Ceil (p0 : api_Ratio) : Option (Int × Int) :=
  Option.bind (F_raddleref23_Check p0) fun r5 =>
  if r5 != 0 then
    some (0, r5)
  else
    Option.bind (quoI p0.Num p0.Den) fun z10 =>
    Option.bind (α := Int) (
      if decide ((w64 (z10 * p0.Den)) < p0.Num) then
        some (w64 (z10 + 1))
      else
        some z10) fun o12 =>
    some (o12, 0)
set_option maxHeartbeats 4000000 in
set_option maxRecDepth 100000 in
theorem c_raddleref23_Ceil (E : Nat → Prop) (w0 : World) (p0 : api_Ratio) (v0 : Value) (r : (Int × Int)) (h : F_raddleref23_Ceil p0 = some r) (S : St0 E [] w0 w0 [] [fRep r_api_Ratio (v0) p0]) :
    Calls Try.prog 21 #[v0] w0 (Ret (X := Unit) E [] w0 (fun _ => .tuple #[.int .i64 r.1, .int .i64 r.2]) (fun _ => []) (fun _ => [])) := by
  unfold F_raddleref23_Ceil at h
  obtain rfl : v0 = .agg #[.int .i64 p0.Num, .int .i64 p0.Den] := S.know (i := 0) (e := fRep r_api_Ratio (v0) p0) (by kernel_rfl)
  refine sEnter (args := [.agg #[.int .i64 p0.Num, .int .i64 p0.Den]]) 25 Try.func21 rfl rfl (by simp) S (fun a S => ?_)
  refine sSeq (fun K1 hK1 => ?_)
  refine sRegion ?_
  refine sBox (v := .agg #[.int .i64 p0.Num, .int .i64 p0.Den]) S (wN rfl) rfl (by kernel_rfl) [.int .i64 p0.Num, .int .i64 p0.Den] rfl rfl (by decide) (fun a b2 w S => ?_)
  refine sMove (.int .i64 0) S (wN rfl) (.inr rfl) (by kernel_rfl) rfl (by decide) (fun a S => ?_)
  refine sMove (.int .i64 0) S (wN rfl) (.inr rfl) (by kernel_rfl) rfl (by decide) (fun a S => ?_)
  refine leafL (leafT (hK1 _ _ ?_))
  refine sSeq (fun K3 hK3 => ?_)
  refine sSeq (fun K4 hK4 => ?_)
  refine sRegion ?_
  refine sLoadN (p := b2) (off := 0) (T := 23) (vs := [.int .i64 p0.Num, .int .i64 p0.Den]) 0 [.int .i64 p0.Num, .int .i64 p0.Den] S (wN rfl) rfl (by kernel_rfl) (by kernel_rfl) (by kernel_rfl) (by kernel_rfl) rfl rfl (by decide) (fun a S => ?_)
  obtain ⟨r5, hx6, h⟩ := bindSome h
  have S1 := S.mem
  refine sCallQ (X := Unit) (f := 9) (vs := [.agg #[.int .i64 p0.Num, .int .i64 p0.Den]]) (val := fun _ => .int .i64 r5) S (wN rfl) rfl callee9 (by kernel_rfl) (S1.quiet [0] (by kernel_rfl)) (fun E1 w1 S1 => c_raddleref23_Check E1 w1 p0 (.agg #[.int .i64 p0.Num, .int .i64 p0.Den]) r5 hx6 S1) rfl (by decide) (fun _ a w S => ?_)
  refine sBin (.bool (r5 != 0)) S (wN rfl) rfl (by kernel_rfl) (by kernel_rfl) (bNe _ _ _ _ .i64 r5 0) rfl (by decide) (fun a S => ?_)
  refine leafL (leafT (hK4 _ _ ?_))
  rcases iteSome h with ⟨hc7, h⟩ | ⟨hc7, h⟩
  · refine sCondT (b := r5 != 0) S (by kernel_rfl) hc7 ?_
    refine sSeq (fun K8 hK8 => ?_)
    refine sRegion ?_
    refine sLoadN (p := b2) (off := 0) (T := 23) (vs := [.int .i64 p0.Num, .int .i64 p0.Den]) 0 [.int .i64 p0.Num, .int .i64 p0.Den] S (wN rfl) rfl (by kernel_rfl) (by kernel_rfl) (by kernel_rfl) (by kernel_rfl) rfl rfl (by decide) (fun a S => ?_)
    have S1 := S.mem
    refine sCallQ (X := Unit) (f := 9) (vs := [.agg #[.int .i64 p0.Num, .int .i64 p0.Den]]) (val := fun _ => .int .i64 r5) S (wN rfl) rfl callee9 (by kernel_rfl) (S1.quiet [0] (by kernel_rfl)) (fun E1 w1 S1 => c_raddleref23_Check E1 w1 p0 (.agg #[.int .i64 p0.Num, .int .i64 p0.Den]) r5 hx6 S1) rfl (by decide) (fun _ a w S => ?_)
    refine sMove (.int .i64 0) S (wN rfl) (.inr rfl) (by kernel_rfl) rfl (by decide) (fun a S => ?_)
    refine sMove (.int .i64 r5) S (wN rfl) (.inr rfl) (by kernel_rfl) rfl (by decide) (fun a S => ?_)
    refine leafL (leafT (hK8 _ _ ?_))
    obtain rfl := Option.some.inj h
    exact wp_ret (rThen (sRet (.tuple #[.int .i64 0, .int .i64 r5]) S (rsl2 rfl (rvT (t := 2) (v := .int .i64 0) S (by kernel_rfl)) (rvT (t := 3) (v := .int .i64 r5) S (by kernel_rfl))) ⟨(), rfl, S.mem.sel [] [] (by decide) (by kernel_rfl) (by kernel_rfl)⟩))
  · refine sCondF (b := r5 != 0) S (by kernel_rfl) hc7 ?_
    refine wp_skip (leafT (hK3 _ _ ?_))
    refine sSeq (fun K9 hK9 => ?_)
    refine sRegion ?_
    refine sField (b := b2) (off := 0) 0 0 S (wN rfl) rfl (by kernel_rfl) (by kernel_rfl) rfl rfl (by decide) (fun a S => ?_)
    refine sLoad1 (p := b2) (off := 0) (T := 23) (vs := [.int .i64 p0.Num, .int .i64 p0.Den]) 0 (.int .i64 p0.Num) S (wN rfl) rfl (by kernel_rfl) (by kernel_rfl) (by kernel_rfl) rfl rfl (by decide) (fun a S => ?_)
    refine sField (b := b2) (off := 0) 1 1 S (wN rfl) rfl (by kernel_rfl) (by kernel_rfl) rfl rfl (by decide) (fun a S => ?_)
    refine sLoad1 (p := b2) (off := 1) (T := 23) (vs := [.int .i64 p0.Num, .int .i64 p0.Den]) 0 (.int .i64 p0.Den) S (wN rfl) rfl (by kernel_rfl) (by kernel_rfl) (by kernel_rfl) rfl rfl (by decide) (fun a S => ?_)
    obtain ⟨z10, hx11, h⟩ := bindSome h
    refine sBin (.int .i64 z10) S (wN rfl) rfl (by kernel_rfl) (by kernel_rfl) (bQuo _ _ _ _ (x := p0.Num) (y := p0.Den) hx11) rfl (by decide) (fun a S => ?_)
    refine sMove (.int .i64 z10) S (wN rfl) (.inr rfl) (by kernel_rfl) rfl (by decide) (fun a S => ?_)
    refine leafL (leafT (hK9 _ _ ?_))
    obtain ⟨t13, h, g14⟩ := bindSome h
    refine sCut (fun a w => ∃ o12, o12 = t13 ∧ St [] E [] w0 25 a w [(4, .int .i64 o12)] [] []) ?_ (fun a w hI => ?_)
    · refine sSeq (fun K15 hK15 => ?_)
      refine sRegion ?_
      refine sMove (.int .i64 z10) S (wN rfl) (.inl rfl) (by kernel_rfl) rfl (by decide) (fun a S => ?_)
      refine sField (b := b2) (off := 0) 1 1 S (wN rfl) rfl (by kernel_rfl) (by kernel_rfl) rfl rfl (by decide) (fun a S => ?_)
      refine sLoad1 (p := b2) (off := 1) (T := 23) (vs := [.int .i64 p0.Num, .int .i64 p0.Den]) 0 (.int .i64 p0.Den) S (wN rfl) rfl (by kernel_rfl) (by kernel_rfl) (by kernel_rfl) rfl rfl (by decide) (fun a S => ?_)
      refine sBin (.int .i64 (w64 (z10 * p0.Den))) S (wN rfl) rfl (by kernel_rfl) (by kernel_rfl) (bMul _ _ _ _ z10 p0.Den) rfl (by decide) (fun a S => ?_)
      refine sField (b := b2) (off := 0) 0 0 S (wN rfl) rfl (by kernel_rfl) (by kernel_rfl) rfl rfl (by decide) (fun a S => ?_)
      refine sLoad1 (p := b2) (off := 0) (T := 23) (vs := [.int .i64 p0.Num, .int .i64 p0.Den]) 0 (.int .i64 p0.Num) S (wN rfl) rfl (by kernel_rfl) (by kernel_rfl) (by kernel_rfl) rfl rfl (by decide) (fun a S => ?_)
      refine sBin (.bool (decide ((w64 (z10 * p0.Den)) < p0.Num))) S (wN rfl) rfl (by kernel_rfl) (by kernel_rfl) (bLt _ _ _ _ .i64 (w64 (z10 * p0.Den)) p0.Num) rfl (by decide) (fun a S => ?_)
      refine leafL (leafT (hK15 _ _ ?_))
      rcases iteSome h with ⟨hc16, h⟩ | ⟨hc16, h⟩
      · refine sCondT (b := decide ((w64 (z10 * p0.Den)) < p0.Num)) S (by kernel_rfl) hc16 ?_
        refine sRegion ?_
        refine sMove (.int .i64 z10) S (wN rfl) (.inl rfl) (by kernel_rfl) rfl (by decide) (fun a S => ?_)
        refine sBin (.int .i64 (w64 (z10 + 1))) S (wN rfl) rfl (by kernel_rfl) (by kernel_rfl) (bAdd _ _ _ _ z10 1) rfl (by decide) (fun a S => ?_)
        refine sMove (.int .i64 (w64 (z10 + 1))) S (wN rfl) (.inr rfl) (by kernel_rfl) rfl (by decide) (fun a S => ?_)
        exact leafL (leafT (⟨w64 (z10 + 1), Option.some.inj h, S.fix [] [] (by decide) (by kernel_rfl) (by kernel_rfl) (by kernel_rfl)⟩))
      · refine sCondF (b := decide ((w64 (z10 * p0.Den)) < p0.Num)) S (by kernel_rfl) hc16 ?_
        exact wp_skip (leafT (⟨z10, Option.some.inj h, S.fix [] [] (by decide) (by kernel_rfl) (by kernel_rfl) (by kernel_rfl)⟩))
    · obtain ⟨o12, rfl, S⟩ := hI
      have h := g14
      clear g14
      try dsimp only at h
      refine sSeq (fun K17 hK17 => ?_)
      refine sRegion ?_
      refine sMove (.int .i64 o12) S (wN rfl) (.inl rfl) (by kernel_rfl) rfl (by decide) (fun a S => ?_)
      refine sMove (.int .i64 o12) S (wN rfl) (.inr rfl) (by kernel_rfl) rfl (by decide) (fun a S => ?_)
      refine sMove (.int .i64 0) S (wN rfl) (.inr rfl) (by kernel_rfl) rfl (by decide) (fun a S => ?_)
      refine leafL (leafT (hK17 _ _ ?_))
      obtain rfl := Option.some.inj h
      exact wp_ret (sRet (.tuple #[.int .i64 o12, .int .i64 0]) S (rsl2 rfl (rvT (t := 2) (v := .int .i64 o12) S (by kernel_rfl)) (rvT (t := 3) (v := .int .i64 0) S (by kernel_rfl))) ⟨(), rfl, S.mem.sel [] [] (by decide) (by kernel_rfl) (by kernel_rfl)⟩)

end Go.Proofs.Ytdfjcpnflmgdoaa
namespace Go.Proofs.Ytdfjcpnflmgdoaa
open Go.RowKit
set_option linter.unusedVariables false

def anc_yarn_Add_1_0 : List (List Nat) := [[], [0], [], [2], [0, 1, 2, 3], [], [5], [], [7], [5, 6, 7, 8], [0, 1, 2, 3, 4, 5, 6, 7, 8, 9], [], [11], [], [13], [11, 12, 13, 14], [0, 1, 2, 3, 4, 5, 6, 7, 8, 9, 10], [0, 1, 2, 3, 4, 5, 6, 7, 8, 9, 10, 11, 12, 13, 14, 15, 16]]
noncomputable def F_yarn_Add_1 (p0 : api_Ratio) (p1 : api_Ratio) : Option (Int × Int) :=
  some (w64 ((w64 (p0.Num * p1.Den)) + (w64 (p1.Num * p0.Den))), w64 (p0.Den * p1.Den))
set_option maxHeartbeats 4000000 in
set_option maxRecDepth 100000 in
theorem c_yarn_Add_1 (E : Nat → Prop) (w0 : World) (p0 : api_Ratio) (v0 : Value) (p1 : api_Ratio) (v1 : Value) (r : (Int × Int)) (h : F_yarn_Add_1 p0 p1 = some r) (S : St0 E [] w0 w0 [] [fRep r_api_Ratio (v0) p0, fRep r_api_Ratio (v1) p1]) :
    Calls Try.prog 34 #[v0, v1] w0 (Ret (X := Unit) E [] w0 (fun _ => .tuple #[.int .i64 r.1, .int .i64 r.2]) (fun _ => []) (fun _ => [])) := by
  unfold F_yarn_Add_1 at h
  obtain rfl : v0 = .agg #[.int .i64 p0.Num, .int .i64 p0.Den] := S.know (i := 0) (e := fRep r_api_Ratio (v0) p0) (by kernel_rfl)
  obtain rfl : v1 = .agg #[.int .i64 p1.Num, .int .i64 p1.Den] := S.know (i := 1) (e := fRep r_api_Ratio (v1) p1) (by kernel_rfl)
  refine sEnter (args := [.agg #[.int .i64 p0.Num, .int .i64 p0.Den], .agg #[.int .i64 p1.Num, .int .i64 p1.Den]]) 22 Try.func34 rfl rfl (by simp) S (fun a S => ?_)
  refine sSeq (fun K1 hK1 => ?_)
  refine sRegion ?_
  refine sBox (v := .agg #[.int .i64 p0.Num, .int .i64 p0.Den]) S (wN rfl) rfl (by kernel_rfl) [.int .i64 p0.Num, .int .i64 p0.Den] rfl rfl (by decide) (fun a b2 w S => ?_)
  refine sBox (v := .agg #[.int .i64 p1.Num, .int .i64 p1.Den]) S (wN rfl) rfl (by kernel_rfl) [.int .i64 p1.Num, .int .i64 p1.Den] rfl rfl (by decide) (fun a b3 w S => ?_)
  refine sMove (.int .i64 0) S (wN rfl) (.inr rfl) (by kernel_rfl) rfl (by decide) (fun a S => ?_)
  refine sMove (.int .i64 0) S (wN rfl) (.inr rfl) (by kernel_rfl) rfl (by decide) (fun a S => ?_)
  refine leafL (leafT (hK1 _ _ ?_))
  refine sSeq (fun K4 hK4 => ?_)
  refine sDraw (nf := []) (W := [(0, 6, .pointer (some ⟨b2, 0, none⟩)), (1, 7, .int .i64 p0.Num), (2, 8, .pointer (some ⟨b3, 1, none⟩)), (3, 9, .int .i64 p1.Den), (4, 10, .int .i64 (w64 (p0.Num * p1.Den))), (5, 11, .pointer (some ⟨b3, 0, none⟩)), (6, 12, .int .i64 p1.Num), (7, 13, .pointer (some ⟨b2, 1, none⟩)), (8, 14, .int .i64 p0.Den), (9, 15, .int .i64 (w64 (p1.Num * p0.Den))), (10, 16, .int .i64 (w64 ((w64 (p0.Num * p1.Den)) + (w64 (p1.Num * p0.Den))))), (11, 17, .pointer (some ⟨b2, 1, none⟩)), (12, 18, .int .i64 p0.Den), (13, 19, .pointer (some ⟨b3, 1, none⟩)), (14, 20, .int .i64 p1.Den), (15, 21, .int .i64 (w64 (p0.Den * p1.Den))), (16, 4, .int .i64 (w64 ((w64 (p0.Num * p1.Den)) + (w64 (p1.Num * p0.Den))))), (17, 5, .int .i64 (w64 (p0.Den * p1.Den)))]) (by kernel_rfl) S ?_
  refine node_by (A := anc_yarn_Add_1_0) (nf := []) (Y := []) (W := [(0, 6, .pointer (some ⟨b2, 0, none⟩)), (1, 7, .int .i64 p0.Num), (2, 8, .pointer (some ⟨b3, 1, none⟩)), (3, 9, .int .i64 p1.Den), (4, 10, .int .i64 (w64 (p0.Num * p1.Den))), (5, 11, .pointer (some ⟨b3, 0, none⟩)), (6, 12, .int .i64 p1.Num), (7, 13, .pointer (some ⟨b2, 1, none⟩)), (8, 14, .int .i64 p0.Den), (9, 15, .int .i64 (w64 (p1.Num * p0.Den))), (10, 16, .int .i64 (w64 ((w64 (p0.Num * p1.Den)) + (w64 (p1.Num * p0.Den))))), (11, 17, .pointer (some ⟨b2, 1, none⟩)), (12, 18, .int .i64 p0.Den), (13, 19, .pointer (some ⟨b3, 1, none⟩)), (14, 20, .int .i64 p1.Den), (15, 21, .int .i64 (w64 (p0.Den * p1.Den))), (16, 4, .int .i64 (w64 ((w64 (p0.Num * p1.Den)) + (w64 (p1.Num * p0.Den))))), (17, 5, .int .i64 (w64 (p0.Den * p1.Den)))]) 18 (by kernel_rfl) (by kernel_rfl) (by kernel_rfl) (by kernel_rfl) (by kernel_rfl) [0, 1, 2, 3, 4, 5, 6, 7, 8, 9, 10, 11, 12, 13, 14, 15, 16, 17] (by kernel_rfl) (by decide) (by decide) (aF 0 17 (by decide) ?_ (aF 1 16 (by decide) ?_ (aF 2 15 (by decide) ?_ (aF 3 14 (by decide) ?_ (aF 4 13 (by decide) ?_ (aF 5 12 (by decide) ?_ (aF 6 11 (by decide) ?_ (aF 7 10 (by decide) ?_ (aF 8 9 (by decide) ?_ (aF 9 8 (by decide) ?_ (aF 10 7 (by decide) ?_ (aF 11 6 (by decide) ?_ (aF 12 5 (by decide) ?_ (aF 13 4 (by decide) ?_ (aF 14 3 (by decide) ?_ (aF 15 2 (by decide) ?_ (aF 16 1 (by decide) ?_ (aF 17 0 (by decide) ?_ (trivial))))))))))))))))))) [(4, .int .i64 (w64 ((w64 (p0.Num * p1.Den)) + (w64 (p1.Num * p0.Den))))), (5, .int .i64 (w64 (p0.Den * p1.Den)))] (fin_of [some 16, some 17] rfl (by kernel_rfl) (by kernel_rfl)) (fun _ a w S => ?_)
  · refine fI 6 (.pointer (some ⟨b2, 0, none⟩)) [(2, .pointer (some ⟨b2, 0, none⟩))] 0 [none] rfl rfl (by kernel_rfl) rfl (by kernel_rfl) (by kernel_rfl) fun G a w S => ?_
    refine sField (b := b2) (off := 0) 0 0 S (wN rfl) rfl (by kernel_rfl) (by kernel_rfl) rfl rfl (by decide) (fun a S => ?_)
    exact leafL ⟨rfl, S⟩
  · refine fI 7 (.int .i64 p0.Num) [(6, .pointer (some ⟨b2, 0, none⟩))] 1 [some 0] rfl rfl (by kernel_rfl) rfl (by kernel_rfl) (by kernel_rfl) fun G a w S => ?_
    refine sLoad1 (p := b2) (off := 0) (T := 23) (vs := [.int .i64 p0.Num, .int .i64 p0.Den]) 1 (.int .i64 p0.Num) S (wN rfl) rfl (by kernel_rfl) (by kernel_rfl) (by kernel_rfl) rfl rfl (by decide) (fun a S => ?_)
    exact leafL ⟨rfl, S⟩
  · refine fI 8 (.pointer (some ⟨b3, 1, none⟩)) [(3, .pointer (some ⟨b3, 0, none⟩))] 2 [none] rfl rfl (by kernel_rfl) rfl (by kernel_rfl) (by kernel_rfl) fun G a w S => ?_
    refine sField (b := b3) (off := 0) 1 1 S (wN rfl) rfl (by kernel_rfl) (by kernel_rfl) rfl rfl (by decide) (fun a S => ?_)
    exact leafL ⟨rfl, S⟩
  · refine fI 9 (.int .i64 p1.Den) [(8, .pointer (some ⟨b3, 1, none⟩))] 3 [some 2] rfl rfl (by kernel_rfl) rfl (by kernel_rfl) (by kernel_rfl) fun G a w S => ?_
    refine sLoad1 (p := b3) (off := 1) (T := 23) (vs := [.int .i64 p1.Num, .int .i64 p1.Den]) 0 (.int .i64 p1.Den) S (wN rfl) rfl (by kernel_rfl) (by kernel_rfl) (by kernel_rfl) rfl rfl (by decide) (fun a S => ?_)
    exact leafL ⟨rfl, S⟩
  · refine fI 10 (.int .i64 (w64 (p0.Num * p1.Den))) [(7, .int .i64 p0.Num), (9, .int .i64 p1.Den)] 4 [some 1, some 3] rfl rfl (by kernel_rfl) rfl (by kernel_rfl) (by kernel_rfl) fun G a w S => ?_
    refine sBin (.int .i64 (w64 (p0.Num * p1.Den))) S (wN rfl) rfl (by kernel_rfl) (by kernel_rfl) (bMul _ _ _ _ p0.Num p1.Den) rfl (by decide) (fun a S => ?_)
    exact leafL ⟨rfl, S⟩
  · refine fI 11 (.pointer (some ⟨b3, 0, none⟩)) [(3, .pointer (some ⟨b3, 0, none⟩))] 5 [none] rfl rfl (by kernel_rfl) rfl (by kernel_rfl) (by kernel_rfl) fun G a w S => ?_
    refine sField (b := b3) (off := 0) 0 0 S (wN rfl) rfl (by kernel_rfl) (by kernel_rfl) rfl rfl (by decide) (fun a S => ?_)
    exact leafL ⟨rfl, S⟩
  · refine fI 12 (.int .i64 p1.Num) [(11, .pointer (some ⟨b3, 0, none⟩))] 6 [some 5] rfl rfl (by kernel_rfl) rfl (by kernel_rfl) (by kernel_rfl) fun G a w S => ?_
    refine sLoad1 (p := b3) (off := 0) (T := 23) (vs := [.int .i64 p1.Num, .int .i64 p1.Den]) 0 (.int .i64 p1.Num) S (wN rfl) rfl (by kernel_rfl) (by kernel_rfl) (by kernel_rfl) rfl rfl (by decide) (fun a S => ?_)
    exact leafL ⟨rfl, S⟩
  · refine fI 13 (.pointer (some ⟨b2, 1, none⟩)) [(2, .pointer (some ⟨b2, 0, none⟩))] 7 [none] rfl rfl (by kernel_rfl) rfl (by kernel_rfl) (by kernel_rfl) fun G a w S => ?_
    refine sField (b := b2) (off := 0) 1 1 S (wN rfl) rfl (by kernel_rfl) (by kernel_rfl) rfl rfl (by decide) (fun a S => ?_)
    exact leafL ⟨rfl, S⟩
  · refine fI 14 (.int .i64 p0.Den) [(13, .pointer (some ⟨b2, 1, none⟩))] 8 [some 7] rfl rfl (by kernel_rfl) rfl (by kernel_rfl) (by kernel_rfl) fun G a w S => ?_
    refine sLoad1 (p := b2) (off := 1) (T := 23) (vs := [.int .i64 p0.Num, .int .i64 p0.Den]) 1 (.int .i64 p0.Den) S (wN rfl) rfl (by kernel_rfl) (by kernel_rfl) (by kernel_rfl) rfl rfl (by decide) (fun a S => ?_)
    exact leafL ⟨rfl, S⟩
  · refine fI 15 (.int .i64 (w64 (p1.Num * p0.Den))) [(12, .int .i64 p1.Num), (14, .int .i64 p0.Den)] 9 [some 6, some 8] rfl rfl (by kernel_rfl) rfl (by kernel_rfl) (by kernel_rfl) fun G a w S => ?_
    refine sBin (.int .i64 (w64 (p1.Num * p0.Den))) S (wN rfl) rfl (by kernel_rfl) (by kernel_rfl) (bMul _ _ _ _ p1.Num p0.Den) rfl (by decide) (fun a S => ?_)
    exact leafL ⟨rfl, S⟩
  · refine fI 16 (.int .i64 (w64 ((w64 (p0.Num * p1.Den)) + (w64 (p1.Num * p0.Den))))) [(10, .int .i64 (w64 (p0.Num * p1.Den))), (15, .int .i64 (w64 (p1.Num * p0.Den)))] 10 [some 4, some 9] rfl rfl (by kernel_rfl) rfl (by kernel_rfl) (by kernel_rfl) fun G a w S => ?_
    refine sBin (.int .i64 (w64 ((w64 (p0.Num * p1.Den)) + (w64 (p1.Num * p0.Den))))) S (wN rfl) rfl (by kernel_rfl) (by kernel_rfl) (bAdd _ _ _ _ (w64 (p0.Num * p1.Den)) (w64 (p1.Num * p0.Den))) rfl (by decide) (fun a S => ?_)
    exact leafL ⟨rfl, S⟩
  · refine fI 17 (.pointer (some ⟨b2, 1, none⟩)) [(2, .pointer (some ⟨b2, 0, none⟩))] 11 [none] rfl rfl (by kernel_rfl) rfl (by kernel_rfl) (by kernel_rfl) fun G a w S => ?_
    refine sField (b := b2) (off := 0) 1 1 S (wN rfl) rfl (by kernel_rfl) (by kernel_rfl) rfl rfl (by decide) (fun a S => ?_)
    exact leafL ⟨rfl, S⟩
  · refine fI 18 (.int .i64 p0.Den) [(17, .pointer (some ⟨b2, 1, none⟩))] 12 [some 11] rfl rfl (by kernel_rfl) rfl (by kernel_rfl) (by kernel_rfl) fun G a w S => ?_
    refine sLoad1 (p := b2) (off := 1) (T := 23) (vs := [.int .i64 p0.Num, .int .i64 p0.Den]) 1 (.int .i64 p0.Den) S (wN rfl) rfl (by kernel_rfl) (by kernel_rfl) (by kernel_rfl) rfl rfl (by decide) (fun a S => ?_)
    exact leafL ⟨rfl, S⟩
  · refine fI 19 (.pointer (some ⟨b3, 1, none⟩)) [(3, .pointer (some ⟨b3, 0, none⟩))] 13 [none] rfl rfl (by kernel_rfl) rfl (by kernel_rfl) (by kernel_rfl) fun G a w S => ?_
    refine sField (b := b3) (off := 0) 1 1 S (wN rfl) rfl (by kernel_rfl) (by kernel_rfl) rfl rfl (by decide) (fun a S => ?_)
    exact leafL ⟨rfl, S⟩
  · refine fI 20 (.int .i64 p1.Den) [(19, .pointer (some ⟨b3, 1, none⟩))] 14 [some 13] rfl rfl (by kernel_rfl) rfl (by kernel_rfl) (by kernel_rfl) fun G a w S => ?_
    refine sLoad1 (p := b3) (off := 1) (T := 23) (vs := [.int .i64 p1.Num, .int .i64 p1.Den]) 0 (.int .i64 p1.Den) S (wN rfl) rfl (by kernel_rfl) (by kernel_rfl) (by kernel_rfl) rfl rfl (by decide) (fun a S => ?_)
    exact leafL ⟨rfl, S⟩
  · refine fI 21 (.int .i64 (w64 (p0.Den * p1.Den))) [(18, .int .i64 p0.Den), (20, .int .i64 p1.Den)] 15 [some 12, some 14] rfl rfl (by kernel_rfl) rfl (by kernel_rfl) (by kernel_rfl) fun G a w S => ?_
    refine sBin (.int .i64 (w64 (p0.Den * p1.Den))) S (wN rfl) rfl (by kernel_rfl) (by kernel_rfl) (bMul _ _ _ _ p0.Den p1.Den) rfl (by decide) (fun a S => ?_)
    exact leafL ⟨rfl, S⟩
  · refine fI 4 (.int .i64 (w64 ((w64 (p0.Num * p1.Den)) + (w64 (p1.Num * p0.Den))))) [(16, .int .i64 (w64 ((w64 (p0.Num * p1.Den)) + (w64 (p1.Num * p0.Den)))))] 16 [some 10] rfl rfl (by kernel_rfl) rfl (by kernel_rfl) (by kernel_rfl) fun G a w S => ?_
    refine sMove (.int .i64 (w64 ((w64 (p0.Num * p1.Den)) + (w64 (p1.Num * p0.Den))))) S (wN rfl) (.inr rfl) (by kernel_rfl) rfl (by decide) (fun a S => ?_)
    exact leafL ⟨rfl, S⟩
  · refine fI 5 (.int .i64 (w64 (p0.Den * p1.Den))) [(21, .int .i64 (w64 (p0.Den * p1.Den)))] 17 [some 15] rfl rfl (by kernel_rfl) rfl (by kernel_rfl) (by kernel_rfl) fun G a w S => ?_
    refine sMove (.int .i64 (w64 (p0.Den * p1.Den))) S (wN rfl) (.inr rfl) (by kernel_rfl) rfl (by decide) (fun a S => ?_)
    exact leafL ⟨rfl, S⟩
  · refine leafT (hK4 _ _ ?_)
    obtain rfl := Option.some.inj h
    exact wp_ret (sRet (.tuple #[.int .i64 (w64 ((w64 (p0.Num * p1.Den)) + (w64 (p1.Num * p0.Den)))), .int .i64 (w64 (p0.Den * p1.Den))]) S (rsl2 rfl (rvT (t := 4) (v := .int .i64 (w64 ((w64 (p0.Num * p1.Den)) + (w64 (p1.Num * p0.Den))))) S (by kernel_rfl)) (rvT (t := 5) (v := .int .i64 (w64 (p0.Den * p1.Den))) S (by kernel_rfl))) ⟨(), rfl, S.mem.sel [] [] (by decide) (by kernel_rfl) (by kernel_rfl)⟩)

end Go.Proofs.Ytdfjcpnflmgdoaa
namespace Go.Proofs.Ytdfjcpnflmgdoaa
open Go.RowKit
set_option linter.unusedVariables false

noncomputable def F_yarn_run_s0 (p0 : api_Ratio) (p1 : api_Ratio) : Option (api_Ratio × Int) :=
  Option.bind (F_yarn_with p0 p1) fun r7 =>
  Option.bind (α := (Int × Int × Int × Int × Int × Int × Int)) (
    if r7.e == 0 then
      Option.bind (F_yarn_Add_1 r7.a r7.b) fun r23 =>
      Option.bind (F_yarn_calc_set_s1 r7 r23.1 r23.2) fun r25 =>
      some (r25.a.Num, r25.a.Den, r25.b.Num, r25.b.Den, r25.out.Num, r25.out.Den, r25.e)
    else
      some (r7.a.Num, r7.a.Den, r7.b.Num, r7.b.Den, r7.out.Num, r7.out.Den, r7.e)) fun (o12, o13, o14, o15, o16, o17, o18) =>
  Option.bind (F_yarn_run_1_s0 (yarn_calc.mk (api_Ratio.mk o12 o13) (api_Ratio.mk o14 o15) (api_Ratio.mk o16 o17) o18) (api_Ratio.mk 0 0) 0) fun r28 =>
  some (r28.2.1, r28.2.2)
def c_yarn_run_s0_val (r : (api_Ratio × Int)) (x : Value) : Value := .tuple #[x, .int .i64 r.2]
def c_yarn_run_s0_D (r : (api_Ratio × Int)) (x : Value) : List Fact := [fRep r_api_Ratio x r.1]
set_option maxHeartbeats 4000000 in
set_option maxRecDepth 100000 in
theorem c_yarn_run_s0 (E : Nat → Prop) (w0 : World) (p0 : api_Ratio) (v0 : Value) (p1 : api_Ratio) (v1 : Value) (r : (api_Ratio × Int)) (h : F_yarn_run_s0 p0 p1 = some r) (S : St0 E [] w0 w0 [] [fRep r_api_Ratio (v0) p0, fRep r_api_Ratio (v1) p1]) :
    Calls Try.prog 33 #[v0, v1, .func (.func 34) #[] #[]] w0 (Ret (X := Value) E [] w0 (c_yarn_run_s0_val r) (fun _ => []) (c_yarn_run_s0_D r)) := by
  unfold F_yarn_run_s0 at h
  obtain rfl : v0 = .agg #[.int .i64 p0.Num, .int .i64 p0.Den] := S.know (i := 0) (e := fRep r_api_Ratio (v0) p0) (by kernel_rfl)
  obtain rfl : v1 = .agg #[.int .i64 p1.Num, .int .i64 p1.Den] := S.know (i := 1) (e := fRep r_api_Ratio (v1) p1) (by kernel_rfl)
  refine sEnterD (args := [.agg #[.int .i64 p0.Num, .int .i64 p0.Den], .agg #[.int .i64 p1.Num, .int .i64 p1.Den], .func (.func 34) #[] #[]]) 27 Try.func33 rfl rfl (by simp) S (fun a S => ?_)
  refine sSeq (fun K1 hK1 => ?_)
  refine sRegion ?_
  refine sBox (v := .agg #[.int .i64 p0.Num, .int .i64 p0.Den]) S (wN rfl) rfl (by kernel_rfl) [.int .i64 p0.Num, .int .i64 p0.Den] rfl rfl (by decide) (fun a b2 w S => ?_)
  refine sBox (v := .agg #[.int .i64 p1.Num, .int .i64 p1.Den]) S (wN rfl) rfl (by kernel_rfl) [.int .i64 p1.Num, .int .i64 p1.Den] rfl rfl (by decide) (fun a b3 w S => ?_)
  refine sAlloc (.agg #[.int .i64 0, .int .i64 0]) S (wN rfl) rfl (by kernel_rfl) [.int .i64 0, .int .i64 0] rfl rfl (by decide) (fun a b4 w S => ?_)
  refine sAlloc (.int .i64 0) S (wN rfl) rfl (by kernel_rfl) [.int .i64 0] rfl rfl (by decide) (fun a b5 w S => ?_)
  refine leafL (leafT (hK1 _ _ ?_))
  refine sSeq (fun K6 hK6 => ?_)
  refine sRegion ?_
  refine sLoadN (p := b2) (off := 0) (T := 23) (vs := [.int .i64 p0.Num, .int .i64 p0.Den]) 3 [.int .i64 p0.Num, .int .i64 p0.Den] S (wN rfl) rfl (by kernel_rfl) (by kernel_rfl) (by kernel_rfl) (by kernel_rfl) rfl rfl (by decide) (fun a S => ?_)
  refine sLoadN (p := b3) (off := 0) (T := 23) (vs := [.int .i64 p1.Num, .int .i64 p1.Den]) 2 [.int .i64 p1.Num, .int .i64 p1.Den] S (wN rfl) rfl (by kernel_rfl) (by kernel_rfl) (by kernel_rfl) (by kernel_rfl) rfl rfl (by decide) (fun a S => ?_)
  obtain ⟨r7, hx8, h⟩ := bindSome h
  refine sCall (X := Value) (f := 43) (vs := [.agg #[.int .i64 p0.Num, .int .i64 p0.Den], .agg #[.int .i64 p1.Num, .int .i64 p1.Den]]) (val := c_yarn_with_val r7) (B' := fun _ => []) (D' := c_yarn_with_D r7) [] [eBox b5 24 [.int .i64 0], eBox b4 23 [.int .i64 0, .int .i64 0], eBox b3 23 [.int .i64 p1.Num, .int .i64 p1.Den], eBox b2 23 [.int .i64 p0.Num, .int .i64 p0.Den]] [fRep r_api_Ratio (.agg #[.int .i64 p0.Num, .int .i64 p0.Den]) p0, fRep r_api_Ratio (.agg #[.int .i64 p1.Num, .int .i64 p1.Den]) p1] [0, 1, 2, 3] [0, 1] S (wN rfl) rfl callee43 (by kernel_rfl) (by decide) (by kernel_rfl) (by kernel_rfl) (fun E1 w1 S1 => c_yarn_with E1 w1 p0 (.agg #[.int .i64 p0.Num, .int .i64 p0.Den]) p1 (.agg #[.int .i64 p1.Num, .int .i64 p1.Den]) r7 hx8 S1) rfl (by decide) (fun u9 a w S => ?_)
  obtain rfl : u9 = .agg #[.int .i64 r7.a.Num, .int .i64 r7.a.Den, .int .i64 r7.b.Num, .int .i64 r7.b.Den, .int .i64 r7.out.Num, .int .i64 r7.out.Den, .int .i64 r7.e] := S.mem.know (i := 0) (e := fRep r_yarn_calc (u9) r7) (by kernel_rfl)
  refine sAlloc (.agg #[.int .i64 0, .int .i64 0, .int .i64 0, .int .i64 0, .int .i64 0, .int .i64 0, .int .i64 0]) S (wN rfl) rfl (by kernel_rfl) [.int .i64 0, .int .i64 0, .int .i64 0, .int .i64 0, .int .i64 0, .int .i64 0, .int .i64 0] rfl rfl (by decide) (fun a b10 w S => ?_)
  refine sStore (p := b10) (off := 0) (T := 65) (vs := [.int .i64 0, .int .i64 0, .int .i64 0, .int .i64 0, .int .i64 0, .int .i64 0, .int .i64 0]) (v := .agg #[.int .i64 r7.a.Num, .int .i64 r7.a.Den, .int .i64 r7.b.Num, .int .i64 r7.b.Den, .int .i64 r7.out.Num, .int .i64 r7.out.Den, .int .i64 r7.e]) 0 [.int .i64 r7.a.Num, .int .i64 r7.a.Den, .int .i64 r7.b.Num, .int .i64 r7.b.Den, .int .i64 r7.out.Num, .int .i64 r7.out.Den, .int .i64 r7.e] S (wN rfl) rfl (by kernel_rfl) (by kernel_rfl) rfl (by kernel_rfl) (by kernel_rfl) rfl (by simp) rfl (fun a w S => ?_)
  refine leafL (leafT (hK6 _ _ ?_))
  refine sSeq (fun K11 hK11 => ?_)
  refine sRegion ?_
  refine sFunc (g := 53) (vs := [.pointer (some ⟨b10, 0, none⟩), .pointer (some ⟨b4, 0, none⟩), .pointer (some ⟨b5, 0, none⟩)]) S (wN rfl) rfl (by kernel_rfl) rfl (by decide) (fun a S => ?_)
  refine sDefer (g := 53) (caps := [.pointer (some ⟨b10, 0, none⟩), .pointer (some ⟨b4, 0, none⟩), .pointer (some ⟨b5, 0, none⟩)]) S (wN rfl) rfl (by kernel_rfl) rfl (fun a S => ?_)
  refine leafL (leafT (hK11 _ _ ?_))
  obtain ⟨t19, h, g20⟩ := bindSome h
  refine sCut (fun a w => ∃ o12, ∃ o13, ∃ o14, ∃ o15, ∃ o16, ∃ o17, ∃ o18, (o12, o13, o14, o15, o16, o17, o18) = t19 ∧ St [{ target := .fn (.func 53) #[.pointer (some ⟨b10, 0, none⟩), .pointer (some ⟨b4, 0, none⟩), .pointer (some ⟨b5, 0, none⟩)], args := #[] }] E [] w0 27 a w [(6, .pointer (some ⟨b4, 0, none⟩)), (7, .pointer (some ⟨b5, 0, none⟩))] [eBox b4 23 [.int .i64 0, .int .i64 0], eBox b5 24 [.int .i64 0], eBox b10 65 [.int .i64 o12, .int .i64 o13, .int .i64 o14, .int .i64 o15, .int .i64 o16, .int .i64 o17, .int .i64 o18]] []) ?_ (fun a w hI => ?_)
  · refine sSeq (fun K21 hK21 => ?_)
    refine sRegion ?_
    refine sField (b := b10) (off := 0) 6 6 S (wN rfl) rfl (by kernel_rfl) (by kernel_rfl) rfl rfl (by decide) (fun a S => ?_)
    refine sLoad1 (p := b10) (off := 6) (T := 65) (vs := [.int .i64 r7.a.Num, .int .i64 r7.a.Den, .int .i64 r7.b.Num, .int .i64 r7.b.Den, .int .i64 r7.out.Num, .int .i64 r7.out.Den, .int .i64 r7.e]) 0 (.int .i64 r7.e) S (wN rfl) rfl (by kernel_rfl) (by kernel_rfl) (by kernel_rfl) rfl rfl (by decide) (fun a S => ?_)
    refine sBin (.bool (r7.e == 0)) S (wN rfl) rfl (by kernel_rfl) (by kernel_rfl) (bEq _ _ _ _ .i64 r7.e 0) rfl (by decide) (fun a S => ?_)
    refine leafL (leafT (hK21 _ _ ?_))
    rcases iteSome h with ⟨hc22, h⟩ | ⟨hc22, h⟩
    · refine sCondT (b := r7.e == 0) S (by kernel_rfl) hc22 ?_
      refine sRegion ?_
      refine sMove (.func (.func 34) #[] #[]) S (wN rfl) (.inl rfl) (by kernel_rfl) rfl (by decide) (fun a S => ?_)
      refine sField (b := b10) (off := 0) 0 0 S (wN rfl) rfl (by kernel_rfl) (by kernel_rfl) rfl rfl (by decide) (fun a S => ?_)
      refine sLoadN (p := b10) (off := 0) (T := 65) (vs := [.int .i64 r7.a.Num, .int .i64 r7.a.Den, .int .i64 r7.b.Num, .int .i64 r7.b.Den, .int .i64 r7.out.Num, .int .i64 r7.out.Den, .int .i64 r7.e]) 0 [.int .i64 r7.a.Num, .int .i64 r7.a.Den] S (wN rfl) rfl (by kernel_rfl) (by kernel_rfl) (by kernel_rfl) (by kernel_rfl) rfl rfl (by decide) (fun a S => ?_)
      refine sField (b := b10) (off := 0) 2 2 S (wN rfl) rfl (by kernel_rfl) (by kernel_rfl) rfl rfl (by decide) (fun a S => ?_)
      refine sLoadN (p := b10) (off := 2) (T := 65) (vs := [.int .i64 r7.a.Num, .int .i64 r7.a.Den, .int .i64 r7.b.Num, .int .i64 r7.b.Den, .int .i64 r7.out.Num, .int .i64 r7.out.Den, .int .i64 r7.e]) 0 [.int .i64 r7.b.Num, .int .i64 r7.b.Den] S (wN rfl) rfl (by kernel_rfl) (by kernel_rfl) (by kernel_rfl) (by kernel_rfl) rfl rfl (by decide) (fun a S => ?_)
      obtain ⟨r23, hx24, h⟩ := bindSome h
      have S1 := S.mem
      have S1 := S1.learn (fRep r_api_Ratio (.agg #[.int .i64 r7.a.Num, .int .i64 r7.a.Den]) r7.a) rfl
      have S1 := S1.learn (fRep r_api_Ratio (.agg #[.int .i64 r7.b.Num, .int .i64 r7.b.Den]) r7.b) rfl
      refine sCallVQ (X := Unit) (g := 34) (vs := [.agg #[.int .i64 r7.a.Num, .int .i64 r7.a.Den], .agg #[.int .i64 r7.b.Num, .int .i64 r7.b.Den]]) (caps := []) (val := fun _ => .tuple #[.int .i64 r23.1, .int .i64 r23.2]) S (wN rfl) rfl (by kernel_rfl) callee34 (by kernel_rfl) (S1.quiet [1, 0] (by kernel_rfl)) (fun E1 w1 S1 => c_yarn_Add_1 E1 w1 r7.a (.agg #[.int .i64 r7.a.Num, .int .i64 r7.a.Den]) r7.b (.agg #[.int .i64 r7.b.Num, .int .i64 r7.b.Den]) r23 hx24 S1) rfl (by decide) (fun _ a w S => ?_)
      refine sExtract (vs := [.int .i64 r23.1, .int .i64 r23.2]) (.int .i64 r23.1) S (wN rfl) rfl (by kernel_rfl) rfl rfl (by decide) (fun a S => ?_)
      refine sExtract (vs := [.int .i64 r23.1, .int .i64 r23.2]) (.int .i64 r23.2) S (wN rfl) rfl (by kernel_rfl) rfl rfl (by decide) (fun a S => ?_)
      obtain ⟨r25, hx26, h⟩ := bindSome h
      refine sCall (X := Unit) (f := 54) (vs := [.pointer (some ⟨b10, 0, none⟩), .int .i64 r23.1, .int .i64 r23.2]) (val := fun _ => .tuple #[]) (B' := fun _ => [eBox b10 65 [.int .i64 r25.a.Num, .int .i64 r25.a.Den, .int .i64 r25.b.Num, .int .i64 r25.b.Den, .int .i64 r25.out.Num, .int .i64 r25.out.Den, .int .i64 r25.e]]) (D' := fun _ => []) [eBox b10 65 [.int .i64 r7.a.Num, .int .i64 r7.a.Den, .int .i64 r7.b.Num, .int .i64 r7.b.Den, .int .i64 r7.out.Num, .int .i64 r7.out.Den, .int .i64 r7.e]] [eBox b5 24 [.int .i64 0], eBox b4 23 [.int .i64 0, .int .i64 0], eBox b3 23 [.int .i64 p1.Num, .int .i64 p1.Den], eBox b2 23 [.int .i64 p0.Num, .int .i64 p0.Den]] [] [0, 1, 2, 3, 4] [] S (wN rfl) rfl callee54 (by kernel_rfl) (by decide) (by kernel_rfl) (by kernel_rfl) (fun E1 w1 S1 => c_yarn_calc_set_s1 E1 w1 r7 b10 r23.1 r23.2 r25 hx26 S1) rfl (by decide) (fun _ a w S => ?_)
      exact leafL (leafT (⟨r25.a.Num, r25.a.Den, r25.b.Num, r25.b.Den, r25.out.Num, r25.out.Den, r25.e, Option.some.inj h, S.fix [2, 1, 0] [] (by decide) (by kernel_rfl) (by kernel_rfl) (by kernel_rfl)⟩))
    · refine sCondF (b := r7.e == 0) S (by kernel_rfl) hc22 ?_
      exact wp_skip (leafT (⟨r7.a.Num, r7.a.Den, r7.b.Num, r7.b.Den, r7.out.Num, r7.out.Den, r7.e, Option.some.inj h, S.fix [2, 1, 0] [] (by decide) (by kernel_rfl) (by kernel_rfl) (by kernel_rfl)⟩))
  · obtain ⟨o12, o13, o14, o15, o16, o17, o18, rfl, S⟩ := hI
    have h := g20
    clear g20
    try dsimp only at h
    refine sSeq (fun K27 hK27 => ?_)
    refine sDraw (nf := [2, 3]) (W := [(0, 25, .agg #[.int .i64 0, .int .i64 0]), (1, 26, .int .i64 0)]) (by kernel_rfl) S ?_
    refine node_by (A := [[], [], [0], [0, 1, 2]]) (nf := [2, 3]) (Y := []) (W := [(0, 25, .agg #[.int .i64 0, .int .i64 0]), (1, 26, .int .i64 0)]) 4 (by kernel_rfl) (by kernel_rfl) (by kernel_rfl) (by kernel_rfl) (by kernel_rfl) [0, 1] (by kernel_rfl) (by decide) (by decide) (aF 0 3 (by decide) ?_ (aF 1 2 (by decide) ?_ (aN 2 1 (by decide) ?_ (aB 3 0 2 (by decide) (trivial))))) [] (fun q hq => by cases hq) (fun hY => absurd (hY 2 (by decide)) (by decide))
    · refine fI 25 (.agg #[.int .i64 0, .int .i64 0]) [(6, .pointer (some ⟨b4, 0, none⟩))] 0 [none] rfl rfl (by kernel_rfl) rfl (by kernel_rfl) (by kernel_rfl) fun G a w S => ?_
      refine sLoadN (p := b4) (off := 0) (T := 23) (vs := [.int .i64 0, .int .i64 0]) 0 [.int .i64 0, .int .i64 0] S (wN rfl) rfl (by kernel_rfl) (by kernel_rfl) (by kernel_rfl) (by kernel_rfl) rfl rfl (by decide) (fun a S => ?_)
      exact leafL ⟨rfl, S⟩
    · refine fI 26 (.int .i64 0) [(7, .pointer (some ⟨b5, 0, none⟩))] 1 [none] rfl rfl (by kernel_rfl) rfl (by kernel_rfl) (by kernel_rfl) fun G a w S => ?_
      refine sLoad1 (p := b5) (off := 0) (T := 24) (vs := [.int .i64 0]) 1 (.int .i64 0) S (wN rfl) rfl (by kernel_rfl) (by kernel_rfl) (by kernel_rfl) rfl rfl (by decide) (fun a S => ?_)
      exact leafL ⟨rfl, S⟩
    · refine ⟨_, [(6, .pointer (some ⟨b4, 0, none⟩)), (25, .agg #[.int .i64 0, .int .i64 0])], rfl, (srcs_of [none, some 0] rfl (by kernel_rfl) (by kernel_rfl)), fun G a w S => ?_⟩
      refine sStore (p := b4) (off := 0) (T := 23) (vs := [.int .i64 0, .int .i64 0]) (v := .agg #[.int .i64 0, .int .i64 0]) 0 [.int .i64 0, .int .i64 0] S (wN rfl) rfl (by kernel_rfl) (by kernel_rfl) rfl (by kernel_rfl) (by kernel_rfl) rfl (by simp) rfl (fun a w S => ?_)
      refine leafL ⟨rfl, _, _, .inr ⟨[], rfl, S, hz_of (by kernel_rfl), ?_⟩⟩
      refine node_by (A := [[], [], [0], [0, 1, 2]]) (nf := [2, 3]) (Y := [2]) 4 (by kernel_rfl) (by kernel_rfl) (by kernel_rfl) (by kernel_rfl) (by kernel_rfl) [0, 1] (by kernel_rfl) (by decide) (by decide) (aD 0 3 2 (by decide) (aF 1 2 (by decide) ?_ (aY 2 1 (by decide) (aN 3 0 (by decide) ?_ (trivial))))) [] (fun q hq => by cases hq) (fun hY => absurd (hY 3 (by decide)) (by decide))
      · refine fI 26 (.int .i64 0) [(7, .pointer (some ⟨b5, 0, none⟩))] 1 [none] rfl rfl (by kernel_rfl) rfl (by kernel_rfl) (by kernel_rfl) fun G a w S => ?_
        refine sLoad1 (p := b5) (off := 0) (T := 24) (vs := [.int .i64 0]) 1 (.int .i64 0) S (wN rfl) rfl (by kernel_rfl) (by kernel_rfl) (by kernel_rfl) rfl rfl (by decide) (fun a S => ?_)
        exact leafL ⟨rfl, S⟩
      · refine ⟨_, [(7, .pointer (some ⟨b5, 0, none⟩)), (26, .int .i64 0)], rfl, (srcs_of [none, some 1] rfl (by kernel_rfl) (by kernel_rfl)), fun G a w S => ?_⟩
        refine sStore (p := b5) (off := 0) (T := 24) (vs := [.int .i64 0]) (v := .int .i64 0) 1 [.int .i64 0] S (wN rfl) rfl (by kernel_rfl) (by kernel_rfl) rfl (by kernel_rfl) (by kernel_rfl) rfl (by simp) rfl (fun a w S => ?_)
        refine leafL ⟨rfl, _, _, .inr ⟨[], rfl, S, hz_of (by kernel_rfl), ?_⟩⟩
        refine node_by (A := [[], [], [0], [0, 1, 2]]) (nf := [2, 3]) (Y := [3, 2]) 4 (by kernel_rfl) (by kernel_rfl) (by kernel_rfl) (by kernel_rfl) (by kernel_rfl) [0, 1] (by kernel_rfl) (by decide) (by decide) (aD 0 3 3 (by decide) (aD 1 2 3 (by decide) (aY 2 1 (by decide) (aY 3 0 (by decide) (trivial))))) [(6, .pointer (some ⟨b4, 0, none⟩)), (7, .pointer (some ⟨b5, 0, none⟩))] (fin_of [none, none] rfl (by kernel_rfl) (by kernel_rfl)) (fun _ a w S => ?_)
        · refine leafT (hK27 _ _ ?_)
          obtain ⟨r28, hx29, h⟩ := bindSome h
          refine wp_ret (sLeave (X := Unit) (val := fun _ => .tuple #[]) (B' := fun _ => [eBox b10 65 [.int .i64 r28.1.a.Num, .int .i64 r28.1.a.Den, .int .i64 r28.1.b.Num, .int .i64 r28.1.b.Den, .int .i64 r28.1.out.Num, .int .i64 r28.1.out.Den, .int .i64 r28.1.e], eBox b4 23 [.int .i64 r28.2.1.Num, .int .i64 r28.2.1.Den], eBox b5 24 [.int .i64 r28.2.2]]) (D' := fun _ => []) [eBox b10 65 [.int .i64 o12, .int .i64 o13, .int .i64 o14, .int .i64 o15, .int .i64 o16, .int .i64 o17, .int .i64 o18], eBox b4 23 [.int .i64 0, .int .i64 0], eBox b5 24 [.int .i64 0]] [] [] [2, 1, 0] [] S callee53 (by decide) (by kernel_rfl) rfl (fun E1 w1 S1 => d_yarn_run_1_s0 E1 w1 (yarn_calc.mk (api_Ratio.mk o12 o13) (api_Ratio.mk o14 o15) (api_Ratio.mk o16 o17) o18) b10 (api_Ratio.mk 0 0) b4 0 b5 r28 hx29 S1) (fun _ a w S => ?_))
          obtain rfl := Option.some.inj h
          have S := S.learn (fRep r_api_Ratio (.agg #[.int .i64 r28.2.1.Num, .int .i64 r28.2.1.Den]) r28.2.1) rfl
          exact sFin (.tuple #[.agg #[.int .i64 r28.2.1.Num, .int .i64 r28.2.1.Den], .int .i64 r28.2.2]) S (rsl2 rfl (rvN (c := 6) (t := 23) (T := 23) (p := b4) 1 [.int .i64 r28.2.1.Num, .int .i64 r28.2.1.Den] S (by kernel_rfl) (by kernel_rfl) (by kernel_rfl) (by kernel_rfl)) (rv1 (c := 7) (t := 24) (T := 24) (p := b5) 2 (.int .i64 r28.2.2) S (by kernel_rfl) (by kernel_rfl) (by kernel_rfl))) ⟨(.agg #[.int .i64 r28.2.1.Num, .int .i64 r28.2.1.Den]), rfl, S.mem.sel [] [0] (by decide) (by kernel_rfl) (by kernel_rfl)⟩

end Go.Proofs.Ytdfjcpnflmgdoaa
namespace Go.Proofs.Ytdfjcpnflmgdoaa
open Go.RowKit
set_option linter.unusedVariables false

noncomputable def F_yarn_Add (p0 : api_Ratio) (p1 : api_Ratio) : Option (api_Ratio × Int) :=
  Option.bind (F_yarn_run_s0 p0 p1) fun r6 =>
  some (r6.1, r6.2)
def c_yarn_Add_val (r : (api_Ratio × Int)) (x : Value) : Value := .tuple #[x, .int .i64 r.2]
def c_yarn_Add_D (r : (api_Ratio × Int)) (x : Value) : List Fact := [fRep r_api_Ratio x r.1]
set_option maxHeartbeats 4000000 in
set_option maxRecDepth 100000 in
theorem c_yarn_Add (E : Nat → Prop) (w0 : World) (p0 : api_Ratio) (v0 : Value) (p1 : api_Ratio) (v1 : Value) (r : (api_Ratio × Int)) (h : F_yarn_Add p0 p1 = some r) (S : St0 E [] w0 w0 [] [fRep r_api_Ratio (v0) p0, fRep r_api_Ratio (v1) p1]) :
    Calls Try.prog 6 #[v0, v1] w0 (Ret (X := Value) E [] w0 (c_yarn_Add_val r) (fun _ => []) (c_yarn_Add_D r)) := by
  unfold F_yarn_Add at h
  obtain rfl : v0 = .agg #[.int .i64 p0.Num, .int .i64 p0.Den] := S.know (i := 0) (e := fRep r_api_Ratio (v0) p0) (by kernel_rfl)
  obtain rfl : v1 = .agg #[.int .i64 p1.Num, .int .i64 p1.Den] := S.know (i := 1) (e := fRep r_api_Ratio (v1) p1) (by kernel_rfl)
  refine sEnter (args := [.agg #[.int .i64 p0.Num, .int .i64 p0.Den], .agg #[.int .i64 p1.Num, .int .i64 p1.Den]]) 11 Try.func6 rfl rfl (by simp) S (fun a S => ?_)
  refine sSeq (fun K1 hK1 => ?_)
  refine sRegion ?_
  refine sBox (v := .agg #[.int .i64 p0.Num, .int .i64 p0.Den]) S (wN rfl) rfl (by kernel_rfl) [.int .i64 p0.Num, .int .i64 p0.Den] rfl rfl (by decide) (fun a b2 w S => ?_)
  refine sBox (v := .agg #[.int .i64 p1.Num, .int .i64 p1.Den]) S (wN rfl) rfl (by kernel_rfl) [.int .i64 p1.Num, .int .i64 p1.Den] rfl rfl (by decide) (fun a b3 w S => ?_)
  refine sAlloc (.agg #[.int .i64 0, .int .i64 0]) S (wN rfl) rfl (by kernel_rfl) [.int .i64 0, .int .i64 0] rfl rfl (by decide) (fun a b4 w S => ?_)
  refine sMove (.int .i64 0) S (wN rfl) (.inr rfl) (by kernel_rfl) rfl (by decide) (fun a S => ?_)
  refine leafL (leafT (hK1 _ _ ?_))
  refine sSeq (fun K5 hK5 => ?_)
  refine sRegion ?_
  refine sLoadN (p := b2) (off := 0) (T := 23) (vs := [.int .i64 p0.Num, .int .i64 p0.Den]) 2 [.int .i64 p0.Num, .int .i64 p0.Den] S (wN rfl) rfl (by kernel_rfl) (by kernel_rfl) (by kernel_rfl) (by kernel_rfl) rfl rfl (by decide) (fun a S => ?_)
  refine sLoadN (p := b3) (off := 0) (T := 23) (vs := [.int .i64 p1.Num, .int .i64 p1.Den]) 1 [.int .i64 p1.Num, .int .i64 p1.Den] S (wN rfl) rfl (by kernel_rfl) (by kernel_rfl) (by kernel_rfl) (by kernel_rfl) rfl rfl (by decide) (fun a S => ?_)
  obtain ⟨r6, hx7, h⟩ := bindSome h
  refine sCall (X := Value) (f := 33) (vs := [.agg #[.int .i64 p0.Num, .int .i64 p0.Den], .agg #[.int .i64 p1.Num, .int .i64 p1.Den], .func (.func 34) #[] #[]]) (val := c_yarn_run_s0_val r6) (B' := fun _ => []) (D' := c_yarn_run_s0_D r6) [] [eBox b4 23 [.int .i64 0, .int .i64 0], eBox b3 23 [.int .i64 p1.Num, .int .i64 p1.Den], eBox b2 23 [.int .i64 p0.Num, .int .i64 p0.Den]] [fRep r_api_Ratio (.agg #[.int .i64 p0.Num, .int .i64 p0.Den]) p0, fRep r_api_Ratio (.agg #[.int .i64 p1.Num, .int .i64 p1.Den]) p1] [0, 1, 2] [0, 1] S (wN rfl) rfl callee33 (by kernel_rfl) (by decide) (by kernel_rfl) (by kernel_rfl) (fun E1 w1 S1 => c_yarn_run_s0 E1 w1 p0 (.agg #[.int .i64 p0.Num, .int .i64 p0.Den]) p1 (.agg #[.int .i64 p1.Num, .int .i64 p1.Den]) r6 hx7 S1) rfl (by decide) (fun u8 a w S => ?_)
  obtain rfl : u8 = .agg #[.int .i64 r6.1.Num, .int .i64 r6.1.Den] := S.mem.know (i := 0) (e := fRep r_api_Ratio (u8) r6.1) (by kernel_rfl)
  refine sExtract (vs := [.agg #[.int .i64 r6.1.Num, .int .i64 r6.1.Den], .int .i64 r6.2]) (.agg #[.int .i64 r6.1.Num, .int .i64 r6.1.Den]) S (wN rfl) rfl (by kernel_rfl) rfl rfl (by decide) (fun a S => ?_)
  refine sExtract (vs := [.agg #[.int .i64 r6.1.Num, .int .i64 r6.1.Den], .int .i64 r6.2]) (.int .i64 r6.2) S (wN rfl) rfl (by kernel_rfl) rfl rfl (by decide) (fun a S => ?_)
  refine sStore (p := b4) (off := 0) (T := 23) (vs := [.int .i64 0, .int .i64 0]) (v := .agg #[.int .i64 r6.1.Num, .int .i64 r6.1.Den]) 0 [.int .i64 r6.1.Num, .int .i64 r6.1.Den] S (wN rfl) rfl (by kernel_rfl) (by kernel_rfl) rfl (by kernel_rfl) (by kernel_rfl) rfl (by simp) rfl (fun a w S => ?_)
  refine sMove (.int .i64 r6.2) S (wN rfl) (.inr rfl) (by kernel_rfl) rfl (by decide) (fun a S => ?_)
  refine leafL (leafT (hK5 _ _ ?_))
  obtain rfl := Option.some.inj h
  exact wp_ret (sRet (.tuple #[.agg #[.int .i64 r6.1.Num, .int .i64 r6.1.Den], .int .i64 r6.2]) S (rsl2 rfl (rvN (c := 4) (t := 23) (T := 23) (p := b4) 0 [.int .i64 r6.1.Num, .int .i64 r6.1.Den] S (by kernel_rfl) (by kernel_rfl) (by kernel_rfl) (by kernel_rfl)) (rvT (t := 5) (v := .int .i64 r6.2) S (by kernel_rfl))) ⟨(.agg #[.int .i64 r6.1.Num, .int .i64 r6.1.Den]), rfl, S.mem.sel [] [0] (by decide) (by kernel_rfl) (by kernel_rfl)⟩)

end Go.Proofs.Ytdfjcpnflmgdoaa
namespace Go.Proofs.Ytdfjcpnflmgdoaa
open Go.RowKit
set_option linter.unusedVariables false

noncomputable def F_raddleref23_Add (p0 : api_Ratio) (p1 : api_Ratio) : Option (api_Ratio × Int) :=
  Option.bind (F_raddleref23_Both p0 p1) fun r7 =>
  if r7 != 0 then
    some ((api_Ratio.mk 0 0), r7)
  else
    Option.bind (F_raddleref23_Make (w64 ((w64 (p0.Num * p1.Den)) + (w64 (p1.Num * p0.Den)))) (w64 (p0.Den * p1.Den))) fun r12 =>
    some (r12.1, r12.2)
def c_raddleref23_Add_val (r : (api_Ratio × Int)) (x : Value) : Value := .tuple #[x, .int .i64 r.2]
def c_raddleref23_Add_D (r : (api_Ratio × Int)) (x : Value) : List Fact := [fRep r_api_Ratio x r.1]
set_option maxHeartbeats 4000000 in
set_option maxRecDepth 100000 in
theorem c_raddleref23_Add (E : Nat → Prop) (w0 : World) (p0 : api_Ratio) (v0 : Value) (p1 : api_Ratio) (v1 : Value) (r : (api_Ratio × Int)) (h : F_raddleref23_Add p0 p1 = some r) (S : St0 E [] w0 w0 [] [fRep r_api_Ratio (v0) p0, fRep r_api_Ratio (v1) p1]) :
    Calls Try.prog 7 #[v0, v1] w0 (Ret (X := Value) E [] w0 (c_raddleref23_Add_val r) (fun _ => []) (c_raddleref23_Add_D r)) := by
  unfold F_raddleref23_Add at h
  obtain rfl : v0 = .agg #[.int .i64 p0.Num, .int .i64 p0.Den] := S.know (i := 0) (e := fRep r_api_Ratio (v0) p0) (by kernel_rfl)
  obtain rfl : v1 = .agg #[.int .i64 p1.Num, .int .i64 p1.Den] := S.know (i := 1) (e := fRep r_api_Ratio (v1) p1) (by kernel_rfl)
  refine sEnter (args := [.agg #[.int .i64 p0.Num, .int .i64 p0.Den], .agg #[.int .i64 p1.Num, .int .i64 p1.Den]]) 33 Try.func7 rfl rfl (by simp) S (fun a S => ?_)
  refine sSeq (fun K1 hK1 => ?_)
  refine sRegion ?_
  refine sBox (v := .agg #[.int .i64 p0.Num, .int .i64 p0.Den]) S (wN rfl) rfl (by kernel_rfl) [.int .i64 p0.Num, .int .i64 p0.Den] rfl rfl (by decide) (fun a b2 w S => ?_)
  refine sBox (v := .agg #[.int .i64 p1.Num, .int .i64 p1.Den]) S (wN rfl) rfl (by kernel_rfl) [.int .i64 p1.Num, .int .i64 p1.Den] rfl rfl (by decide) (fun a b3 w S => ?_)
  refine sAlloc (.agg #[.int .i64 0, .int .i64 0]) S (wN rfl) rfl (by kernel_rfl) [.int .i64 0, .int .i64 0] rfl rfl (by decide) (fun a b4 w S => ?_)
  refine sMove (.int .i64 0) S (wN rfl) (.inr rfl) (by kernel_rfl) rfl (by decide) (fun a S => ?_)
  refine leafL (leafT (hK1 _ _ ?_))
  refine sSeq (fun K5 hK5 => ?_)
  refine sSeq (fun K6 hK6 => ?_)
  refine sRegion ?_
  refine sLoadN (p := b2) (off := 0) (T := 23) (vs := [.int .i64 p0.Num, .int .i64 p0.Den]) 2 [.int .i64 p0.Num, .int .i64 p0.Den] S (wN rfl) rfl (by kernel_rfl) (by kernel_rfl) (by kernel_rfl) (by kernel_rfl) rfl rfl (by decide) (fun a S => ?_)
  refine sLoadN (p := b3) (off := 0) (T := 23) (vs := [.int .i64 p1.Num, .int .i64 p1.Den]) 1 [.int .i64 p1.Num, .int .i64 p1.Den] S (wN rfl) rfl (by kernel_rfl) (by kernel_rfl) (by kernel_rfl) (by kernel_rfl) rfl rfl (by decide) (fun a S => ?_)
  obtain ⟨r7, hx8, h⟩ := bindSome h
  have S1 := S.mem
  refine sCallQ (X := Unit) (f := 35) (vs := [.agg #[.int .i64 p0.Num, .int .i64 p0.Den], .agg #[.int .i64 p1.Num, .int .i64 p1.Den]]) (val := fun _ => .int .i64 r7) S (wN rfl) rfl callee35 (by kernel_rfl) (S1.quiet [0, 1] (by kernel_rfl)) (fun E1 w1 S1 => c_raddleref23_Both E1 w1 p0 (.agg #[.int .i64 p0.Num, .int .i64 p0.Den]) p1 (.agg #[.int .i64 p1.Num, .int .i64 p1.Den]) r7 hx8 S1) rfl (by decide) (fun _ a w S => ?_)
  refine sBin (.bool (r7 != 0)) S (wN rfl) rfl (by kernel_rfl) (by kernel_rfl) (bNe _ _ _ _ .i64 r7 0) rfl (by decide) (fun a S => ?_)
  refine leafL (leafT (hK6 _ _ ?_))
  rcases iteSome h with ⟨hc9, h⟩ | ⟨hc9, h⟩
  · refine sCondT (b := r7 != 0) S (by kernel_rfl) hc9 ?_
    refine sSeq (fun K10 hK10 => ?_)
    refine sRegion ?_
    refine sBuild [] [.int .i64 0, .int .i64 0] S (wN rfl) rfl (by kernel_rfl) (by kernel_rfl) rfl (by decide) (fun a S => ?_)
    refine sLoadN (p := b2) (off := 0) (T := 23) (vs := [.int .i64 p0.Num, .int .i64 p0.Den]) 2 [.int .i64 p0.Num, .int .i64 p0.Den] S (wN rfl) rfl (by kernel_rfl) (by kernel_rfl) (by kernel_rfl) (by kernel_rfl) rfl rfl (by decide) (fun a S => ?_)
    refine sLoadN (p := b3) (off := 0) (T := 23) (vs := [.int .i64 p1.Num, .int .i64 p1.Den]) 1 [.int .i64 p1.Num, .int .i64 p1.Den] S (wN rfl) rfl (by kernel_rfl) (by kernel_rfl) (by kernel_rfl) (by kernel_rfl) rfl rfl (by decide) (fun a S => ?_)
    have S1 := S.mem
    refine sCallQ (X := Unit) (f := 35) (vs := [.agg #[.int .i64 p0.Num, .int .i64 p0.Den], .agg #[.int .i64 p1.Num, .int .i64 p1.Den]]) (val := fun _ => .int .i64 r7) S (wN rfl) rfl callee35 (by kernel_rfl) (S1.quiet [0, 1] (by kernel_rfl)) (fun E1 w1 S1 => c_raddleref23_Both E1 w1 p0 (.agg #[.int .i64 p0.Num, .int .i64 p0.Den]) p1 (.agg #[.int .i64 p1.Num, .int .i64 p1.Den]) r7 hx8 S1) rfl (by decide) (fun _ a w S => ?_)
    refine sStore (p := b4) (off := 0) (T := 23) (vs := [.int .i64 0, .int .i64 0]) (v := .agg #[.int .i64 0, .int .i64 0]) 0 [.int .i64 0, .int .i64 0] S (wN rfl) rfl (by kernel_rfl) (by kernel_rfl) rfl (by kernel_rfl) (by kernel_rfl) rfl (by simp) rfl (fun a w S => ?_)
    refine sMove (.int .i64 r7) S (wN rfl) (.inr rfl) (by kernel_rfl) rfl (by decide) (fun a S => ?_)
    refine leafL (leafT (hK10 _ _ ?_))
    obtain rfl := Option.some.inj h
    have S := S.learn (fRep r_api_Ratio (.agg #[.int .i64 0, .int .i64 0]) (api_Ratio.mk 0 0)) rfl
    exact wp_ret (rThen (sRet (.tuple #[.agg #[.int .i64 0, .int .i64 0], .int .i64 r7]) S (rsl2 rfl (rvN (c := 4) (t := 23) (T := 23) (p := b4) 0 [.int .i64 0, .int .i64 0] S (by kernel_rfl) (by kernel_rfl) (by kernel_rfl) (by kernel_rfl)) (rvT (t := 5) (v := .int .i64 r7) S (by kernel_rfl))) ⟨(.agg #[.int .i64 0, .int .i64 0]), rfl, S.mem.sel [] [0] (by decide) (by kernel_rfl) (by kernel_rfl)⟩))
  · refine sCondF (b := r7 != 0) S (by kernel_rfl) hc9 ?_
    refine wp_skip (leafT (hK5 _ _ ?_))
    refine sSeq (fun K11 hK11 => ?_)
    refine sRegion ?_
    refine sField (b := b2) (off := 0) 0 0 S (wN rfl) rfl (by kernel_rfl) (by kernel_rfl) rfl rfl (by decide) (fun a S => ?_)
    refine sLoad1 (p := b2) (off := 0) (T := 23) (vs := [.int .i64 p0.Num, .int .i64 p0.Den]) 2 (.int .i64 p0.Num) S (wN rfl) rfl (by kernel_rfl) (by kernel_rfl) (by kernel_rfl) rfl rfl (by decide) (fun a S => ?_)
    refine sField (b := b3) (off := 0) 1 1 S (wN rfl) rfl (by kernel_rfl) (by kernel_rfl) rfl rfl (by decide) (fun a S => ?_)
    refine sLoad1 (p := b3) (off := 1) (T := 23) (vs := [.int .i64 p1.Num, .int .i64 p1.Den]) 1 (.int .i64 p1.Den) S (wN rfl) rfl (by kernel_rfl) (by kernel_rfl) (by kernel_rfl) rfl rfl (by decide) (fun a S => ?_)
    refine sBin (.int .i64 (w64 (p0.Num * p1.Den))) S (wN rfl) rfl (by kernel_rfl) (by kernel_rfl) (bMul _ _ _ _ p0.Num p1.Den) rfl (by decide) (fun a S => ?_)
    refine sField (b := b3) (off := 0) 0 0 S (wN rfl) rfl (by kernel_rfl) (by kernel_rfl) rfl rfl (by decide) (fun a S => ?_)
    refine sLoad1 (p := b3) (off := 0) (T := 23) (vs := [.int .i64 p1.Num, .int .i64 p1.Den]) 1 (.int .i64 p1.Num) S (wN rfl) rfl (by kernel_rfl) (by kernel_rfl) (by kernel_rfl) rfl rfl (by decide) (fun a S => ?_)
    refine sField (b := b2) (off := 0) 1 1 S (wN rfl) rfl (by kernel_rfl) (by kernel_rfl) rfl rfl (by decide) (fun a S => ?_)
    refine sLoad1 (p := b2) (off := 1) (T := 23) (vs := [.int .i64 p0.Num, .int .i64 p0.Den]) 2 (.int .i64 p0.Den) S (wN rfl) rfl (by kernel_rfl) (by kernel_rfl) (by kernel_rfl) rfl rfl (by decide) (fun a S => ?_)
    refine sBin (.int .i64 (w64 (p1.Num * p0.Den))) S (wN rfl) rfl (by kernel_rfl) (by kernel_rfl) (bMul _ _ _ _ p1.Num p0.Den) rfl (by decide) (fun a S => ?_)
    refine sBin (.int .i64 (w64 ((w64 (p0.Num * p1.Den)) + (w64 (p1.Num * p0.Den))))) S (wN rfl) rfl (by kernel_rfl) (by kernel_rfl) (bAdd _ _ _ _ (w64 (p0.Num * p1.Den)) (w64 (p1.Num * p0.Den))) rfl (by decide) (fun a S => ?_)
    refine sField (b := b2) (off := 0) 1 1 S (wN rfl) rfl (by kernel_rfl) (by kernel_rfl) rfl rfl (by decide) (fun a S => ?_)
    refine sLoad1 (p := b2) (off := 1) (T := 23) (vs := [.int .i64 p0.Num, .int .i64 p0.Den]) 2 (.int .i64 p0.Den) S (wN rfl) rfl (by kernel_rfl) (by kernel_rfl) (by kernel_rfl) rfl rfl (by decide) (fun a S => ?_)
    refine sField (b := b3) (off := 0) 1 1 S (wN rfl) rfl (by kernel_rfl) (by kernel_rfl) rfl rfl (by decide) (fun a S => ?_)
    refine sLoad1 (p := b3) (off := 1) (T := 23) (vs := [.int .i64 p1.Num, .int .i64 p1.Den]) 1 (.int .i64 p1.Den) S (wN rfl) rfl (by kernel_rfl) (by kernel_rfl) (by kernel_rfl) rfl rfl (by decide) (fun a S => ?_)
    refine sBin (.int .i64 (w64 (p0.Den * p1.Den))) S (wN rfl) rfl (by kernel_rfl) (by kernel_rfl) (bMul _ _ _ _ p0.Den p1.Den) rfl (by decide) (fun a S => ?_)
    obtain ⟨r12, hx13, h⟩ := bindSome h
    refine sCall (X := Value) (f := 36) (vs := [.int .i64 (w64 ((w64 (p0.Num * p1.Den)) + (w64 (p1.Num * p0.Den)))), .int .i64 (w64 (p0.Den * p1.Den))]) (val := c_raddleref23_Make_val r12) (B' := fun _ => []) (D' := c_raddleref23_Make_D r12) [] [eBox b4 23 [.int .i64 0, .int .i64 0], eBox b3 23 [.int .i64 p1.Num, .int .i64 p1.Den], eBox b2 23 [.int .i64 p0.Num, .int .i64 p0.Den]] [] [0, 1, 2] [] S (wN rfl) rfl callee36 (by kernel_rfl) (by decide) (by kernel_rfl) (by kernel_rfl) (fun E1 w1 S1 => c_raddleref23_Make E1 w1 (w64 ((w64 (p0.Num * p1.Den)) + (w64 (p1.Num * p0.Den)))) (w64 (p0.Den * p1.Den)) r12 hx13 S1) rfl (by decide) (fun u14 a w S => ?_)
    obtain rfl : u14 = .agg #[.int .i64 r12.1.Num, .int .i64 r12.1.Den] := S.mem.know (i := 0) (e := fRep r_api_Ratio (u14) r12.1) (by kernel_rfl)
    refine sExtract (vs := [.agg #[.int .i64 r12.1.Num, .int .i64 r12.1.Den], .int .i64 r12.2]) (.agg #[.int .i64 r12.1.Num, .int .i64 r12.1.Den]) S (wN rfl) rfl (by kernel_rfl) rfl rfl (by decide) (fun a S => ?_)
    refine sExtract (vs := [.agg #[.int .i64 r12.1.Num, .int .i64 r12.1.Den], .int .i64 r12.2]) (.int .i64 r12.2) S (wN rfl) rfl (by kernel_rfl) rfl rfl (by decide) (fun a S => ?_)
    refine sStore (p := b4) (off := 0) (T := 23) (vs := [.int .i64 0, .int .i64 0]) (v := .agg #[.int .i64 r12.1.Num, .int .i64 r12.1.Den]) 0 [.int .i64 r12.1.Num, .int .i64 r12.1.Den] S (wN rfl) rfl (by kernel_rfl) (by kernel_rfl) rfl (by kernel_rfl) (by kernel_rfl) rfl (by simp) rfl (fun a w S => ?_)
    refine sMove (.int .i64 r12.2) S (wN rfl) (.inr rfl) (by kernel_rfl) rfl (by decide) (fun a S => ?_)
    refine leafL (leafT (hK11 _ _ ?_))
    obtain rfl := Option.some.inj h
    exact wp_ret (sRet (.tuple #[.agg #[.int .i64 r12.1.Num, .int .i64 r12.1.Den], .int .i64 r12.2]) S (rsl2 rfl (rvN (c := 4) (t := 23) (T := 23) (p := b4) 0 [.int .i64 r12.1.Num, .int .i64 r12.1.Den] S (by kernel_rfl) (by kernel_rfl) (by kernel_rfl) (by kernel_rfl)) (rvT (t := 5) (v := .int .i64 r12.2) S (by kernel_rfl))) ⟨(.agg #[.int .i64 r12.1.Num, .int .i64 r12.1.Den]), rfl, S.mem.sel [] [0] (by decide) (by kernel_rfl) (by kernel_rfl)⟩)

end Go.Proofs.Ytdfjcpnflmgdoaa
namespace Go.Proofs.Ytdfjcpnflmgdoaa
open Go.RowKit
set_option linter.unusedVariables false

def anc_raddlelaw23_YarnWorks_0 : List (List Nat) := [[], [], [0, 1], [0, 1, 2], [0, 1, 2, 3], [0, 1, 2, 3], [0, 1, 2, 3, 4, 5], [0, 1, 2, 3, 4, 5, 6], [0, 1, 2, 3, 4, 5, 6, 7], [0, 1, 2, 3, 4, 5, 6, 7, 8], [0, 1, 2, 3, 4, 5, 6, 7, 8, 9], [0, 1, 2, 3, 4, 5, 6, 7, 8], [0, 1, 2, 3, 4, 5, 6, 7, 8, 9, 10, 11], [0, 1, 2, 3, 4, 5, 6, 7, 8, 9, 10, 11, 12], [0, 1, 2, 3, 4, 5, 6, 7, 8, 9, 10, 11, 12, 13]]
noncomputable def F_raddlelaw23_YarnWorks (p0 : api_Ratio) (p1 : api_Ratio) : Option Bool :=
  Option.bind (F_yarn_Add p0 p1) fun r5 =>
  Option.bind (F_raddleref23_Add p0 p1) fun r10 =>
  Option.bind (α := Bool) (
    if !((r5.1.Num == r10.1.Num) && ((r5.1.Den == r10.1.Den) && true)) then
      some true
    else
      if r5.2 != r10.2 then
        some true
      else
        Option.bind (F_yarn_Check p0) fun r20 =>
        Option.bind (F_raddleref23_Check p0) fun r22 =>
        some (r20 != r22)) fun o15 =>
  if o15 then
    some false
  else
    Option.bind (F_yarn_Sub p0 p1) fun r27 =>
    Option.bind (F_raddleref23_Sub p0 p1) fun r31 =>
    Option.bind (α := Bool) (
      if !((r27.1.Num == r31.1.Num) && ((r27.1.Den == r31.1.Den) && true)) then
        some true
      else
        some (r27.2 != r31.2)) fun o35 =>
    if o35 then
      some false
    else
      Option.bind (F_yarn_Mul p0 p1) fun r42 =>
      Option.bind (F_raddleref23_Mul p0 p1) fun r46 =>
      Option.bind (α := Bool) (
        if !((r42.1.Num == r46.1.Num) && ((r42.1.Den == r46.1.Den) && true)) then
          some true
        else
          some (r42.2 != r46.2)) fun o50 =>
      if o50 then
        some false
      else
        Option.bind (F_yarn_Div p0 p1) fun r57 =>
        Option.bind (F_raddleref23_Div p0 p1) fun r61 =>
        Option.bind (α := Bool) (
          if !((r57.1.Num == r61.1.Num) && ((r57.1.Den == r61.1.Den) && true)) then
            some true
          else
            some (r57.2 != r61.2)) fun o65 =>
        if o65 then
          some false
        else
          Option.bind (F_yarn_Cmp p0 p1) fun r72 =>
          Option.bind (F_raddleref23_Cmp p0 p1) fun r75 =>
          Option.bind (F_yarn_Floor p0) fun r78 =>
          Option.bind (F_raddleref23_Floor p0) fun r81 =>
          Option.bind (F_yarn_Ceil p0) fun r84 =>
          Option.bind (F_raddleref23_Ceil p0) fun r87 =>
          Option.bind (α := Bool) (
            if r72.1 == r75.1 then
              if r72.2 == r75.2 then
                if r78.1 == r81.1 then
                  if r78.2 == r81.2 then
                    if r84.1 == r87.1 then
                      some (r84.2 == r87.2)
                    else
                      some false
                  else
                    some false
                else
                  some false
              else
                some false
            else
              some false) fun o89 =>
          some o89
set_option maxHeartbeats 4000000 in
set_option maxRecDepth 100000 in
theorem c_raddlelaw23_YarnWorks (E : Nat → Prop) (w0 : World) (p0 : api_Ratio) (v0 : Value) (p1 : api_Ratio) (v1 : Value) (r : Bool) (h : F_raddlelaw23_YarnWorks p0 p1 = some r) (S : St0 E [] w0 w0 [] [fRep r_api_Ratio (v0) p0, fRep r_api_Ratio (v1) p1]) :
    Calls Try.prog 3 #[v0, v1] w0 (Ret (X := Unit) E [] w0 (fun _ => .bool r) (fun _ => []) (fun _ => [])) := by
  unfold F_raddlelaw23_YarnWorks at h
  obtain rfl : v0 = .agg #[.int .i64 p0.Num, .int .i64 p0.Den] := S.know (i := 0) (e := fRep r_api_Ratio (v0) p0) (by kernel_rfl)
  obtain rfl : v1 = .agg #[.int .i64 p1.Num, .int .i64 p1.Den] := S.know (i := 1) (e := fRep r_api_Ratio (v1) p1) (by kernel_rfl)
  refine sEnter (args := [.agg #[.int .i64 p0.Num, .int .i64 p0.Den], .agg #[.int .i64 p1.Num, .int .i64 p1.Den]]) 168 Try.func3 rfl rfl (by simp) S (fun a S => ?_)
  refine sSeq (fun K1 hK1 => ?_)
  refine sRegion ?_
  refine sBox (v := .agg #[.int .i64 p0.Num, .int .i64 p0.Den]) S (wN rfl) rfl (by kernel_rfl) [.int .i64 p0.Num, .int .i64 p0.Den] rfl rfl (by decide) (fun a b2 w S => ?_)
  refine sBox (v := .agg #[.int .i64 p1.Num, .int .i64 p1.Den]) S (wN rfl) rfl (by kernel_rfl) [.int .i64 p1.Num, .int .i64 p1.Den] rfl rfl (by decide) (fun a b3 w S => ?_)
  refine sMove (.bool false) S (wN rfl) (.inr rfl) (by kernel_rfl) rfl (by decide) (fun a S => ?_)
  refine leafL (leafT (hK1 _ _ ?_))
  refine sSeq (fun K4 hK4 => ?_)
  refine sRegion ?_
  refine sLoadN (p := b2) (off := 0) (T := 23) (vs := [.int .i64 p0.Num, .int .i64 p0.Den]) 1 [.int .i64 p0.Num, .int .i64 p0.Den] S (wN rfl) rfl (by kernel_rfl) (by kernel_rfl) (by kernel_rfl) (by kernel_rfl) rfl rfl (by decide) (fun a S => ?_)
  refine sLoadN (p := b3) (off := 0) (T := 23) (vs := [.int .i64 p1.Num, .int .i64 p1.Den]) 0 [.int .i64 p1.Num, .int .i64 p1.Den] S (wN rfl) rfl (by kernel_rfl) (by kernel_rfl) (by kernel_rfl) (by kernel_rfl) rfl rfl (by decide) (fun a S => ?_)
  obtain ⟨r5, hx6, h⟩ := bindSome h
  refine sCall (X := Value) (f := 6) (vs := [.agg #[.int .i64 p0.Num, .int .i64 p0.Den], .agg #[.int .i64 p1.Num, .int .i64 p1.Den]]) (val := c_yarn_Add_val r5) (B' := fun _ => []) (D' := c_yarn_Add_D r5) [] [eBox b3 23 [.int .i64 p1.Num, .int .i64 p1.Den], eBox b2 23 [.int .i64 p0.Num, .int .i64 p0.Den]] [fRep r_api_Ratio (.agg #[.int .i64 p0.Num, .int .i64 p0.Den]) p0, fRep r_api_Ratio (.agg #[.int .i64 p1.Num, .int .i64 p1.Den]) p1] [0, 1] [0, 1] S (wN rfl) rfl callee6 (by kernel_rfl) (by decide) (by kernel_rfl) (by kernel_rfl) (fun E1 w1 S1 => c_yarn_Add E1 w1 p0 (.agg #[.int .i64 p0.Num, .int .i64 p0.Den]) p1 (.agg #[.int .i64 p1.Num, .int .i64 p1.Den]) r5 hx6 S1) rfl (by decide) (fun u7 a w S => ?_)
  obtain rfl : u7 = .agg #[.int .i64 r5.1.Num, .int .i64 r5.1.Den] := S.mem.know (i := 0) (e := fRep r_api_Ratio (u7) r5.1) (by kernel_rfl)
  refine sMove (.tuple #[.agg #[.int .i64 r5.1.Num, .int .i64 r5.1.Den], .int .i64 r5.2]) S (wN rfl) (.inl rfl) (by kernel_rfl) rfl (by decide) (fun a S => ?_)
  refine sExtract (vs := [.agg #[.int .i64 r5.1.Num, .int .i64 r5.1.Den], .int .i64 r5.2]) (.agg #[.int .i64 r5.1.Num, .int .i64 r5.1.Den]) S (wN rfl) rfl (by kernel_rfl) rfl rfl (by decide) (fun a S => ?_)
  refine sExtract (vs := [.agg #[.int .i64 r5.1.Num, .int .i64 r5.1.Den], .int .i64 r5.2]) (.int .i64 r5.2) S (wN rfl) rfl (by kernel_rfl) rfl rfl (by decide) (fun a S => ?_)
  refine sAlloc (.agg #[.int .i64 0, .int .i64 0]) S (wN rfl) rfl (by kernel_rfl) [.int .i64 0, .int .i64 0] rfl rfl (by decide) (fun a b8 w S => ?_)
  refine sStore (p := b8) (off := 0) (T := 23) (vs := [.int .i64 0, .int .i64 0]) (v := .agg #[.int .i64 r5.1.Num, .int .i64 r5.1.Den]) 0 [.int .i64 r5.1.Num, .int .i64 r5.1.Den] S (wN rfl) rfl (by kernel_rfl) (by kernel_rfl) rfl (by kernel_rfl) (by kernel_rfl) rfl (by simp) rfl (fun a w S => ?_)
  refine sMove (.int .i64 r5.2) S (wN rfl) (.inr rfl) (by kernel_rfl) rfl (by decide) (fun a S => ?_)
  refine leafL (leafT (hK4 _ _ ?_))
  refine sSeq (fun K9 hK9 => ?_)
  refine sRegion ?_
  refine sLoadN (p := b2) (off := 0) (T := 23) (vs := [.int .i64 p0.Num, .int .i64 p0.Den]) 2 [.int .i64 p0.Num, .int .i64 p0.Den] S (wN rfl) rfl (by kernel_rfl) (by kernel_rfl) (by kernel_rfl) (by kernel_rfl) rfl rfl (by decide) (fun a S => ?_)
  refine sLoadN (p := b3) (off := 0) (T := 23) (vs := [.int .i64 p1.Num, .int .i64 p1.Den]) 1 [.int .i64 p1.Num, .int .i64 p1.Den] S (wN rfl) rfl (by kernel_rfl) (by kernel_rfl) (by kernel_rfl) (by kernel_rfl) rfl rfl (by decide) (fun a S => ?_)
  obtain ⟨r10, hx11, h⟩ := bindSome h
  refine sCall (X := Value) (f := 7) (vs := [.agg #[.int .i64 p0.Num, .int .i64 p0.Den], .agg #[.int .i64 p1.Num, .int .i64 p1.Den]]) (val := c_raddleref23_Add_val r10) (B' := fun _ => []) (D' := c_raddleref23_Add_D r10) [] [eBox b8 23 [.int .i64 r5.1.Num, .int .i64 r5.1.Den], eBox b3 23 [.int .i64 p1.Num, .int .i64 p1.Den], eBox b2 23 [.int .i64 p0.Num, .int .i64 p0.Den]] [fRep r_api_Ratio (.agg #[.int .i64 p0.Num, .int .i64 p0.Den]) p0, fRep r_api_Ratio (.agg #[.int .i64 p1.Num, .int .i64 p1.Den]) p1] [0, 1, 2] [1, 2] S (wN rfl) rfl callee7 (by kernel_rfl) (by decide) (by kernel_rfl) (by kernel_rfl) (fun E1 w1 S1 => c_raddleref23_Add E1 w1 p0 (.agg #[.int .i64 p0.Num, .int .i64 p0.Den]) p1 (.agg #[.int .i64 p1.Num, .int .i64 p1.Den]) r10 hx11 S1) rfl (by decide) (fun u12 a w S => ?_)
  obtain rfl : u12 = .agg #[.int .i64 r10.1.Num, .int .i64 r10.1.Den] := S.mem.know (i := 0) (e := fRep r_api_Ratio (u12) r10.1) (by kernel_rfl)
  refine sMove (.tuple #[.agg #[.int .i64 r10.1.Num, .int .i64 r10.1.Den], .int .i64 r10.2]) S (wN rfl) (.inl rfl) (by kernel_rfl) rfl (by decide) (fun a S => ?_)
  refine sExtract (vs := [.agg #[.int .i64 r10.1.Num, .int .i64 r10.1.Den], .int .i64 r10.2]) (.agg #[.int .i64 r10.1.Num, .int .i64 r10.1.Den]) S (wN rfl) rfl (by kernel_rfl) rfl rfl (by decide) (fun a S => ?_)
  refine sExtract (vs := [.agg #[.int .i64 r10.1.Num, .int .i64 r10.1.Den], .int .i64 r10.2]) (.int .i64 r10.2) S (wN rfl) rfl (by kernel_rfl) rfl rfl (by decide) (fun a S => ?_)
  refine sAlloc (.agg #[.int .i64 0, .int .i64 0]) S (wN rfl) rfl (by kernel_rfl) [.int .i64 0, .int .i64 0] rfl rfl (by decide) (fun a b13 w S => ?_)
  refine sStore (p := b13) (off := 0) (T := 23) (vs := [.int .i64 0, .int .i64 0]) (v := .agg #[.int .i64 r10.1.Num, .int .i64 r10.1.Den]) 0 [.int .i64 r10.1.Num, .int .i64 r10.1.Den] S (wN rfl) rfl (by kernel_rfl) (by kernel_rfl) rfl (by kernel_rfl) (by kernel_rfl) rfl (by simp) rfl (fun a w S => ?_)
  refine sMove (.int .i64 r10.2) S (wN rfl) (.inr rfl) (by kernel_rfl) rfl (by decide) (fun a S => ?_)
  refine leafL (leafT (hK9 _ _ ?_))
  refine sSeq (fun K14 hK14 => ?_)
  obtain ⟨t16, h, g17⟩ := bindSome h
  refine sCut (fun a w => ∃ o15, o15 = t16 ∧ St [] E [] w0 168 a w [(2, .pointer (some ⟨b2, 0, none⟩)), (3, .pointer (some ⟨b3, 0, none⟩)), (5, .pointer (some ⟨b8, 0, none⟩)), (7, .pointer (some ⟨b13, 0, none⟩)), (47, .bool o15)] [eBox b2 23 [.int .i64 p0.Num, .int .i64 p0.Den], eBox b3 23 [.int .i64 p1.Num, .int .i64 p1.Den], eBox b8 23 [.int .i64 r5.1.Num, .int .i64 r5.1.Den], eBox b13 23 [.int .i64 r10.1.Num, .int .i64 r10.1.Den]] []) ?_ (fun a w hI => ?_)
  · rcases iteSome h with ⟨hc18, h⟩ | ⟨hc18, h⟩
    · refine sDraw (nf := []) (W := [(0, 33, .agg #[.int .i64 r5.1.Num, .int .i64 r5.1.Den]), (1, 34, .agg #[.int .i64 r10.1.Num, .int .i64 r10.1.Den]), (2, 35, .bool (!((r5.1.Num == r10.1.Num) && ((r5.1.Den == r10.1.Den) && true)))), (3, 36, .bool (!((r5.1.Num == r10.1.Num) && ((r5.1.Den == r10.1.Den) && true)))), (4, 37, undef), (5, 38, undef), (6, 39, undef), (7, 40, .bool true), (8, 41, .bool true), (9, 42, undef), (10, 43, undef), (11, 44, undef), (12, 45, undef), (13, 46, undef), (14, 47, .bool true)]) (by kernel_rfl) S ?_
      refine node_by (A := anc_raddlelaw23_YarnWorks_0) (nf := []) (Y := []) (W := [(0, 33, .agg #[.int .i64 r5.1.Num, .int .i64 r5.1.Den]), (1, 34, .agg #[.int .i64 r10.1.Num, .int .i64 r10.1.Den]), (2, 35, .bool (!((r5.1.Num == r10.1.Num) && ((r5.1.Den == r10.1.Den) && true)))), (3, 36, .bool (!((r5.1.Num == r10.1.Num) && ((r5.1.Den == r10.1.Den) && true)))), (4, 37, undef), (5, 38, undef), (6, 39, undef), (7, 40, .bool true), (8, 41, .bool true), (9, 42, undef), (10, 43, undef), (11, 44, undef), (12, 45, undef), (13, 46, undef), (14, 47, .bool true)]) 15 (by kernel_rfl) (by kernel_rfl) (by kernel_rfl) (by kernel_rfl) (by kernel_rfl) [0, 1, 2, 3, 4, 5, 6, 7, 8, 9, 10, 11, 12, 13, 14] (by kernel_rfl) (by decide) (by decide) (aF 0 14 (by decide) ?_ (aF 1 13 (by decide) ?_ (aF 2 12 (by decide) ?_ (aF 3 11 (by decide) ?_ (aF 4 10 (by decide) ?_ (aF 5 9 (by decide) ?_ (aF 6 8 (by decide) ?_ (aF 7 7 (by decide) ?_ (aF 8 6 (by decide) ?_ (aF 9 5 (by decide) ?_ (aF 10 4 (by decide) ?_ (aF 11 3 (by decide) ?_ (aF 12 2 (by decide) ?_ (aF 13 1 (by decide) ?_ (aF 14 0 (by decide) ?_ (trivial)))))))))))))))) [(2, .pointer (some ⟨b2, 0, none⟩)), (3, .pointer (some ⟨b3, 0, none⟩)), (5, .pointer (some ⟨b8, 0, none⟩)), (7, .pointer (some ⟨b13, 0, none⟩)), (47, .bool true)] (fin_of [none, none, none, none, some 14] rfl (by kernel_rfl) (by kernel_rfl)) (fun _ a w S => ?_)
      · refine fI 33 (.agg #[.int .i64 r5.1.Num, .int .i64 r5.1.Den]) [(5, .pointer (some ⟨b8, 0, none⟩))] 0 [none] rfl rfl (by kernel_rfl) rfl (by kernel_rfl) (by kernel_rfl) fun G a w S => ?_
        refine sLoadN (p := b8) (off := 0) (T := 23) (vs := [.int .i64 r5.1.Num, .int .i64 r5.1.Den]) 1 [.int .i64 r5.1.Num, .int .i64 r5.1.Den] S (wN rfl) rfl (by kernel_rfl) (by kernel_rfl) (by kernel_rfl) (by kernel_rfl) rfl rfl (by decide) (fun a S => ?_)
        exact leafL ⟨rfl, S⟩
      · refine fI 34 (.agg #[.int .i64 r10.1.Num, .int .i64 r10.1.Den]) [(7, .pointer (some ⟨b13, 0, none⟩))] 1 [none] rfl rfl (by kernel_rfl) rfl (by kernel_rfl) (by kernel_rfl) fun G a w S => ?_
        refine sLoadN (p := b13) (off := 0) (T := 23) (vs := [.int .i64 r10.1.Num, .int .i64 r10.1.Den]) 0 [.int .i64 r10.1.Num, .int .i64 r10.1.Den] S (wN rfl) rfl (by kernel_rfl) (by kernel_rfl) (by kernel_rfl) (by kernel_rfl) rfl rfl (by decide) (fun a S => ?_)
        exact leafL ⟨rfl, S⟩
      · refine fI 35 (.bool (!((r5.1.Num == r10.1.Num) && ((r5.1.Den == r10.1.Den) && true)))) [(33, .agg #[.int .i64 r5.1.Num, .int .i64 r5.1.Den]), (34, .agg #[.int .i64 r10.1.Num, .int .i64 r10.1.Den])] 2 [some 0, some 1] rfl rfl (by kernel_rfl) rfl (by kernel_rfl) (by kernel_rfl) fun G a w S => ?_
        refine sBin (.bool (!((r5.1.Num == r10.1.Num) && ((r5.1.Den == r10.1.Den) && true)))) S (wN rfl) rfl (by kernel_rfl) (by kernel_rfl) (bNeV _ _ _ _ #[.int .i64 r5.1.Num, .int .i64 r5.1.Den] #[.int .i64 r10.1.Num, .int .i64 r10.1.Den] ((r5.1.Num == r10.1.Num) && ((r5.1.Den == r10.1.Den) && true)) (by kernel_rfl) (eqlV_of (by kernel_rfl))) rfl (by decide) (fun a S => ?_)
        exact leafL ⟨rfl, S⟩
      · refine fI 36 (.bool (!((r5.1.Num == r10.1.Num) && ((r5.1.Den == r10.1.Den) && true)))) [(35, .bool (!((r5.1.Num == r10.1.Num) && ((r5.1.Den == r10.1.Den) && true))))] 3 [some 2] rfl rfl (by kernel_rfl) rfl (by kernel_rfl) (by kernel_rfl) fun G a w S => ?_
        refine sMove (.bool (!((r5.1.Num == r10.1.Num) && ((r5.1.Den == r10.1.Den) && true)))) S (wN rfl) (.inl rfl) (by kernel_rfl) rfl (by decide) (fun a S => ?_)
        exact leafL ⟨rfl, S⟩
      · refine fI 37 undef [(6, .int .i64 r5.2), (36, .bool (!((r5.1.Num == r10.1.Num) && ((r5.1.Den == r10.1.Den) && true))))] 4 [none, some 3] rfl rfl (by kernel_rfl) rfl (by kernel_rfl) (by kernel_rfl) fun G a w S => ?_
        refine sSkip (c := !((r5.1.Num == r10.1.Num) && ((r5.1.Den == r10.1.Den) && true))) 3 false 36 37 S rfl rfl (by kernel_rfl) hc18 rfl (by decide) (fun a S => ?_)
        exact leafL ⟨rfl, S⟩
      · refine fI 38 undef [(8, .int .i64 r10.2), (36, .bool (!((r5.1.Num == r10.1.Num) && ((r5.1.Den == r10.1.Den) && true))))] 5 [none, some 3] rfl rfl (by kernel_rfl) rfl (by kernel_rfl) (by kernel_rfl) fun G a w S => ?_
        refine sSkip (c := !((r5.1.Num == r10.1.Num) && ((r5.1.Den == r10.1.Den) && true))) 3 false 36 38 S rfl rfl (by kernel_rfl) hc18 rfl (by decide) (fun a S => ?_)
        exact leafL ⟨rfl, S⟩
      · refine fI 39 undef [(37, undef), (38, undef), (36, .bool (!((r5.1.Num == r10.1.Num) && ((r5.1.Den == r10.1.Den) && true))))] 6 [some 4, some 5, some 3] rfl rfl (by kernel_rfl) rfl (by kernel_rfl) (by kernel_rfl) fun G a w S => ?_
        refine sSkip (c := !((r5.1.Num == r10.1.Num) && ((r5.1.Den == r10.1.Den) && true))) 3 false 36 39 S rfl rfl (by kernel_rfl) hc18 rfl (by decide) (fun a S => ?_)
        exact leafL ⟨rfl, S⟩
      · refine fI 40 (.bool true) [(36, .bool (!((r5.1.Num == r10.1.Num) && ((r5.1.Den == r10.1.Den) && true)))), (39, undef)] 7 [some 3, some 6] rfl rfl (by kernel_rfl) rfl (by kernel_rfl) (by kernel_rfl) fun G a w S => ?_
        refine sPickT (b := !((r5.1.Num == r10.1.Num) && ((r5.1.Den == r10.1.Den) && true))) (.bool true) S (wN rfl) rfl (by kernel_rfl) hc18 (by kernel_rfl) rfl (by decide) (fun a S => ?_)
        exact leafL ⟨rfl, S⟩
      · refine fI 41 (.bool true) [(40, .bool true)] 8 [some 7] rfl rfl (by kernel_rfl) rfl (by kernel_rfl) (by kernel_rfl) fun G a w S => ?_
        refine sMove (.bool true) S (wN rfl) (.inl rfl) (by kernel_rfl) rfl (by decide) (fun a S => ?_)
        exact leafL ⟨rfl, S⟩
      · refine fI 42 undef [(2, .pointer (some ⟨b2, 0, none⟩)), (41, .bool true)] 9 [none, some 8] rfl rfl (by kernel_rfl) rfl (by kernel_rfl) (by kernel_rfl) fun G a w S => ?_
        refine sSkip (c := true) 8 false 41 42 S rfl rfl (by kernel_rfl) rfl rfl (by decide) (fun a S => ?_)
        exact leafL ⟨rfl, S⟩
      · refine fI 43 undef [(42, undef), (41, .bool true)] 10 [some 9, some 8] rfl rfl (by kernel_rfl) rfl (by kernel_rfl) (by kernel_rfl) fun G a w S => ?_
        refine sSkip (c := true) 8 false 41 43 S rfl rfl (by kernel_rfl) rfl rfl (by decide) (fun a S => ?_)
        exact leafL ⟨rfl, S⟩
      · refine fI 44 undef [(2, .pointer (some ⟨b2, 0, none⟩)), (41, .bool true)] 11 [none, some 8] rfl rfl (by kernel_rfl) rfl (by kernel_rfl) (by kernel_rfl) fun G a w S => ?_
        refine sSkip (c := true) 8 false 41 44 S rfl rfl (by kernel_rfl) rfl rfl (by decide) (fun a S => ?_)
        exact leafL ⟨rfl, S⟩
      · refine fI 45 undef [(44, undef), (41, .bool true)] 12 [some 11, some 8] rfl rfl (by kernel_rfl) rfl (by kernel_rfl) (by kernel_rfl) fun G a w S => ?_
        refine sSkip (c := true) 8 false 41 45 S rfl rfl (by kernel_rfl) rfl rfl (by decide) (fun a S => ?_)
        exact leafL ⟨rfl, S⟩
      · refine fI 46 undef [(43, undef), (45, undef), (41, .bool true)] 13 [some 10, some 12, some 8] rfl rfl (by kernel_rfl) rfl (by kernel_rfl) (by kernel_rfl) fun G a w S => ?_
        refine sSkip (c := true) 8 false 41 46 S rfl rfl (by kernel_rfl) rfl rfl (by decide) (fun a S => ?_)
        exact leafL ⟨rfl, S⟩
      · refine fI 47 (.bool true) [(41, .bool true), (46, undef)] 14 [some 8, some 13] rfl rfl (by kernel_rfl) rfl (by kernel_rfl) (by kernel_rfl) fun G a w S => ?_
        refine sPickT (b := true) (.bool true) S (wN rfl) rfl (by kernel_rfl) rfl (by kernel_rfl) rfl (by decide) (fun a S => ?_)
        exact leafL ⟨rfl, S⟩
      · exact leafT (⟨true, Option.some.inj h, S.fix [3, 2, 1, 0] [] (by decide) (by kernel_rfl) (by kernel_rfl) (by kernel_rfl)⟩)
    · rcases iteSome h with ⟨hc19, h⟩ | ⟨hc19, h⟩
      · refine sDraw (nf := []) (W := [(0, 33, .agg #[.int .i64 r5.1.Num, .int .i64 r5.1.Den]), (1, 34, .agg #[.int .i64 r10.1.Num, .int .i64 r10.1.Den]), (2, 35, .bool (!((r5.1.Num == r10.1.Num) && ((r5.1.Den == r10.1.Den) && true)))), (3, 36, .bool (!((r5.1.Num == r10.1.Num) && ((r5.1.Den == r10.1.Den) && true)))), (4, 37, .int .i64 r5.2), (5, 38, .int .i64 r10.2), (6, 39, .bool (r5.2 != r10.2)), (7, 40, .bool (r5.2 != r10.2)), (8, 41, .bool (r5.2 != r10.2)), (9, 42, undef), (10, 43, undef), (11, 44, undef), (12, 45, undef), (13, 46, undef), (14, 47, .bool true)]) (by kernel_rfl) S ?_
        refine node_by (A := anc_raddlelaw23_YarnWorks_0) (nf := []) (Y := []) (W := [(0, 33, .agg #[.int .i64 r5.1.Num, .int .i64 r5.1.Den]), (1, 34, .agg #[.int .i64 r10.1.Num, .int .i64 r10.1.Den]), (2, 35, .bool (!((r5.1.Num == r10.1.Num) && ((r5.1.Den == r10.1.Den) && true)))), (3, 36, .bool (!((r5.1.Num == r10.1.Num) && ((r5.1.Den == r10.1.Den) && true)))), (4, 37, .int .i64 r5.2), (5, 38, .int .i64 r10.2), (6, 39, .bool (r5.2 != r10.2)), (7, 40, .bool (r5.2 != r10.2)), (8, 41, .bool (r5.2 != r10.2)), (9, 42, undef), (10, 43, undef), (11, 44, undef), (12, 45, undef), (13, 46, undef), (14, 47, .bool true)]) 15 (by kernel_rfl) (by kernel_rfl) (by kernel_rfl) (by kernel_rfl) (by kernel_rfl) [0, 1, 2, 3, 4, 5, 6, 7, 8, 9, 10, 11, 12, 13, 14] (by kernel_rfl) (by decide) (by decide) (aF 0 14 (by decide) ?_ (aF 1 13 (by decide) ?_ (aF 2 12 (by decide) ?_ (aF 3 11 (by decide) ?_ (aF 4 10 (by decide) ?_ (aF 5 9 (by decide) ?_ (aF 6 8 (by decide) ?_ (aF 7 7 (by decide) ?_ (aF 8 6 (by decide) ?_ (aF 9 5 (by decide) ?_ (aF 10 4 (by decide) ?_ (aF 11 3 (by decide) ?_ (aF 12 2 (by decide) ?_ (aF 13 1 (by decide) ?_ (aF 14 0 (by decide) ?_ (trivial)))))))))))))))) [(2, .pointer (some ⟨b2, 0, none⟩)), (3, .pointer (some ⟨b3, 0, none⟩)), (5, .pointer (some ⟨b8, 0, none⟩)), (7, .pointer (some ⟨b13, 0, none⟩)), (47, .bool true)] (fin_of [none, none, none, none, some 14] rfl (by kernel_rfl) (by kernel_rfl)) (fun _ a w S => ?_)
        · refine fI 33 (.agg #[.int .i64 r5.1.Num, .int .i64 r5.1.Den]) [(5, .pointer (some ⟨b8, 0, none⟩))] 0 [none] rfl rfl (by kernel_rfl) rfl (by kernel_rfl) (by kernel_rfl) fun G a w S => ?_
          refine sLoadN (p := b8) (off := 0) (T := 23) (vs := [.int .i64 r5.1.Num, .int .i64 r5.1.Den]) 1 [.int .i64 r5.1.Num, .int .i64 r5.1.Den] S (wN rfl) rfl (by kernel_rfl) (by kernel_rfl) (by kernel_rfl) (by kernel_rfl) rfl rfl (by decide) (fun a S => ?_)
          exact leafL ⟨rfl, S⟩
        · refine fI 34 (.agg #[.int .i64 r10.1.Num, .int .i64 r10.1.Den]) [(7, .pointer (some ⟨b13, 0, none⟩))] 1 [none] rfl rfl (by kernel_rfl) rfl (by kernel_rfl) (by kernel_rfl) fun G a w S => ?_
          refine sLoadN (p := b13) (off := 0) (T := 23) (vs := [.int .i64 r10.1.Num, .int .i64 r10.1.Den]) 0 [.int .i64 r10.1.Num, .int .i64 r10.1.Den] S (wN rfl) rfl (by kernel_rfl) (by kernel_rfl) (by kernel_rfl) (by kernel_rfl) rfl rfl (by decide) (fun a S => ?_)
          exact leafL ⟨rfl, S⟩
        · refine fI 35 (.bool (!((r5.1.Num == r10.1.Num) && ((r5.1.Den == r10.1.Den) && true)))) [(33, .agg #[.int .i64 r5.1.Num, .int .i64 r5.1.Den]), (34, .agg #[.int .i64 r10.1.Num, .int .i64 r10.1.Den])] 2 [some 0, some 1] rfl rfl (by kernel_rfl) rfl (by kernel_rfl) (by kernel_rfl) fun G a w S => ?_
          refine sBin (.bool (!((r5.1.Num == r10.1.Num) && ((r5.1.Den == r10.1.Den) && true)))) S (wN rfl) rfl (by kernel_rfl) (by kernel_rfl) (bNeV _ _ _ _ #[.int .i64 r5.1.Num, .int .i64 r5.1.Den] #[.int .i64 r10.1.Num, .int .i64 r10.1.Den] ((r5.1.Num == r10.1.Num) && ((r5.1.Den == r10.1.Den) && true)) (by kernel_rfl) (eqlV_of (by kernel_rfl))) rfl (by decide) (fun a S => ?_)
          exact leafL ⟨rfl, S⟩
        · refine fI 36 (.bool (!((r5.1.Num == r10.1.Num) && ((r5.1.Den == r10.1.Den) && true)))) [(35, .bool (!((r5.1.Num == r10.1.Num) && ((r5.1.Den == r10.1.Den) && true))))] 3 [some 2] rfl rfl (by kernel_rfl) rfl (by kernel_rfl) (by kernel_rfl) fun G a w S => ?_
          refine sMove (.bool (!((r5.1.Num == r10.1.Num) && ((r5.1.Den == r10.1.Den) && true)))) S (wN rfl) (.inl rfl) (by kernel_rfl) rfl (by decide) (fun a S => ?_)
          exact leafL ⟨rfl, S⟩
        · refine fI 37 (.int .i64 r5.2) [(6, .int .i64 r5.2), (36, .bool (!((r5.1.Num == r10.1.Num) && ((r5.1.Den == r10.1.Den) && true))))] 4 [none, some 3] rfl rfl (by kernel_rfl) rfl (by kernel_rfl) (by kernel_rfl) fun G a w S => ?_
          refine sMove (.int .i64 r5.2) S (wG (c := !((r5.1.Num == r10.1.Num) && ((r5.1.Den == r10.1.Den) && true))) 3 false 36 rfl rfl (by kernel_rfl) hc18) (.inl rfl) (by kernel_rfl) rfl (by decide) (fun a S => ?_)
          exact leafL ⟨rfl, S⟩
        · refine fI 38 (.int .i64 r10.2) [(8, .int .i64 r10.2), (36, .bool (!((r5.1.Num == r10.1.Num) && ((r5.1.Den == r10.1.Den) && true))))] 5 [none, some 3] rfl rfl (by kernel_rfl) rfl (by kernel_rfl) (by kernel_rfl) fun G a w S => ?_
          refine sMove (.int .i64 r10.2) S (wG (c := !((r5.1.Num == r10.1.Num) && ((r5.1.Den == r10.1.Den) && true))) 3 false 36 rfl rfl (by kernel_rfl) hc18) (.inl rfl) (by kernel_rfl) rfl (by decide) (fun a S => ?_)
          exact leafL ⟨rfl, S⟩
        · refine fI 39 (.bool (r5.2 != r10.2)) [(37, .int .i64 r5.2), (38, .int .i64 r10.2), (36, .bool (!((r5.1.Num == r10.1.Num) && ((r5.1.Den == r10.1.Den) && true))))] 6 [some 4, some 5, some 3] rfl rfl (by kernel_rfl) rfl (by kernel_rfl) (by kernel_rfl) fun G a w S => ?_
          refine sBin (.bool (r5.2 != r10.2)) S (wG (c := !((r5.1.Num == r10.1.Num) && ((r5.1.Den == r10.1.Den) && true))) 3 false 36 rfl rfl (by kernel_rfl) hc18) rfl (by kernel_rfl) (by kernel_rfl) (bNe _ _ _ _ .i64 r5.2 r10.2) rfl (by decide) (fun a S => ?_)
          exact leafL ⟨rfl, S⟩
        · refine fI 40 (.bool (r5.2 != r10.2)) [(36, .bool (!((r5.1.Num == r10.1.Num) && ((r5.1.Den == r10.1.Den) && true)))), (39, .bool (r5.2 != r10.2))] 7 [some 3, some 6] rfl rfl (by kernel_rfl) rfl (by kernel_rfl) (by kernel_rfl) fun G a w S => ?_
          refine sPickF (b := !((r5.1.Num == r10.1.Num) && ((r5.1.Den == r10.1.Den) && true))) (.bool (r5.2 != r10.2)) S (wN rfl) rfl (by kernel_rfl) hc18 (by kernel_rfl) rfl (by decide) (fun a S => ?_)
          exact leafL ⟨rfl, S⟩
        · refine fI 41 (.bool (r5.2 != r10.2)) [(40, .bool (r5.2 != r10.2))] 8 [some 7] rfl rfl (by kernel_rfl) rfl (by kernel_rfl) (by kernel_rfl) fun G a w S => ?_
          refine sMove (.bool (r5.2 != r10.2)) S (wN rfl) (.inl rfl) (by kernel_rfl) rfl (by decide) (fun a S => ?_)
          exact leafL ⟨rfl, S⟩
        · refine fI 42 undef [(2, .pointer (some ⟨b2, 0, none⟩)), (41, .bool (r5.2 != r10.2))] 9 [none, some 8] rfl rfl (by kernel_rfl) rfl (by kernel_rfl) (by kernel_rfl) fun G a w S => ?_
          refine sSkip (c := r5.2 != r10.2) 8 false 41 42 S rfl rfl (by kernel_rfl) hc19 rfl (by decide) (fun a S => ?_)
          exact leafL ⟨rfl, S⟩
        · refine fI 43 undef [(42, undef), (41, .bool (r5.2 != r10.2))] 10 [some 9, some 8] rfl rfl (by kernel_rfl) rfl (by kernel_rfl) (by kernel_rfl) fun G a w S => ?_
          refine sSkip (c := r5.2 != r10.2) 8 false 41 43 S rfl rfl (by kernel_rfl) hc19 rfl (by decide) (fun a S => ?_)
          exact leafL ⟨rfl, S⟩
        · refine fI 44 undef [(2, .pointer (some ⟨b2, 0, none⟩)), (41, .bool (r5.2 != r10.2))] 11 [none, some 8] rfl rfl (by kernel_rfl) rfl (by kernel_rfl) (by kernel_rfl) fun G a w S => ?_
          refine sSkip (c := r5.2 != r10.2) 8 false 41 44 S rfl rfl (by kernel_rfl) hc19 rfl (by decide) (fun a S => ?_)
          exact leafL ⟨rfl, S⟩
        · refine fI 45 undef [(44, undef), (41, .bool (r5.2 != r10.2))] 12 [some 11, some 8] rfl rfl (by kernel_rfl) rfl (by kernel_rfl) (by kernel_rfl) fun G a w S => ?_
          refine sSkip (c := r5.2 != r10.2) 8 false 41 45 S rfl rfl (by kernel_rfl) hc19 rfl (by decide) (fun a S => ?_)
          exact leafL ⟨rfl, S⟩
        · refine fI 46 undef [(43, undef), (45, undef), (41, .bool (r5.2 != r10.2))] 13 [some 10, some 12, some 8] rfl rfl (by kernel_rfl) rfl (by kernel_rfl) (by kernel_rfl) fun G a w S => ?_
          refine sSkip (c := r5.2 != r10.2) 8 false 41 46 S rfl rfl (by kernel_rfl) hc19 rfl (by decide) (fun a S => ?_)
          exact leafL ⟨rfl, S⟩
        · refine fI 47 (.bool true) [(41, .bool (r5.2 != r10.2)), (46, undef)] 14 [some 8, some 13] rfl rfl (by kernel_rfl) rfl (by kernel_rfl) (by kernel_rfl) fun G a w S => ?_
          refine sPickT (b := r5.2 != r10.2) (.bool true) S (wN rfl) rfl (by kernel_rfl) hc19 (by kernel_rfl) rfl (by decide) (fun a S => ?_)
          exact leafL ⟨rfl, S⟩
        · exact leafT (⟨true, Option.some.inj h, S.fix [3, 2, 1, 0] [] (by decide) (by kernel_rfl) (by kernel_rfl) (by kernel_rfl)⟩)
      · obtain ⟨r20, hx21, h⟩ := bindSome h
        obtain ⟨r22, hx23, h⟩ := bindSome h
        refine sDraw (nf := []) (W := [(0, 33, .agg #[.int .i64 r5.1.Num, .int .i64 r5.1.Den]), (1, 34, .agg #[.int .i64 r10.1.Num, .int .i64 r10.1.Den]), (2, 35, .bool (!((r5.1.Num == r10.1.Num) && ((r5.1.Den == r10.1.Den) && true)))), (3, 36, .bool (!((r5.1.Num == r10.1.Num) && ((r5.1.Den == r10.1.Den) && true)))), (4, 37, .int .i64 r5.2), (5, 38, .int .i64 r10.2), (6, 39, .bool (r5.2 != r10.2)), (7, 40, .bool (r5.2 != r10.2)), (8, 41, .bool (r5.2 != r10.2)), (9, 42, .agg #[.int .i64 p0.Num, .int .i64 p0.Den]), (10, 43, .int .i64 r20), (11, 44, .agg #[.int .i64 p0.Num, .int .i64 p0.Den]), (12, 45, .int .i64 r22), (13, 46, .bool (r20 != r22)), (14, 47, .bool (r20 != r22))]) (by kernel_rfl) S ?_
        refine node_by (A := anc_raddlelaw23_YarnWorks_0) (nf := []) (Y := []) (W := [(0, 33, .agg #[.int .i64 r5.1.Num, .int .i64 r5.1.Den]), (1, 34, .agg #[.int .i64 r10.1.Num, .int .i64 r10.1.Den]), (2, 35, .bool (!((r5.1.Num == r10.1.Num) && ((r5.1.Den == r10.1.Den) && true)))), (3, 36, .bool (!((r5.1.Num == r10.1.Num) && ((r5.1.Den == r10.1.Den) && true)))), (4, 37, .int .i64 r5.2), (5, 38, .int .i64 r10.2), (6, 39, .bool (r5.2 != r10.2)), (7, 40, .bool (r5.2 != r10.2)), (8, 41, .bool (r5.2 != r10.2)), (9, 42, .agg #[.int .i64 p0.Num, .int .i64 p0.Den]), (10, 43, .int .i64 r20), (11, 44, .agg #[.int .i64 p0.Num, .int .i64 p0.Den]), (12, 45, .int .i64 r22), (13, 46, .bool (r20 != r22)), (14, 47, .bool (r20 != r22))]) 15 (by kernel_rfl) (by kernel_rfl) (by kernel_rfl) (by kernel_rfl) (by kernel_rfl) [0, 1, 2, 3, 4, 5, 6, 7, 8, 9, 10, 11, 12, 13, 14] (by kernel_rfl) (by decide) (by decide) (aF 0 14 (by decide) ?_ (aF 1 13 (by decide) ?_ (aF 2 12 (by decide) ?_ (aF 3 11 (by decide) ?_ (aF 4 10 (by decide) ?_ (aF 5 9 (by decide) ?_ (aF 6 8 (by decide) ?_ (aF 7 7 (by decide) ?_ (aF 8 6 (by decide) ?_ (aF 9 5 (by decide) ?_ (aF 10 4 (by decide) ?_ (aF 11 3 (by decide) ?_ (aF 12 2 (by decide) ?_ (aF 13 1 (by decide) ?_ (aF 14 0 (by decide) ?_ (trivial)))))))))))))))) [(2, .pointer (some ⟨b2, 0, none⟩)), (3, .pointer (some ⟨b3, 0, none⟩)), (5, .pointer (some ⟨b8, 0, none⟩)), (7, .pointer (some ⟨b13, 0, none⟩)), (47, .bool (r20 != r22))] (fin_of [none, none, none, none, some 14] rfl (by kernel_rfl) (by kernel_rfl)) (fun _ a w S => ?_)
        · refine fI 33 (.agg #[.int .i64 r5.1.Num, .int .i64 r5.1.Den]) [(5, .pointer (some ⟨b8, 0, none⟩))] 0 [none] rfl rfl (by kernel_rfl) rfl (by kernel_rfl) (by kernel_rfl) fun G a w S => ?_
          refine sLoadN (p := b8) (off := 0) (T := 23) (vs := [.int .i64 r5.1.Num, .int .i64 r5.1.Den]) 1 [.int .i64 r5.1.Num, .int .i64 r5.1.Den] S (wN rfl) rfl (by kernel_rfl) (by kernel_rfl) (by kernel_rfl) (by kernel_rfl) rfl rfl (by decide) (fun a S => ?_)
          exact leafL ⟨rfl, S⟩
        · refine fI 34 (.agg #[.int .i64 r10.1.Num, .int .i64 r10.1.Den]) [(7, .pointer (some ⟨b13, 0, none⟩))] 1 [none] rfl rfl (by kernel_rfl) rfl (by kernel_rfl) (by kernel_rfl) fun G a w S => ?_
          refine sLoadN (p := b13) (off := 0) (T := 23) (vs := [.int .i64 r10.1.Num, .int .i64 r10.1.Den]) 0 [.int .i64 r10.1.Num, .int .i64 r10.1.Den] S (wN rfl) rfl (by kernel_rfl) (by kernel_rfl) (by kernel_rfl) (by kernel_rfl) rfl rfl (by decide) (fun a S => ?_)
          exact leafL ⟨rfl, S⟩
        · refine fI 35 (.bool (!((r5.1.Num == r10.1.Num) && ((r5.1.Den == r10.1.Den) && true)))) [(33, .agg #[.int .i64 r5.1.Num, .int .i64 r5.1.Den]), (34, .agg #[.int .i64 r10.1.Num, .int .i64 r10.1.Den])] 2 [some 0, some 1] rfl rfl (by kernel_rfl) rfl (by kernel_rfl) (by kernel_rfl) fun G a w S => ?_
          refine sBin (.bool (!((r5.1.Num == r10.1.Num) && ((r5.1.Den == r10.1.Den) && true)))) S (wN rfl) rfl (by kernel_rfl) (by kernel_rfl) (bNeV _ _ _ _ #[.int .i64 r5.1.Num, .int .i64 r5.1.Den] #[.int .i64 r10.1.Num, .int .i64 r10.1.Den] ((r5.1.Num == r10.1.Num) && ((r5.1.Den == r10.1.Den) && true)) (by kernel_rfl) (eqlV_of (by kernel_rfl))) rfl (by decide) (fun a S => ?_)
          exact leafL ⟨rfl, S⟩
        · refine fI 36 (.bool (!((r5.1.Num == r10.1.Num) && ((r5.1.Den == r10.1.Den) && true)))) [(35, .bool (!((r5.1.Num == r10.1.Num) && ((r5.1.Den == r10.1.Den) && true))))] 3 [some 2] rfl rfl (by kernel_rfl) rfl (by kernel_rfl) (by kernel_rfl) fun G a w S => ?_
          refine sMove (.bool (!((r5.1.Num == r10.1.Num) && ((r5.1.Den == r10.1.Den) && true)))) S (wN rfl) (.inl rfl) (by kernel_rfl) rfl (by decide) (fun a S => ?_)
          exact leafL ⟨rfl, S⟩
        · refine fI 37 (.int .i64 r5.2) [(6, .int .i64 r5.2), (36, .bool (!((r5.1.Num == r10.1.Num) && ((r5.1.Den == r10.1.Den) && true))))] 4 [none, some 3] rfl rfl (by kernel_rfl) rfl (by kernel_rfl) (by kernel_rfl) fun G a w S => ?_
          refine sMove (.int .i64 r5.2) S (wG (c := !((r5.1.Num == r10.1.Num) && ((r5.1.Den == r10.1.Den) && true))) 3 false 36 rfl rfl (by kernel_rfl) hc18) (.inl rfl) (by kernel_rfl) rfl (by decide) (fun a S => ?_)
          exact leafL ⟨rfl, S⟩
        · refine fI 38 (.int .i64 r10.2) [(8, .int .i64 r10.2), (36, .bool (!((r5.1.Num == r10.1.Num) && ((r5.1.Den == r10.1.Den) && true))))] 5 [none, some 3] rfl rfl (by kernel_rfl) rfl (by kernel_rfl) (by kernel_rfl) fun G a w S => ?_
          refine sMove (.int .i64 r10.2) S (wG (c := !((r5.1.Num == r10.1.Num) && ((r5.1.Den == r10.1.Den) && true))) 3 false 36 rfl rfl (by kernel_rfl) hc18) (.inl rfl) (by kernel_rfl) rfl (by decide) (fun a S => ?_)
          exact leafL ⟨rfl, S⟩
        · refine fI 39 (.bool (r5.2 != r10.2)) [(37, .int .i64 r5.2), (38, .int .i64 r10.2), (36, .bool (!((r5.1.Num == r10.1.Num) && ((r5.1.Den == r10.1.Den) && true))))] 6 [some 4, some 5, some 3] rfl rfl (by kernel_rfl) rfl (by kernel_rfl) (by kernel_rfl) fun G a w S => ?_
          refine sBin (.bool (r5.2 != r10.2)) S (wG (c := !((r5.1.Num == r10.1.Num) && ((r5.1.Den == r10.1.Den) && true))) 3 false 36 rfl rfl (by kernel_rfl) hc18) rfl (by kernel_rfl) (by kernel_rfl) (bNe _ _ _ _ .i64 r5.2 r10.2) rfl (by decide) (fun a S => ?_)
          exact leafL ⟨rfl, S⟩
        · refine fI 40 (.bool (r5.2 != r10.2)) [(36, .bool (!((r5.1.Num == r10.1.Num) && ((r5.1.Den == r10.1.Den) && true)))), (39, .bool (r5.2 != r10.2))] 7 [some 3, some 6] rfl rfl (by kernel_rfl) rfl (by kernel_rfl) (by kernel_rfl) fun G a w S => ?_
          refine sPickF (b := !((r5.1.Num == r10.1.Num) && ((r5.1.Den == r10.1.Den) && true))) (.bool (r5.2 != r10.2)) S (wN rfl) rfl (by kernel_rfl) hc18 (by kernel_rfl) rfl (by decide) (fun a S => ?_)
          exact leafL ⟨rfl, S⟩
        · refine fI 41 (.bool (r5.2 != r10.2)) [(40, .bool (r5.2 != r10.2))] 8 [some 7] rfl rfl (by kernel_rfl) rfl (by kernel_rfl) (by kernel_rfl) fun G a w S => ?_
          refine sMove (.bool (r5.2 != r10.2)) S (wN rfl) (.inl rfl) (by kernel_rfl) rfl (by decide) (fun a S => ?_)
          exact leafL ⟨rfl, S⟩
        · refine fI 42 (.agg #[.int .i64 p0.Num, .int .i64 p0.Den]) [(2, .pointer (some ⟨b2, 0, none⟩)), (41, .bool (r5.2 != r10.2))] 9 [none, some 8] rfl rfl (by kernel_rfl) rfl (by kernel_rfl) (by kernel_rfl) fun G a w S => ?_
          refine sLoadN (p := b2) (off := 0) (T := 23) (vs := [.int .i64 p0.Num, .int .i64 p0.Den]) 3 [.int .i64 p0.Num, .int .i64 p0.Den] S (wG (c := r5.2 != r10.2) 8 false 41 rfl rfl (by kernel_rfl) hc19) rfl (by kernel_rfl) (by kernel_rfl) (by kernel_rfl) (by kernel_rfl) rfl rfl (by decide) (fun a S => ?_)
          exact leafL ⟨rfl, S⟩
        · refine fI 43 (.int .i64 r20) [(42, .agg #[.int .i64 p0.Num, .int .i64 p0.Den]), (41, .bool (r5.2 != r10.2))] 10 [some 9, some 8] rfl rfl (by kernel_rfl) rfl (by kernel_rfl) (by kernel_rfl) fun G a w S => ?_
          have S1 := S.mem
          refine sCallQ (X := Unit) (f := 8) (vs := [.agg #[.int .i64 p0.Num, .int .i64 p0.Den]]) (val := fun _ => .int .i64 r20) S (wG (c := r5.2 != r10.2) 8 false 41 rfl rfl (by kernel_rfl) hc19) rfl callee8 (by kernel_rfl) (S1.quiet [2] (by kernel_rfl)) (fun E1 w1 S1 => c_yarn_Check E1 w1 p0 (.agg #[.int .i64 p0.Num, .int .i64 p0.Den]) r20 hx21 S1) rfl (by decide) (fun _ a w S => ?_)
          exact leafL ⟨rfl, S⟩
        · refine fI 44 (.agg #[.int .i64 p0.Num, .int .i64 p0.Den]) [(2, .pointer (some ⟨b2, 0, none⟩)), (41, .bool (r5.2 != r10.2))] 11 [none, some 8] rfl rfl (by kernel_rfl) rfl (by kernel_rfl) (by kernel_rfl) fun G a w S => ?_
          refine sLoadN (p := b2) (off := 0) (T := 23) (vs := [.int .i64 p0.Num, .int .i64 p0.Den]) 3 [.int .i64 p0.Num, .int .i64 p0.Den] S (wG (c := r5.2 != r10.2) 8 false 41 rfl rfl (by kernel_rfl) hc19) rfl (by kernel_rfl) (by kernel_rfl) (by kernel_rfl) (by kernel_rfl) rfl rfl (by decide) (fun a S => ?_)
          exact leafL ⟨rfl, S⟩
        · refine fI 45 (.int .i64 r22) [(44, .agg #[.int .i64 p0.Num, .int .i64 p0.Den]), (41, .bool (r5.2 != r10.2))] 12 [some 11, some 8] rfl rfl (by kernel_rfl) rfl (by kernel_rfl) (by kernel_rfl) fun G a w S => ?_
          have S1 := S.mem
          refine sCallQ (X := Unit) (f := 9) (vs := [.agg #[.int .i64 p0.Num, .int .i64 p0.Den]]) (val := fun _ => .int .i64 r22) S (wG (c := r5.2 != r10.2) 8 false 41 rfl rfl (by kernel_rfl) hc19) rfl callee9 (by kernel_rfl) (S1.quiet [2] (by kernel_rfl)) (fun E1 w1 S1 => c_raddleref23_Check E1 w1 p0 (.agg #[.int .i64 p0.Num, .int .i64 p0.Den]) r22 hx23 S1) rfl (by decide) (fun _ a w S => ?_)
          exact leafL ⟨rfl, S⟩
        · refine fI 46 (.bool (r20 != r22)) [(43, .int .i64 r20), (45, .int .i64 r22), (41, .bool (r5.2 != r10.2))] 13 [some 10, some 12, some 8] rfl rfl (by kernel_rfl) rfl (by kernel_rfl) (by kernel_rfl) fun G a w S => ?_
          refine sBin (.bool (r20 != r22)) S (wG (c := r5.2 != r10.2) 8 false 41 rfl rfl (by kernel_rfl) hc19) rfl (by kernel_rfl) (by kernel_rfl) (bNe _ _ _ _ .i64 r20 r22) rfl (by decide) (fun a S => ?_)
          exact leafL ⟨rfl, S⟩
        · refine fI 47 (.bool (r20 != r22)) [(41, .bool (r5.2 != r10.2)), (46, .bool (r20 != r22))] 14 [some 8, some 13] rfl rfl (by kernel_rfl) rfl (by kernel_rfl) (by kernel_rfl) fun G a w S => ?_
          refine sPickF (b := r5.2 != r10.2) (.bool (r20 != r22)) S (wN rfl) rfl (by kernel_rfl) hc19 (by kernel_rfl) rfl (by decide) (fun a S => ?_)
          exact leafL ⟨rfl, S⟩
        · exact leafT (⟨r20 != r22, Option.some.inj h, S.fix [3, 2, 1, 0] [] (by decide) (by kernel_rfl) (by kernel_rfl) (by kernel_rfl)⟩)
  · obtain ⟨o15, rfl, S⟩ := hI
    have h := g17
    clear g17
    try dsimp only at h
    rcases iteSome h with ⟨hc24, h⟩ | ⟨hc24, h⟩
    · refine sCondT (b := o15) S (by kernel_rfl) hc24 ?_
      refine sSeq (fun K25 hK25 => ?_)
      refine sRegion ?_
      refine sMove (.bool false) S (wN rfl) (.inr rfl) (by kernel_rfl) rfl (by decide) (fun a S => ?_)
      refine leafL (leafT (hK25 _ _ ?_))
      obtain rfl := Option.some.inj h
      exact wp_ret (rThen (sRet (.bool false) S (rsl1 rfl (rvT (t := 4) (v := .bool false) S (by kernel_rfl))) ⟨(), rfl, S.mem.sel [] [] (by decide) (by kernel_rfl) (by kernel_rfl)⟩))
    · refine sCondF (b := o15) S (by kernel_rfl) hc24 ?_
      refine wp_skip (leafT (hK14 _ _ ?_))
      refine sSeq (fun K26 hK26 => ?_)
      refine sRegion ?_
      refine sLoadN (p := b2) (off := 0) (T := 23) (vs := [.int .i64 p0.Num, .int .i64 p0.Den]) 0 [.int .i64 p0.Num, .int .i64 p0.Den] S (wN rfl) rfl (by kernel_rfl) (by kernel_rfl) (by kernel_rfl) (by kernel_rfl) rfl rfl (by decide) (fun a S => ?_)
      refine sLoadN (p := b3) (off := 0) (T := 23) (vs := [.int .i64 p1.Num, .int .i64 p1.Den]) 1 [.int .i64 p1.Num, .int .i64 p1.Den] S (wN rfl) rfl (by kernel_rfl) (by kernel_rfl) (by kernel_rfl) (by kernel_rfl) rfl rfl (by decide) (fun a S => ?_)
      obtain ⟨r27, hx28, h⟩ := bindSome h
      have S := S.learn (fRep r_api_Ratio (.agg #[.int .i64 p0.Num, .int .i64 p0.Den]) p0) rfl
      have S := S.learn (fRep r_api_Ratio (.agg #[.int .i64 p1.Num, .int .i64 p1.Den]) p1) rfl
      refine sCall (X := Value) (f := 10) (vs := [.agg #[.int .i64 p0.Num, .int .i64 p0.Den], .agg #[.int .i64 p1.Num, .int .i64 p1.Den]]) (val := c_yarn_Sub_val r27) (B' := fun _ => []) (D' := c_yarn_Sub_D r27) [] [eBox b2 23 [.int .i64 p0.Num, .int .i64 p0.Den], eBox b3 23 [.int .i64 p1.Num, .int .i64 p1.Den], eBox b8 23 [.int .i64 r5.1.Num, .int .i64 r5.1.Den], eBox b13 23 [.int .i64 r10.1.Num, .int .i64 r10.1.Den]] [fRep r_api_Ratio (.agg #[.int .i64 p0.Num, .int .i64 p0.Den]) p0, fRep r_api_Ratio (.agg #[.int .i64 p1.Num, .int .i64 p1.Den]) p1] [0, 1, 2, 3] [1, 0] S (wN rfl) rfl callee10 (by kernel_rfl) (by decide) (by kernel_rfl) (by kernel_rfl) (fun E1 w1 S1 => c_yarn_Sub E1 w1 p0 (.agg #[.int .i64 p0.Num, .int .i64 p0.Den]) p1 (.agg #[.int .i64 p1.Num, .int .i64 p1.Den]) r27 hx28 S1) rfl (by decide) (fun u29 a w S => ?_)
      obtain rfl : u29 = .agg #[.int .i64 r27.1.Num, .int .i64 r27.1.Den] := S.mem.know (i := 0) (e := fRep r_api_Ratio (u29) r27.1) (by kernel_rfl)
      refine sMove (.tuple #[.agg #[.int .i64 r27.1.Num, .int .i64 r27.1.Den], .int .i64 r27.2]) S (wN rfl) (.inl rfl) (by kernel_rfl) rfl (by decide) (fun a S => ?_)
      refine sExtract (vs := [.agg #[.int .i64 r27.1.Num, .int .i64 r27.1.Den], .int .i64 r27.2]) (.agg #[.int .i64 r27.1.Num, .int .i64 r27.1.Den]) S (wN rfl) rfl (by kernel_rfl) rfl rfl (by decide) (fun a S => ?_)
      refine sExtract (vs := [.agg #[.int .i64 r27.1.Num, .int .i64 r27.1.Den], .int .i64 r27.2]) (.int .i64 r27.2) S (wN rfl) rfl (by kernel_rfl) rfl rfl (by decide) (fun a S => ?_)
      refine sStore (p := b8) (off := 0) (T := 23) (vs := [.int .i64 r5.1.Num, .int .i64 r5.1.Den]) (v := .agg #[.int .i64 r27.1.Num, .int .i64 r27.1.Den]) 2 [.int .i64 r27.1.Num, .int .i64 r27.1.Den] S (wN rfl) rfl (by kernel_rfl) (by kernel_rfl) rfl (by kernel_rfl) (by kernel_rfl) rfl (by simp) rfl (fun a w S => ?_)
      refine sMove (.int .i64 r27.2) S (wN rfl) (.inr rfl) (by kernel_rfl) rfl (by decide) (fun a S => ?_)
      refine leafL (leafT (hK26 _ _ ?_))
      refine sSeq (fun K30 hK30 => ?_)
      refine sRegion ?_
      refine sLoadN (p := b2) (off := 0) (T := 23) (vs := [.int .i64 p0.Num, .int .i64 p0.Den]) 1 [.int .i64 p0.Num, .int .i64 p0.Den] S (wN rfl) rfl (by kernel_rfl) (by kernel_rfl) (by kernel_rfl) (by kernel_rfl) rfl rfl (by decide) (fun a S => ?_)
      refine sLoadN (p := b3) (off := 0) (T := 23) (vs := [.int .i64 p1.Num, .int .i64 p1.Den]) 2 [.int .i64 p1.Num, .int .i64 p1.Den] S (wN rfl) rfl (by kernel_rfl) (by kernel_rfl) (by kernel_rfl) (by kernel_rfl) rfl rfl (by decide) (fun a S => ?_)
      obtain ⟨r31, hx32, h⟩ := bindSome h
      refine sCall (X := Value) (f := 11) (vs := [.agg #[.int .i64 p0.Num, .int .i64 p0.Den], .agg #[.int .i64 p1.Num, .int .i64 p1.Den]]) (val := c_raddleref23_Sub_val r31) (B' := fun _ => []) (D' := c_raddleref23_Sub_D r31) [] [eBox b8 23 [.int .i64 r27.1.Num, .int .i64 r27.1.Den], eBox b2 23 [.int .i64 p0.Num, .int .i64 p0.Den], eBox b3 23 [.int .i64 p1.Num, .int .i64 p1.Den], eBox b13 23 [.int .i64 r10.1.Num, .int .i64 r10.1.Den]] [fRep r_api_Ratio (.agg #[.int .i64 p0.Num, .int .i64 p0.Den]) p0, fRep r_api_Ratio (.agg #[.int .i64 p1.Num, .int .i64 p1.Den]) p1] [0, 1, 2, 3] [2, 1] S (wN rfl) rfl callee11 (by kernel_rfl) (by decide) (by kernel_rfl) (by kernel_rfl) (fun E1 w1 S1 => c_raddleref23_Sub E1 w1 p0 (.agg #[.int .i64 p0.Num, .int .i64 p0.Den]) p1 (.agg #[.int .i64 p1.Num, .int .i64 p1.Den]) r31 hx32 S1) rfl (by decide) (fun u33 a w S => ?_)
      obtain rfl : u33 = .agg #[.int .i64 r31.1.Num, .int .i64 r31.1.Den] := S.mem.know (i := 0) (e := fRep r_api_Ratio (u33) r31.1) (by kernel_rfl)
      refine sMove (.tuple #[.agg #[.int .i64 r31.1.Num, .int .i64 r31.1.Den], .int .i64 r31.2]) S (wN rfl) (.inl rfl) (by kernel_rfl) rfl (by decide) (fun a S => ?_)
      refine sExtract (vs := [.agg #[.int .i64 r31.1.Num, .int .i64 r31.1.Den], .int .i64 r31.2]) (.agg #[.int .i64 r31.1.Num, .int .i64 r31.1.Den]) S (wN rfl) rfl (by kernel_rfl) rfl rfl (by decide) (fun a S => ?_)
      refine sExtract (vs := [.agg #[.int .i64 r31.1.Num, .int .i64 r31.1.Den], .int .i64 r31.2]) (.int .i64 r31.2) S (wN rfl) rfl (by kernel_rfl) rfl rfl (by decide) (fun a S => ?_)
      refine sStore (p := b13) (off := 0) (T := 23) (vs := [.int .i64 r10.1.Num, .int .i64 r10.1.Den]) (v := .agg #[.int .i64 r31.1.Num, .int .i64 r31.1.Den]) 3 [.int .i64 r31.1.Num, .int .i64 r31.1.Den] S (wN rfl) rfl (by kernel_rfl) (by kernel_rfl) rfl (by kernel_rfl) (by kernel_rfl) rfl (by simp) rfl (fun a w S => ?_)
      refine sMove (.int .i64 r31.2) S (wN rfl) (.inr rfl) (by kernel_rfl) rfl (by decide) (fun a S => ?_)
      refine leafL (leafT (hK30 _ _ ?_))
      refine sSeq (fun K34 hK34 => ?_)
      obtain ⟨t36, h, g37⟩ := bindSome h
      refine sCut (fun a w => ∃ o35, o35 = t36 ∧ St [] E [] w0 168 a w [(2, .pointer (some ⟨b2, 0, none⟩)), (3, .pointer (some ⟨b3, 0, none⟩)), (5, .pointer (some ⟨b8, 0, none⟩)), (7, .pointer (some ⟨b13, 0, none⟩)), (67, .bool o35)] [eBox b2 23 [.int .i64 p0.Num, .int .i64 p0.Den], eBox b3 23 [.int .i64 p1.Num, .int .i64 p1.Den], eBox b8 23 [.int .i64 r27.1.Num, .int .i64 r27.1.Den], eBox b13 23 [.int .i64 r31.1.Num, .int .i64 r31.1.Den]] []) ?_ (fun a w hI => ?_)
      · refine sRegion ?_
        refine sLoadN (p := b8) (off := 0) (T := 23) (vs := [.int .i64 r27.1.Num, .int .i64 r27.1.Den]) 1 [.int .i64 r27.1.Num, .int .i64 r27.1.Den] S (wN rfl) rfl (by kernel_rfl) (by kernel_rfl) (by kernel_rfl) (by kernel_rfl) rfl rfl (by decide) (fun a S => ?_)
        refine sLoadN (p := b13) (off := 0) (T := 23) (vs := [.int .i64 r31.1.Num, .int .i64 r31.1.Den]) 0 [.int .i64 r31.1.Num, .int .i64 r31.1.Den] S (wN rfl) rfl (by kernel_rfl) (by kernel_rfl) (by kernel_rfl) (by kernel_rfl) rfl rfl (by decide) (fun a S => ?_)
        refine sBin (.bool (!((r27.1.Num == r31.1.Num) && ((r27.1.Den == r31.1.Den) && true)))) S (wN rfl) rfl (by kernel_rfl) (by kernel_rfl) (bNeV _ _ _ _ #[.int .i64 r27.1.Num, .int .i64 r27.1.Den] #[.int .i64 r31.1.Num, .int .i64 r31.1.Den] ((r27.1.Num == r31.1.Num) && ((r27.1.Den == r31.1.Den) && true)) (by kernel_rfl) (eqlV_of (by kernel_rfl))) rfl (by decide) (fun a S => ?_)
        refine sMove (.bool (!((r27.1.Num == r31.1.Num) && ((r27.1.Den == r31.1.Den) && true)))) S (wN rfl) (.inl rfl) (by kernel_rfl) rfl (by decide) (fun a S => ?_)
        rcases iteSome h with ⟨hc38, h⟩ | ⟨hc38, h⟩
        · refine sSkip (c := !((r27.1.Num == r31.1.Num) && ((r27.1.Den == r31.1.Den) && true))) 3 false 63 64 S rfl rfl (by kernel_rfl) hc38 rfl (by decide) (fun a S => ?_)
          refine sSkip (c := !((r27.1.Num == r31.1.Num) && ((r27.1.Den == r31.1.Den) && true))) 3 false 63 65 S rfl rfl (by kernel_rfl) hc38 rfl (by decide) (fun a S => ?_)
          refine sSkip (c := !((r27.1.Num == r31.1.Num) && ((r27.1.Den == r31.1.Den) && true))) 3 false 63 66 S rfl rfl (by kernel_rfl) hc38 rfl (by decide) (fun a S => ?_)
          refine sPickT (b := !((r27.1.Num == r31.1.Num) && ((r27.1.Den == r31.1.Den) && true))) (.bool true) S (wN rfl) rfl (by kernel_rfl) hc38 (by kernel_rfl) rfl (by decide) (fun a S => ?_)
          exact leafL (leafT (⟨true, Option.some.inj h, S.fix [2, 3, 1, 0] [] (by decide) (by kernel_rfl) (by kernel_rfl) (by kernel_rfl)⟩))
        · refine sMove (.int .i64 r27.2) S (wG (c := !((r27.1.Num == r31.1.Num) && ((r27.1.Den == r31.1.Den) && true))) 3 false 63 rfl rfl (by kernel_rfl) hc38) (.inl rfl) (by kernel_rfl) rfl (by decide) (fun a S => ?_)
          refine sMove (.int .i64 r31.2) S (wG (c := !((r27.1.Num == r31.1.Num) && ((r27.1.Den == r31.1.Den) && true))) 3 false 63 rfl rfl (by kernel_rfl) hc38) (.inl rfl) (by kernel_rfl) rfl (by decide) (fun a S => ?_)
          refine sBin (.bool (r27.2 != r31.2)) S (wG (c := !((r27.1.Num == r31.1.Num) && ((r27.1.Den == r31.1.Den) && true))) 3 false 63 rfl rfl (by kernel_rfl) hc38) rfl (by kernel_rfl) (by kernel_rfl) (bNe _ _ _ _ .i64 r27.2 r31.2) rfl (by decide) (fun a S => ?_)
          refine sPickF (b := !((r27.1.Num == r31.1.Num) && ((r27.1.Den == r31.1.Den) && true))) (.bool (r27.2 != r31.2)) S (wN rfl) rfl (by kernel_rfl) hc38 (by kernel_rfl) rfl (by decide) (fun a S => ?_)
          exact leafL (leafT (⟨r27.2 != r31.2, Option.some.inj h, S.fix [2, 3, 1, 0] [] (by decide) (by kernel_rfl) (by kernel_rfl) (by kernel_rfl)⟩))
      · obtain ⟨o35, rfl, S⟩ := hI
        have h := g37
        clear g37
        try dsimp only at h
        rcases iteSome h with ⟨hc39, h⟩ | ⟨hc39, h⟩
        · refine sCondT (b := o35) S (by kernel_rfl) hc39 ?_
          refine sSeq (fun K40 hK40 => ?_)
          refine sRegion ?_
          refine sMove (.bool false) S (wN rfl) (.inr rfl) (by kernel_rfl) rfl (by decide) (fun a S => ?_)
          refine leafL (leafT (hK40 _ _ ?_))
          obtain rfl := Option.some.inj h
          exact wp_ret (rThen (sRet (.bool false) S (rsl1 rfl (rvT (t := 4) (v := .bool false) S (by kernel_rfl))) ⟨(), rfl, S.mem.sel [] [] (by decide) (by kernel_rfl) (by kernel_rfl)⟩))
        · refine sCondF (b := o35) S (by kernel_rfl) hc39 ?_
          refine wp_skip (leafT (hK34 _ _ ?_))
          refine sSeq (fun K41 hK41 => ?_)
          refine sRegion ?_
          refine sLoadN (p := b2) (off := 0) (T := 23) (vs := [.int .i64 p0.Num, .int .i64 p0.Den]) 0 [.int .i64 p0.Num, .int .i64 p0.Den] S (wN rfl) rfl (by kernel_rfl) (by kernel_rfl) (by kernel_rfl) (by kernel_rfl) rfl rfl (by decide) (fun a S => ?_)
          refine sLoadN (p := b3) (off := 0) (T := 23) (vs := [.int .i64 p1.Num, .int .i64 p1.Den]) 1 [.int .i64 p1.Num, .int .i64 p1.Den] S (wN rfl) rfl (by kernel_rfl) (by kernel_rfl) (by kernel_rfl) (by kernel_rfl) rfl rfl (by decide) (fun a S => ?_)
          obtain ⟨r42, hx43, h⟩ := bindSome h
          have S := S.learn (fRep r_api_Ratio (.agg #[.int .i64 p0.Num, .int .i64 p0.Den]) p0) rfl
          have S := S.learn (fRep r_api_Ratio (.agg #[.int .i64 p1.Num, .int .i64 p1.Den]) p1) rfl
          refine sCall (X := Value) (f := 12) (vs := [.agg #[.int .i64 p0.Num, .int .i64 p0.Den], .agg #[.int .i64 p1.Num, .int .i64 p1.Den]]) (val := c_yarn_Mul_val r42) (B' := fun _ => []) (D' := c_yarn_Mul_D r42) [] [eBox b2 23 [.int .i64 p0.Num, .int .i64 p0.Den], eBox b3 23 [.int .i64 p1.Num, .int .i64 p1.Den], eBox b8 23 [.int .i64 r27.1.Num, .int .i64 r27.1.Den], eBox b13 23 [.int .i64 r31.1.Num, .int .i64 r31.1.Den]] [fRep r_api_Ratio (.agg #[.int .i64 p0.Num, .int .i64 p0.Den]) p0, fRep r_api_Ratio (.agg #[.int .i64 p1.Num, .int .i64 p1.Den]) p1] [0, 1, 2, 3] [1, 0] S (wN rfl) rfl callee12 (by kernel_rfl) (by decide) (by kernel_rfl) (by kernel_rfl) (fun E1 w1 S1 => c_yarn_Mul E1 w1 p0 (.agg #[.int .i64 p0.Num, .int .i64 p0.Den]) p1 (.agg #[.int .i64 p1.Num, .int .i64 p1.Den]) r42 hx43 S1) rfl (by decide) (fun u44 a w S => ?_)
          obtain rfl : u44 = .agg #[.int .i64 r42.1.Num, .int .i64 r42.1.Den] := S.mem.know (i := 0) (e := fRep r_api_Ratio (u44) r42.1) (by kernel_rfl)
          refine sMove (.tuple #[.agg #[.int .i64 r42.1.Num, .int .i64 r42.1.Den], .int .i64 r42.2]) S (wN rfl) (.inl rfl) (by kernel_rfl) rfl (by decide) (fun a S => ?_)
          refine sExtract (vs := [.agg #[.int .i64 r42.1.Num, .int .i64 r42.1.Den], .int .i64 r42.2]) (.agg #[.int .i64 r42.1.Num, .int .i64 r42.1.Den]) S (wN rfl) rfl (by kernel_rfl) rfl rfl (by decide) (fun a S => ?_)
          refine sExtract (vs := [.agg #[.int .i64 r42.1.Num, .int .i64 r42.1.Den], .int .i64 r42.2]) (.int .i64 r42.2) S (wN rfl) rfl (by kernel_rfl) rfl rfl (by decide) (fun a S => ?_)
          refine sStore (p := b8) (off := 0) (T := 23) (vs := [.int .i64 r27.1.Num, .int .i64 r27.1.Den]) (v := .agg #[.int .i64 r42.1.Num, .int .i64 r42.1.Den]) 2 [.int .i64 r42.1.Num, .int .i64 r42.1.Den] S (wN rfl) rfl (by kernel_rfl) (by kernel_rfl) rfl (by kernel_rfl) (by kernel_rfl) rfl (by simp) rfl (fun a w S => ?_)
          refine sMove (.int .i64 r42.2) S (wN rfl) (.inr rfl) (by kernel_rfl) rfl (by decide) (fun a S => ?_)
          refine leafL (leafT (hK41 _ _ ?_))
          refine sSeq (fun K45 hK45 => ?_)
          refine sRegion ?_
          refine sLoadN (p := b2) (off := 0) (T := 23) (vs := [.int .i64 p0.Num, .int .i64 p0.Den]) 1 [.int .i64 p0.Num, .int .i64 p0.Den] S (wN rfl) rfl (by kernel_rfl) (by kernel_rfl) (by kernel_rfl) (by kernel_rfl) rfl rfl (by decide) (fun a S => ?_)
          refine sLoadN (p := b3) (off := 0) (T := 23) (vs := [.int .i64 p1.Num, .int .i64 p1.Den]) 2 [.int .i64 p1.Num, .int .i64 p1.Den] S (wN rfl) rfl (by kernel_rfl) (by kernel_rfl) (by kernel_rfl) (by kernel_rfl) rfl rfl (by decide) (fun a S => ?_)
          obtain ⟨r46, hx47, h⟩ := bindSome h
          refine sCall (X := Value) (f := 13) (vs := [.agg #[.int .i64 p0.Num, .int .i64 p0.Den], .agg #[.int .i64 p1.Num, .int .i64 p1.Den]]) (val := c_raddleref23_Mul_val r46) (B' := fun _ => []) (D' := c_raddleref23_Mul_D r46) [] [eBox b8 23 [.int .i64 r42.1.Num, .int .i64 r42.1.Den], eBox b2 23 [.int .i64 p0.Num, .int .i64 p0.Den], eBox b3 23 [.int .i64 p1.Num, .int .i64 p1.Den], eBox b13 23 [.int .i64 r31.1.Num, .int .i64 r31.1.Den]] [fRep r_api_Ratio (.agg #[.int .i64 p0.Num, .int .i64 p0.Den]) p0, fRep r_api_Ratio (.agg #[.int .i64 p1.Num, .int .i64 p1.Den]) p1] [0, 1, 2, 3] [2, 1] S (wN rfl) rfl callee13 (by kernel_rfl) (by decide) (by kernel_rfl) (by kernel_rfl) (fun E1 w1 S1 => c_raddleref23_Mul E1 w1 p0 (.agg #[.int .i64 p0.Num, .int .i64 p0.Den]) p1 (.agg #[.int .i64 p1.Num, .int .i64 p1.Den]) r46 hx47 S1) rfl (by decide) (fun u48 a w S => ?_)
          obtain rfl : u48 = .agg #[.int .i64 r46.1.Num, .int .i64 r46.1.Den] := S.mem.know (i := 0) (e := fRep r_api_Ratio (u48) r46.1) (by kernel_rfl)
          refine sMove (.tuple #[.agg #[.int .i64 r46.1.Num, .int .i64 r46.1.Den], .int .i64 r46.2]) S (wN rfl) (.inl rfl) (by kernel_rfl) rfl (by decide) (fun a S => ?_)
          refine sExtract (vs := [.agg #[.int .i64 r46.1.Num, .int .i64 r46.1.Den], .int .i64 r46.2]) (.agg #[.int .i64 r46.1.Num, .int .i64 r46.1.Den]) S (wN rfl) rfl (by kernel_rfl) rfl rfl (by decide) (fun a S => ?_)
          refine sExtract (vs := [.agg #[.int .i64 r46.1.Num, .int .i64 r46.1.Den], .int .i64 r46.2]) (.int .i64 r46.2) S (wN rfl) rfl (by kernel_rfl) rfl rfl (by decide) (fun a S => ?_)
          refine sStore (p := b13) (off := 0) (T := 23) (vs := [.int .i64 r31.1.Num, .int .i64 r31.1.Den]) (v := .agg #[.int .i64 r46.1.Num, .int .i64 r46.1.Den]) 3 [.int .i64 r46.1.Num, .int .i64 r46.1.Den] S (wN rfl) rfl (by kernel_rfl) (by kernel_rfl) rfl (by kernel_rfl) (by kernel_rfl) rfl (by simp) rfl (fun a w S => ?_)
          refine sMove (.int .i64 r46.2) S (wN rfl) (.inr rfl) (by kernel_rfl) rfl (by decide) (fun a S => ?_)
          refine leafL (leafT (hK45 _ _ ?_))
          refine sSeq (fun K49 hK49 => ?_)
          obtain ⟨t51, h, g52⟩ := bindSome h
          refine sCut (fun a w => ∃ o50, o50 = t51 ∧ St [] E [] w0 168 a w [(2, .pointer (some ⟨b2, 0, none⟩)), (3, .pointer (some ⟨b3, 0, none⟩)), (5, .pointer (some ⟨b8, 0, none⟩)), (7, .pointer (some ⟨b13, 0, none⟩)), (87, .bool o50)] [eBox b2 23 [.int .i64 p0.Num, .int .i64 p0.Den], eBox b3 23 [.int .i64 p1.Num, .int .i64 p1.Den], eBox b8 23 [.int .i64 r42.1.Num, .int .i64 r42.1.Den], eBox b13 23 [.int .i64 r46.1.Num, .int .i64 r46.1.Den]] []) ?_ (fun a w hI => ?_)
          · refine sRegion ?_
            refine sLoadN (p := b8) (off := 0) (T := 23) (vs := [.int .i64 r42.1.Num, .int .i64 r42.1.Den]) 1 [.int .i64 r42.1.Num, .int .i64 r42.1.Den] S (wN rfl) rfl (by kernel_rfl) (by kernel_rfl) (by kernel_rfl) (by kernel_rfl) rfl rfl (by decide) (fun a S => ?_)
            refine sLoadN (p := b13) (off := 0) (T := 23) (vs := [.int .i64 r46.1.Num, .int .i64 r46.1.Den]) 0 [.int .i64 r46.1.Num, .int .i64 r46.1.Den] S (wN rfl) rfl (by kernel_rfl) (by kernel_rfl) (by kernel_rfl) (by kernel_rfl) rfl rfl (by decide) (fun a S => ?_)
            refine sBin (.bool (!((r42.1.Num == r46.1.Num) && ((r42.1.Den == r46.1.Den) && true)))) S (wN rfl) rfl (by kernel_rfl) (by kernel_rfl) (bNeV _ _ _ _ #[.int .i64 r42.1.Num, .int .i64 r42.1.Den] #[.int .i64 r46.1.Num, .int .i64 r46.1.Den] ((r42.1.Num == r46.1.Num) && ((r42.1.Den == r46.1.Den) && true)) (by kernel_rfl) (eqlV_of (by kernel_rfl))) rfl (by decide) (fun a S => ?_)
            refine sMove (.bool (!((r42.1.Num == r46.1.Num) && ((r42.1.Den == r46.1.Den) && true)))) S (wN rfl) (.inl rfl) (by kernel_rfl) rfl (by decide) (fun a S => ?_)
            rcases iteSome h with ⟨hc53, h⟩ | ⟨hc53, h⟩
            · refine sSkip (c := !((r42.1.Num == r46.1.Num) && ((r42.1.Den == r46.1.Den) && true))) 3 false 83 84 S rfl rfl (by kernel_rfl) hc53 rfl (by decide) (fun a S => ?_)
              refine sSkip (c := !((r42.1.Num == r46.1.Num) && ((r42.1.Den == r46.1.Den) && true))) 3 false 83 85 S rfl rfl (by kernel_rfl) hc53 rfl (by decide) (fun a S => ?_)
              refine sSkip (c := !((r42.1.Num == r46.1.Num) && ((r42.1.Den == r46.1.Den) && true))) 3 false 83 86 S rfl rfl (by kernel_rfl) hc53 rfl (by decide) (fun a S => ?_)
              refine sPickT (b := !((r42.1.Num == r46.1.Num) && ((r42.1.Den == r46.1.Den) && true))) (.bool true) S (wN rfl) rfl (by kernel_rfl) hc53 (by kernel_rfl) rfl (by decide) (fun a S => ?_)
              exact leafL (leafT (⟨true, Option.some.inj h, S.fix [2, 3, 1, 0] [] (by decide) (by kernel_rfl) (by kernel_rfl) (by kernel_rfl)⟩))
            · refine sMove (.int .i64 r42.2) S (wG (c := !((r42.1.Num == r46.1.Num) && ((r42.1.Den == r46.1.Den) && true))) 3 false 83 rfl rfl (by kernel_rfl) hc53) (.inl rfl) (by kernel_rfl) rfl (by decide) (fun a S => ?_)
              refine sMove (.int .i64 r46.2) S (wG (c := !((r42.1.Num == r46.1.Num) && ((r42.1.Den == r46.1.Den) && true))) 3 false 83 rfl rfl (by kernel_rfl) hc53) (.inl rfl) (by kernel_rfl) rfl (by decide) (fun a S => ?_)
              refine sBin (.bool (r42.2 != r46.2)) S (wG (c := !((r42.1.Num == r46.1.Num) && ((r42.1.Den == r46.1.Den) && true))) 3 false 83 rfl rfl (by kernel_rfl) hc53) rfl (by kernel_rfl) (by kernel_rfl) (bNe _ _ _ _ .i64 r42.2 r46.2) rfl (by decide) (fun a S => ?_)
              refine sPickF (b := !((r42.1.Num == r46.1.Num) && ((r42.1.Den == r46.1.Den) && true))) (.bool (r42.2 != r46.2)) S (wN rfl) rfl (by kernel_rfl) hc53 (by kernel_rfl) rfl (by decide) (fun a S => ?_)
              exact leafL (leafT (⟨r42.2 != r46.2, Option.some.inj h, S.fix [2, 3, 1, 0] [] (by decide) (by kernel_rfl) (by kernel_rfl) (by kernel_rfl)⟩))
          · obtain ⟨o50, rfl, S⟩ := hI
            have h := g52
            clear g52
            try dsimp only at h
            rcases iteSome h with ⟨hc54, h⟩ | ⟨hc54, h⟩
            · refine sCondT (b := o50) S (by kernel_rfl) hc54 ?_
              refine sSeq (fun K55 hK55 => ?_)
              refine sRegion ?_
              refine sMove (.bool false) S (wN rfl) (.inr rfl) (by kernel_rfl) rfl (by decide) (fun a S => ?_)
              refine leafL (leafT (hK55 _ _ ?_))
              obtain rfl := Option.some.inj h
              exact wp_ret (rThen (sRet (.bool false) S (rsl1 rfl (rvT (t := 4) (v := .bool false) S (by kernel_rfl))) ⟨(), rfl, S.mem.sel [] [] (by decide) (by kernel_rfl) (by kernel_rfl)⟩))
            · refine sCondF (b := o50) S (by kernel_rfl) hc54 ?_
              refine wp_skip (leafT (hK49 _ _ ?_))
              refine sSeq (fun K56 hK56 => ?_)
              refine sRegion ?_
              refine sLoadN (p := b2) (off := 0) (T := 23) (vs := [.int .i64 p0.Num, .int .i64 p0.Den]) 0 [.int .i64 p0.Num, .int .i64 p0.Den] S (wN rfl) rfl (by kernel_rfl) (by kernel_rfl) (by kernel_rfl) (by kernel_rfl) rfl rfl (by decide) (fun a S => ?_)
              refine sLoadN (p := b3) (off := 0) (T := 23) (vs := [.int .i64 p1.Num, .int .i64 p1.Den]) 1 [.int .i64 p1.Num, .int .i64 p1.Den] S (wN rfl) rfl (by kernel_rfl) (by kernel_rfl) (by kernel_rfl) (by kernel_rfl) rfl rfl (by decide) (fun a S => ?_)
              obtain ⟨r57, hx58, h⟩ := bindSome h
              have S := S.learn (fRep r_api_Ratio (.agg #[.int .i64 p0.Num, .int .i64 p0.Den]) p0) rfl
              have S := S.learn (fRep r_api_Ratio (.agg #[.int .i64 p1.Num, .int .i64 p1.Den]) p1) rfl
              refine sCall (X := Value) (f := 14) (vs := [.agg #[.int .i64 p0.Num, .int .i64 p0.Den], .agg #[.int .i64 p1.Num, .int .i64 p1.Den]]) (val := c_yarn_Div_val r57) (B' := fun _ => []) (D' := c_yarn_Div_D r57) [] [eBox b2 23 [.int .i64 p0.Num, .int .i64 p0.Den], eBox b3 23 [.int .i64 p1.Num, .int .i64 p1.Den], eBox b8 23 [.int .i64 r42.1.Num, .int .i64 r42.1.Den], eBox b13 23 [.int .i64 r46.1.Num, .int .i64 r46.1.Den]] [fRep r_api_Ratio (.agg #[.int .i64 p0.Num, .int .i64 p0.Den]) p0, fRep r_api_Ratio (.agg #[.int .i64 p1.Num, .int .i64 p1.Den]) p1] [0, 1, 2, 3] [1, 0] S (wN rfl) rfl callee14 (by kernel_rfl) (by decide) (by kernel_rfl) (by kernel_rfl) (fun E1 w1 S1 => c_yarn_Div E1 w1 p0 (.agg #[.int .i64 p0.Num, .int .i64 p0.Den]) p1 (.agg #[.int .i64 p1.Num, .int .i64 p1.Den]) r57 hx58 S1) rfl (by decide) (fun u59 a w S => ?_)
              obtain rfl : u59 = .agg #[.int .i64 r57.1.Num, .int .i64 r57.1.Den] := S.mem.know (i := 0) (e := fRep r_api_Ratio (u59) r57.1) (by kernel_rfl)
              refine sMove (.tuple #[.agg #[.int .i64 r57.1.Num, .int .i64 r57.1.Den], .int .i64 r57.2]) S (wN rfl) (.inl rfl) (by kernel_rfl) rfl (by decide) (fun a S => ?_)
              refine sExtract (vs := [.agg #[.int .i64 r57.1.Num, .int .i64 r57.1.Den], .int .i64 r57.2]) (.agg #[.int .i64 r57.1.Num, .int .i64 r57.1.Den]) S (wN rfl) rfl (by kernel_rfl) rfl rfl (by decide) (fun a S => ?_)
              refine sExtract (vs := [.agg #[.int .i64 r57.1.Num, .int .i64 r57.1.Den], .int .i64 r57.2]) (.int .i64 r57.2) S (wN rfl) rfl (by kernel_rfl) rfl rfl (by decide) (fun a S => ?_)
              refine sStore (p := b8) (off := 0) (T := 23) (vs := [.int .i64 r42.1.Num, .int .i64 r42.1.Den]) (v := .agg #[.int .i64 r57.1.Num, .int .i64 r57.1.Den]) 2 [.int .i64 r57.1.Num, .int .i64 r57.1.Den] S (wN rfl) rfl (by kernel_rfl) (by kernel_rfl) rfl (by kernel_rfl) (by kernel_rfl) rfl (by simp) rfl (fun a w S => ?_)
              refine sMove (.int .i64 r57.2) S (wN rfl) (.inr rfl) (by kernel_rfl) rfl (by decide) (fun a S => ?_)
              refine leafL (leafT (hK56 _ _ ?_))
              refine sSeq (fun K60 hK60 => ?_)
              refine sRegion ?_
              refine sLoadN (p := b2) (off := 0) (T := 23) (vs := [.int .i64 p0.Num, .int .i64 p0.Den]) 1 [.int .i64 p0.Num, .int .i64 p0.Den] S (wN rfl) rfl (by kernel_rfl) (by kernel_rfl) (by kernel_rfl) (by kernel_rfl) rfl rfl (by decide) (fun a S => ?_)
              refine sLoadN (p := b3) (off := 0) (T := 23) (vs := [.int .i64 p1.Num, .int .i64 p1.Den]) 2 [.int .i64 p1.Num, .int .i64 p1.Den] S (wN rfl) rfl (by kernel_rfl) (by kernel_rfl) (by kernel_rfl) (by kernel_rfl) rfl rfl (by decide) (fun a S => ?_)
              obtain ⟨r61, hx62, h⟩ := bindSome h
              refine sCall (X := Value) (f := 15) (vs := [.agg #[.int .i64 p0.Num, .int .i64 p0.Den], .agg #[.int .i64 p1.Num, .int .i64 p1.Den]]) (val := c_raddleref23_Div_val r61) (B' := fun _ => []) (D' := c_raddleref23_Div_D r61) [] [eBox b8 23 [.int .i64 r57.1.Num, .int .i64 r57.1.Den], eBox b2 23 [.int .i64 p0.Num, .int .i64 p0.Den], eBox b3 23 [.int .i64 p1.Num, .int .i64 p1.Den], eBox b13 23 [.int .i64 r46.1.Num, .int .i64 r46.1.Den]] [fRep r_api_Ratio (.agg #[.int .i64 p0.Num, .int .i64 p0.Den]) p0, fRep r_api_Ratio (.agg #[.int .i64 p1.Num, .int .i64 p1.Den]) p1] [0, 1, 2, 3] [2, 1] S (wN rfl) rfl callee15 (by kernel_rfl) (by decide) (by kernel_rfl) (by kernel_rfl) (fun E1 w1 S1 => c_raddleref23_Div E1 w1 p0 (.agg #[.int .i64 p0.Num, .int .i64 p0.Den]) p1 (.agg #[.int .i64 p1.Num, .int .i64 p1.Den]) r61 hx62 S1) rfl (by decide) (fun u63 a w S => ?_)
              obtain rfl : u63 = .agg #[.int .i64 r61.1.Num, .int .i64 r61.1.Den] := S.mem.know (i := 0) (e := fRep r_api_Ratio (u63) r61.1) (by kernel_rfl)
              refine sMove (.tuple #[.agg #[.int .i64 r61.1.Num, .int .i64 r61.1.Den], .int .i64 r61.2]) S (wN rfl) (.inl rfl) (by kernel_rfl) rfl (by decide) (fun a S => ?_)
              refine sExtract (vs := [.agg #[.int .i64 r61.1.Num, .int .i64 r61.1.Den], .int .i64 r61.2]) (.agg #[.int .i64 r61.1.Num, .int .i64 r61.1.Den]) S (wN rfl) rfl (by kernel_rfl) rfl rfl (by decide) (fun a S => ?_)
              refine sExtract (vs := [.agg #[.int .i64 r61.1.Num, .int .i64 r61.1.Den], .int .i64 r61.2]) (.int .i64 r61.2) S (wN rfl) rfl (by kernel_rfl) rfl rfl (by decide) (fun a S => ?_)
              refine sStore (p := b13) (off := 0) (T := 23) (vs := [.int .i64 r46.1.Num, .int .i64 r46.1.Den]) (v := .agg #[.int .i64 r61.1.Num, .int .i64 r61.1.Den]) 3 [.int .i64 r61.1.Num, .int .i64 r61.1.Den] S (wN rfl) rfl (by kernel_rfl) (by kernel_rfl) rfl (by kernel_rfl) (by kernel_rfl) rfl (by simp) rfl (fun a w S => ?_)
              refine sMove (.int .i64 r61.2) S (wN rfl) (.inr rfl) (by kernel_rfl) rfl (by decide) (fun a S => ?_)
              refine leafL (leafT (hK60 _ _ ?_))
              refine sSeq (fun K64 hK64 => ?_)
              obtain ⟨t66, h, g67⟩ := bindSome h
              refine sCut (fun a w => ∃ o65, o65 = t66 ∧ St [] E [] w0 168 a w [(2, .pointer (some ⟨b2, 0, none⟩)), (3, .pointer (some ⟨b3, 0, none⟩)), (107, .bool o65)] [eBox b2 23 [.int .i64 p0.Num, .int .i64 p0.Den], eBox b3 23 [.int .i64 p1.Num, .int .i64 p1.Den]] []) ?_ (fun a w hI => ?_)
              · refine sRegion ?_
                refine sLoadN (p := b8) (off := 0) (T := 23) (vs := [.int .i64 r57.1.Num, .int .i64 r57.1.Den]) 1 [.int .i64 r57.1.Num, .int .i64 r57.1.Den] S (wN rfl) rfl (by kernel_rfl) (by kernel_rfl) (by kernel_rfl) (by kernel_rfl) rfl rfl (by decide) (fun a S => ?_)
                refine sLoadN (p := b13) (off := 0) (T := 23) (vs := [.int .i64 r61.1.Num, .int .i64 r61.1.Den]) 0 [.int .i64 r61.1.Num, .int .i64 r61.1.Den] S (wN rfl) rfl (by kernel_rfl) (by kernel_rfl) (by kernel_rfl) (by kernel_rfl) rfl rfl (by decide) (fun a S => ?_)
                refine sBin (.bool (!((r57.1.Num == r61.1.Num) && ((r57.1.Den == r61.1.Den) && true)))) S (wN rfl) rfl (by kernel_rfl) (by kernel_rfl) (bNeV _ _ _ _ #[.int .i64 r57.1.Num, .int .i64 r57.1.Den] #[.int .i64 r61.1.Num, .int .i64 r61.1.Den] ((r57.1.Num == r61.1.Num) && ((r57.1.Den == r61.1.Den) && true)) (by kernel_rfl) (eqlV_of (by kernel_rfl))) rfl (by decide) (fun a S => ?_)
                refine sMove (.bool (!((r57.1.Num == r61.1.Num) && ((r57.1.Den == r61.1.Den) && true)))) S (wN rfl) (.inl rfl) (by kernel_rfl) rfl (by decide) (fun a S => ?_)
                rcases iteSome h with ⟨hc68, h⟩ | ⟨hc68, h⟩
                · refine sSkip (c := !((r57.1.Num == r61.1.Num) && ((r57.1.Den == r61.1.Den) && true))) 3 false 103 104 S rfl rfl (by kernel_rfl) hc68 rfl (by decide) (fun a S => ?_)
                  refine sSkip (c := !((r57.1.Num == r61.1.Num) && ((r57.1.Den == r61.1.Den) && true))) 3 false 103 105 S rfl rfl (by kernel_rfl) hc68 rfl (by decide) (fun a S => ?_)
                  refine sSkip (c := !((r57.1.Num == r61.1.Num) && ((r57.1.Den == r61.1.Den) && true))) 3 false 103 106 S rfl rfl (by kernel_rfl) hc68 rfl (by decide) (fun a S => ?_)
                  refine sPickT (b := !((r57.1.Num == r61.1.Num) && ((r57.1.Den == r61.1.Den) && true))) (.bool true) S (wN rfl) rfl (by kernel_rfl) hc68 (by kernel_rfl) rfl (by decide) (fun a S => ?_)
                  exact leafL (leafT (⟨true, Option.some.inj h, S.fix [2, 3] [] (by decide) (by kernel_rfl) (by kernel_rfl) (by kernel_rfl)⟩))
                · refine sMove (.int .i64 r57.2) S (wG (c := !((r57.1.Num == r61.1.Num) && ((r57.1.Den == r61.1.Den) && true))) 3 false 103 rfl rfl (by kernel_rfl) hc68) (.inl rfl) (by kernel_rfl) rfl (by decide) (fun a S => ?_)
                  refine sMove (.int .i64 r61.2) S (wG (c := !((r57.1.Num == r61.1.Num) && ((r57.1.Den == r61.1.Den) && true))) 3 false 103 rfl rfl (by kernel_rfl) hc68) (.inl rfl) (by kernel_rfl) rfl (by decide) (fun a S => ?_)
                  refine sBin (.bool (r57.2 != r61.2)) S (wG (c := !((r57.1.Num == r61.1.Num) && ((r57.1.Den == r61.1.Den) && true))) 3 false 103 rfl rfl (by kernel_rfl) hc68) rfl (by kernel_rfl) (by kernel_rfl) (bNe _ _ _ _ .i64 r57.2 r61.2) rfl (by decide) (fun a S => ?_)
                  refine sPickF (b := !((r57.1.Num == r61.1.Num) && ((r57.1.Den == r61.1.Den) && true))) (.bool (r57.2 != r61.2)) S (wN rfl) rfl (by kernel_rfl) hc68 (by kernel_rfl) rfl (by decide) (fun a S => ?_)
                  exact leafL (leafT (⟨r57.2 != r61.2, Option.some.inj h, S.fix [2, 3] [] (by decide) (by kernel_rfl) (by kernel_rfl) (by kernel_rfl)⟩))
              · obtain ⟨o65, rfl, S⟩ := hI
                have h := g67
                clear g67
                try dsimp only at h
                rcases iteSome h with ⟨hc69, h⟩ | ⟨hc69, h⟩
                · refine sCondT (b := o65) S (by kernel_rfl) hc69 ?_
                  refine sSeq (fun K70 hK70 => ?_)
                  refine sRegion ?_
                  refine sMove (.bool false) S (wN rfl) (.inr rfl) (by kernel_rfl) rfl (by decide) (fun a S => ?_)
                  refine leafL (leafT (hK70 _ _ ?_))
                  obtain rfl := Option.some.inj h
                  exact wp_ret (rThen (sRet (.bool false) S (rsl1 rfl (rvT (t := 4) (v := .bool false) S (by kernel_rfl))) ⟨(), rfl, S.mem.sel [] [] (by decide) (by kernel_rfl) (by kernel_rfl)⟩))
                · refine sCondF (b := o65) S (by kernel_rfl) hc69 ?_
                  refine wp_skip (leafT (hK64 _ _ ?_))
                  refine sSeq (fun K71 hK71 => ?_)
                  refine sRegion ?_
                  refine sLoadN (p := b2) (off := 0) (T := 23) (vs := [.int .i64 p0.Num, .int .i64 p0.Den]) 0 [.int .i64 p0.Num, .int .i64 p0.Den] S (wN rfl) rfl (by kernel_rfl) (by kernel_rfl) (by kernel_rfl) (by kernel_rfl) rfl rfl (by decide) (fun a S => ?_)
                  refine sLoadN (p := b3) (off := 0) (T := 23) (vs := [.int .i64 p1.Num, .int .i64 p1.Den]) 1 [.int .i64 p1.Num, .int .i64 p1.Den] S (wN rfl) rfl (by kernel_rfl) (by kernel_rfl) (by kernel_rfl) (by kernel_rfl) rfl rfl (by decide) (fun a S => ?_)
                  obtain ⟨r72, hx73, h⟩ := bindSome h
                  have S1 := S.mem
                  have S1 := S1.learn (fRep r_api_Ratio (.agg #[.int .i64 p0.Num, .int .i64 p0.Den]) p0) rfl
                  have S1 := S1.learn (fRep r_api_Ratio (.agg #[.int .i64 p1.Num, .int .i64 p1.Den]) p1) rfl
                  refine sCallQ (X := Unit) (f := 16) (vs := [.agg #[.int .i64 p0.Num, .int .i64 p0.Den], .agg #[.int .i64 p1.Num, .int .i64 p1.Den]]) (val := fun _ => .tuple #[.int .i64 r72.1, .int .i64 r72.2]) S (wN rfl) rfl callee16 (by kernel_rfl) (S1.quiet [1, 0] (by kernel_rfl)) (fun E1 w1 S1 => c_yarn_Cmp E1 w1 p0 (.agg #[.int .i64 p0.Num, .int .i64 p0.Den]) p1 (.agg #[.int .i64 p1.Num, .int .i64 p1.Den]) r72 hx73 S1) rfl (by decide) (fun _ a w S => ?_)
                  refine sMove (.tuple #[.int .i64 r72.1, .int .i64 r72.2]) S (wN rfl) (.inl rfl) (by kernel_rfl) rfl (by decide) (fun a S => ?_)
                  refine sExtract (vs := [.int .i64 r72.1, .int .i64 r72.2]) (.int .i64 r72.1) S (wN rfl) rfl (by kernel_rfl) rfl rfl (by decide) (fun a S => ?_)
                  refine sExtract (vs := [.int .i64 r72.1, .int .i64 r72.2]) (.int .i64 r72.2) S (wN rfl) rfl (by kernel_rfl) rfl rfl (by decide) (fun a S => ?_)
                  refine sMove (.int .i64 r72.1) S (wN rfl) (.inr rfl) (by kernel_rfl) rfl (by decide) (fun a S => ?_)
                  refine sMove (.int .i64 r72.2) S (wN rfl) (.inr rfl) (by kernel_rfl) rfl (by decide) (fun a S => ?_)
                  refine leafL (leafT (hK71 _ _ ?_))
                  refine sSeq (fun K74 hK74 => ?_)
                  refine sRegion ?_
                  refine sLoadN (p := b2) (off := 0) (T := 23) (vs := [.int .i64 p0.Num, .int .i64 p0.Den]) 0 [.int .i64 p0.Num, .int .i64 p0.Den] S (wN rfl) rfl (by kernel_rfl) (by kernel_rfl) (by kernel_rfl) (by kernel_rfl) rfl rfl (by decide) (fun a S => ?_)
                  refine sLoadN (p := b3) (off := 0) (T := 23) (vs := [.int .i64 p1.Num, .int .i64 p1.Den]) 1 [.int .i64 p1.Num, .int .i64 p1.Den] S (wN rfl) rfl (by kernel_rfl) (by kernel_rfl) (by kernel_rfl) (by kernel_rfl) rfl rfl (by decide) (fun a S => ?_)
                  obtain ⟨r75, hx76, h⟩ := bindSome h
                  have S1 := S.mem
                  have S1 := S1.learn (fRep r_api_Ratio (.agg #[.int .i64 p0.Num, .int .i64 p0.Den]) p0) rfl
                  have S1 := S1.learn (fRep r_api_Ratio (.agg #[.int .i64 p1.Num, .int .i64 p1.Den]) p1) rfl
                  refine sCallQ (X := Unit) (f := 17) (vs := [.agg #[.int .i64 p0.Num, .int .i64 p0.Den], .agg #[.int .i64 p1.Num, .int .i64 p1.Den]]) (val := fun _ => .tuple #[.int .i64 r75.1, .int .i64 r75.2]) S (wN rfl) rfl callee17 (by kernel_rfl) (S1.quiet [1, 0] (by kernel_rfl)) (fun E1 w1 S1 => c_raddleref23_Cmp E1 w1 p0 (.agg #[.int .i64 p0.Num, .int .i64 p0.Den]) p1 (.agg #[.int .i64 p1.Num, .int .i64 p1.Den]) r75 hx76 S1) rfl (by decide) (fun _ a w S => ?_)
                  refine sMove (.tuple #[.int .i64 r75.1, .int .i64 r75.2]) S (wN rfl) (.inl rfl) (by kernel_rfl) rfl (by decide) (fun a S => ?_)
                  refine sExtract (vs := [.int .i64 r75.1, .int .i64 r75.2]) (.int .i64 r75.1) S (wN rfl) rfl (by kernel_rfl) rfl rfl (by decide) (fun a S => ?_)
                  refine sExtract (vs := [.int .i64 r75.1, .int .i64 r75.2]) (.int .i64 r75.2) S (wN rfl) rfl (by kernel_rfl) rfl rfl (by decide) (fun a S => ?_)
                  refine sMove (.int .i64 r75.1) S (wN rfl) (.inr rfl) (by kernel_rfl) rfl (by decide) (fun a S => ?_)
                  refine sMove (.int .i64 r75.2) S (wN rfl) (.inr rfl) (by kernel_rfl) rfl (by decide) (fun a S => ?_)
                  refine leafL (leafT (hK74 _ _ ?_))
                  refine sSeq (fun K77 hK77 => ?_)
                  refine sRegion ?_
                  refine sLoadN (p := b2) (off := 0) (T := 23) (vs := [.int .i64 p0.Num, .int .i64 p0.Den]) 0 [.int .i64 p0.Num, .int .i64 p0.Den] S (wN rfl) rfl (by kernel_rfl) (by kernel_rfl) (by kernel_rfl) (by kernel_rfl) rfl rfl (by decide) (fun a S => ?_)
                  obtain ⟨r78, hx79, h⟩ := bindSome h
                  have S1 := S.mem
                  have S1 := S1.learn (fRep r_api_Ratio (.agg #[.int .i64 p0.Num, .int .i64 p0.Den]) p0) rfl
                  refine sCallQ (X := Unit) (f := 18) (vs := [.agg #[.int .i64 p0.Num, .int .i64 p0.Den]]) (val := fun _ => .tuple #[.int .i64 r78.1, .int .i64 r78.2]) S (wN rfl) rfl callee18 (by kernel_rfl) (S1.quiet [0] (by kernel_rfl)) (fun E1 w1 S1 => c_yarn_Floor E1 w1 p0 (.agg #[.int .i64 p0.Num, .int .i64 p0.Den]) r78 hx79 S1) rfl (by decide) (fun _ a w S => ?_)
                  refine sMove (.tuple #[.int .i64 r78.1, .int .i64 r78.2]) S (wN rfl) (.inl rfl) (by kernel_rfl) rfl (by decide) (fun a S => ?_)
                  refine sExtract (vs := [.int .i64 r78.1, .int .i64 r78.2]) (.int .i64 r78.1) S (wN rfl) rfl (by kernel_rfl) rfl rfl (by decide) (fun a S => ?_)
                  refine sExtract (vs := [.int .i64 r78.1, .int .i64 r78.2]) (.int .i64 r78.2) S (wN rfl) rfl (by kernel_rfl) rfl rfl (by decide) (fun a S => ?_)
                  refine sMove (.int .i64 r78.1) S (wN rfl) (.inr rfl) (by kernel_rfl) rfl (by decide) (fun a S => ?_)
                  refine sMove (.int .i64 r78.2) S (wN rfl) (.inr rfl) (by kernel_rfl) rfl (by decide) (fun a S => ?_)
                  refine leafL (leafT (hK77 _ _ ?_))
                  refine sSeq (fun K80 hK80 => ?_)
                  refine sRegion ?_
                  refine sLoadN (p := b2) (off := 0) (T := 23) (vs := [.int .i64 p0.Num, .int .i64 p0.Den]) 0 [.int .i64 p0.Num, .int .i64 p0.Den] S (wN rfl) rfl (by kernel_rfl) (by kernel_rfl) (by kernel_rfl) (by kernel_rfl) rfl rfl (by decide) (fun a S => ?_)
                  obtain ⟨r81, hx82, h⟩ := bindSome h
                  have S1 := S.mem
                  have S1 := S1.learn (fRep r_api_Ratio (.agg #[.int .i64 p0.Num, .int .i64 p0.Den]) p0) rfl
                  refine sCallQ (X := Unit) (f := 19) (vs := [.agg #[.int .i64 p0.Num, .int .i64 p0.Den]]) (val := fun _ => .tuple #[.int .i64 r81.1, .int .i64 r81.2]) S (wN rfl) rfl callee19 (by kernel_rfl) (S1.quiet [0] (by kernel_rfl)) (fun E1 w1 S1 => c_raddleref23_Floor E1 w1 p0 (.agg #[.int .i64 p0.Num, .int .i64 p0.Den]) r81 hx82 S1) rfl (by decide) (fun _ a w S => ?_)
                  refine sMove (.tuple #[.int .i64 r81.1, .int .i64 r81.2]) S (wN rfl) (.inl rfl) (by kernel_rfl) rfl (by decide) (fun a S => ?_)
                  refine sExtract (vs := [.int .i64 r81.1, .int .i64 r81.2]) (.int .i64 r81.1) S (wN rfl) rfl (by kernel_rfl) rfl rfl (by decide) (fun a S => ?_)
                  refine sExtract (vs := [.int .i64 r81.1, .int .i64 r81.2]) (.int .i64 r81.2) S (wN rfl) rfl (by kernel_rfl) rfl rfl (by decide) (fun a S => ?_)
                  refine sMove (.int .i64 r81.1) S (wN rfl) (.inr rfl) (by kernel_rfl) rfl (by decide) (fun a S => ?_)
                  refine sMove (.int .i64 r81.2) S (wN rfl) (.inr rfl) (by kernel_rfl) rfl (by decide) (fun a S => ?_)
                  refine leafL (leafT (hK80 _ _ ?_))
                  refine sSeq (fun K83 hK83 => ?_)
                  refine sRegion ?_
                  refine sLoadN (p := b2) (off := 0) (T := 23) (vs := [.int .i64 p0.Num, .int .i64 p0.Den]) 0 [.int .i64 p0.Num, .int .i64 p0.Den] S (wN rfl) rfl (by kernel_rfl) (by kernel_rfl) (by kernel_rfl) (by kernel_rfl) rfl rfl (by decide) (fun a S => ?_)
                  obtain ⟨r84, hx85, h⟩ := bindSome h
                  have S1 := S.mem
                  have S1 := S1.learn (fRep r_api_Ratio (.agg #[.int .i64 p0.Num, .int .i64 p0.Den]) p0) rfl
                  refine sCallQ (X := Unit) (f := 20) (vs := [.agg #[.int .i64 p0.Num, .int .i64 p0.Den]]) (val := fun _ => .tuple #[.int .i64 r84.1, .int .i64 r84.2]) S (wN rfl) rfl callee20 (by kernel_rfl) (S1.quiet [0] (by kernel_rfl)) (fun E1 w1 S1 => c_yarn_Ceil E1 w1 p0 (.agg #[.int .i64 p0.Num, .int .i64 p0.Den]) r84 hx85 S1) rfl (by decide) (fun _ a w S => ?_)
                  refine sMove (.tuple #[.int .i64 r84.1, .int .i64 r84.2]) S (wN rfl) (.inl rfl) (by kernel_rfl) rfl (by decide) (fun a S => ?_)
                  refine sExtract (vs := [.int .i64 r84.1, .int .i64 r84.2]) (.int .i64 r84.1) S (wN rfl) rfl (by kernel_rfl) rfl rfl (by decide) (fun a S => ?_)
                  refine sExtract (vs := [.int .i64 r84.1, .int .i64 r84.2]) (.int .i64 r84.2) S (wN rfl) rfl (by kernel_rfl) rfl rfl (by decide) (fun a S => ?_)
                  refine sMove (.int .i64 r84.1) S (wN rfl) (.inr rfl) (by kernel_rfl) rfl (by decide) (fun a S => ?_)
                  refine sMove (.int .i64 r84.2) S (wN rfl) (.inr rfl) (by kernel_rfl) rfl (by decide) (fun a S => ?_)
                  refine leafL (leafT (hK83 _ _ ?_))
                  refine sSeq (fun K86 hK86 => ?_)
                  refine sRegion ?_
                  refine sLoadN (p := b2) (off := 0) (T := 23) (vs := [.int .i64 p0.Num, .int .i64 p0.Den]) 0 [.int .i64 p0.Num, .int .i64 p0.Den] S (wN rfl) rfl (by kernel_rfl) (by kernel_rfl) (by kernel_rfl) (by kernel_rfl) rfl rfl (by decide) (fun a S => ?_)
                  obtain ⟨r87, hx88, h⟩ := bindSome h
                  have S1 := S.mem
                  have S1 := S1.learn (fRep r_api_Ratio (.agg #[.int .i64 p0.Num, .int .i64 p0.Den]) p0) rfl
                  refine sCallQ (X := Unit) (f := 21) (vs := [.agg #[.int .i64 p0.Num, .int .i64 p0.Den]]) (val := fun _ => .tuple #[.int .i64 r87.1, .int .i64 r87.2]) S (wN rfl) rfl callee21 (by kernel_rfl) (S1.quiet [0] (by kernel_rfl)) (fun E1 w1 S1 => c_raddleref23_Ceil E1 w1 p0 (.agg #[.int .i64 p0.Num, .int .i64 p0.Den]) r87 hx88 S1) rfl (by decide) (fun _ a w S => ?_)
                  refine sMove (.tuple #[.int .i64 r87.1, .int .i64 r87.2]) S (wN rfl) (.inl rfl) (by kernel_rfl) rfl (by decide) (fun a S => ?_)
                  refine sExtract (vs := [.int .i64 r87.1, .int .i64 r87.2]) (.int .i64 r87.1) S (wN rfl) rfl (by kernel_rfl) rfl rfl (by decide) (fun a S => ?_)
                  refine sExtract (vs := [.int .i64 r87.1, .int .i64 r87.2]) (.int .i64 r87.2) S (wN rfl) rfl (by kernel_rfl) rfl rfl (by decide) (fun a S => ?_)
                  refine sMove (.int .i64 r87.1) S (wN rfl) (.inr rfl) (by kernel_rfl) rfl (by decide) (fun a S => ?_)
                  refine sMove (.int .i64 r87.2) S (wN rfl) (.inr rfl) (by kernel_rfl) rfl (by decide) (fun a S => ?_)
                  refine leafL (leafT (hK86 _ _ ?_))
                  obtain ⟨t90, h, g91⟩ := bindSome h
                  refine sCut (fun a w => ∃ o89, o89 = t90 ∧ St [] E [] w0 168 a w [(4, .bool o89)] [] []) ?_ (fun a w hI => ?_)
                  · refine sRegion ?_
                    refine sMove (.int .i64 r72.1) S (wN rfl) (.inl rfl) (by kernel_rfl) rfl (by decide) (fun a S => ?_)
                    refine sMove (.int .i64 r75.1) S (wN rfl) (.inl rfl) (by kernel_rfl) rfl (by decide) (fun a S => ?_)
                    refine sBin (.bool (r72.1 == r75.1)) S (wN rfl) rfl (by kernel_rfl) (by kernel_rfl) (bEq _ _ _ _ .i64 r72.1 r75.1) rfl (by decide) (fun a S => ?_)
                    refine sMove (.bool (r72.1 == r75.1)) S (wN rfl) (.inl rfl) (by kernel_rfl) rfl (by decide) (fun a S => ?_)
                    rcases iteSome h with ⟨hc92, h⟩ | ⟨hc92, h⟩
                    · refine sMove (.int .i64 r72.2) S (wG (c := r72.1 == r75.1) 3 true 143 rfl rfl (by kernel_rfl) hc92) (.inl rfl) (by kernel_rfl) rfl (by decide) (fun a S => ?_)
                      refine sMove (.int .i64 r75.2) S (wG (c := r72.1 == r75.1) 3 true 143 rfl rfl (by kernel_rfl) hc92) (.inl rfl) (by kernel_rfl) rfl (by decide) (fun a S => ?_)
                      refine sBin (.bool (r72.2 == r75.2)) S (wG (c := r72.1 == r75.1) 3 true 143 rfl rfl (by kernel_rfl) hc92) rfl (by kernel_rfl) (by kernel_rfl) (bEq _ _ _ _ .i64 r72.2 r75.2) rfl (by decide) (fun a S => ?_)
                      refine sPickT (b := r72.1 == r75.1) (.bool (r72.2 == r75.2)) S (wN rfl) rfl (by kernel_rfl) hc92 (by kernel_rfl) rfl (by decide) (fun a S => ?_)
                      refine sMove (.bool (r72.2 == r75.2)) S (wN rfl) (.inl rfl) (by kernel_rfl) rfl (by decide) (fun a S => ?_)
                      rcases iteSome h with ⟨hc93, h⟩ | ⟨hc93, h⟩
                      · refine sMove (.int .i64 r78.1) S (wG (c := r72.2 == r75.2) 8 true 148 rfl rfl (by kernel_rfl) hc93) (.inl rfl) (by kernel_rfl) rfl (by decide) (fun a S => ?_)
                        refine sMove (.int .i64 r81.1) S (wG (c := r72.2 == r75.2) 8 true 148 rfl rfl (by kernel_rfl) hc93) (.inl rfl) (by kernel_rfl) rfl (by decide) (fun a S => ?_)
                        refine sBin (.bool (r78.1 == r81.1)) S (wG (c := r72.2 == r75.2) 8 true 148 rfl rfl (by kernel_rfl) hc93) rfl (by kernel_rfl) (by kernel_rfl) (bEq _ _ _ _ .i64 r78.1 r81.1) rfl (by decide) (fun a S => ?_)
                        refine sPickT (b := r72.2 == r75.2) (.bool (r78.1 == r81.1)) S (wN rfl) rfl (by kernel_rfl) hc93 (by kernel_rfl) rfl (by decide) (fun a S => ?_)
                        refine sMove (.bool (r78.1 == r81.1)) S (wN rfl) (.inl rfl) (by kernel_rfl) rfl (by decide) (fun a S => ?_)
                        rcases iteSome h with ⟨hc94, h⟩ | ⟨hc94, h⟩
                        · refine sMove (.int .i64 r78.2) S (wG (c := r78.1 == r81.1) 13 true 153 rfl rfl (by kernel_rfl) hc94) (.inl rfl) (by kernel_rfl) rfl (by decide) (fun a S => ?_)
                          refine sMove (.int .i64 r81.2) S (wG (c := r78.1 == r81.1) 13 true 153 rfl rfl (by kernel_rfl) hc94) (.inl rfl) (by kernel_rfl) rfl (by decide) (fun a S => ?_)
                          refine sBin (.bool (r78.2 == r81.2)) S (wG (c := r78.1 == r81.1) 13 true 153 rfl rfl (by kernel_rfl) hc94) rfl (by kernel_rfl) (by kernel_rfl) (bEq _ _ _ _ .i64 r78.2 r81.2) rfl (by decide) (fun a S => ?_)
                          refine sPickT (b := r78.1 == r81.1) (.bool (r78.2 == r81.2)) S (wN rfl) rfl (by kernel_rfl) hc94 (by kernel_rfl) rfl (by decide) (fun a S => ?_)
                          refine sMove (.bool (r78.2 == r81.2)) S (wN rfl) (.inl rfl) (by kernel_rfl) rfl (by decide) (fun a S => ?_)
                          rcases iteSome h with ⟨hc95, h⟩ | ⟨hc95, h⟩
                          · refine sMove (.int .i64 r84.1) S (wG (c := r78.2 == r81.2) 18 true 158 rfl rfl (by kernel_rfl) hc95) (.inl rfl) (by kernel_rfl) rfl (by decide) (fun a S => ?_)
                            refine sMove (.int .i64 r87.1) S (wG (c := r78.2 == r81.2) 18 true 158 rfl rfl (by kernel_rfl) hc95) (.inl rfl) (by kernel_rfl) rfl (by decide) (fun a S => ?_)
                            refine sBin (.bool (r84.1 == r87.1)) S (wG (c := r78.2 == r81.2) 18 true 158 rfl rfl (by kernel_rfl) hc95) rfl (by kernel_rfl) (by kernel_rfl) (bEq _ _ _ _ .i64 r84.1 r87.1) rfl (by decide) (fun a S => ?_)
                            refine sPickT (b := r78.2 == r81.2) (.bool (r84.1 == r87.1)) S (wN rfl) rfl (by kernel_rfl) hc95 (by kernel_rfl) rfl (by decide) (fun a S => ?_)
                            refine sMove (.bool (r84.1 == r87.1)) S (wN rfl) (.inl rfl) (by kernel_rfl) rfl (by decide) (fun a S => ?_)
                            rcases iteSome h with ⟨hc96, h⟩ | ⟨hc96, h⟩
                            · refine sMove (.int .i64 r84.2) S (wG (c := r84.1 == r87.1) 23 true 163 rfl rfl (by kernel_rfl) hc96) (.inl rfl) (by kernel_rfl) rfl (by decide) (fun a S => ?_)
                              refine sMove (.int .i64 r87.2) S (wG (c := r84.1 == r87.1) 23 true 163 rfl rfl (by kernel_rfl) hc96) (.inl rfl) (by kernel_rfl) rfl (by decide) (fun a S => ?_)
                              refine sBin (.bool (r84.2 == r87.2)) S (wG (c := r84.1 == r87.1) 23 true 163 rfl rfl (by kernel_rfl) hc96) rfl (by kernel_rfl) (by kernel_rfl) (bEq _ _ _ _ .i64 r84.2 r87.2) rfl (by decide) (fun a S => ?_)
                              refine sPickT (b := r84.1 == r87.1) (.bool (r84.2 == r87.2)) S (wN rfl) rfl (by kernel_rfl) hc96 (by kernel_rfl) rfl (by decide) (fun a S => ?_)
                              refine sMove (.bool (r84.2 == r87.2)) S (wN rfl) (.inr rfl) (by kernel_rfl) rfl (by decide) (fun a S => ?_)
                              exact leafL (leafT (⟨r84.2 == r87.2, Option.some.inj h, S.fix [] [] (by decide) (by kernel_rfl) (by kernel_rfl) (by kernel_rfl)⟩))
                            · refine sSkip (c := r84.1 == r87.1) 23 true 163 164 S rfl rfl (by kernel_rfl) hc96 rfl (by decide) (fun a S => ?_)
                              refine sSkip (c := r84.1 == r87.1) 23 true 163 165 S rfl rfl (by kernel_rfl) hc96 rfl (by decide) (fun a S => ?_)
                              refine sSkip (c := r84.1 == r87.1) 23 true 163 166 S rfl rfl (by kernel_rfl) hc96 rfl (by decide) (fun a S => ?_)
                              refine sPickF (b := r84.1 == r87.1) (.bool false) S (wN rfl) rfl (by kernel_rfl) hc96 (by kernel_rfl) rfl (by decide) (fun a S => ?_)
                              refine sMove (.bool false) S (wN rfl) (.inr rfl) (by kernel_rfl) rfl (by decide) (fun a S => ?_)
                              exact leafL (leafT (⟨false, Option.some.inj h, S.fix [] [] (by decide) (by kernel_rfl) (by kernel_rfl) (by kernel_rfl)⟩))
                          · refine sSkip (c := r78.2 == r81.2) 18 true 158 159 S rfl rfl (by kernel_rfl) hc95 rfl (by decide) (fun a S => ?_)
                            refine sSkip (c := r78.2 == r81.2) 18 true 158 160 S rfl rfl (by kernel_rfl) hc95 rfl (by decide) (fun a S => ?_)
                            refine sSkip (c := r78.2 == r81.2) 18 true 158 161 S rfl rfl (by kernel_rfl) hc95 rfl (by decide) (fun a S => ?_)
                            refine sPickF (b := r78.2 == r81.2) (.bool false) S (wN rfl) rfl (by kernel_rfl) hc95 (by kernel_rfl) rfl (by decide) (fun a S => ?_)
                            refine sMove (.bool false) S (wN rfl) (.inl rfl) (by kernel_rfl) rfl (by decide) (fun a S => ?_)
                            refine sSkip (c := false) 23 true 163 164 S rfl rfl (by kernel_rfl) rfl rfl (by decide) (fun a S => ?_)
                            refine sSkip (c := false) 23 true 163 165 S rfl rfl (by kernel_rfl) rfl rfl (by decide) (fun a S => ?_)
                            refine sSkip (c := false) 23 true 163 166 S rfl rfl (by kernel_rfl) rfl rfl (by decide) (fun a S => ?_)
                            refine sPickF (b := false) (.bool false) S (wN rfl) rfl (by kernel_rfl) rfl (by kernel_rfl) rfl (by decide) (fun a S => ?_)
                            refine sMove (.bool false) S (wN rfl) (.inr rfl) (by kernel_rfl) rfl (by decide) (fun a S => ?_)
                            exact leafL (leafT (⟨false, Option.some.inj h, S.fix [] [] (by decide) (by kernel_rfl) (by kernel_rfl) (by kernel_rfl)⟩))
                        · refine sSkip (c := r78.1 == r81.1) 13 true 153 154 S rfl rfl (by kernel_rfl) hc94 rfl (by decide) (fun a S => ?_)
                          refine sSkip (c := r78.1 == r81.1) 13 true 153 155 S rfl rfl (by kernel_rfl) hc94 rfl (by decide) (fun a S => ?_)
                          refine sSkip (c := r78.1 == r81.1) 13 true 153 156 S rfl rfl (by kernel_rfl) hc94 rfl (by decide) (fun a S => ?_)
                          refine sPickF (b := r78.1 == r81.1) (.bool false) S (wN rfl) rfl (by kernel_rfl) hc94 (by kernel_rfl) rfl (by decide) (fun a S => ?_)
                          refine sMove (.bool false) S (wN rfl) (.inl rfl) (by kernel_rfl) rfl (by decide) (fun a S => ?_)
                          refine sSkip (c := false) 18 true 158 159 S rfl rfl (by kernel_rfl) rfl rfl (by decide) (fun a S => ?_)
                          refine sSkip (c := false) 18 true 158 160 S rfl rfl (by kernel_rfl) rfl rfl (by decide) (fun a S => ?_)
                          refine sSkip (c := false) 18 true 158 161 S rfl rfl (by kernel_rfl) rfl rfl (by decide) (fun a S => ?_)
                          refine sPickF (b := false) (.bool false) S (wN rfl) rfl (by kernel_rfl) rfl (by kernel_rfl) rfl (by decide) (fun a S => ?_)
                          refine sMove (.bool false) S (wN rfl) (.inl rfl) (by kernel_rfl) rfl (by decide) (fun a S => ?_)
                          refine sSkip (c := false) 23 true 163 164 S rfl rfl (by kernel_rfl) rfl rfl (by decide) (fun a S => ?_)
                          refine sSkip (c := false) 23 true 163 165 S rfl rfl (by kernel_rfl) rfl rfl (by decide) (fun a S => ?_)
                          refine sSkip (c := false) 23 true 163 166 S rfl rfl (by kernel_rfl) rfl rfl (by decide) (fun a S => ?_)
                          refine sPickF (b := false) (.bool false) S (wN rfl) rfl (by kernel_rfl) rfl (by kernel_rfl) rfl (by decide) (fun a S => ?_)
                          refine sMove (.bool false) S (wN rfl) (.inr rfl) (by kernel_rfl) rfl (by decide) (fun a S => ?_)
                          exact leafL (leafT (⟨false, Option.some.inj h, S.fix [] [] (by decide) (by kernel_rfl) (by kernel_rfl) (by kernel_rfl)⟩))
                      · refine sSkip (c := r72.2 == r75.2) 8 true 148 149 S rfl rfl (by kernel_rfl) hc93 rfl (by decide) (fun a S => ?_)
                        refine sSkip (c := r72.2 == r75.2) 8 true 148 150 S rfl rfl (by kernel_rfl) hc93 rfl (by decide) (fun a S => ?_)
                        refine sSkip (c := r72.2 == r75.2) 8 true 148 151 S rfl rfl (by kernel_rfl) hc93 rfl (by decide) (fun a S => ?_)
                        refine sPickF (b := r72.2 == r75.2) (.bool false) S (wN rfl) rfl (by kernel_rfl) hc93 (by kernel_rfl) rfl (by decide) (fun a S => ?_)
                        refine sMove (.bool false) S (wN rfl) (.inl rfl) (by kernel_rfl) rfl (by decide) (fun a S => ?_)
                        refine sSkip (c := false) 13 true 153 154 S rfl rfl (by kernel_rfl) rfl rfl (by decide) (fun a S => ?_)
                        refine sSkip (c := false) 13 true 153 155 S rfl rfl (by kernel_rfl) rfl rfl (by decide) (fun a S => ?_)
                        refine sSkip (c := false) 13 true 153 156 S rfl rfl (by kernel_rfl) rfl rfl (by decide) (fun a S => ?_)
                        refine sPickF (b := false) (.bool false) S (wN rfl) rfl (by kernel_rfl) rfl (by kernel_rfl) rfl (by decide) (fun a S => ?_)
                        refine sMove (.bool false) S (wN rfl) (.inl rfl) (by kernel_rfl) rfl (by decide) (fun a S => ?_)
                        refine sSkip (c := false) 18 true 158 159 S rfl rfl (by kernel_rfl) rfl rfl (by decide) (fun a S => ?_)
                        refine sSkip (c := false) 18 true 158 160 S rfl rfl (by kernel_rfl) rfl rfl (by decide) (fun a S => ?_)
                        refine sSkip (c := false) 18 true 158 161 S rfl rfl (by kernel_rfl) rfl rfl (by decide) (fun a S => ?_)
                        refine sPickF (b := false) (.bool false) S (wN rfl) rfl (by kernel_rfl) rfl (by kernel_rfl) rfl (by decide) (fun a S => ?_)
                        refine sMove (.bool false) S (wN rfl) (.inl rfl) (by kernel_rfl) rfl (by decide) (fun a S => ?_)
                        refine sSkip (c := false) 23 true 163 164 S rfl rfl (by kernel_rfl) rfl rfl (by decide) (fun a S => ?_)
                        refine sSkip (c := false) 23 true 163 165 S rfl rfl (by kernel_rfl) rfl rfl (by decide) (fun a S => ?_)
                        refine sSkip (c := false) 23 true 163 166 S rfl rfl (by kernel_rfl) rfl rfl (by decide) (fun a S => ?_)
                        refine sPickF (b := false) (.bool false) S (wN rfl) rfl (by kernel_rfl) rfl (by kernel_rfl) rfl (by decide) (fun a S => ?_)
                        refine sMove (.bool false) S (wN rfl) (.inr rfl) (by kernel_rfl) rfl (by decide) (fun a S => ?_)
                        exact leafL (leafT (⟨false, Option.some.inj h, S.fix [] [] (by decide) (by kernel_rfl) (by kernel_rfl) (by kernel_rfl)⟩))
                    · refine sSkip (c := r72.1 == r75.1) 3 true 143 144 S rfl rfl (by kernel_rfl) hc92 rfl (by decide) (fun a S => ?_)
                      refine sSkip (c := r72.1 == r75.1) 3 true 143 145 S rfl rfl (by kernel_rfl) hc92 rfl (by decide) (fun a S => ?_)
                      refine sSkip (c := r72.1 == r75.1) 3 true 143 146 S rfl rfl (by kernel_rfl) hc92 rfl (by decide) (fun a S => ?_)
                      refine sPickF (b := r72.1 == r75.1) (.bool false) S (wN rfl) rfl (by kernel_rfl) hc92 (by kernel_rfl) rfl (by decide) (fun a S => ?_)
                      refine sMove (.bool false) S (wN rfl) (.inl rfl) (by kernel_rfl) rfl (by decide) (fun a S => ?_)
                      refine sSkip (c := false) 8 true 148 149 S rfl rfl (by kernel_rfl) rfl rfl (by decide) (fun a S => ?_)
                      refine sSkip (c := false) 8 true 148 150 S rfl rfl (by kernel_rfl) rfl rfl (by decide) (fun a S => ?_)
                      refine sSkip (c := false) 8 true 148 151 S rfl rfl (by kernel_rfl) rfl rfl (by decide) (fun a S => ?_)
                      refine sPickF (b := false) (.bool false) S (wN rfl) rfl (by kernel_rfl) rfl (by kernel_rfl) rfl (by decide) (fun a S => ?_)
                      refine sMove (.bool false) S (wN rfl) (.inl rfl) (by kernel_rfl) rfl (by decide) (fun a S => ?_)
                      refine sSkip (c := false) 13 true 153 154 S rfl rfl (by kernel_rfl) rfl rfl (by decide) (fun a S => ?_)
                      refine sSkip (c := false) 13 true 153 155 S rfl rfl (by kernel_rfl) rfl rfl (by decide) (fun a S => ?_)
                      refine sSkip (c := false) 13 true 153 156 S rfl rfl (by kernel_rfl) rfl rfl (by decide) (fun a S => ?_)
                      refine sPickF (b := false) (.bool false) S (wN rfl) rfl (by kernel_rfl) rfl (by kernel_rfl) rfl (by decide) (fun a S => ?_)
                      refine sMove (.bool false) S (wN rfl) (.inl rfl) (by kernel_rfl) rfl (by decide) (fun a S => ?_)
                      refine sSkip (c := false) 18 true 158 159 S rfl rfl (by kernel_rfl) rfl rfl (by decide) (fun a S => ?_)
                      refine sSkip (c := false) 18 true 158 160 S rfl rfl (by kernel_rfl) rfl rfl (by decide) (fun a S => ?_)
                      refine sSkip (c := false) 18 true 158 161 S rfl rfl (by kernel_rfl) rfl rfl (by decide) (fun a S => ?_)
                      refine sPickF (b := false) (.bool false) S (wN rfl) rfl (by kernel_rfl) rfl (by kernel_rfl) rfl (by decide) (fun a S => ?_)
                      refine sMove (.bool false) S (wN rfl) (.inl rfl) (by kernel_rfl) rfl (by decide) (fun a S => ?_)
                      refine sSkip (c := false) 23 true 163 164 S rfl rfl (by kernel_rfl) rfl rfl (by decide) (fun a S => ?_)
                      refine sSkip (c := false) 23 true 163 165 S rfl rfl (by kernel_rfl) rfl rfl (by decide) (fun a S => ?_)
                      refine sSkip (c := false) 23 true 163 166 S rfl rfl (by kernel_rfl) rfl rfl (by decide) (fun a S => ?_)
                      refine sPickF (b := false) (.bool false) S (wN rfl) rfl (by kernel_rfl) rfl (by kernel_rfl) rfl (by decide) (fun a S => ?_)
                      refine sMove (.bool false) S (wN rfl) (.inr rfl) (by kernel_rfl) rfl (by decide) (fun a S => ?_)
                      exact leafL (leafT (⟨false, Option.some.inj h, S.fix [] [] (by decide) (by kernel_rfl) (by kernel_rfl) (by kernel_rfl)⟩))
                  · obtain ⟨o89, rfl, S⟩ := hI
                    have h := g91
                    clear g91
                    try dsimp only at h
                    obtain rfl := Option.some.inj h
                    exact wp_ret (sRet (.bool o89) S (rsl1 rfl (rvT (t := 4) (v := .bool o89) S (by kernel_rfl))) ⟨(), rfl, S.mem.sel [] [] (by decide) (by kernel_rfl) (by kernel_rfl)⟩)

end Go.Proofs.Ytdfjcpnflmgdoaa
namespace Go.Proofs.Ytdfjcpnflmgdoaa
open Go.RowKit
set_option linter.unusedVariables false

theorem or_eq (x y : Int) : F_cmp_Or_api_Errno_ [x, y] = some (if x = 0 then y else x) := by
  have i0 : idxO ([x, y] : List Int) 0 = some x := rfl
  have i1 : idxO ([x, y] : List Int) 1 = some y := rfl
  have w1 : w64 (0 + 1) = 1 := rfl
  have w2 : w64 (1 + 1) = 2 := rfl
  unfold F_cmp_Or_api_Errno_
  by_cases hx : x = 0
  · have s0 : cmp_Or_api_Errno__l1 [x, y] 0 = some (.inl 1) := by
      unfold cmp_Or_api_Errno__l1
      simp only [dT (show (0 : Int) < (([x, y] : List Int).length : Int) by simp), if_true, i0, Option.bind_some, nF hx, Bool.false_eq_true, if_false, w1]
    rw [whileO_step s0, if_pos hx]
    by_cases hy : y = 0
    · have s1 : cmp_Or_api_Errno__l1 [x, y] 1 = some (.inl 2) := by
        unfold cmp_Or_api_Errno__l1
        simp only [dT (show (1 : Int) < (([x, y] : List Int).length : Int) by simp), if_true, i1, Option.bind_some, nF hy, Bool.false_eq_true, if_false, w2]
      have s2 : cmp_Or_api_Errno__l1 [x, y] 2 = some (.inr (.inr ())) := by
        unfold cmp_Or_api_Errno__l1
        simp only [dF (show ¬ (2 : Int) < (([x, y] : List Int).length : Int) by simp), Bool.false_eq_true, if_false]
      rw [whileO_step s1, whileO_done s2, hy]
      rfl
    · have s1 : cmp_Or_api_Errno__l1 [x, y] 1 = some (.inr (.inl y)) := by
        unfold cmp_Or_api_Errno__l1
        simp only [dT (show (1 : Int) < (([x, y] : List Int).length : Int) by simp), if_true, i1, Option.bind_some, nT hy]
      rw [whileO_done s1]
      rfl
  · have s0 : cmp_Or_api_Errno__l1 [x, y] 0 = some (.inr (.inl x)) := by
      unfold cmp_Or_api_Errno__l1
      simp only [dT (show (0 : Int) < (([x, y] : List Int).length : Int) by simp), if_true, i0, Option.bind_some, nT hx]
    rw [whileO_done s0, if_neg hx]
    rfl
/-- the error of two ratios -/
def e2 (a b : api_Ratio) : Int := if okr a then (if okr b then 0 else 8) else 8
theorem with_eq {a b : api_Ratio} (wa : wf_api_Ratio a) (wb : wf_api_Ratio b) : F_yarn_with a b = some (yarn_calc.mk a b (api_Ratio.mk 0 0) (e2 a b)) ∧ F_raddleref23_Both a b = some (e2 a b) := by
  have a1 := inK_64 wa.1
  have a2 := inK_64 wa.2
  have b1 := inK_64 wb.1
  have b2 := inK_64 wb.2
  unfold F_yarn_with F_raddleref23_Both e2
  rw [ycheck_any a a1.1 a1.2 a2.2, ycheck_any b b1.1 b1.2 b2.2, rcheck_any a a1.1 a1.2 a2.2, rcheck_any b b1.1 b1.2 b2.2]
  simp only [Option.bind_some, or_eq]
  by_cases ha : okr a
  · rw [if_pos ha, if_pos ha]
    exact ⟨rfl, rfl⟩
  · rw [if_neg ha, if_neg ha]
    exact ⟨rfl, rfl⟩
theorem e2_ok {a b : api_Ratio} (h : e2 a b = 0) : okr a ∧ okr b := by
  unfold e2 at h
  by_cases ha : okr a
  · rw [if_pos ha] at h
    by_cases hb : okr b
    · exact ⟨ha, hb⟩
    · rw [if_neg hb] at h; cases h
  · rw [if_neg ha] at h; cases h
theorem mul_abs {u v : Int} {a b : Nat} (hu : u.natAbs ≤ a) (hv : v.natAbs ≤ b) : (u * v).natAbs ≤ a * b := by
  rw [Int.natAbs_mul]; exact Nat.mul_le_mul hu hv
/-- one calculation, by whatever numbers -/
theorem run_eq {a b : api_Ratio} (wa : wf_api_Ratio a) (wb : wf_api_Ratio b) {op : api_Ratio → api_Ratio → Option (Int × Int)} {x y : Int} (hop : op a b = some (x, y)) (hx : okr a → okr b → x.natAbs ≤ 9223372036854775807) (hy : okr a → okr b → y.natAbs ≤ 9223372036854775807)
    {R : api_Ratio → api_Ratio → Option (api_Ratio × Int)} {S : api_Ratio → api_Ratio → Option (api_Ratio × Int)}
    (hR : R a b = Option.bind (F_yarn_with a b) fun r7 => Option.bind (α := (Int × Int × Int × Int × Int × Int × Int)) (if (r7.e == 0) = true then Option.bind (op r7.a r7.b) fun r23 => Option.bind (F_yarn_calc_set_s1 r7 r23.1 r23.2) fun r25 => some (r25.a.Num, r25.a.Den, r25.b.Num, r25.b.Den, r25.out.Num, r25.out.Den, r25.e) else some (r7.a.Num, r7.a.Den, r7.b.Num, r7.b.Den, r7.out.Num, r7.out.Den, r7.e)) fun (o12, o13, o14, o15, o16, o17, o18) => Option.bind (F_yarn_run_1_s0 (yarn_calc.mk (api_Ratio.mk o12 o13) (api_Ratio.mk o14 o15) (api_Ratio.mk o16 o17) o18) (api_Ratio.mk 0 0) 0) fun r28 => some (r28.2.1, r28.2.2))
    (hS : S a b = Option.bind (F_raddleref23_Both a b) fun r7 => if (r7 != 0) = true then some ((api_Ratio.mk 0 0), r7) else Option.bind (F_raddleref23_Make x y) fun r12 => some (r12.1, r12.2)) :
    ∃ r, R a b = some r ∧ S a b = some r := by
  rw [hR, hS, (with_eq wa wb).1, (with_eq wa wb).2]
  by_cases he : e2 a b = 0
  · obtain ⟨oa, ob⟩ := e2_ok he
    simp only [Option.bind_some, bT he, nF he, if_true, Bool.false_eq_true, if_false, hop, F_yarn_calc_set_s1, ymake_any x y (hx oa ob) (hy oa ob), rmake_any x y (hx oa ob) (hy oa ob), F_yarn_run_1_s0]
    exact ⟨_, rfl, rfl⟩
  · simp only [Option.bind_some, bF he, nT he, if_true, Bool.false_eq_true, if_false, F_yarn_run_1_s0]
    exact ⟨_, rfl, rfl⟩
theorem prod_ok {a b : api_Ratio} (ha : okr a) (hb : okr b) : (a.Num * b.Den).natAbs ≤ 1000000000000000000 ∧ (b.Num * a.Den).natAbs ≤ 1000000000000000000 ∧ (a.Den * b.Den).natAbs ≤ 1000000000000000000 ∧ (a.Num * b.Num).natAbs ≤ 1000000000000000000 ∧ (a.Den * b.Num).natAbs ≤ 1000000000000000000 := by
  have a1 := ha.1
  have a2 := ha.2.1
  have a3 := ha.2.2.1
  have b1 := hb.1
  have b2 := hb.2.1
  have b3 := hb.2.2.1
  exact ⟨mul_abs (a := 1000000000) (b := 1000000000) a3 (by omega), mul_abs (a := 1000000000) (b := 1000000000) b3 (by omega), mul_abs (a := 1000000000) (b := 1000000000) (by omega) (by omega), mul_abs (a := 1000000000) (b := 1000000000) a3 b3, mul_abs (a := 1000000000) (b := 1000000000) (by omega) b3⟩
theorem wok {z : Int} (h : z.natAbs ≤ 1000000000000000000) : w64 z = z := w64_of (by omega) (by omega)
theorem add_eq {a b : api_Ratio} (wa : wf_api_Ratio a) (wb : wf_api_Ratio b) : ∃ r, F_yarn_Add a b = some r ∧ F_raddleref23_Add a b = some r := by
  obtain ⟨r, r1, r2⟩ := run_eq wa wb (op := F_yarn_Add_1) (R := F_yarn_run_s0) (S := F_raddleref23_Add) rfl
    (fun ha hb => by obtain ⟨h1, h2, h3, h4, h5⟩ := prod_ok ha hb; rw [wok h1, wok h2, w64_of (by omega) (by omega)]; omega)
    (fun ha hb => by obtain ⟨h1, h2, h3, h4, h5⟩ := prod_ok ha hb; rw [wok h3]; omega) rfl rfl
  exact ⟨r, by unfold F_yarn_Add; rw [r1]; rfl, r2⟩
theorem sub_eq {a b : api_Ratio} (wa : wf_api_Ratio a) (wb : wf_api_Ratio b) : ∃ r, F_yarn_Sub a b = some r ∧ F_raddleref23_Sub a b = some r := by
  obtain ⟨r, r1, r2⟩ := run_eq wa wb (op := F_yarn_Sub_1) (R := F_yarn_run_s1) (S := F_raddleref23_Sub) rfl
    (fun ha hb => by obtain ⟨h1, h2, h3, h4, h5⟩ := prod_ok ha hb; rw [wok h1, wok h2, w64_of (by omega) (by omega)]; omega)
    (fun ha hb => by obtain ⟨h1, h2, h3, h4, h5⟩ := prod_ok ha hb; rw [wok h3]; omega) rfl rfl
  exact ⟨r, by unfold F_yarn_Sub; rw [r1]; rfl, r2⟩
theorem mul_eq {a b : api_Ratio} (wa : wf_api_Ratio a) (wb : wf_api_Ratio b) : ∃ r, F_yarn_Mul a b = some r ∧ F_raddleref23_Mul a b = some r := by
  obtain ⟨r, r1, r2⟩ := run_eq wa wb (op := F_yarn_Mul_1) (R := F_yarn_run_s2) (S := F_raddleref23_Mul) rfl
    (fun ha hb => by obtain ⟨h1, h2, h3, h4, h5⟩ := prod_ok ha hb; rw [wok h4]; omega)
    (fun ha hb => by obtain ⟨h1, h2, h3, h4, h5⟩ := prod_ok ha hb; rw [wok h3]; omega) rfl rfl
  exact ⟨r, by unfold F_yarn_Mul; rw [r1]; rfl, r2⟩
theorem div_eq {a b : api_Ratio} (wa : wf_api_Ratio a) (wb : wf_api_Ratio b) : ∃ r, F_yarn_Div a b = some r ∧ F_raddleref23_Div a b = some r := by
  obtain ⟨r, r1, r2⟩ := run_eq wa wb (op := F_yarn_Div_1) (R := F_yarn_run_s3) (S := F_raddleref23_Div) rfl
    (fun ha hb => by obtain ⟨h1, h2, h3, h4, h5⟩ := prod_ok ha hb; rw [wok h1]; omega)
    (fun ha hb => by obtain ⟨h1, h2, h3, h4, h5⟩ := prod_ok ha hb; rw [wok h5]; omega) rfl rfl
  exact ⟨r, by unfold F_yarn_Div; rw [r1]; rfl, r2⟩
theorem cmp_eq {a b : api_Ratio} (wa : wf_api_Ratio a) (wb : wf_api_Ratio b) : ∃ r, F_yarn_Cmp a b = some r ∧ F_raddleref23_Cmp a b = some r := by
  unfold F_yarn_Cmp F_raddleref23_Cmp F_cmp_Compare_int64_ F_cmp_isNaN_int64_
  rw [(with_eq wa wb).1, (with_eq wa wb).2]
  simp only [Option.bind_some, bne_self_eq_false, Bool.false_eq_true, if_false]
  by_cases he : e2 a b = 0
  · simp only [nF he, Bool.false_eq_true, if_false]
    generalize w64 (a.Num * b.Den) = u
    generalize w64 (b.Num * a.Den) = v
    by_cases h1 : u < v
    · simp only [dT h1, if_true, Option.bind_some]; exact ⟨_, rfl, rfl⟩
    by_cases h2 : v < u
    · simp only [dF h1, dT h2, Bool.false_eq_true, if_true, if_false, Option.bind_some]; exact ⟨_, rfl, rfl⟩
    · simp only [dF h1, dF h2, Bool.false_eq_true, if_false, Option.bind_some]; exact ⟨_, rfl, rfl⟩
  · simp only [nT he, if_true]; exact ⟨_, rfl, rfl⟩
theorem fc_eq {a : api_Ratio} (wa : wf_api_Ratio a) : (∃ r, F_yarn_Floor a = some r ∧ F_raddleref23_Floor a = some r) ∧ (∃ r, F_yarn_Ceil a = some r ∧ F_raddleref23_Ceil a = some r) := by
  have a1 := inK_64 wa.1
  have a2 := inK_64 wa.2
  unfold F_yarn_Floor F_raddleref23_Floor F_yarn_Ceil F_raddleref23_Ceil F_yarn_floor
  rw [ycheck_any a a1.1 a1.2 a2.2, rcheck_any a a1.1 a1.2 a2.2]
  by_cases ho : okr a
  case neg =>
    rw [if_neg ho]
    exact ⟨⟨_, rfl, rfl⟩, ⟨_, rfl, rfl⟩⟩
  rw [if_pos ho]
  have d1 := ho.1
  have d2 := ho.2.1
  have d3 := ho.2.2.1
  have hd : ¬ a.Den = 0 := by omega
  have hdm := Int.mul_tdiv_add_tmod a.Num a.Den
  have hlt := Int.tmod_lt_of_pos a.Num (show (0 : Int) < a.Den by omega)
  have hlt2 : -a.Den < a.Num.tmod a.Den := by
    have := Int.tmod_lt_of_pos (-a.Num) (show (0 : Int) < a.Den by omega)
    rw [Int.neg_tmod] at this
    omega
  have hq : (a.Num.tdiv a.Den).natAbs ≤ a.Num.natAbs := by
    rw [Int.natAbs_tdiv]; exact Nat.div_le_self _ _
  have hmul : a.Den * a.Num.tdiv a.Den = a.Num.tdiv a.Den * a.Den := Int.mul_comm _ _
  have hn : w64 (0 - a.Num) = -a.Num := by rw [w64_of (by omega) (by omega)]; omega
  simp only [Option.bind_some, bne_self_eq_false, Bool.false_eq_true, if_false, hn, quoI, remI, hd, Int.neg_tdiv, Int.neg_tmod]
  rw [hmul] at hdm
  generalize a.Num.tdiv a.Den = q at *
  generalize a.Num.tmod a.Den = m at *
  have hz : (q * a.Den) = a.Num - m := by omega
  have k1 : w64 q = q := w64_of (by omega) (by omega)
  have k2 : w64 (q * a.Den) = q * a.Den := by rw [hz]; exact w64_of (by omega) (by omega)
  have k3 : w64 (-q) = -q := w64_of (by omega) (by omega)
  have k4 : w64 (0 - -q) = q := by rw [w64_of (by omega) (by omega)]; omega
  have k5 : w64 (-q - 1) = -q - 1 := w64_of (by omega) (by omega)
  have k6 : w64 (0 - (-q - 1)) = q + 1 := by rw [w64_of (by omega) (by omega)]; omega
  have k7 : w64 (q + 1) = q + 1 := w64_of (by omega) (by omega)
  simp only [k1, k2, k3]
  refine ⟨?_, ?_⟩
  · by_cases h : m < 0
    · simp only [dT h, dT (show a.Num < q * a.Den by omega), if_true, Option.bind_some]; exact ⟨_, rfl, rfl⟩
    · simp only [dF h, dF (show ¬ a.Num < q * a.Den by omega), Bool.false_eq_true, if_false, Option.bind_some]; exact ⟨_, rfl, rfl⟩
  · by_cases h : -m < 0
    · simp only [dT h, dT (show q * a.Den < a.Num by omega), if_true, Option.bind_some, k5, k6, k7]; exact ⟨_, rfl, rfl⟩
    · simp only [dF h, dF (show ¬ q * a.Den < a.Num by omega), Bool.false_eq_true, if_false, Option.bind_some, k4]; exact ⟨_, rfl, rfl⟩
theorem law_YarnWorks (a b : api_Ratio) (wa : wf_api_Ratio a) (wb : wf_api_Ratio b) : F_raddlelaw23_YarnWorks a b = some true := by
  have a1 := inK_64 wa.1
  have a2 := inK_64 wa.2
  obtain ⟨r1, p1, q1⟩ := add_eq wa wb
  obtain ⟨r2, p2, q2⟩ := sub_eq wa wb
  obtain ⟨r3, p3, q3⟩ := mul_eq wa wb
  obtain ⟨r4, p4, q4⟩ := div_eq wa wb
  obtain ⟨r5, p5, q5⟩ := cmp_eq wa wb
  obtain ⟨⟨r6, p6, q6⟩, ⟨r7, p7, q7⟩⟩ := fc_eq wa
  unfold F_raddlelaw23_YarnWorks
  simp only [p1, q1, p2, q2, p3, q3, p4, q4, p5, q5, p6, q6, p7, q7, ycheck_any a a1.1 a1.2 a2.2, rcheck_any a a1.1 a1.2 a2.2, Option.bind_some, beq_self_eq_true, bne_self_eq_false, Bool.and_self, Bool.not_true, Bool.false_eq_true, if_false, if_true]

end Go.Proofs.Ytdfjcpnflmgdoaa
namespace Go.Proofs.Ytdfjcpnflmgdoaa
open Go.RowKit
set_option linter.unusedVariables false

namespace frameYarnWorks
open Go.ChangeShapes Go.WideShapes Go.ChangeAt Go.Joins
theorem own : ownKnob Try.prog.godebug = none := by kernel_rfl
theorem laidOut : laidOutB Try.prog = true := by kernel_rfl
set_option maxRecDepth 100000 in
theorem lifted (os : Os) (started : os.Started) (H : Type) (enc : TypeId × Value → H) :
    ReturnsInHanded {} Try.checked os 3 .any (Rows.yarnWorksSpec.pre6 enc Try.prog Try.f3 Rows.yarnWorksRow.domain false) (Rows.yarnWorksSpec.post enc Try.prog Try.f3 false true false false) := by
  refine returnsInHanded_of_change (C := Try.checked) own started (by kernel_rfl) Try.func3
    (ChangeSpec.witness6 (enc := enc) (C := Try.checked) false ⟨#[], #[.agg #[.int .i64 0, .int .i64 0], .agg #[.int .i64 0, .int .i64 0]], []⟩ 8 (by kernel_rfl) (by kernel_rfl) (by kernel_rfl) (by kernel_rfl)) ?_
  intro W base args ds gs before hval0 hW hcnd _
  have hval : ∀ (j : Nat) t v, Try.f3.params[j]? = some t → args[j]? = some v → Value.okWide Try.prog W .any base t v := hval0
  have hW' := hW
  obtain ⟨p, q, hA0, hV, rfl, hfz, hnd⟩ := hW
  have hA : DataW.TrodAll enc Try.prog W 0 (fun _ => true) true Try.f3.params.toList args.toList ds p := hA0
  rw [Try.params3] at hA hval
  obtain ⟨v0, vs0, d0, ds0, p0, q0, hargs, rfl, rfl, h0, r0⟩ := trodAll_cons hA
  obtain ⟨v1, vs1, d1, ds1, p1, q1, rfl, rfl, rfl, h1, r1⟩ := trodAll_cons r0
  obtain ⟨rfl, rfl, rfl⟩ := trodAll_nil r1
  obtain rfl : args = #[v0, v1] := by cases args; simp_all
  obtain ⟨rfl, rfl⟩ := trodVars_none hV
  have k0 := h0
  have lt0 : ∀ x ∈ p0, x.block < W.heap.size := by obtain ⟨m, hm⟩ := k0; exact DataW.trod_lt m _ _ _ hm
  have k1 := h1
  have lt1 : ∀ x ∈ p1, x.block < W.heap.size := by obtain ⟨m, hm⟩ := k1; exact DataW.trod_lt m _ _ _ hm
  obtain ⟨x0, rep0, wf0⟩ := top_agg Try.underlying23 aggr_api_Ratio op_api_Ratio (hval 0 _ v0 rfl rfl) h0
  obtain ⟨x1, rep1, wf1⟩ := top_agg Try.underlying23 aggr_api_Ratio op_api_Ratio (hval 1 _ v1 rfl rfl) h1
  clear hA0 hval0
  refine (c_raddlelaw23_YarnWorks (fun _ => False) W x0 v0 x1 v1 true (law_YarnWorks x0 x1 wf0 wf1) (St0.start (by intro d hd; simp only [List.mem_cons, List.not_mem_nil, or_false] at hd; rcases hd with rfl | rfl; exact rep0; exact rep1))).mono fun e W' hr => ?_
  obtain ⟨_, he, hS⟩ := hr
  have bel := hS.chg.below
  subst he
  exact ⟨_, rfl, _, _, _, [], _, [], hW', trodAll_mk1 (shut_bool Try.underlying4 _), (trodAll_cons_mk (Below.trod laidOut (by kernel_rfl) (of_decide_eq_true (by kernel_rfl)) k0 bel lt0) (trodAll_cons_mk (Below.trod laidOut (by kernel_rfl) (of_decide_eq_true (by kernel_rfl)) k1 bel lt1) trodAll_mk0)), rfl, bel.frame _, fun h => by cases h⟩
theorem over : Rows.yarnWorksRow.holds Try.pinned (OpenSpec.ofChange Rows.yarnWorksSpec) :=
  OpenClaim.holds_of_wide 3 Try.f3 rfl rfl rfl rfl rfl rfl rfl ⟨rfl, rfl, rfl, rfl, rfl⟩ rfl rfl rfl rfl rfl (by kernel_rfl) Try.func3 (by kernel_rfl)
    (of_decide_eq_true (by kernel_rfl)) (by unfold Func.isWrapper; first | (rw [if_pos (by decide +kernel)]; kernel_rfl) | (rw [if_neg (by decide +kernel)]; exact ⟨rfl, rfl⟩))
    (fun os started H enc _ => lifted os started H enc)
end frameYarnWorks
theorem yarnWorks_holds : Rows.YarnWorksSaid := frameYarnWorks.over

end Go.Proofs.Ytdfjcpnflmgdoaa
