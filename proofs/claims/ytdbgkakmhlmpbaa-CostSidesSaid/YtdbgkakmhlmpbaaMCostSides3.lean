/- Several texts in one: G74 G75 G54 G92 G73 G72 G91s0 G71s0 G53 G33 G86 G85i0 G41 G16 G42 G22 G18 G32 G90 G70 -/
import Derived.WalkKit
import Derived.Maps.AppendAt
import Derived.Deep.AppendLies
import Derived.KernelRfl
import Derived.Laws.OwnMore
import Derived.Great.BuildSlice
import Derived.Orders
import Derived.Laws.StructEq
import Derived.ChangeKeysEq
import Derived.Defers
import Derived.Laws.BytesString
import Derived.RangeFuncNested
import Derived.RangeFuncBound
import Derived.RangeFuncCalls
import Derived.RangeFuncLeaves
import Derived.OrdersIn
import Derived.LoopNIn
import Derived.Test.YtdbgkakmhlmpbaaProg
import Derived.ProofKit
import Derived.OpenShut
import Derived.ChangeOld
import Derived.Deep.Slices
import Derived.Lib.SmallJoins
import Derived.JoinedOf
import Derived.JoinedAt
import Derived.Below
import Derived.Test.YtdbgkakmhlmpbaaRows
import Derived.Test.YtdbgkakmhlmpbaaMCostSides2
namespace Go.Proofs.Ytdbgkakmhlmpbaa
open Go.RowKit
set_option linter.unusedVariables false

noncomputable def F_stitch_forms (p0 : Int) : Option (stitch_form × Bool) :=
  Option.bind (α := Bool) (
    if decide (p0 < 1) then
      some true
    else
      some (decide (([(stitch_form.mk (⟨#[]⟩ : ByteArray) (0, 0) (0, 0) true 1 1), (stitch_form.mk (⟨#[]⟩ : ByteArray) (0, 0) (0, 0) false 0 1), (stitch_form.mk (⟨#[102]⟩ : ByteArray) (2, 4) (0, 0) true 2 1), (stitch_form.mk (⟨#[108]⟩ : ByteArray) (2, 4) (0, 0) true 2 1), (stitch_form.mk (⟨#[109]⟩ : ByteArray) (2, 4) (0, 0) true 1 2), (stitch_form.mk (⟨#[120]⟩ : ByteArray) (1, 6) (1, 6) true 3 3), (stitch_form.mk (⟨#[121]⟩ : ByteArray) (1, 6) (1, 6) true 3 3), (stitch_form.mk (⟨#[115]⟩ : ByteArray) (0, 0) (0, 0) true 1 1), (stitch_form.mk (⟨#[]⟩ : ByteArray) (1, 200) (0, 0) false 0 2), (stitch_form.mk (⟨#[111]⟩ : ByteArray) (1, 200) (0, 0) true 2 0)].length : Int) < (IntKind.i64.wrap p0)))) fun o12 =>
  if o12 then
    some ((stitch_form.mk (⟨#[]⟩ : ByteArray) (0, 0) (0, 0) false 0 0), false)
  else
    Option.bind (idxO [(stitch_form.mk (⟨#[]⟩ : ByteArray) (0, 0) (0, 0) true 1 1), (stitch_form.mk (⟨#[]⟩ : ByteArray) (0, 0) (0, 0) false 0 1), (stitch_form.mk (⟨#[102]⟩ : ByteArray) (2, 4) (0, 0) true 2 1), (stitch_form.mk (⟨#[108]⟩ : ByteArray) (2, 4) (0, 0) true 2 1), (stitch_form.mk (⟨#[109]⟩ : ByteArray) (2, 4) (0, 0) true 1 2), (stitch_form.mk (⟨#[120]⟩ : ByteArray) (1, 6) (1, 6) true 3 3), (stitch_form.mk (⟨#[121]⟩ : ByteArray) (1, 6) (1, 6) true 3 3), (stitch_form.mk (⟨#[115]⟩ : ByteArray) (0, 0) (0, 0) true 1 1), (stitch_form.mk (⟨#[]⟩ : ByteArray) (1, 200) (0, 0) false 0 2), (stitch_form.mk (⟨#[111]⟩ : ByteArray) (1, 200) (0, 0) true 2 0)] (IntKind.u8.wrap (p0 - 1))) fun x19 =>
    some (x19, true)
def c_stitch_forms_val (r : (stitch_form × Bool)) (x : Value) : Value := .tuple #[x, .bool r.2]
def c_stitch_forms_D (r : (stitch_form × Bool)) (x : Value) : List Fact := [fRep r_stitch_form x r.1]
set_option maxHeartbeats 4000000 in
set_option maxRecDepth 100000 in
theorem c_stitch_forms (E : Nat → Prop) (w0 : World) (p0 : Int) (r : (stitch_form × Bool)) (h : F_stitch_forms p0 = some r) (S : St0 E [] w0 w0 [] []) :
    Calls Try.prog 74 #[.int .u8 p0] w0 (Ret (X := Value) E [] w0 (c_stitch_forms_val r) (fun _ => []) (c_stitch_forms_D r)) := by
  unfold F_stitch_forms at h
  refine sEnter (args := [.int .u8 p0]) 57 Try.func74 rfl rfl (by simp) S (fun a S => ?_)
  refine sSeq (fun K1 hK1 => ?_)
  refine sRegion ?_
  refine sAlloc (gv_stitch_form (stitch_form.mk (⟨#[]⟩ : ByteArray) (0, 0) (0, 0) false 0 0)) S (wN rfl) rfl rfl (gl_stitch_form (stitch_form.mk (⟨#[]⟩ : ByteArray) (0, 0) (0, 0) false 0 0)) rfl rfl (lb rfl) fun a b2 w S => ?_
  refine sMove (.bool false) S (wN rfl) (.inr rfl) rfl rfl (lb rfl) fun a S => ?_
  refine leafL (leafT (hK1 _ _ ?_))
  refine sSeq (fun K3 hK3 => ?_)
  refine sRegion ?_
  refine sBuild [(0, iv 2), (1, iv 4)] [iv 2, iv 4] S (wN rfl) rfl rfl rfl rfl (lb rfl) fun a S => ?_
  refine sBuild [(0, iv 1), (1, iv 6)] [iv 1, iv 6] S (wN rfl) rfl rfl rfl rfl (lb rfl) fun a S => ?_
  refine sAlloc (.agg #[iv 0, iv 0]) S (wN rfl) rfl rfl [iv 0, iv 0] rfl rfl (lb rfl) fun a b4 w S => ?_
  refine sAlloc (.agg #[iv 0, iv 0]) S (wN rfl) rfl rfl [iv 0, iv 0] rfl rfl (lb rfl) fun a b5 w S => ?_
  refine sStore (p := b4) (off := 0) (T := 130) (vs := [iv 0, iv 0]) (v := .agg #[iv 2, iv 4]) 1 [iv 2, iv 4] S (wN rfl) rfl rfl rfl rfl rfl rfl rfl (by simp) rfl fun a w S => ?_
  refine sStore (p := b5) (off := 0) (T := 130) (vs := [iv 0, iv 0]) (v := .agg #[iv 1, iv 6]) 1 [iv 1, iv 6] S (wN rfl) rfl rfl rfl rfl rfl rfl rfl (by simp) rfl fun a w S => ?_
  refine leafL (leafT (hK3 _ _ ?_))
  refine sSeq (fun K6 hK6 => ?_)
  refine sRegion ?_
  refine sBuild [(0, iv 1), (1, iv 200)] [iv 1, iv 200] S (wN rfl) rfl rfl rfl rfl (lb rfl) fun a S => ?_
  refine sAlloc (.agg #[iv 0, iv 0]) S (wN rfl) rfl rfl [iv 0, iv 0] rfl rfl (lb rfl) fun a b7 w S => ?_
  refine sStore (p := b7) (off := 0) (T := 130) (vs := [iv 0, iv 0]) (v := .agg #[iv 1, iv 200]) 0 [iv 1, iv 200] S (wN rfl) rfl rfl rfl rfl rfl rfl rfl (by simp) rfl fun a w S => ?_
  refine leafL (leafT (hK6 _ _ ?_))
  refine sSeq (fun K8 hK8 => ?_)
  refine sRegion ?_
  refine sBuild [] [iv 0, iv 0] S (wN rfl) rfl rfl rfl rfl (lb rfl) fun a S => ?_
  refine sBuild [] [iv 0, iv 0] S (wN rfl) rfl rfl rfl rfl (lb rfl) fun a S => ?_
  refine sBuild [(0, .string (⟨#[]⟩ : ByteArray)), (1, .agg #[iv 0, iv 0]), (2, .agg #[iv 0, iv 0]), (3, .bool true), (4, iv 1), (5, iv 1)] (gl_stitch_form (stitch_form.mk (⟨#[]⟩ : ByteArray) (0, 0) (0, 0) true 1 1)) S (wN rfl) rfl rfl rfl rfl (lb rfl) fun a S => ?_
  refine sBuild [] [iv 0, iv 0] S (wN rfl) rfl rfl rfl rfl (lb rfl) fun a S => ?_
  refine sBuild [] [iv 0, iv 0] S (wN rfl) rfl rfl rfl rfl (lb rfl) fun a S => ?_
  refine sBuild [(0, .string (⟨#[]⟩ : ByteArray)), (1, .agg #[iv 0, iv 0]), (2, .agg #[iv 0, iv 0]), (3, .bool false), (4, iv 0), (5, iv 1)] (gl_stitch_form (stitch_form.mk (⟨#[]⟩ : ByteArray) (0, 0) (0, 0) false 0 1)) S (wN rfl) rfl rfl rfl rfl (lb rfl) fun a S => ?_
  refine sLoadN (p := b4) (off := 0) (T := 130) (vs := [iv 2, iv 4]) 2 [iv 2, iv 4] S (wN rfl) rfl rfl rfl rfl rfl rfl rfl (lb rfl) fun a S => ?_
  refine sBuild [] [iv 0, iv 0] S (wN rfl) rfl rfl rfl rfl (lb rfl) fun a S => ?_
  refine sBuild [(0, .string (⟨#[102]⟩ : ByteArray)), (1, .agg #[iv 2, iv 4]), (2, .agg #[iv 0, iv 0]), (3, .bool true), (4, iv 2), (5, iv 1)] (gl_stitch_form (stitch_form.mk (⟨#[102]⟩ : ByteArray) (2, 4) (0, 0) true 2 1)) S (wN rfl) rfl rfl rfl rfl (lb rfl) fun a S => ?_
  refine sLoadN (p := b4) (off := 0) (T := 130) (vs := [iv 2, iv 4]) 2 [iv 2, iv 4] S (wN rfl) rfl rfl rfl rfl rfl rfl rfl (lb rfl) fun a S => ?_
  refine sBuild [] [iv 0, iv 0] S (wN rfl) rfl rfl rfl rfl (lb rfl) fun a S => ?_
  refine sBuild [(0, .string (⟨#[108]⟩ : ByteArray)), (1, .agg #[iv 2, iv 4]), (2, .agg #[iv 0, iv 0]), (3, .bool true), (4, iv 2), (5, iv 1)] (gl_stitch_form (stitch_form.mk (⟨#[108]⟩ : ByteArray) (2, 4) (0, 0) true 2 1)) S (wN rfl) rfl rfl rfl rfl (lb rfl) fun a S => ?_
  refine sLoadN (p := b4) (off := 0) (T := 130) (vs := [iv 2, iv 4]) 2 [iv 2, iv 4] S (wN rfl) rfl rfl rfl rfl rfl rfl rfl (lb rfl) fun a S => ?_
  refine sBuild [] [iv 0, iv 0] S (wN rfl) rfl rfl rfl rfl (lb rfl) fun a S => ?_
  refine sBuild [(0, .string (⟨#[109]⟩ : ByteArray)), (1, .agg #[iv 2, iv 4]), (2, .agg #[iv 0, iv 0]), (3, .bool true), (4, iv 1), (5, iv 2)] (gl_stitch_form (stitch_form.mk (⟨#[109]⟩ : ByteArray) (2, 4) (0, 0) true 1 2)) S (wN rfl) rfl rfl rfl rfl (lb rfl) fun a S => ?_
  refine sLoadN (p := b5) (off := 0) (T := 130) (vs := [iv 1, iv 6]) 1 [iv 1, iv 6] S (wN rfl) rfl rfl rfl rfl rfl rfl rfl (lb rfl) fun a S => ?_
  refine sLoadN (p := b5) (off := 0) (T := 130) (vs := [iv 1, iv 6]) 1 [iv 1, iv 6] S (wN rfl) rfl rfl rfl rfl rfl rfl rfl (lb rfl) fun a S => ?_
  refine sBuild [(0, .string (⟨#[120]⟩ : ByteArray)), (1, .agg #[iv 1, iv 6]), (2, .agg #[iv 1, iv 6]), (3, .bool true), (4, iv 3), (5, iv 3)] (gl_stitch_form (stitch_form.mk (⟨#[120]⟩ : ByteArray) (1, 6) (1, 6) true 3 3)) S (wN rfl) rfl rfl rfl rfl (lb rfl) fun a S => ?_
  refine sLoadN (p := b5) (off := 0) (T := 130) (vs := [iv 1, iv 6]) 1 [iv 1, iv 6] S (wN rfl) rfl rfl rfl rfl rfl rfl rfl (lb rfl) fun a S => ?_
  refine sLoadN (p := b5) (off := 0) (T := 130) (vs := [iv 1, iv 6]) 1 [iv 1, iv 6] S (wN rfl) rfl rfl rfl rfl rfl rfl rfl (lb rfl) fun a S => ?_
  refine sBuild [(0, .string (⟨#[121]⟩ : ByteArray)), (1, .agg #[iv 1, iv 6]), (2, .agg #[iv 1, iv 6]), (3, .bool true), (4, iv 3), (5, iv 3)] (gl_stitch_form (stitch_form.mk (⟨#[121]⟩ : ByteArray) (1, 6) (1, 6) true 3 3)) S (wN rfl) rfl rfl rfl rfl (lb rfl) fun a S => ?_
  refine sBuild [] [iv 0, iv 0] S (wN rfl) rfl rfl rfl rfl (lb rfl) fun a S => ?_
  refine sBuild [] [iv 0, iv 0] S (wN rfl) rfl rfl rfl rfl (lb rfl) fun a S => ?_
  refine sBuild [(0, .string (⟨#[115]⟩ : ByteArray)), (1, .agg #[iv 0, iv 0]), (2, .agg #[iv 0, iv 0]), (3, .bool true), (4, iv 1), (5, iv 1)] (gl_stitch_form (stitch_form.mk (⟨#[115]⟩ : ByteArray) (0, 0) (0, 0) true 1 1)) S (wN rfl) rfl rfl rfl rfl (lb rfl) fun a S => ?_
  refine sLoadN (p := b7) (off := 0) (T := 130) (vs := [iv 1, iv 200]) 0 [iv 1, iv 200] S (wN rfl) rfl rfl rfl rfl rfl rfl rfl (lb rfl) fun a S => ?_
  refine sBuild [] [iv 0, iv 0] S (wN rfl) rfl rfl rfl rfl (lb rfl) fun a S => ?_
  refine sBuild [(0, .string (⟨#[]⟩ : ByteArray)), (1, .agg #[iv 1, iv 200]), (2, .agg #[iv 0, iv 0]), (3, .bool false), (4, iv 0), (5, iv 2)] (gl_stitch_form (stitch_form.mk (⟨#[]⟩ : ByteArray) (1, 200) (0, 0) false 0 2)) S (wN rfl) rfl rfl rfl rfl (lb rfl) fun a S => ?_
  refine sLoadN (p := b7) (off := 0) (T := 130) (vs := [iv 1, iv 200]) 0 [iv 1, iv 200] S (wN rfl) rfl rfl rfl rfl rfl rfl rfl (lb rfl) fun a S => ?_
  refine sBuild [] [iv 0, iv 0] S (wN rfl) rfl rfl rfl rfl (lb rfl) fun a S => ?_
  refine sBuild [(0, .string (⟨#[111]⟩ : ByteArray)), (1, .agg #[iv 1, iv 200]), (2, .agg #[iv 0, iv 0]), (3, .bool true), (4, iv 2), (5, iv 0)] (gl_stitch_form (stitch_form.mk (⟨#[111]⟩ : ByteArray) (1, 200) (0, 0) true 2 0)) S (wN rfl) rfl rfl rfl rfl (lb rfl) fun a S => ?_
  have S := S.learn (fRep r_stitch_form (gv_stitch_form (stitch_form.mk (⟨#[]⟩ : ByteArray) (0, 0) (0, 0) true 1 1)) (stitch_form.mk (⟨#[]⟩ : ByteArray) (0, 0) (0, 0) true 1 1)) rfl
  have S := S.learn (fRep r_stitch_form (gv_stitch_form (stitch_form.mk (⟨#[]⟩ : ByteArray) (0, 0) (0, 0) false 0 1)) (stitch_form.mk (⟨#[]⟩ : ByteArray) (0, 0) (0, 0) false 0 1)) rfl
  have S := S.learn (fRep r_stitch_form (gv_stitch_form (stitch_form.mk (⟨#[102]⟩ : ByteArray) (2, 4) (0, 0) true 2 1)) (stitch_form.mk (⟨#[102]⟩ : ByteArray) (2, 4) (0, 0) true 2 1)) rfl
  have S := S.learn (fRep r_stitch_form (gv_stitch_form (stitch_form.mk (⟨#[108]⟩ : ByteArray) (2, 4) (0, 0) true 2 1)) (stitch_form.mk (⟨#[108]⟩ : ByteArray) (2, 4) (0, 0) true 2 1)) rfl
  have S := S.learn (fRep r_stitch_form (gv_stitch_form (stitch_form.mk (⟨#[109]⟩ : ByteArray) (2, 4) (0, 0) true 1 2)) (stitch_form.mk (⟨#[109]⟩ : ByteArray) (2, 4) (0, 0) true 1 2)) rfl
  have S := S.learn (fRep r_stitch_form (gv_stitch_form (stitch_form.mk (⟨#[120]⟩ : ByteArray) (1, 6) (1, 6) true 3 3)) (stitch_form.mk (⟨#[120]⟩ : ByteArray) (1, 6) (1, 6) true 3 3)) rfl
  have S := S.learn (fRep r_stitch_form (gv_stitch_form (stitch_form.mk (⟨#[121]⟩ : ByteArray) (1, 6) (1, 6) true 3 3)) (stitch_form.mk (⟨#[121]⟩ : ByteArray) (1, 6) (1, 6) true 3 3)) rfl
  have S := S.learn (fRep r_stitch_form (gv_stitch_form (stitch_form.mk (⟨#[115]⟩ : ByteArray) (0, 0) (0, 0) true 1 1)) (stitch_form.mk (⟨#[115]⟩ : ByteArray) (0, 0) (0, 0) true 1 1)) rfl
  have S := S.learn (fRep r_stitch_form (gv_stitch_form (stitch_form.mk (⟨#[]⟩ : ByteArray) (1, 200) (0, 0) false 0 2)) (stitch_form.mk (⟨#[]⟩ : ByteArray) (1, 200) (0, 0) false 0 2)) rfl
  have S := S.learn (fRep r_stitch_form (gv_stitch_form (stitch_form.mk (⟨#[111]⟩ : ByteArray) (1, 200) (0, 0) true 2 0)) (stitch_form.mk (⟨#[111]⟩ : ByteArray) (1, 200) (0, 0) true 2 0)) rfl
  refine sLit (r := r_stitch_form) (T := 132) (xs := [(stitch_form.mk (⟨#[]⟩ : ByteArray) (0, 0) (0, 0) true 1 1), (stitch_form.mk (⟨#[]⟩ : ByteArray) (0, 0) (0, 0) false 0 1), (stitch_form.mk (⟨#[102]⟩ : ByteArray) (2, 4) (0, 0) true 2 1), (stitch_form.mk (⟨#[108]⟩ : ByteArray) (2, 4) (0, 0) true 2 1), (stitch_form.mk (⟨#[109]⟩ : ByteArray) (2, 4) (0, 0) true 1 2), (stitch_form.mk (⟨#[120]⟩ : ByteArray) (1, 6) (1, 6) true 3 3), (stitch_form.mk (⟨#[121]⟩ : ByteArray) (1, 6) (1, 6) true 3 3), (stitch_form.mk (⟨#[115]⟩ : ByteArray) (0, 0) (0, 0) true 1 1), (stitch_form.mk (⟨#[]⟩ : ByteArray) (1, 200) (0, 0) false 0 2), (stitch_form.mk (⟨#[111]⟩ : ByteArray) (1, 200) (0, 0) true 2 0)]) [(0, gv_stitch_form (stitch_form.mk (⟨#[]⟩ : ByteArray) (0, 0) (0, 0) true 1 1)), (1, gv_stitch_form (stitch_form.mk (⟨#[]⟩ : ByteArray) (0, 0) (0, 0) false 0 1)), (2, gv_stitch_form (stitch_form.mk (⟨#[102]⟩ : ByteArray) (2, 4) (0, 0) true 2 1)), (3, gv_stitch_form (stitch_form.mk (⟨#[108]⟩ : ByteArray) (2, 4) (0, 0) true 2 1)), (4, gv_stitch_form (stitch_form.mk (⟨#[109]⟩ : ByteArray) (2, 4) (0, 0) true 1 2)), (5, gv_stitch_form (stitch_form.mk (⟨#[120]⟩ : ByteArray) (1, 6) (1, 6) true 3 3)), (6, gv_stitch_form (stitch_form.mk (⟨#[121]⟩ : ByteArray) (1, 6) (1, 6) true 3 3)), (7, gv_stitch_form (stitch_form.mk (⟨#[115]⟩ : ByteArray) (0, 0) (0, 0) true 1 1)), (8, gv_stitch_form (stitch_form.mk (⟨#[]⟩ : ByteArray) (1, 200) (0, 0) false 0 2)), (9, gv_stitch_form (stitch_form.mk (⟨#[111]⟩ : ByteArray) (1, 200) (0, 0) true 2 0))] 10 [gv_stitch_form (stitch_form.mk (⟨#[]⟩ : ByteArray) (0, 0) (0, 0) true 1 1), gv_stitch_form (stitch_form.mk (⟨#[]⟩ : ByteArray) (0, 0) (0, 0) false 0 1), gv_stitch_form (stitch_form.mk (⟨#[102]⟩ : ByteArray) (2, 4) (0, 0) true 2 1), gv_stitch_form (stitch_form.mk (⟨#[108]⟩ : ByteArray) (2, 4) (0, 0) true 2 1), gv_stitch_form (stitch_form.mk (⟨#[109]⟩ : ByteArray) (2, 4) (0, 0) true 1 2), gv_stitch_form (stitch_form.mk (⟨#[120]⟩ : ByteArray) (1, 6) (1, 6) true 3 3), gv_stitch_form (stitch_form.mk (⟨#[121]⟩ : ByteArray) (1, 6) (1, 6) true 3 3), gv_stitch_form (stitch_form.mk (⟨#[115]⟩ : ByteArray) (0, 0) (0, 0) true 1 1), gv_stitch_form (stitch_form.mk (⟨#[]⟩ : ByteArray) (1, 200) (0, 0) false 0 2), gv_stitch_form (stitch_form.mk (⟨#[111]⟩ : ByteArray) (1, 200) (0, 0) true 2 0)] [.string (⟨#[]⟩ : ByteArray), iv 0, iv 0, iv 0, iv 0, .bool true, iv 1, iv 1, .string (⟨#[]⟩ : ByteArray), iv 0, iv 0, iv 0, iv 0, .bool false, iv 0, iv 1, .string (⟨#[102]⟩ : ByteArray), iv 2, iv 4, iv 0, iv 0, .bool true, iv 2, iv 1, .string (⟨#[108]⟩ : ByteArray), iv 2, iv 4, iv 0, iv 0, .bool true, iv 2, iv 1, .string (⟨#[109]⟩ : ByteArray), iv 2, iv 4, iv 0, iv 0, .bool true, iv 1, iv 2, .string (⟨#[120]⟩ : ByteArray), iv 1, iv 6, iv 1, iv 6, .bool true, iv 3, iv 3, .string (⟨#[121]⟩ : ByteArray), iv 1, iv 6, iv 1, iv 6, .bool true, iv 3, iv 3, .string (⟨#[115]⟩ : ByteArray), iv 0, iv 0, iv 0, iv 0, .bool true, iv 1, iv 1, .string (⟨#[]⟩ : ByteArray), iv 1, iv 200, iv 0, iv 0, .bool false, iv 0, iv 2, .string (⟨#[111]⟩ : ByteArray), iv 1, iv 200, iv 0, iv 0, .bool true, iv 2, iv 0] (gv_stitch_form (stitch_form.mk (⟨#[]⟩ : ByteArray) (0, 0) (0, 0) false 0 0)) 72 S (wN rfl) rfl rfl Try.underlying156 rfl (by decide) (by decide) (by kernel_rfl) rfl (fun E1 w1 hE => All.cons (r_stitch_form.mono hE (S.mem.know (i := 9) (e := fRep r_stitch_form (gv_stitch_form (stitch_form.mk (⟨#[]⟩ : ByteArray) (0, 0) (0, 0) true 1 1)) (stitch_form.mk (⟨#[]⟩ : ByteArray) (0, 0) (0, 0) true 1 1)) rfl)) (All.cons (r_stitch_form.mono hE (S.mem.know (i := 8) (e := fRep r_stitch_form (gv_stitch_form (stitch_form.mk (⟨#[]⟩ : ByteArray) (0, 0) (0, 0) false 0 1)) (stitch_form.mk (⟨#[]⟩ : ByteArray) (0, 0) (0, 0) false 0 1)) rfl)) (All.cons (r_stitch_form.mono hE (S.mem.know (i := 7) (e := fRep r_stitch_form (gv_stitch_form (stitch_form.mk (⟨#[102]⟩ : ByteArray) (2, 4) (0, 0) true 2 1)) (stitch_form.mk (⟨#[102]⟩ : ByteArray) (2, 4) (0, 0) true 2 1)) rfl)) (All.cons (r_stitch_form.mono hE (S.mem.know (i := 6) (e := fRep r_stitch_form (gv_stitch_form (stitch_form.mk (⟨#[108]⟩ : ByteArray) (2, 4) (0, 0) true 2 1)) (stitch_form.mk (⟨#[108]⟩ : ByteArray) (2, 4) (0, 0) true 2 1)) rfl)) (All.cons (r_stitch_form.mono hE (S.mem.know (i := 5) (e := fRep r_stitch_form (gv_stitch_form (stitch_form.mk (⟨#[109]⟩ : ByteArray) (2, 4) (0, 0) true 1 2)) (stitch_form.mk (⟨#[109]⟩ : ByteArray) (2, 4) (0, 0) true 1 2)) rfl)) (All.cons (r_stitch_form.mono hE (S.mem.know (i := 4) (e := fRep r_stitch_form (gv_stitch_form (stitch_form.mk (⟨#[120]⟩ : ByteArray) (1, 6) (1, 6) true 3 3)) (stitch_form.mk (⟨#[120]⟩ : ByteArray) (1, 6) (1, 6) true 3 3)) rfl)) (All.cons (r_stitch_form.mono hE (S.mem.know (i := 3) (e := fRep r_stitch_form (gv_stitch_form (stitch_form.mk (⟨#[121]⟩ : ByteArray) (1, 6) (1, 6) true 3 3)) (stitch_form.mk (⟨#[121]⟩ : ByteArray) (1, 6) (1, 6) true 3 3)) rfl)) (All.cons (r_stitch_form.mono hE (S.mem.know (i := 2) (e := fRep r_stitch_form (gv_stitch_form (stitch_form.mk (⟨#[115]⟩ : ByteArray) (0, 0) (0, 0) true 1 1)) (stitch_form.mk (⟨#[115]⟩ : ByteArray) (0, 0) (0, 0) true 1 1)) rfl)) (All.cons (r_stitch_form.mono hE (S.mem.know (i := 1) (e := fRep r_stitch_form (gv_stitch_form (stitch_form.mk (⟨#[]⟩ : ByteArray) (1, 200) (0, 0) false 0 2)) (stitch_form.mk (⟨#[]⟩ : ByteArray) (1, 200) (0, 0) false 0 2)) rfl)) (All.cons (r_stitch_form.mono hE (S.mem.know (i := 0) (e := fRep r_stitch_form (gv_stitch_form (stitch_form.mk (⟨#[111]⟩ : ByteArray) (1, 200) (0, 0) true 2 0)) (stitch_form.mk (⟨#[111]⟩ : ByteArray) (1, 200) (0, 0) true 2 0)) rfl)) (All.nil _ _ _))))))))))) rfl rfl (lb rfl) fun a w ad9 cp10 S => ?_
  refine sMove (.slice ad9 [(stitch_form.mk (⟨#[]⟩ : ByteArray) (0, 0) (0, 0) true 1 1), (stitch_form.mk (⟨#[]⟩ : ByteArray) (0, 0) (0, 0) false 0 1), (stitch_form.mk (⟨#[102]⟩ : ByteArray) (2, 4) (0, 0) true 2 1), (stitch_form.mk (⟨#[108]⟩ : ByteArray) (2, 4) (0, 0) true 2 1), (stitch_form.mk (⟨#[109]⟩ : ByteArray) (2, 4) (0, 0) true 1 2), (stitch_form.mk (⟨#[120]⟩ : ByteArray) (1, 6) (1, 6) true 3 3), (stitch_form.mk (⟨#[121]⟩ : ByteArray) (1, 6) (1, 6) true 3 3), (stitch_form.mk (⟨#[115]⟩ : ByteArray) (0, 0) (0, 0) true 1 1), (stitch_form.mk (⟨#[]⟩ : ByteArray) (1, 200) (0, 0) false 0 2), (stitch_form.mk (⟨#[111]⟩ : ByteArray) (1, 200) (0, 0) true 2 0)].length cp10) S (wN rfl) (.inr rfl) rfl rfl (lb rfl) fun a S => ?_
  refine leafL (leafT (hK8 _ _ ?_))
  refine sSeq (fun K11 hK11 => ?_)
  obtain ⟨t13, h, g14⟩ := bindSome h
  refine sCut (fun a w => ∃ o12, o12 = t13 ∧ St [] E [] w0 57 a w [(0, .int .u8 p0), (2, .pointer (some ⟨b2, 0, none⟩)), (7, .slice ad9 [(stitch_form.mk (⟨#[]⟩ : ByteArray) (0, 0) (0, 0) true 1 1), (stitch_form.mk (⟨#[]⟩ : ByteArray) (0, 0) (0, 0) false 0 1), (stitch_form.mk (⟨#[102]⟩ : ByteArray) (2, 4) (0, 0) true 2 1), (stitch_form.mk (⟨#[108]⟩ : ByteArray) (2, 4) (0, 0) true 2 1), (stitch_form.mk (⟨#[109]⟩ : ByteArray) (2, 4) (0, 0) true 1 2), (stitch_form.mk (⟨#[120]⟩ : ByteArray) (1, 6) (1, 6) true 3 3), (stitch_form.mk (⟨#[121]⟩ : ByteArray) (1, 6) (1, 6) true 3 3), (stitch_form.mk (⟨#[115]⟩ : ByteArray) (0, 0) (0, 0) true 1 1), (stitch_form.mk (⟨#[]⟩ : ByteArray) (1, 200) (0, 0) false 0 2), (stitch_form.mk (⟨#[111]⟩ : ByteArray) (1, 200) (0, 0) true 2 0)].length cp10), (50, .bool o12)] [eBox b2 132 (gl_stitch_form (stitch_form.mk (⟨#[]⟩ : ByteArray) (0, 0) (0, 0) false 0 0)), eRow r_stitch_form 132 (.slice ad9 [(stitch_form.mk (⟨#[]⟩ : ByteArray) (0, 0) (0, 0) true 1 1), (stitch_form.mk (⟨#[]⟩ : ByteArray) (0, 0) (0, 0) false 0 1), (stitch_form.mk (⟨#[102]⟩ : ByteArray) (2, 4) (0, 0) true 2 1), (stitch_form.mk (⟨#[108]⟩ : ByteArray) (2, 4) (0, 0) true 2 1), (stitch_form.mk (⟨#[109]⟩ : ByteArray) (2, 4) (0, 0) true 1 2), (stitch_form.mk (⟨#[120]⟩ : ByteArray) (1, 6) (1, 6) true 3 3), (stitch_form.mk (⟨#[121]⟩ : ByteArray) (1, 6) (1, 6) true 3 3), (stitch_form.mk (⟨#[115]⟩ : ByteArray) (0, 0) (0, 0) true 1 1), (stitch_form.mk (⟨#[]⟩ : ByteArray) (1, 200) (0, 0) false 0 2), (stitch_form.mk (⟨#[111]⟩ : ByteArray) (1, 200) (0, 0) true 2 0)].length cp10) [(stitch_form.mk (⟨#[]⟩ : ByteArray) (0, 0) (0, 0) true 1 1), (stitch_form.mk (⟨#[]⟩ : ByteArray) (0, 0) (0, 0) false 0 1), (stitch_form.mk (⟨#[102]⟩ : ByteArray) (2, 4) (0, 0) true 2 1), (stitch_form.mk (⟨#[108]⟩ : ByteArray) (2, 4) (0, 0) true 2 1), (stitch_form.mk (⟨#[109]⟩ : ByteArray) (2, 4) (0, 0) true 1 2), (stitch_form.mk (⟨#[120]⟩ : ByteArray) (1, 6) (1, 6) true 3 3), (stitch_form.mk (⟨#[121]⟩ : ByteArray) (1, 6) (1, 6) true 3 3), (stitch_form.mk (⟨#[115]⟩ : ByteArray) (0, 0) (0, 0) true 1 1), (stitch_form.mk (⟨#[]⟩ : ByteArray) (1, 200) (0, 0) false 0 2), (stitch_form.mk (⟨#[111]⟩ : ByteArray) (1, 200) (0, 0) true 2 0)]] []) ?_ (fun a w hI => ?_)
  · refine sRegion ?_
    refine sMove (.int .u8 p0) S (wN rfl) (.inl rfl) rfl rfl (lb rfl) fun a S => ?_
    refine sBin (.bool (decide (p0 < 1))) S (wN rfl) rfl rfl rfl (bLt _ _ _ _ .u8 p0 1) rfl (lb rfl) fun a S => ?_
    refine sMove (.bool (decide (p0 < 1))) S (wN rfl) (.inl rfl) rfl rfl (lb rfl) fun a S => ?_
    rcases iteSome h with ⟨hc15, h⟩ | ⟨hc15, h⟩
    · refine sSkip 2 false 44 45 S rfl rfl rfl hc15 rfl (lb rfl) fun a S => ?_
      refine sSkip 2 false 44 46 S rfl rfl rfl hc15 rfl (lb rfl) fun a S => ?_
      refine sSkip 2 false 44 47 S rfl rfl rfl hc15 rfl (lb rfl) fun a S => ?_
      refine sSkip 2 false 44 48 S rfl rfl rfl hc15 rfl (lb rfl) fun a S => ?_
      refine sSkip 2 false 44 49 S rfl rfl rfl hc15 rfl (lb rfl) fun a S => ?_
      refine sPickT (.bool true) S (wN rfl) rfl rfl hc15 rfl rfl (lb rfl) fun a S => ?_
      exact leafL (leafT (⟨true, Option.some.inj h, S.fix [4, 0] [] (by decide) rfl rfl rfl⟩))
    refine sMove (.int .u8 p0) S (wG 2 false 44 rfl rfl rfl hc15) (.inl rfl) rfl rfl (lb rfl) fun a S => ?_
    refine sConv (k := .u8) (k2 := .i64) (b := p0) S (wG 2 false 44 rfl rfl rfl hc15) rfl Try.underlying5 Try.underlying3 rfl rfl (lb rfl) fun a S => ?_
    refine sMove (.slice ad9 [(stitch_form.mk (⟨#[]⟩ : ByteArray) (0, 0) (0, 0) true 1 1), (stitch_form.mk (⟨#[]⟩ : ByteArray) (0, 0) (0, 0) false 0 1), (stitch_form.mk (⟨#[102]⟩ : ByteArray) (2, 4) (0, 0) true 2 1), (stitch_form.mk (⟨#[108]⟩ : ByteArray) (2, 4) (0, 0) true 2 1), (stitch_form.mk (⟨#[109]⟩ : ByteArray) (2, 4) (0, 0) true 1 2), (stitch_form.mk (⟨#[120]⟩ : ByteArray) (1, 6) (1, 6) true 3 3), (stitch_form.mk (⟨#[121]⟩ : ByteArray) (1, 6) (1, 6) true 3 3), (stitch_form.mk (⟨#[115]⟩ : ByteArray) (0, 0) (0, 0) true 1 1), (stitch_form.mk (⟨#[]⟩ : ByteArray) (1, 200) (0, 0) false 0 2), (stitch_form.mk (⟨#[111]⟩ : ByteArray) (1, 200) (0, 0) true 2 0)].length cp10) S (wG 2 false 44 rfl rfl rfl hc15) (.inl rfl) rfl rfl (lb rfl) fun a S => ?_
    refine sLen (ad := ad9) (m := [(stitch_form.mk (⟨#[]⟩ : ByteArray) (0, 0) (0, 0) true 1 1), (stitch_form.mk (⟨#[]⟩ : ByteArray) (0, 0) (0, 0) false 0 1), (stitch_form.mk (⟨#[102]⟩ : ByteArray) (2, 4) (0, 0) true 2 1), (stitch_form.mk (⟨#[108]⟩ : ByteArray) (2, 4) (0, 0) true 2 1), (stitch_form.mk (⟨#[109]⟩ : ByteArray) (2, 4) (0, 0) true 1 2), (stitch_form.mk (⟨#[120]⟩ : ByteArray) (1, 6) (1, 6) true 3 3), (stitch_form.mk (⟨#[121]⟩ : ByteArray) (1, 6) (1, 6) true 3 3), (stitch_form.mk (⟨#[115]⟩ : ByteArray) (0, 0) (0, 0) true 1 1), (stitch_form.mk (⟨#[]⟩ : ByteArray) (1, 200) (0, 0) false 0 2), (stitch_form.mk (⟨#[111]⟩ : ByteArray) (1, 200) (0, 0) true 2 0)].length) (c := cp10) S (wG 2 false 44 rfl rfl rfl hc15) rfl Try.underlying156 rfl rfl (lb rfl) fun a S => ?_
    refine sBin (.bool (decide (([(stitch_form.mk (⟨#[]⟩ : ByteArray) (0, 0) (0, 0) true 1 1), (stitch_form.mk (⟨#[]⟩ : ByteArray) (0, 0) (0, 0) false 0 1), (stitch_form.mk (⟨#[102]⟩ : ByteArray) (2, 4) (0, 0) true 2 1), (stitch_form.mk (⟨#[108]⟩ : ByteArray) (2, 4) (0, 0) true 2 1), (stitch_form.mk (⟨#[109]⟩ : ByteArray) (2, 4) (0, 0) true 1 2), (stitch_form.mk (⟨#[120]⟩ : ByteArray) (1, 6) (1, 6) true 3 3), (stitch_form.mk (⟨#[121]⟩ : ByteArray) (1, 6) (1, 6) true 3 3), (stitch_form.mk (⟨#[115]⟩ : ByteArray) (0, 0) (0, 0) true 1 1), (stitch_form.mk (⟨#[]⟩ : ByteArray) (1, 200) (0, 0) false 0 2), (stitch_form.mk (⟨#[111]⟩ : ByteArray) (1, 200) (0, 0) true 2 0)].length : Int) < (IntKind.i64.wrap p0)))) S (wG 2 false 44 rfl rfl rfl hc15) rfl rfl rfl (bGt _ _ _ _ .i64 (IntKind.i64.wrap p0) ([(stitch_form.mk (⟨#[]⟩ : ByteArray) (0, 0) (0, 0) true 1 1), (stitch_form.mk (⟨#[]⟩ : ByteArray) (0, 0) (0, 0) false 0 1), (stitch_form.mk (⟨#[102]⟩ : ByteArray) (2, 4) (0, 0) true 2 1), (stitch_form.mk (⟨#[108]⟩ : ByteArray) (2, 4) (0, 0) true 2 1), (stitch_form.mk (⟨#[109]⟩ : ByteArray) (2, 4) (0, 0) true 1 2), (stitch_form.mk (⟨#[120]⟩ : ByteArray) (1, 6) (1, 6) true 3 3), (stitch_form.mk (⟨#[121]⟩ : ByteArray) (1, 6) (1, 6) true 3 3), (stitch_form.mk (⟨#[115]⟩ : ByteArray) (0, 0) (0, 0) true 1 1), (stitch_form.mk (⟨#[]⟩ : ByteArray) (1, 200) (0, 0) false 0 2), (stitch_form.mk (⟨#[111]⟩ : ByteArray) (1, 200) (0, 0) true 2 0)].length : Int)) rfl (lb rfl) fun a S => ?_
    refine sPickF (.bool (decide (([(stitch_form.mk (⟨#[]⟩ : ByteArray) (0, 0) (0, 0) true 1 1), (stitch_form.mk (⟨#[]⟩ : ByteArray) (0, 0) (0, 0) false 0 1), (stitch_form.mk (⟨#[102]⟩ : ByteArray) (2, 4) (0, 0) true 2 1), (stitch_form.mk (⟨#[108]⟩ : ByteArray) (2, 4) (0, 0) true 2 1), (stitch_form.mk (⟨#[109]⟩ : ByteArray) (2, 4) (0, 0) true 1 2), (stitch_form.mk (⟨#[120]⟩ : ByteArray) (1, 6) (1, 6) true 3 3), (stitch_form.mk (⟨#[121]⟩ : ByteArray) (1, 6) (1, 6) true 3 3), (stitch_form.mk (⟨#[115]⟩ : ByteArray) (0, 0) (0, 0) true 1 1), (stitch_form.mk (⟨#[]⟩ : ByteArray) (1, 200) (0, 0) false 0 2), (stitch_form.mk (⟨#[111]⟩ : ByteArray) (1, 200) (0, 0) true 2 0)].length : Int) < (IntKind.i64.wrap p0)))) S (wN rfl) rfl rfl hc15 rfl rfl (lb rfl) fun a S => ?_
    exact leafL (leafT (⟨decide (([(stitch_form.mk (⟨#[]⟩ : ByteArray) (0, 0) (0, 0) true 1 1), (stitch_form.mk (⟨#[]⟩ : ByteArray) (0, 0) (0, 0) false 0 1), (stitch_form.mk (⟨#[102]⟩ : ByteArray) (2, 4) (0, 0) true 2 1), (stitch_form.mk (⟨#[108]⟩ : ByteArray) (2, 4) (0, 0) true 2 1), (stitch_form.mk (⟨#[109]⟩ : ByteArray) (2, 4) (0, 0) true 1 2), (stitch_form.mk (⟨#[120]⟩ : ByteArray) (1, 6) (1, 6) true 3 3), (stitch_form.mk (⟨#[121]⟩ : ByteArray) (1, 6) (1, 6) true 3 3), (stitch_form.mk (⟨#[115]⟩ : ByteArray) (0, 0) (0, 0) true 1 1), (stitch_form.mk (⟨#[]⟩ : ByteArray) (1, 200) (0, 0) false 0 2), (stitch_form.mk (⟨#[111]⟩ : ByteArray) (1, 200) (0, 0) true 2 0)].length : Int) < (IntKind.i64.wrap p0)), Option.some.inj h, S.fix [4, 0] [] (by decide) rfl rfl rfl⟩))
  obtain ⟨o12, rfl, S⟩ := hI
  have h := g14
  clear g14
  try dsimp only at h
  rcases iteSome h with ⟨hc16, h⟩ | ⟨hc16, h⟩
  · refine sCondT S rfl hc16 ?_
    refine sSeq (fun K17 hK17 => ?_)
    refine sRegion ?_
    refine sBuild [] (gl_stitch_form (stitch_form.mk (⟨#[]⟩ : ByteArray) (0, 0) (0, 0) false 0 0)) S (wN rfl) rfl rfl rfl rfl (lb rfl) fun a S => ?_
    refine sStore (p := b2) (off := 0) (T := 132) (vs := [.string (⟨#[]⟩ : ByteArray), iv 0, iv 0, iv 0, iv 0, .bool false, iv 0, iv 0]) (v := gv_stitch_form (stitch_form.mk (⟨#[]⟩ : ByteArray) (0, 0) (0, 0) false 0 0)) 0 [.string (⟨#[]⟩ : ByteArray), iv 0, iv 0, iv 0, iv 0, .bool false, iv 0, iv 0] S (wN rfl) rfl rfl rfl rfl rfl rfl rfl (by simp) rfl fun a w S => ?_
    refine sMove (.bool false) S (wN rfl) (.inr rfl) rfl rfl (lb rfl) fun a S => ?_
    refine leafL (leafT (hK17 _ _ ?_))
    obtain rfl := Option.some.inj h
    have S := S.learn (fRep r_stitch_form (gv_stitch_form (stitch_form.mk (⟨#[]⟩ : ByteArray) (0, 0) (0, 0) false 0 0)) (stitch_form.mk (⟨#[]⟩ : ByteArray) (0, 0) (0, 0) false 0 0)) rfl
    exact wp_ret (rThen (sRet (.tuple #[gv_stitch_form (stitch_form.mk (⟨#[]⟩ : ByteArray) (0, 0) (0, 0) false 0 0), .bool false]) S (rsl2 rfl (rvN (c := 2) (t := 132) (T := 132) (p := b2) 0 [.string (⟨#[]⟩ : ByteArray), iv 0, iv 0, iv 0, iv 0, .bool false, iv 0, iv 0] S rfl rfl rfl rfl) (rvT (t := 3) (v := .bool false) S rfl)) ⟨(gv_stitch_form (stitch_form.mk (⟨#[]⟩ : ByteArray) (0, 0) (0, 0) false 0 0)), rfl, S.mem.sel [] [0] (by decide) rfl rfl⟩))
  refine sCondF S rfl hc16 ?_
  refine wp_skip (leafT (hK11 _ _ ?_))
  refine sSeq (fun K18 hK18 => ?_)
  refine sRegion ?_
  refine sMove (.slice ad9 [(stitch_form.mk (⟨#[]⟩ : ByteArray) (0, 0) (0, 0) true 1 1), (stitch_form.mk (⟨#[]⟩ : ByteArray) (0, 0) (0, 0) false 0 1), (stitch_form.mk (⟨#[102]⟩ : ByteArray) (2, 4) (0, 0) true 2 1), (stitch_form.mk (⟨#[108]⟩ : ByteArray) (2, 4) (0, 0) true 2 1), (stitch_form.mk (⟨#[109]⟩ : ByteArray) (2, 4) (0, 0) true 1 2), (stitch_form.mk (⟨#[120]⟩ : ByteArray) (1, 6) (1, 6) true 3 3), (stitch_form.mk (⟨#[121]⟩ : ByteArray) (1, 6) (1, 6) true 3 3), (stitch_form.mk (⟨#[115]⟩ : ByteArray) (0, 0) (0, 0) true 1 1), (stitch_form.mk (⟨#[]⟩ : ByteArray) (1, 200) (0, 0) false 0 2), (stitch_form.mk (⟨#[111]⟩ : ByteArray) (1, 200) (0, 0) true 2 0)].length cp10) S (wN rfl) (.inl rfl) rfl rfl (lb rfl) fun a S => ?_
  refine sMove (.int .u8 p0) S (wN rfl) (.inl rfl) rfl rfl (lb rfl) fun a S => ?_
  refine sBin (.int .u8 (IntKind.u8.wrap (p0 - 1))) S (wN rfl) rfl rfl rfl (bSubK _ _ _ _ .u8 p0 1) rfl (lb rfl) fun a S => ?_
  obtain ⟨x19, hx20, h⟩ := bindSome h
  have S := S.shutR (r := r_stitch_form) (T := 132) (v := .slice ad9 [(stitch_form.mk (⟨#[]⟩ : ByteArray) (0, 0) (0, 0) true 1 1), (stitch_form.mk (⟨#[]⟩ : ByteArray) (0, 0) (0, 0) false 0 1), (stitch_form.mk (⟨#[102]⟩ : ByteArray) (2, 4) (0, 0) true 2 1), (stitch_form.mk (⟨#[108]⟩ : ByteArray) (2, 4) (0, 0) true 2 1), (stitch_form.mk (⟨#[109]⟩ : ByteArray) (2, 4) (0, 0) true 1 2), (stitch_form.mk (⟨#[120]⟩ : ByteArray) (1, 6) (1, 6) true 3 3), (stitch_form.mk (⟨#[121]⟩ : ByteArray) (1, 6) (1, 6) true 3 3), (stitch_form.mk (⟨#[115]⟩ : ByteArray) (0, 0) (0, 0) true 1 1), (stitch_form.mk (⟨#[]⟩ : ByteArray) (1, 200) (0, 0) false 0 2), (stitch_form.mk (⟨#[111]⟩ : ByteArray) (1, 200) (0, 0) true 2 0)].length cp10) (xs := [(stitch_form.mk (⟨#[]⟩ : ByteArray) (0, 0) (0, 0) true 1 1), (stitch_form.mk (⟨#[]⟩ : ByteArray) (0, 0) (0, 0) false 0 1), (stitch_form.mk (⟨#[102]⟩ : ByteArray) (2, 4) (0, 0) true 2 1), (stitch_form.mk (⟨#[108]⟩ : ByteArray) (2, 4) (0, 0) true 2 1), (stitch_form.mk (⟨#[109]⟩ : ByteArray) (2, 4) (0, 0) true 1 2), (stitch_form.mk (⟨#[120]⟩ : ByteArray) (1, 6) (1, 6) true 3 3), (stitch_form.mk (⟨#[121]⟩ : ByteArray) (1, 6) (1, 6) true 3 3), (stitch_form.mk (⟨#[115]⟩ : ByteArray) (0, 0) (0, 0) true 1 1), (stitch_form.mk (⟨#[]⟩ : ByteArray) (1, 200) (0, 0) false 0 2), (stitch_form.mk (⟨#[111]⟩ : ByteArray) (1, 200) (0, 0) true 2 0)]) 1 rfl
  obtain ⟨q21, hq22, S⟩ := pIdx (P := Try.prog) (r := r_stitch_form) (v := .slice ad9 [(stitch_form.mk (⟨#[]⟩ : ByteArray) (0, 0) (0, 0) true 1 1), (stitch_form.mk (⟨#[]⟩ : ByteArray) (0, 0) (0, 0) false 0 1), (stitch_form.mk (⟨#[102]⟩ : ByteArray) (2, 4) (0, 0) true 2 1), (stitch_form.mk (⟨#[108]⟩ : ByteArray) (2, 4) (0, 0) true 2 1), (stitch_form.mk (⟨#[109]⟩ : ByteArray) (2, 4) (0, 0) true 1 2), (stitch_form.mk (⟨#[120]⟩ : ByteArray) (1, 6) (1, 6) true 3 3), (stitch_form.mk (⟨#[121]⟩ : ByteArray) (1, 6) (1, 6) true 3 3), (stitch_form.mk (⟨#[115]⟩ : ByteArray) (0, 0) (0, 0) true 1 1), (stitch_form.mk (⟨#[]⟩ : ByteArray) (1, 200) (0, 0) false 0 2), (stitch_form.mk (⟨#[111]⟩ : ByteArray) (1, 200) (0, 0) true 2 0)].length cp10) (xs := [(stitch_form.mk (⟨#[]⟩ : ByteArray) (0, 0) (0, 0) true 1 1), (stitch_form.mk (⟨#[]⟩ : ByteArray) (0, 0) (0, 0) false 0 1), (stitch_form.mk (⟨#[102]⟩ : ByteArray) (2, 4) (0, 0) true 2 1), (stitch_form.mk (⟨#[108]⟩ : ByteArray) (2, 4) (0, 0) true 2 1), (stitch_form.mk (⟨#[109]⟩ : ByteArray) (2, 4) (0, 0) true 1 2), (stitch_form.mk (⟨#[120]⟩ : ByteArray) (1, 6) (1, 6) true 3 3), (stitch_form.mk (⟨#[121]⟩ : ByteArray) (1, 6) (1, 6) true 3 3), (stitch_form.mk (⟨#[115]⟩ : ByteArray) (0, 0) (0, 0) true 1 1), (stitch_form.mk (⟨#[]⟩ : ByteArray) (1, 200) (0, 0) false 0 2), (stitch_form.mk (⟨#[111]⟩ : ByteArray) (1, 200) (0, 0) true 2 0)]) (j := IntKind.u8.wrap (p0 - 1)) 156 132 0 S Try.underlying156 rfl rfl hx20
  refine sIdxV (v := .slice ad9 [(stitch_form.mk (⟨#[]⟩ : ByteArray) (0, 0) (0, 0) true 1 1), (stitch_form.mk (⟨#[]⟩ : ByteArray) (0, 0) (0, 0) false 0 1), (stitch_form.mk (⟨#[102]⟩ : ByteArray) (2, 4) (0, 0) true 2 1), (stitch_form.mk (⟨#[108]⟩ : ByteArray) (2, 4) (0, 0) true 2 1), (stitch_form.mk (⟨#[109]⟩ : ByteArray) (2, 4) (0, 0) true 1 2), (stitch_form.mk (⟨#[120]⟩ : ByteArray) (1, 6) (1, 6) true 3 3), (stitch_form.mk (⟨#[121]⟩ : ByteArray) (1, 6) (1, 6) true 3 3), (stitch_form.mk (⟨#[115]⟩ : ByteArray) (0, 0) (0, 0) true 1 1), (stitch_form.mk (⟨#[]⟩ : ByteArray) (1, 200) (0, 0) false 0 2), (stitch_form.mk (⟨#[111]⟩ : ByteArray) (1, 200) (0, 0) true 2 0)].length cp10) (k := .u8) (j := IntKind.u8.wrap (p0 - 1)) S (wN rfl) rfl rfl rfl hq22 rfl (lb rfl) fun a S => ?_
  obtain ⟨u23, S⟩ := pLoad (r := r_stitch_form) (q := q21) (x := x19) 0 S rfl
  obtain rfl : u23 = gv_stitch_form x19 := S.mem.know (i := 1) (e := fRep r_stitch_form (u23) x19) rfl
  refine sLoadVN (vq := q21) 0 [.string x19.letter, iv x19.a.1, iv x19.a.2, iv x19.b.1, iv x19.b.2, .bool x19.sided, iv x19.uses, iv x19.made] S (wN rfl) rfl rfl rfl rfl rfl rfl (lb rfl) fun a S => ?_
  refine sStore (p := b2) (off := 0) (T := 132) (vs := [.string (⟨#[]⟩ : ByteArray), iv 0, iv 0, iv 0, iv 0, .bool false, iv 0, iv 0]) (v := gv_stitch_form x19) 0 [.string x19.letter, iv x19.a.1, iv x19.a.2, iv x19.b.1, iv x19.b.2, .bool x19.sided, iv x19.uses, iv x19.made] S (wN rfl) rfl rfl rfl rfl rfl rfl rfl (by simp) rfl fun a w S => ?_
  refine sMove (.bool true) S (wN rfl) (.inr rfl) rfl rfl (lb rfl) fun a S => ?_
  refine leafL (leafT (hK18 _ _ ?_))
  obtain rfl := Option.some.inj h
  exact wp_ret (sRet (.tuple #[gv_stitch_form x19, .bool true]) S (rsl2 rfl (rvN (c := 2) (t := 132) (T := 132) (p := b2) 0 [.string x19.letter, iv x19.a.1, iv x19.a.2, iv x19.b.1, iv x19.b.2, .bool x19.sided, iv x19.uses, iv x19.made] S rfl rfl rfl rfl) (rvT (t := 3) (v := .bool true) S rfl)) ⟨(gv_stitch_form x19), rfl, S.mem.sel [] [1] (by decide) rfl rfl⟩)

end Go.Proofs.Ytdbgkakmhlmpbaa
namespace Go.Proofs.Ytdbgkakmhlmpbaa
open Go.RowKit
set_option linter.unusedVariables false

noncomputable def F_stitch_loops (p0 : api_Stitch) (p1 : Int) : Option Int :=
  Option.bind (idxO ([0, 1, p0.A, w64 (p0.A + p0.B)] : List Int) p1) fun x4 =>
  some x4
set_option maxHeartbeats 4000000 in
set_option maxRecDepth 100000 in
theorem c_stitch_loops (E : Nat → Prop) (w0 : World) (p0 : api_Stitch) (v0 : Value) (p1 : Int) (r : Int) (h : F_stitch_loops p0 p1 = some r) (S : St0 E [] w0 w0 [] [fRep r_api_Stitch (v0) p0]) :
    Calls Try.prog 75 #[v0, iv p1] w0 (Ret (X := Unit) E [] w0 (fun _ => .int .i64 r) (fun _ => []) (fun _ => [])) := by
  unfold F_stitch_loops at h
  obtain rfl : v0 = .agg #[.int .u8 p0.Kind, .bool p0.Purl, iv p0.A, iv p0.B] := S.know (i := 0) (e := fRep r_api_Stitch (v0) p0) rfl
  refine sEnter (args := [.agg #[.int .u8 p0.Kind, .bool p0.Purl, iv p0.A, iv p0.B], iv p1]) 15 Try.func75 rfl rfl (by simp) S (fun a S => ?_)
  refine sSeq (fun K1 hK1 => ?_)
  refine sRegion ?_
  refine sBox (v := .agg #[.int .u8 p0.Kind, .bool p0.Purl, iv p0.A, iv p0.B]) S (wN rfl) rfl rfl [.int .u8 p0.Kind, .bool p0.Purl, iv p0.A, iv p0.B] rfl rfl (lb rfl) fun a b2 w S => ?_
  refine sMove (iv 0) S (wN rfl) (.inr rfl) rfl rfl (lb rfl) fun a S => ?_
  refine leafL (leafT (hK1 _ _ ?_))
  refine sSeq (fun K3 hK3 => ?_)
  refine sRegion ?_
  refine sField (b := b2) (off := 0) 2 2 S (wN rfl) rfl rfl rfl rfl rfl (lb rfl) fun a S => ?_
  refine sLoad1 (p := b2) (off := 2) (T := 74) (vs := [.int .u8 p0.Kind, .bool p0.Purl, iv p0.A, iv p0.B]) 0 (iv p0.A) S (wN rfl) rfl rfl rfl rfl rfl rfl (lb rfl) fun a S => ?_
  refine sField (b := b2) (off := 0) 2 2 S (wN rfl) rfl rfl rfl rfl rfl (lb rfl) fun a S => ?_
  refine sLoad1 (p := b2) (off := 2) (T := 74) (vs := [.int .u8 p0.Kind, .bool p0.Purl, iv p0.A, iv p0.B]) 0 (iv p0.A) S (wN rfl) rfl rfl rfl rfl rfl rfl (lb rfl) fun a S => ?_
  refine sField (b := b2) (off := 0) 3 3 S (wN rfl) rfl rfl rfl rfl rfl (lb rfl) fun a S => ?_
  refine sLoad1 (p := b2) (off := 3) (T := 74) (vs := [.int .u8 p0.Kind, .bool p0.Purl, iv p0.A, iv p0.B]) 0 (iv p0.B) S (wN rfl) rfl rfl rfl rfl rfl rfl (lb rfl) fun a S => ?_
  refine sBin (iv (w64 (p0.A + p0.B))) S (wN rfl) rfl rfl rfl (bAdd _ _ _ _ p0.A p0.B) rfl (lb rfl) fun a S => ?_
  refine sBuild [(0, iv 0), (1, iv 1), (2, iv p0.A), (3, iv (w64 (p0.A + p0.B)))] [iv 0, iv 1, iv p0.A, iv (w64 (p0.A + p0.B))] S (wN rfl) rfl rfl rfl rfl (lb rfl) fun a S => ?_
  refine sMove (iv p1) S (wN rfl) (.inl rfl) rfl rfl (lb rfl) fun a S => ?_
  obtain ⟨x4, hx5, h⟩ := bindSome h
  refine sIndexA (g := fun z => .int .i64 z) (xs := ([0, 1, p0.A, w64 (p0.A + p0.B)] : List Int)) (j := p1) (k := .i64) 4 [iv 0, iv 1, iv p0.A, iv (w64 (p0.A + p0.B))] S (wN rfl) rfl Try.underlying157 rfl rfl rfl rfl rfl rfl hx5 rfl (lb rfl) fun a S => ?_
  refine sMove (iv x4) S (wN rfl) (.inr rfl) rfl rfl (lb rfl) fun a S => ?_
  refine leafL (leafT (hK3 _ _ ?_))
  obtain rfl := Option.some.inj h
  exact wp_ret (sRet (iv x4) S (rsl1 rfl (rvT (t := 4) (v := iv x4) S rfl)) ⟨(), rfl, S.mem.sel [] [] (by decide) rfl rfl⟩)

end Go.Proofs.Ytdbgkakmhlmpbaa
namespace Go.Proofs.Ytdbgkakmhlmpbaa
open Go.RowKit
set_option linter.unusedVariables false

noncomputable def stitch_sum_l1 (p0 : (List api_Stitch)) : (Int × Int × Int) → Option ((Int × Int × Int) ⊕ (Int × Int)) := fun s0 => match s0 with
  | (s9, s10, s11) =>
    if decide (s11 < (p0.length : Int)) then
      Option.bind (idxO p0 s11) fun x22 =>
      Option.bind (F_stitch_forms x22.Kind) fun r29 =>
      Option.bind (F_stitch_loops x22 r29.1.uses) fun r34 =>
      Option.bind (F_stitch_loops x22 r29.1.made) fun r36 =>
      some (.inl (w64 (s9 + r34), w64 (s10 + r36), w64 (s11 + 1)))
    else
      some (.inr (s9, s10))
noncomputable def F_stitch_sum (p0 : (List api_Stitch)) : Option (Int × Int) :=
  Option.bind (α := (Int × Int)) (
    Option.bind (whileO (stitch_sum_l1 p0) (0, 0, 0)) fun (e15, e16) =>
      some (e15, e16)) fun (o4, o5) =>
  some (o4, o5)
set_option maxHeartbeats 4000000 in
set_option maxRecDepth 100000 in
theorem c_stitch_sum (E : Nat → Prop) (w0 : World) (p0 : (List api_Stitch)) (v0 : Value) (r : (Int × Int)) (h : F_stitch_sum p0 = some r) (S : St0 E [] w0 w0 [] [fRep (rL r_api_Stitch) (v0) p0]) :
    Calls Try.prog 54 #[v0] w0 (Ret (X := Unit) E [] w0 (fun _ => .tuple #[.int .i64 r.1, .int .i64 r.2]) (fun _ => []) (fun _ => [])) := by
  unfold F_stitch_sum at h
  obtain ⟨ad1, cp2, _, rfl, _⟩ := S.know (i := 0) (e := fRep (rL r_api_Stitch) (v0) p0) rfl
  refine sEnter (args := [.slice ad1 p0.length cp2]) 35 Try.func54 rfl rfl (by simp) S (fun a S => ?_)
  refine sSeq (fun K3 hK3 => ?_)
  refine sRegion ?_
  refine sMove (iv 0) S (wN rfl) (.inr rfl) rfl rfl (lb rfl) fun a S => ?_
  refine sMove (iv 0) S (wN rfl) (.inr rfl) rfl rfl (lb rfl) fun a S => ?_
  refine leafL (leafT (hK3 _ _ ?_))
  obtain ⟨t6, h, g7⟩ := bindSome h
  refine sCut (fun a w => ∃ o4, ∃ o5, (o4, o5) = t6 ∧ St [] E [] w0 35 a w [(2, iv o4), (3, iv o5)] [] []) ?_ (fun a w hI => ?_)
  rotate_left
  · obtain ⟨o4, o5, rfl, S⟩ := hI
    have h := g7
    clear g7
    try dsimp only at h
    refine sSeq (fun K38 hK38 => ?_)
    refine sRegion ?_
    refine sMove (iv o4) S (wN rfl) (.inl rfl) rfl rfl (lb rfl) fun a S => ?_
    refine sMove (iv o5) S (wN rfl) (.inl rfl) rfl rfl (lb rfl) fun a S => ?_
    refine sMove (iv o4) S (wN rfl) (.inr rfl) rfl rfl (lb rfl) fun a S => ?_
    refine sMove (iv o5) S (wN rfl) (.inr rfl) rfl rfl (lb rfl) fun a S => ?_
    refine leafL (leafT (hK38 _ _ ?_))
    obtain rfl := Option.some.inj h
    exact wp_ret (sRet (.tuple #[iv o4, iv o5]) S (rsl2 rfl (rvT (t := 2) (v := iv o4) S rfl) (rvT (t := 3) (v := iv o5) S rfl)) ⟨(), rfl, S.mem.sel [] [] (by decide) rfl rfl⟩)
  refine sSeq (fun K8 hK8 => ?_)
  refine sRegion ?_
  refine sMove (.slice ad1 p0.length cp2) S (wN rfl) (.inl rfl) rfl rfl (lb rfl) fun a S => ?_
  refine sLen (ad := ad1) (m := p0.length) (c := cp2) S (wN rfl) rfl Try.underlying70 rfl rfl (lb rfl) fun a S => ?_
  refine sMove (iv 0) S (wN rfl) (.inl rfl) rfl rfl (lb rfl) fun a S => ?_
  refine leafL (leafT (hK8 _ _ ?_))
  refine wp_block ?_
  obtain ⟨t14, hl, g13⟩ := bindSome h
  refine sLoop hl (fun s0 a w => match s0 with | (s9, s10, s11) => St [] E [] w0 35 a w [(2, iv s9), (3, iv s10), (8, .slice ad1 p0.length cp2), (9, iv (p0.length : Int)), (10, iv s11)] [] [fRep (rL r_api_Stitch) (.slice ad1 p0.length cp2) p0]) (S.fix [] [0] (by decide) rfl rfl rfl) ?_
  clear hl h
  intro s0 a w c0 hI h hu12
  obtain ⟨s9, s10, s11⟩ := s0
  unfold stitch_sum_l1 at h
  dsimp only at h hI
  have S := hI
  refine sSeq (fun K17 hK17 => ?_)
  refine sRegion ?_
  refine sBin (.bool (decide (s11 < (p0.length : Int)))) S (wN rfl) rfl rfl rfl (bLt _ _ _ _ .i64 s11 (p0.length : Int)) rfl (lb rfl) fun a S => ?_
  refine leafL (leafT (hK17 _ _ ?_))
  refine sSeq (fun K18 hK18 => ?_)
  rcases iteSome h with ⟨hc19, h⟩ | ⟨hc19, h⟩
  rotate_left
  · refine sCondF S rfl hc19 ?_
    obtain rfl := Option.some.inj h
    obtain rfl := hu12 _ rfl
    have h := g13
    clear g13
    try dsimp only at h
    exact wp_exit (xThen (xThen (xHit (leafT (⟨s9, s10, Option.some.inj h, S.fix [] [] (by decide) rfl rfl rfl⟩)))))
  refine sCondT S rfl hc19 ?_
  refine wp_skip (leafT (hK18 _ _ ?_))
  refine sSeq (fun K20 hK20 => ?_)
  refine wp_block ?_
  refine sSeq (fun K21 hK21 => ?_)
  refine sRegion ?_
  obtain ⟨x22, hx23, h⟩ := bindSome h
  obtain ⟨q24, hq25, S⟩ := pIdx (P := Try.prog) (r := r_api_Stitch) (v := .slice ad1 p0.length cp2) (xs := p0) (j := s11) 70 74 0 S Try.underlying70 rfl rfl hx23
  refine sIdxV (v := .slice ad1 p0.length cp2) (k := .i64) (j := s11) S (wN rfl) rfl rfl rfl hq25 rfl (lb rfl) fun a S => ?_
  obtain ⟨u26, S⟩ := pLoad (r := r_api_Stitch) (q := q24) (x := x22) 0 S rfl
  obtain rfl : u26 = .agg #[.int .u8 x22.Kind, .bool x22.Purl, iv x22.A, iv x22.B] := S.mem.know (i := 1) (e := fRep r_api_Stitch (u26) x22) rfl
  refine sLoadVN (vq := q24) 0 [.int .u8 x22.Kind, .bool x22.Purl, iv x22.A, iv x22.B] S (wN rfl) rfl rfl rfl rfl rfl rfl (lb rfl) fun a S => ?_
  refine sAlloc (.agg #[.int .u8 0, .bool false, iv 0, iv 0]) S (wN rfl) rfl rfl [.int .u8 0, .bool false, iv 0, iv 0] rfl rfl (lb rfl) fun a b27 w S => ?_
  refine sStore (p := b27) (off := 0) (T := 74) (vs := [.int .u8 0, .bool false, iv 0, iv 0]) (v := .agg #[.int .u8 x22.Kind, .bool x22.Purl, iv x22.A, iv x22.B]) 0 [.int .u8 x22.Kind, .bool x22.Purl, iv x22.A, iv x22.B] S (wN rfl) rfl rfl rfl rfl rfl rfl rfl (by simp) rfl fun a w S => ?_
  refine leafL (leafT (hK21 _ _ ?_))
  refine sSeq (fun K28 hK28 => ?_)
  refine sRegion ?_
  refine sField (b := b27) (off := 0) 0 0 S (wN rfl) rfl rfl rfl rfl rfl (lb rfl) fun a S => ?_
  refine sLoad1 (p := b27) (off := 0) (T := 74) (vs := [.int .u8 x22.Kind, .bool x22.Purl, iv x22.A, iv x22.B]) 0 (.int .u8 x22.Kind) S (wN rfl) rfl rfl rfl rfl rfl rfl (lb rfl) fun a S => ?_
  obtain ⟨r29, hx30, h⟩ := bindSome h
  refine sCall (X := Value) (f := 74) (vs := [.int .u8 x22.Kind]) (val := c_stitch_forms_val r29) (B' := fun _ => []) (D' := c_stitch_forms_D r29) [] [eBox b27 74 [.int .u8 x22.Kind, .bool x22.Purl, iv x22.A, iv x22.B]] [] [0] [] S (wN rfl) rfl callee74 rfl (by decide) rfl rfl (fun E1 w1 S1 => c_stitch_forms E1 w1 x22.Kind r29 hx30 S1) rfl (lb rfl) fun u31 a w S => ?_
  obtain rfl : u31 = gv_stitch_form r29.1 := S.mem.know (i := 0) (e := fRep r_stitch_form (u31) r29.1) rfl
  refine sMove (.tuple #[gv_stitch_form r29.1, .bool r29.2]) S (wN rfl) (.inl rfl) rfl rfl (lb rfl) fun a S => ?_
  refine sExtract (vs := [gv_stitch_form r29.1, .bool r29.2]) (gv_stitch_form r29.1) S (wN rfl) rfl rfl rfl rfl (lb rfl) fun a S => ?_
  refine sExtract (vs := [gv_stitch_form r29.1, .bool r29.2]) (.bool r29.2) S (wN rfl) rfl rfl rfl rfl (lb rfl) fun a S => ?_
  refine sAlloc (gv_stitch_form (stitch_form.mk (⟨#[]⟩ : ByteArray) (0, 0) (0, 0) false 0 0)) S (wN rfl) rfl rfl (gl_stitch_form (stitch_form.mk (⟨#[]⟩ : ByteArray) (0, 0) (0, 0) false 0 0)) rfl rfl (lb rfl) fun a b32 w S => ?_
  refine sStore (p := b32) (off := 0) (T := 132) (vs := [.string (⟨#[]⟩ : ByteArray), iv 0, iv 0, iv 0, iv 0, .bool false, iv 0, iv 0]) (v := gv_stitch_form r29.1) 0 [.string r29.1.letter, iv r29.1.a.1, iv r29.1.a.2, iv r29.1.b.1, iv r29.1.b.2, .bool r29.1.sided, iv r29.1.uses, iv r29.1.made] S (wN rfl) rfl rfl rfl rfl rfl rfl rfl (by simp) rfl fun a w S => ?_
  refine sMove (.bool r29.2) S (wN rfl) (.inr rfl) rfl rfl (lb rfl) fun a S => ?_
  refine leafL (leafT (hK28 _ _ ?_))
  refine sSeq (fun K33 hK33 => ?_)
  refine sRegion ?_
  refine sMove (iv s9) S (wN rfl) (.inl rfl) rfl rfl (lb rfl) fun a S => ?_
  refine sLoadN (p := b27) (off := 0) (T := 74) (vs := [.int .u8 x22.Kind, .bool x22.Purl, iv x22.A, iv x22.B]) 1 [.int .u8 x22.Kind, .bool x22.Purl, iv x22.A, iv x22.B] S (wN rfl) rfl rfl rfl rfl rfl rfl rfl (lb rfl) fun a S => ?_
  refine sField (b := b32) (off := 0) 6 6 S (wN rfl) rfl rfl rfl rfl rfl (lb rfl) fun a S => ?_
  refine sLoad1 (p := b32) (off := 6) (T := 132) (vs := (gl_stitch_form r29.1)) 0 (iv r29.1.uses) S (wN rfl) rfl rfl rfl rfl rfl rfl (lb rfl) fun a S => ?_
  obtain ⟨r34, hx35, h⟩ := bindSome h
  have S1 := S.mem
  refine sCallQ (X := Unit) (f := 75) (vs := [.agg #[.int .u8 x22.Kind, .bool x22.Purl, iv x22.A, iv x22.B], iv r29.1.uses]) (val := fun _ => iv r34) S (wN rfl) rfl callee75 rfl (S1.quiet [2] rfl) (fun E1 w1 S1 => c_stitch_loops E1 w1 x22 (.agg #[.int .u8 x22.Kind, .bool x22.Purl, iv x22.A, iv x22.B]) r29.1.uses r34 hx35 S1) rfl (lb rfl) fun _ a w S => ?_
  refine sBin (iv (w64 (s9 + r34))) S (wN rfl) rfl rfl rfl (bAdd _ _ _ _ s9 r34) rfl (lb rfl) fun a S => ?_
  refine sMove (iv (w64 (s9 + r34))) S (wN rfl) (.inr rfl) rfl rfl (lb rfl) fun a S => ?_
  refine leafL (leafT (hK33 _ _ ?_))
  refine sRegion ?_
  refine sMove (iv s10) S (wN rfl) (.inl rfl) rfl rfl (lb rfl) fun a S => ?_
  refine sLoadN (p := b27) (off := 0) (T := 74) (vs := [.int .u8 x22.Kind, .bool x22.Purl, iv x22.A, iv x22.B]) 1 [.int .u8 x22.Kind, .bool x22.Purl, iv x22.A, iv x22.B] S (wN rfl) rfl rfl rfl rfl rfl rfl rfl (lb rfl) fun a S => ?_
  refine sField (b := b32) (off := 0) 7 7 S (wN rfl) rfl rfl rfl rfl rfl (lb rfl) fun a S => ?_
  refine sLoad1 (p := b32) (off := 7) (T := 132) (vs := (gl_stitch_form r29.1)) 0 (iv r29.1.made) S (wN rfl) rfl rfl rfl rfl rfl rfl (lb rfl) fun a S => ?_
  obtain ⟨r36, hx37, h⟩ := bindSome h
  have S1 := S.mem
  refine sCallQ (X := Unit) (f := 75) (vs := [.agg #[.int .u8 x22.Kind, .bool x22.Purl, iv x22.A, iv x22.B], iv r29.1.made]) (val := fun _ => iv r36) S (wN rfl) rfl callee75 rfl (S1.quiet [2] rfl) (fun E1 w1 S1 => c_stitch_loops E1 w1 x22 (.agg #[.int .u8 x22.Kind, .bool x22.Purl, iv x22.A, iv x22.B]) r29.1.made r36 hx37 S1) rfl (lb rfl) fun _ a w S => ?_
  refine sBin (iv (w64 (s10 + r36))) S (wN rfl) rfl rfl rfl (bAdd _ _ _ _ s10 r36) rfl (lb rfl) fun a S => ?_
  refine sMove (iv (w64 (s10 + r36))) S (wN rfl) (.inr rfl) rfl rfl (lb rfl) fun a S => ?_
  refine leafL (leafB (leafT (hK20 _ _ ?_)))
  refine sRegion ?_
  refine sBin (iv (w64 (s11 + 1))) S (wN rfl) rfl rfl rfl (bAdd _ _ _ _ s11 1) rfl (lb rfl) fun a S => ?_
  refine sMove (iv (w64 (s11 + 1))) S (wN rfl) (.inl rfl) rfl rfl (lb rfl) fun a S => ?_
  exact leafL (leafT (⟨(w64 (s9 + r34), w64 (s10 + r36), w64 (s11 + 1)), (Option.some.inj h).symm, (S.fix [] [4] (by decide) rfl rfl rfl)⟩))

end Go.Proofs.Ytdbgkakmhlmpbaa
namespace Go.Proofs.Ytdbgkakmhlmpbaa
open Go.RowKit
set_option linter.unusedVariables false

noncomputable def F_stitch_within (p0 : Int) (p1 : (Int × Int)) : Option Bool :=
  Option.bind (α := Bool) (
    if decide (p1.1 ≤ p0) then
      some (decide (p0 ≤ p1.2))
    else
      some false) fun o3 =>
  some o3
set_option maxHeartbeats 4000000 in
set_option maxRecDepth 100000 in
theorem c_stitch_within (E : Nat → Prop) (w0 : World) (p0 : Int) (p1 : (Int × Int)) (v1 : Value) (r : Bool) (h : F_stitch_within p0 p1 = some r) (S : St0 E [] w0 w0 [] [fRep r_A2_Int (v1) p1]) :
    Calls Try.prog 92 #[iv p0, v1] w0 (Ret (X := Unit) E [] w0 (fun _ => .bool r) (fun _ => []) (fun _ => [])) := by
  unfold F_stitch_within at h
  obtain rfl : v1 = .agg #[iv p1.1, iv p1.2] := S.know (i := 0) (e := fRep r_A2_Int (v1) p1) rfl
  refine sEnter (args := [iv p0, .agg #[iv p1.1, iv p1.2]]) 15 Try.func92 rfl rfl (by simp) S (fun a S => ?_)
  refine sSeq (fun K1 hK1 => ?_)
  refine sRegion ?_
  refine sBox (v := .agg #[iv p1.1, iv p1.2]) S (wN rfl) rfl rfl [iv p1.1, iv p1.2] rfl rfl (lb rfl) fun a b2 w S => ?_
  refine sMove (.bool false) S (wN rfl) (.inr rfl) rfl rfl (lb rfl) fun a S => ?_
  refine leafL (leafT (hK1 _ _ ?_))
  obtain ⟨t4, h, g5⟩ := bindSome h
  refine sCut (fun a w => ∃ o3, o3 = t4 ∧ St [] E [] w0 15 a w [(4, .bool o3)] [] []) ?_ (fun a w hI => ?_)
  rotate_left
  · obtain ⟨o3, rfl, S⟩ := hI
    have h := g5
    clear g5
    try dsimp only at h
    obtain rfl := Option.some.inj h
    exact wp_ret (sRet (.bool o3) S (rsl1 rfl (rvT (t := 4) (v := .bool o3) S rfl)) ⟨(), rfl, S.mem.sel [] [] (by decide) rfl rfl⟩)
  refine sRegion ?_
  refine sMove (iv p0) S (wN rfl) (.inl rfl) rfl rfl (lb rfl) fun a S => ?_
  refine sIdxV (v := .pointer (some ⟨b2, 0, none⟩)) (k := .i64) (j := 0) (q := .pointer (some ⟨b2, 0, none⟩)) S (wN rfl) rfl rfl rfl (idxV_arr (m := 2) (sz := 1) Try.underlying130 rfl (by decide) (by decide) 0) rfl (lb rfl) fun a S => ?_
  refine sLoad1 (p := b2) (off := 0) (T := 130) (vs := [iv p1.1, iv p1.2]) 0 (iv p1.1) S (wN rfl) rfl rfl rfl rfl rfl rfl (lb rfl) fun a S => ?_
  refine sBin (.bool (decide (p1.1 ≤ p0))) S (wN rfl) rfl rfl rfl (bGe _ _ _ _ .i64 p0 p1.1) rfl (lb rfl) fun a S => ?_
  refine sMove (.bool (decide (p1.1 ≤ p0))) S (wN rfl) (.inl rfl) rfl rfl (lb rfl) fun a S => ?_
  rcases iteSome h with ⟨hc6, h⟩ | ⟨hc6, h⟩
  rotate_left
  · refine sSkip 4 true 9 10 S rfl rfl rfl hc6 rfl (lb rfl) fun a S => ?_
    refine sSkip 4 true 9 11 S rfl rfl rfl hc6 rfl (lb rfl) fun a S => ?_
    refine sSkip 4 true 9 12 S rfl rfl rfl hc6 rfl (lb rfl) fun a S => ?_
    refine sSkip 4 true 9 13 S rfl rfl rfl hc6 rfl (lb rfl) fun a S => ?_
    refine sPickF (.bool false) S (wN rfl) rfl rfl hc6 rfl rfl (lb rfl) fun a S => ?_
    refine sMove (.bool false) S (wN rfl) (.inr rfl) rfl rfl (lb rfl) fun a S => ?_
    exact leafL (leafT (⟨false, Option.some.inj h, S.fix [] [] (by decide) rfl rfl rfl⟩))
  refine sMove (iv p0) S (wG 4 true 9 rfl rfl rfl hc6) (.inl rfl) rfl rfl (lb rfl) fun a S => ?_
  refine sIdxV (v := .pointer (some ⟨b2, 0, none⟩)) (k := .i64) (j := 1) (q := .pointer (some ⟨b2, 1, none⟩)) S (wG 4 true 9 rfl rfl rfl hc6) rfl rfl rfl (idxV_arr (m := 2) (sz := 1) Try.underlying130 rfl (by decide) (by decide) 0) rfl (lb rfl) fun a S => ?_
  refine sLoad1 (p := b2) (off := 1) (T := 130) (vs := [iv p1.1, iv p1.2]) 0 (iv p1.2) S (wG 4 true 9 rfl rfl rfl hc6) rfl rfl rfl rfl rfl rfl (lb rfl) fun a S => ?_
  refine sBin (.bool (decide (p0 ≤ p1.2))) S (wG 4 true 9 rfl rfl rfl hc6) rfl rfl rfl (bLe _ _ _ _ .i64 p0 p1.2) rfl (lb rfl) fun a S => ?_
  refine sPickT (.bool (decide (p0 ≤ p1.2))) S (wN rfl) rfl rfl hc6 rfl rfl (lb rfl) fun a S => ?_
  refine sMove (.bool (decide (p0 ≤ p1.2))) S (wN rfl) (.inr rfl) rfl rfl (lb rfl) fun a S => ?_
  exact leafL (leafT (⟨decide (p0 ≤ p1.2), Option.some.inj h, S.fix [] [] (by decide) rfl rfl rfl⟩))

end Go.Proofs.Ytdbgkakmhlmpbaa
namespace Go.Proofs.Ytdbgkakmhlmpbaa
open Go.RowKit
set_option linter.unusedVariables false

noncomputable def F_stitch_Check (p0 : api_Stitch) : Option Int :=
  Option.bind (F_stitch_forms p0.Kind) fun r4 =>
  Option.bind (α := Bool) (
    if !r4.2 then
      some true
    else
      Option.bind (F_stitch_within p0.A r4.1.a) fun r13 =>
      if !r13 then
        some true
      else
        Option.bind (F_stitch_within p0.B r4.1.b) fun r16 =>
        if !r16 then
          some true
        else
          if p0.Purl then
            some (!r4.1.sided)
          else
            some false) fun o9 =>
  if o9 then
    some 8
  else
    some 0
set_option maxHeartbeats 4000000 in
set_option maxRecDepth 100000 in
theorem c_stitch_Check (E : Nat → Prop) (w0 : World) (p0 : api_Stitch) (v0 : Value) (r : Int) (h : F_stitch_Check p0 = some r) (S : St0 E [] w0 w0 [] [fRep r_api_Stitch (v0) p0]) :
    Calls Try.prog 73 #[v0] w0 (Ret (X := Unit) E [] w0 (fun _ => .int .i64 r) (fun _ => []) (fun _ => [])) := by
  unfold F_stitch_Check at h
  obtain rfl : v0 = .agg #[.int .u8 p0.Kind, .bool p0.Purl, iv p0.A, iv p0.B] := S.know (i := 0) (e := fRep r_api_Stitch (v0) p0) rfl
  refine sEnter (args := [.agg #[.int .u8 p0.Kind, .bool p0.Purl, iv p0.A, iv p0.B]]) 38 Try.func73 rfl rfl (by simp) S (fun a S => ?_)
  refine sSeq (fun K1 hK1 => ?_)
  refine sRegion ?_
  refine sBox (v := .agg #[.int .u8 p0.Kind, .bool p0.Purl, iv p0.A, iv p0.B]) S (wN rfl) rfl rfl [.int .u8 p0.Kind, .bool p0.Purl, iv p0.A, iv p0.B] rfl rfl (lb rfl) fun a b2 w S => ?_
  refine sMove (iv 0) S (wN rfl) (.inr rfl) rfl rfl (lb rfl) fun a S => ?_
  refine leafL (leafT (hK1 _ _ ?_))
  refine sSeq (fun K3 hK3 => ?_)
  refine sRegion ?_
  refine sField (b := b2) (off := 0) 0 0 S (wN rfl) rfl rfl rfl rfl rfl (lb rfl) fun a S => ?_
  refine sLoad1 (p := b2) (off := 0) (T := 74) (vs := [.int .u8 p0.Kind, .bool p0.Purl, iv p0.A, iv p0.B]) 0 (.int .u8 p0.Kind) S (wN rfl) rfl rfl rfl rfl rfl rfl (lb rfl) fun a S => ?_
  obtain ⟨r4, hx5, h⟩ := bindSome h
  refine sCall (X := Value) (f := 74) (vs := [.int .u8 p0.Kind]) (val := c_stitch_forms_val r4) (B' := fun _ => []) (D' := c_stitch_forms_D r4) [] [eBox b2 74 [.int .u8 p0.Kind, .bool p0.Purl, iv p0.A, iv p0.B]] [] [0] [] S (wN rfl) rfl callee74 rfl (by decide) rfl rfl (fun E1 w1 S1 => c_stitch_forms E1 w1 p0.Kind r4 hx5 S1) rfl (lb rfl) fun u6 a w S => ?_
  obtain rfl : u6 = gv_stitch_form r4.1 := S.mem.know (i := 0) (e := fRep r_stitch_form (u6) r4.1) rfl
  refine sMove (.tuple #[gv_stitch_form r4.1, .bool r4.2]) S (wN rfl) (.inl rfl) rfl rfl (lb rfl) fun a S => ?_
  refine sExtract (vs := [gv_stitch_form r4.1, .bool r4.2]) (gv_stitch_form r4.1) S (wN rfl) rfl rfl rfl rfl (lb rfl) fun a S => ?_
  refine sExtract (vs := [gv_stitch_form r4.1, .bool r4.2]) (.bool r4.2) S (wN rfl) rfl rfl rfl rfl (lb rfl) fun a S => ?_
  refine sAlloc (gv_stitch_form (stitch_form.mk (⟨#[]⟩ : ByteArray) (0, 0) (0, 0) false 0 0)) S (wN rfl) rfl rfl (gl_stitch_form (stitch_form.mk (⟨#[]⟩ : ByteArray) (0, 0) (0, 0) false 0 0)) rfl rfl (lb rfl) fun a b7 w S => ?_
  refine sStore (p := b7) (off := 0) (T := 132) (vs := [.string (⟨#[]⟩ : ByteArray), iv 0, iv 0, iv 0, iv 0, .bool false, iv 0, iv 0]) (v := gv_stitch_form r4.1) 0 [.string r4.1.letter, iv r4.1.a.1, iv r4.1.a.2, iv r4.1.b.1, iv r4.1.b.2, .bool r4.1.sided, iv r4.1.uses, iv r4.1.made] S (wN rfl) rfl rfl rfl rfl rfl rfl rfl (by simp) rfl fun a w S => ?_
  refine sMove (.bool r4.2) S (wN rfl) (.inr rfl) rfl rfl (lb rfl) fun a S => ?_
  refine leafL (leafT (hK3 _ _ ?_))
  refine sSeq (fun K8 hK8 => ?_)
  obtain ⟨t10, h, g11⟩ := bindSome h
  refine sCut (fun a w => ∃ o9, o9 = t10 ∧ St [] E [] w0 38 a w [(37, .bool o9)] [] []) ?_ (fun a w hI => ?_)
  rotate_left
  · obtain ⟨o9, rfl, S⟩ := hI
    have h := g11
    clear g11
    try dsimp only at h
    rcases iteSome h with ⟨hc20, h⟩ | ⟨hc20, h⟩
    · refine sCondT S rfl hc20 ?_
      refine sSeq (fun K21 hK21 => ?_)
      refine sRegion ?_
      refine sMove (iv 8) S (wN rfl) (.inr rfl) rfl rfl (lb rfl) fun a S => ?_
      refine leafL (leafT (hK21 _ _ ?_))
      obtain rfl := Option.some.inj h
      exact wp_ret (rThen (sRet (iv 8) S (rsl1 rfl (rvT (t := 2) (v := iv 8) S rfl)) ⟨(), rfl, S.mem.sel [] [] (by decide) rfl rfl⟩))
    refine sCondF S rfl hc20 ?_
    refine wp_skip (leafT (hK8 _ _ ?_))
    refine sSeq (fun K22 hK22 => ?_)
    refine sRegion ?_
    refine sMove (iv 0) S (wN rfl) (.inr rfl) rfl rfl (lb rfl) fun a S => ?_
    refine leafL (leafT (hK22 _ _ ?_))
    obtain rfl := Option.some.inj h
    exact wp_ret (sRet (iv 0) S (rsl1 rfl (rvT (t := 2) (v := iv 0) S rfl)) ⟨(), rfl, S.mem.sel [] [] (by decide) rfl rfl⟩)
  refine sRegion ?_
  refine sMove (.bool r4.2) S (wN rfl) (.inl rfl) rfl rfl (lb rfl) fun a S => ?_
  refine sNot (b := r4.2) S (wN rfl) rfl rfl rfl (lb rfl) fun a S => ?_
  refine sMove (.bool (!r4.2)) S (wN rfl) (.inl rfl) rfl rfl (lb rfl) fun a S => ?_
  rcases iteSome h with ⟨hc12, h⟩ | ⟨hc12, h⟩
  · refine sSkip 2 false 13 14 S rfl rfl rfl hc12 rfl (lb rfl) fun a S => ?_
    refine sSkip 2 false 13 15 S rfl rfl rfl hc12 rfl (lb rfl) fun a S => ?_
    refine sSkip 2 false 13 16 S rfl rfl rfl hc12 rfl (lb rfl) fun a S => ?_
    refine sSkip 2 false 13 17 S rfl rfl rfl hc12 rfl (lb rfl) fun a S => ?_
    refine sSkip 2 false 13 18 S rfl rfl rfl hc12 rfl (lb rfl) fun a S => ?_
    refine sSkip 2 false 13 19 S rfl rfl rfl hc12 rfl (lb rfl) fun a S => ?_
    refine sPickT (.bool true) S (wN rfl) rfl rfl hc12 rfl rfl (lb rfl) fun a S => ?_
    refine sMove (.bool true) S (wN rfl) (.inl rfl) rfl rfl (lb rfl) fun a S => ?_
    refine sSkip 10 false 21 22 S rfl rfl rfl rfl rfl (lb rfl) fun a S => ?_
    refine sSkip 10 false 21 23 S rfl rfl rfl rfl rfl (lb rfl) fun a S => ?_
    refine sSkip 10 false 21 24 S rfl rfl rfl rfl rfl (lb rfl) fun a S => ?_
    refine sSkip 10 false 21 25 S rfl rfl rfl rfl rfl (lb rfl) fun a S => ?_
    refine sSkip 10 false 21 26 S rfl rfl rfl rfl rfl (lb rfl) fun a S => ?_
    refine sSkip 10 false 21 27 S rfl rfl rfl rfl rfl (lb rfl) fun a S => ?_
    refine sPickT (.bool true) S (wN rfl) rfl rfl rfl rfl rfl (lb rfl) fun a S => ?_
    refine sMove (.bool true) S (wN rfl) (.inl rfl) rfl rfl (lb rfl) fun a S => ?_
    refine sSkip 18 false 29 30 S rfl rfl rfl rfl rfl (lb rfl) fun a S => ?_
    refine sSkip 18 false 29 31 S rfl rfl rfl rfl rfl (lb rfl) fun a S => ?_
    refine sSkip 18 false 29 32 S rfl rfl rfl rfl rfl (lb rfl) fun a S => ?_
    refine sSkipU 21 true 32 33 S rfl rfl rfl rfl (lb rfl) fun a S => ?_
    refine sSkipU 21 true 32 34 S rfl rfl rfl rfl (lb rfl) fun a S => ?_
    refine sSkipU 21 true 32 35 S rfl rfl rfl rfl (lb rfl) fun a S => ?_
    refine sSkip 18 false 29 36 S rfl rfl rfl rfl rfl (lb rfl) fun a S => ?_
    refine sPickT (.bool true) S (wN rfl) rfl rfl rfl rfl rfl (lb rfl) fun a S => ?_
    exact leafL (leafT (⟨true, Option.some.inj h, S.fix [] [] (by decide) rfl rfl rfl⟩))
  refine sField (b := b2) (off := 0) 2 2 S (wG 2 false 13 rfl rfl rfl hc12) rfl rfl rfl rfl rfl (lb rfl) fun a S => ?_
  refine sLoad1 (p := b2) (off := 2) (T := 74) (vs := [.int .u8 p0.Kind, .bool p0.Purl, iv p0.A, iv p0.B]) 1 (iv p0.A) S (wG 2 false 13 rfl rfl rfl hc12) rfl rfl rfl rfl rfl rfl (lb rfl) fun a S => ?_
  refine sField (b := b7) (off := 0) 1 1 S (wG 2 false 13 rfl rfl rfl hc12) rfl rfl rfl rfl rfl (lb rfl) fun a S => ?_
  refine sLoadN (p := b7) (off := 1) (T := 132) (vs := (gl_stitch_form r4.1)) 0 [iv r4.1.a.1, iv r4.1.a.2] S (wG 2 false 13 rfl rfl rfl hc12) rfl rfl rfl rfl rfl rfl rfl (lb rfl) fun a S => ?_
  obtain ⟨r13, hx14, h⟩ := bindSome h
  have S1 := S.mem
  have S1 := S1.learn (fRep r_A2_Int (.agg #[iv r4.1.a.1, iv r4.1.a.2]) r4.1.a) rfl
  refine sCallQ (X := Unit) (f := 92) (vs := [iv p0.A, .agg #[iv r4.1.a.1, iv r4.1.a.2]]) (val := fun _ => .bool r13) S (wG 2 false 13 rfl rfl rfl hc12) rfl callee92 rfl (S1.quiet [0] rfl) (fun E1 w1 S1 => c_stitch_within E1 w1 p0.A r4.1.a (.agg #[iv r4.1.a.1, iv r4.1.a.2]) r13 hx14 S1) rfl (lb rfl) fun _ a w S => ?_
  refine sNot (b := r13) S (wG 2 false 13 rfl rfl rfl hc12) rfl rfl rfl (lb rfl) fun a S => ?_
  refine sPickF (.bool (!r13)) S (wN rfl) rfl rfl hc12 rfl rfl (lb rfl) fun a S => ?_
  refine sMove (.bool (!r13)) S (wN rfl) (.inl rfl) rfl rfl (lb rfl) fun a S => ?_
  rcases iteSome h with ⟨hc15, h⟩ | ⟨hc15, h⟩
  · refine sSkip 10 false 21 22 S rfl rfl rfl hc15 rfl (lb rfl) fun a S => ?_
    refine sSkip 10 false 21 23 S rfl rfl rfl hc15 rfl (lb rfl) fun a S => ?_
    refine sSkip 10 false 21 24 S rfl rfl rfl hc15 rfl (lb rfl) fun a S => ?_
    refine sSkip 10 false 21 25 S rfl rfl rfl hc15 rfl (lb rfl) fun a S => ?_
    refine sSkip 10 false 21 26 S rfl rfl rfl hc15 rfl (lb rfl) fun a S => ?_
    refine sSkip 10 false 21 27 S rfl rfl rfl hc15 rfl (lb rfl) fun a S => ?_
    refine sPickT (.bool true) S (wN rfl) rfl rfl hc15 rfl rfl (lb rfl) fun a S => ?_
    refine sMove (.bool true) S (wN rfl) (.inl rfl) rfl rfl (lb rfl) fun a S => ?_
    refine sSkip 18 false 29 30 S rfl rfl rfl rfl rfl (lb rfl) fun a S => ?_
    refine sSkip 18 false 29 31 S rfl rfl rfl rfl rfl (lb rfl) fun a S => ?_
    refine sSkip 18 false 29 32 S rfl rfl rfl rfl rfl (lb rfl) fun a S => ?_
    refine sSkipU 21 true 32 33 S rfl rfl rfl rfl (lb rfl) fun a S => ?_
    refine sSkipU 21 true 32 34 S rfl rfl rfl rfl (lb rfl) fun a S => ?_
    refine sSkipU 21 true 32 35 S rfl rfl rfl rfl (lb rfl) fun a S => ?_
    refine sSkip 18 false 29 36 S rfl rfl rfl rfl rfl (lb rfl) fun a S => ?_
    refine sPickT (.bool true) S (wN rfl) rfl rfl rfl rfl rfl (lb rfl) fun a S => ?_
    exact leafL (leafT (⟨true, Option.some.inj h, S.fix [] [] (by decide) rfl rfl rfl⟩))
  refine sField (b := b2) (off := 0) 3 3 S (wG 10 false 21 rfl rfl rfl hc15) rfl rfl rfl rfl rfl (lb rfl) fun a S => ?_
  refine sLoad1 (p := b2) (off := 3) (T := 74) (vs := [.int .u8 p0.Kind, .bool p0.Purl, iv p0.A, iv p0.B]) 1 (iv p0.B) S (wG 10 false 21 rfl rfl rfl hc15) rfl rfl rfl rfl rfl rfl (lb rfl) fun a S => ?_
  refine sField (b := b7) (off := 0) 3 3 S (wG 10 false 21 rfl rfl rfl hc15) rfl rfl rfl rfl rfl (lb rfl) fun a S => ?_
  refine sLoadN (p := b7) (off := 3) (T := 132) (vs := (gl_stitch_form r4.1)) 0 [iv r4.1.b.1, iv r4.1.b.2] S (wG 10 false 21 rfl rfl rfl hc15) rfl rfl rfl rfl rfl rfl rfl (lb rfl) fun a S => ?_
  obtain ⟨r16, hx17, h⟩ := bindSome h
  have S1 := S.mem
  have S1 := S1.learn (fRep r_A2_Int (.agg #[iv r4.1.b.1, iv r4.1.b.2]) r4.1.b) rfl
  refine sCallQ (X := Unit) (f := 92) (vs := [iv p0.B, .agg #[iv r4.1.b.1, iv r4.1.b.2]]) (val := fun _ => .bool r16) S (wG 10 false 21 rfl rfl rfl hc15) rfl callee92 rfl (S1.quiet [0] rfl) (fun E1 w1 S1 => c_stitch_within E1 w1 p0.B r4.1.b (.agg #[iv r4.1.b.1, iv r4.1.b.2]) r16 hx17 S1) rfl (lb rfl) fun _ a w S => ?_
  refine sNot (b := r16) S (wG 10 false 21 rfl rfl rfl hc15) rfl rfl rfl (lb rfl) fun a S => ?_
  refine sPickF (.bool (!r16)) S (wN rfl) rfl rfl hc15 rfl rfl (lb rfl) fun a S => ?_
  refine sMove (.bool (!r16)) S (wN rfl) (.inl rfl) rfl rfl (lb rfl) fun a S => ?_
  rcases iteSome h with ⟨hc18, h⟩ | ⟨hc18, h⟩
  · refine sSkip 18 false 29 30 S rfl rfl rfl hc18 rfl (lb rfl) fun a S => ?_
    refine sSkip 18 false 29 31 S rfl rfl rfl hc18 rfl (lb rfl) fun a S => ?_
    refine sSkip 18 false 29 32 S rfl rfl rfl hc18 rfl (lb rfl) fun a S => ?_
    refine sSkipU 21 true 32 33 S rfl rfl rfl rfl (lb rfl) fun a S => ?_
    refine sSkipU 21 true 32 34 S rfl rfl rfl rfl (lb rfl) fun a S => ?_
    refine sSkipU 21 true 32 35 S rfl rfl rfl rfl (lb rfl) fun a S => ?_
    refine sSkip 18 false 29 36 S rfl rfl rfl hc18 rfl (lb rfl) fun a S => ?_
    refine sPickT (.bool true) S (wN rfl) rfl rfl hc18 rfl rfl (lb rfl) fun a S => ?_
    exact leafL (leafT (⟨true, Option.some.inj h, S.fix [] [] (by decide) rfl rfl rfl⟩))
  refine sField (b := b2) (off := 0) 1 1 S (wG 18 false 29 rfl rfl rfl hc18) rfl rfl rfl rfl rfl (lb rfl) fun a S => ?_
  refine sLoad1 (p := b2) (off := 1) (T := 74) (vs := [.int .u8 p0.Kind, .bool p0.Purl, iv p0.A, iv p0.B]) 1 (.bool p0.Purl) S (wG 18 false 29 rfl rfl rfl hc18) rfl rfl rfl rfl rfl rfl (lb rfl) fun a S => ?_
  refine sMove (.bool p0.Purl) S (wG 18 false 29 rfl rfl rfl hc18) (.inl rfl) rfl rfl (lb rfl) fun a S => ?_
  rcases iteSome h with ⟨hc19, h⟩ | ⟨hc19, h⟩
  rotate_left
  · refine sSkip 21 true 32 33 S rfl rfl rfl hc19 rfl (lb rfl) fun a S => ?_
    refine sSkip 21 true 32 34 S rfl rfl rfl hc19 rfl (lb rfl) fun a S => ?_
    refine sSkip 21 true 32 35 S rfl rfl rfl hc19 rfl (lb rfl) fun a S => ?_
    refine sPickF (.bool false) S (wG 18 false 29 rfl rfl rfl hc18) rfl rfl hc19 rfl rfl (lb rfl) fun a S => ?_
    refine sPickF (.bool false) S (wN rfl) rfl rfl hc18 rfl rfl (lb rfl) fun a S => ?_
    exact leafL (leafT (⟨false, Option.some.inj h, S.fix [] [] (by decide) rfl rfl rfl⟩))
  refine sField (b := b7) (off := 0) 5 5 S (wG 21 true 32 rfl rfl rfl hc19) rfl rfl rfl rfl rfl (lb rfl) fun a S => ?_
  refine sLoad1 (p := b7) (off := 5) (T := 132) (vs := (gl_stitch_form r4.1)) 0 (.bool r4.1.sided) S (wG 21 true 32 rfl rfl rfl hc19) rfl rfl rfl rfl rfl rfl (lb rfl) fun a S => ?_
  refine sNot (b := r4.1.sided) S (wG 21 true 32 rfl rfl rfl hc19) rfl rfl rfl (lb rfl) fun a S => ?_
  refine sPickT (.bool (!r4.1.sided)) S (wG 18 false 29 rfl rfl rfl hc18) rfl rfl hc19 rfl rfl (lb rfl) fun a S => ?_
  refine sPickF (.bool (!r4.1.sided)) S (wN rfl) rfl rfl hc18 rfl rfl (lb rfl) fun a S => ?_
  exact leafL (leafT (⟨!r4.1.sided, Option.some.inj h, S.fix [] [] (by decide) rfl rfl rfl⟩))

end Go.Proofs.Ytdbgkakmhlmpbaa
namespace Go.Proofs.Ytdbgkakmhlmpbaa
open Go.RowKit
set_option linter.unusedVariables false

noncomputable def F_stitch_All_1 (p0 : api_Stitch) : Option Bool :=
  Option.bind (F_stitch_Check p0) fun r4 =>
  some (r4 != 0)
set_option maxHeartbeats 4000000 in
set_option maxRecDepth 100000 in
theorem c_stitch_All_1 (E : Nat → Prop) (w0 : World) (p0 : api_Stitch) (v0 : Value) (r : Bool) (h : F_stitch_All_1 p0 = some r) (S : St0 E [] w0 w0 [] [fRep r_api_Stitch (v0) p0]) :
    Calls Try.prog 72 #[v0] w0 (Ret (X := Unit) E [] w0 (fun _ => .bool r) (fun _ => []) (fun _ => [])) := by
  unfold F_stitch_All_1 at h
  obtain rfl : v0 = .agg #[.int .u8 p0.Kind, .bool p0.Purl, iv p0.A, iv p0.B] := S.know (i := 0) (e := fRep r_api_Stitch (v0) p0) rfl
  refine sEnter (args := [.agg #[.int .u8 p0.Kind, .bool p0.Purl, iv p0.A, iv p0.B]]) 6 Try.func72 rfl rfl (by simp) S (fun a S => ?_)
  refine sSeq (fun K1 hK1 => ?_)
  refine sRegion ?_
  refine sBox (v := .agg #[.int .u8 p0.Kind, .bool p0.Purl, iv p0.A, iv p0.B]) S (wN rfl) rfl rfl [.int .u8 p0.Kind, .bool p0.Purl, iv p0.A, iv p0.B] rfl rfl (lb rfl) fun a b2 w S => ?_
  refine sMove (.bool false) S (wN rfl) (.inr rfl) rfl rfl (lb rfl) fun a S => ?_
  refine leafL (leafT (hK1 _ _ ?_))
  refine sSeq (fun K3 hK3 => ?_)
  refine sRegion ?_
  refine sLoadN (p := b2) (off := 0) (T := 74) (vs := [.int .u8 p0.Kind, .bool p0.Purl, iv p0.A, iv p0.B]) 0 [.int .u8 p0.Kind, .bool p0.Purl, iv p0.A, iv p0.B] S (wN rfl) rfl rfl rfl rfl rfl rfl rfl (lb rfl) fun a S => ?_
  obtain ⟨r4, hx5, h⟩ := bindSome h
  have S1 := S.mem
  refine sCallQ (X := Unit) (f := 73) (vs := [.agg #[.int .u8 p0.Kind, .bool p0.Purl, iv p0.A, iv p0.B]]) (val := fun _ => iv r4) S (wN rfl) rfl callee73 rfl (S1.quiet [0] rfl) (fun E1 w1 S1 => c_stitch_Check E1 w1 p0 (.agg #[.int .u8 p0.Kind, .bool p0.Purl, iv p0.A, iv p0.B]) r4 hx5 S1) rfl (lb rfl) fun _ a w S => ?_
  refine sBin (.bool (r4 != 0)) S (wN rfl) rfl rfl rfl (bNe _ _ _ _ .i64 r4 0) rfl (lb rfl) fun a S => ?_
  refine sMove (.bool (r4 != 0)) S (wN rfl) (.inr rfl) rfl rfl (lb rfl) fun a S => ?_
  refine leafL (leafT (hK3 _ _ ?_))
  obtain rfl := Option.some.inj h
  exact wp_ret (sRet (.bool (r4 != 0)) S (rsl1 rfl (rvT (t := 2) (v := .bool (r4 != 0)) S rfl)) ⟨(), rfl, S.mem.sel [] [] (by decide) rfl rfl⟩)

end Go.Proofs.Ytdbgkakmhlmpbaa
namespace Go.Proofs.Ytdbgkakmhlmpbaa
open Go.RowKit
set_option linter.unusedVariables false

noncomputable def slices_IndexFunc___api_Stitch_api_Stitch__s0_l1 (p0 : (List api_Stitch)) : Int → Option (Int ⊕ (Int ⊕ Unit)) := fun s0 => match s0 with
  | s7 =>
    if decide (s7 < (p0.length : Int)) then
      Option.bind (idxO p0 s7) fun x17 =>
      Option.bind (F_stitch_All_1 x17) fun r22 =>
      if r22 then
        some (.inr (.inl s7))
      else
        some (.inl (w64 (s7 + 1)))
    else
      some (.inr (.inr ()))
noncomputable def F_slices_IndexFunc___api_Stitch_api_Stitch__s0 (p0 : (List api_Stitch)) : Option Int :=
  Option.bind (α := Unit ⊕ Int) (
    Option.bind (whileO (slices_IndexFunc___api_Stitch_api_Stitch__s0_l1 p0) 0) fun z0 => match z0 with
      | .inl z =>
        some (.inr z)
      | .inr _ =>
        some (.inl ())) fun z0 => match z0 with
    | .inl _ =>
      some (-1)
    | .inr z =>
      some z
set_option maxHeartbeats 4000000 in
set_option maxRecDepth 100000 in
theorem c_slices_IndexFunc___api_Stitch_api_Stitch__s0 (E : Nat → Prop) (w0 : World) (p0 : (List api_Stitch)) (v0 : Value) (r : Int) (h : F_slices_IndexFunc___api_Stitch_api_Stitch__s0 p0 = some r) (S : St0 E [] w0 w0 [] [fRep (rL r_api_Stitch) (v0) p0]) :
    Calls Try.prog 91 #[v0, .func (.func 72) #[] #[]] w0 (Ret (X := Unit) E [] w0 (fun _ => .int .i64 r) (fun _ => []) (fun _ => [])) := by
  unfold F_slices_IndexFunc___api_Stitch_api_Stitch__s0 at h
  obtain ⟨ad1, cp2, _, rfl, _⟩ := S.know (i := 0) (e := fRep (rL r_api_Stitch) (v0) p0) rfl
  refine sEnter (args := [.slice ad1 p0.length cp2, .func (.func 72) #[] #[]]) 19 Try.func91 rfl rfl (by simp) S (fun a S => ?_)
  refine sSeq (fun K3 hK3 => ?_)
  refine sRegion ?_
  refine sMove (iv 0) S (wN rfl) (.inr rfl) rfl rfl (lb rfl) fun a S => ?_
  refine leafL (leafT (hK3 _ _ ?_))
  obtain ⟨t4, h, g5⟩ := bindSome h
  refine sCut (fun a w => .inl () = t4 ∧ St [] E [] w0 19 a w [] [] []) ?_ (fun a w hI => ?_)
  rotate_left
  · obtain ⟨rfl, S⟩ := hI
    have h := g5
    clear g5
    try dsimp only at h
    refine sSeq (fun K26 hK26 => ?_)
    refine sRegion ?_
    refine sMove (iv (-1)) S (wN rfl) (.inr rfl) rfl rfl (lb rfl) fun a S => ?_
    refine leafL (leafT (hK26 _ _ ?_))
    obtain rfl := Option.some.inj h
    exact wp_ret (sRet (iv (-1)) S (rsl1 rfl (rvT (t := 4) (v := iv (-1)) S rfl)) ⟨(), rfl, S.mem.sel [] [] (by decide) rfl rfl⟩)
  refine sSeq (fun K6 hK6 => ?_)
  refine sRegion ?_
  refine sMove (.slice ad1 p0.length cp2) S (wN rfl) (.inl rfl) rfl rfl (lb rfl) fun a S => ?_
  refine sLen (ad := ad1) (m := p0.length) (c := cp2) S (wN rfl) rfl Try.underlying70 rfl rfl (lb rfl) fun a S => ?_
  refine sMove (iv 0) S (wN rfl) (.inl rfl) rfl rfl (lb rfl) fun a S => ?_
  refine leafL (leafT (hK6 _ _ ?_))
  refine wp_block ?_
  obtain ⟨t10, hl, g9⟩ := bindSome h
  refine sLoop hl (fun s0 a w => match s0 with | s7 => St [] E [] w0 19 a w [(0, .slice ad1 p0.length cp2), (1, .func (.func 72) #[] #[]), (7, iv (p0.length : Int)), (8, iv s7)] [] [fRep (rL r_api_Stitch) (.slice ad1 p0.length cp2) p0]) (S.fix [] [0] (by decide) rfl rfl rfl) ?_
  clear hl h
  intro s7 a w c0 hI h hu8
  unfold slices_IndexFunc___api_Stitch_api_Stitch__s0_l1 at h
  dsimp only at h hI
  have S := hI
  refine sSeq (fun K11 hK11 => ?_)
  refine sRegion ?_
  refine sBin (.bool (decide (s7 < (p0.length : Int)))) S (wN rfl) rfl rfl rfl (bLt _ _ _ _ .i64 s7 (p0.length : Int)) rfl (lb rfl) fun a S => ?_
  refine leafL (leafT (hK11 _ _ ?_))
  refine sSeq (fun K12 hK12 => ?_)
  rcases iteSome h with ⟨hc13, h⟩ | ⟨hc13, h⟩
  rotate_left
  · refine sCondF S rfl hc13 ?_
    obtain rfl := Option.some.inj h
    obtain rfl := hu8 _ rfl
    have h := g9
    clear g9
    try dsimp only at h
    exact wp_exit (xThen (xThen (xHit (leafT (⟨Option.some.inj h, S.fix [] [] (by decide) rfl rfl rfl⟩)))))
  refine sCondT S rfl hc13 ?_
  refine wp_skip (leafT (hK12 _ _ ?_))
  refine sSeq (fun K14 hK14 => ?_)
  refine wp_block ?_
  refine sSeq (fun K15 hK15 => ?_)
  refine sRegion ?_
  refine sMove (iv s7) S (wN rfl) (.inl rfl) rfl rfl (lb rfl) fun a S => ?_
  refine sMove (iv s7) S (wN rfl) (.inr rfl) rfl rfl (lb rfl) fun a S => ?_
  refine leafL (leafT (hK15 _ _ ?_))
  refine sSeq (fun K16 hK16 => ?_)
  refine sRegion ?_
  refine sMove (.func (.func 72) #[] #[]) S (wN rfl) (.inl rfl) rfl rfl (lb rfl) fun a S => ?_
  refine sMove (.slice ad1 p0.length cp2) S (wN rfl) (.inl rfl) rfl rfl (lb rfl) fun a S => ?_
  refine sMove (iv s7) S (wN rfl) (.inl rfl) rfl rfl (lb rfl) fun a S => ?_
  obtain ⟨x17, hx18, h⟩ := bindSome h
  obtain ⟨q19, hq20, S⟩ := pIdx (P := Try.prog) (r := r_api_Stitch) (v := .slice ad1 p0.length cp2) (xs := p0) (j := s7) 70 74 0 S Try.underlying70 rfl rfl hx18
  refine sIdxV (v := .slice ad1 p0.length cp2) (k := .i64) (j := s7) S (wN rfl) rfl rfl rfl hq20 rfl (lb rfl) fun a S => ?_
  obtain ⟨u21, S⟩ := pLoad (r := r_api_Stitch) (q := q19) (x := x17) 0 S rfl
  obtain rfl : u21 = .agg #[.int .u8 x17.Kind, .bool x17.Purl, iv x17.A, iv x17.B] := S.mem.know (i := 1) (e := fRep r_api_Stitch (u21) x17) rfl
  refine sLoadVN (vq := q19) 0 [.int .u8 x17.Kind, .bool x17.Purl, iv x17.A, iv x17.B] S (wN rfl) rfl rfl rfl rfl rfl rfl (lb rfl) fun a S => ?_
  obtain ⟨r22, hx23, h⟩ := bindSome h
  have S1 := S.mem
  refine sCallVQ (X := Unit) (g := 72) (vs := [.agg #[.int .u8 x17.Kind, .bool x17.Purl, iv x17.A, iv x17.B]]) (caps := []) (val := fun _ => .bool r22) S (wN rfl) rfl rfl callee72 rfl (S1.quiet [1] rfl) (fun E1 w1 S1 => c_stitch_All_1 E1 w1 x17 (.agg #[.int .u8 x17.Kind, .bool x17.Purl, iv x17.A, iv x17.B]) r22 hx23 S1) rfl (lb rfl) fun _ a w S => ?_
  refine leafL (leafT (hK16 _ _ ?_))
  rcases iteSome h with ⟨hc24, h⟩ | ⟨hc24, h⟩
  rotate_left
  · refine sCondF S rfl hc24 ?_
    refine wp_skip (leafB (leafT (hK14 _ _ ?_)))
    refine sRegion ?_
    refine sBin (iv (w64 (s7 + 1))) S (wN rfl) rfl rfl rfl (bAdd _ _ _ _ s7 1) rfl (lb rfl) fun a S => ?_
    refine sMove (iv (w64 (s7 + 1))) S (wN rfl) (.inl rfl) rfl rfl (lb rfl) fun a S => ?_
    exact leafL (leafT (⟨w64 (s7 + 1), (Option.some.inj h).symm, (S.fix [] [3] (by decide) rfl rfl rfl)⟩))
  refine sCondT S rfl hc24 ?_
  refine sSeq (fun K25 hK25 => ?_)
  refine sRegion ?_
  refine sMove (iv s7) S (wN rfl) (.inl rfl) rfl rfl (lb rfl) fun a S => ?_
  refine sMove (iv s7) S (wN rfl) (.inr rfl) rfl rfl (lb rfl) fun a S => ?_
  refine leafL (leafT (hK25 _ _ ?_))
  obtain rfl := Option.some.inj h
  obtain rfl := hu8 _ rfl
  have h := g9
  clear g9
  try dsimp only at h
  obtain rfl := Option.some.inj h
  have h := g5
  clear g5
  try dsimp only at h
  obtain rfl := Option.some.inj h
  exact wp_ret (rBlock (rThen (rThen (rBlock (rThen (sRet (iv s7) S (rsl1 rfl (rvT (t := 4) (v := iv s7) S rfl)) ⟨(), rfl, S.mem.sel [] [] (by decide) rfl rfl⟩))))))

end Go.Proofs.Ytdbgkakmhlmpbaa
namespace Go.Proofs.Ytdbgkakmhlmpbaa
open Go.RowKit
set_option linter.unusedVariables false

noncomputable def F_slices_ContainsFunc___api_Stitch_api_Stitch__s0 (p0 : (List api_Stitch)) : Option Bool :=
  Option.bind (F_slices_IndexFunc___api_Stitch_api_Stitch__s0 p0) fun r5 =>
  some (decide (0 ≤ r5))
set_option maxHeartbeats 4000000 in
set_option maxRecDepth 100000 in
theorem c_slices_ContainsFunc___api_Stitch_api_Stitch__s0 (E : Nat → Prop) (w0 : World) (p0 : (List api_Stitch)) (v0 : Value) (r : Bool) (h : F_slices_ContainsFunc___api_Stitch_api_Stitch__s0 p0 = some r) (S : St0 E [] w0 w0 [] [fRep (rL r_api_Stitch) (v0) p0]) :
    Calls Try.prog 71 #[v0, .func (.func 72) #[] #[]] w0 (Ret (X := Unit) E [] w0 (fun _ => .bool r) (fun _ => []) (fun _ => [])) := by
  unfold F_slices_ContainsFunc___api_Stitch_api_Stitch__s0 at h
  obtain ⟨ad1, cp2, _, rfl, _⟩ := S.know (i := 0) (e := fRep (rL r_api_Stitch) (v0) p0) rfl
  refine sEnter (args := [.slice ad1 p0.length cp2, .func (.func 72) #[] #[]]) 9 Try.func71 rfl rfl (by simp) S (fun a S => ?_)
  refine sSeq (fun K3 hK3 => ?_)
  refine sRegion ?_
  refine sMove (.bool false) S (wN rfl) (.inr rfl) rfl rfl (lb rfl) fun a S => ?_
  refine leafL (leafT (hK3 _ _ ?_))
  refine sSeq (fun K4 hK4 => ?_)
  refine sRegion ?_
  refine sMove (.slice ad1 p0.length cp2) S (wN rfl) (.inl rfl) rfl rfl (lb rfl) fun a S => ?_
  refine sMove (.func (.func 72) #[] #[]) S (wN rfl) (.inl rfl) rfl rfl (lb rfl) fun a S => ?_
  obtain ⟨r5, hx6, h⟩ := bindSome h
  have S1 := S.mem
  refine sCallQ (X := Unit) (f := 91) (vs := [.slice ad1 p0.length cp2, .func (.func 72) #[] #[]]) (val := fun _ => iv r5) S (wN rfl) rfl callee91 rfl (S1.quiet [0] rfl) (fun E1 w1 S1 => c_slices_IndexFunc___api_Stitch_api_Stitch__s0 E1 w1 p0 (.slice ad1 p0.length cp2) r5 hx6 S1) rfl (lb rfl) fun _ a w S => ?_
  refine sBin (.bool (decide (0 ≤ r5))) S (wN rfl) rfl rfl rfl (bGe _ _ _ _ .i64 r5 0) rfl (lb rfl) fun a S => ?_
  refine sMove (.bool (decide (0 ≤ r5))) S (wN rfl) (.inr rfl) rfl rfl (lb rfl) fun a S => ?_
  refine leafL (leafT (hK4 _ _ ?_))
  obtain rfl := Option.some.inj h
  exact wp_ret (sRet (.bool (decide (0 ≤ r5))) S (rsl1 rfl (rvT (t := 4) (v := .bool (decide (0 ≤ r5))) S rfl)) ⟨(), rfl, S.mem.sel [] [] (by decide) rfl rfl⟩)

end Go.Proofs.Ytdbgkakmhlmpbaa
namespace Go.Proofs.Ytdbgkakmhlmpbaa
open Go.RowKit
set_option linter.unusedVariables false

noncomputable def F_stitch_All (p0 : (List api_Stitch)) : Option Int :=
  if decide (200 < (p0.length : Int)) then
    some 4
  else
    Option.bind (F_slices_ContainsFunc___api_Stitch_api_Stitch__s0 p0) fun r10 =>
    if r10 then
      some 8
    else
      Option.bind (F_stitch_sum p0) fun r16 =>
      if decide (200 < (if r16.1 < r16.2 then r16.2 else r16.1)) then
        some 4
      else
        some 0
set_option maxHeartbeats 4000000 in
set_option maxRecDepth 100000 in
theorem c_stitch_All (E : Nat → Prop) (w0 : World) (p0 : (List api_Stitch)) (v0 : Value) (r : Int) (h : F_stitch_All p0 = some r) (S : St0 E [] w0 w0 [] [fRep (rL r_api_Stitch) (v0) p0]) :
    Calls Try.prog 53 #[v0] w0 (Ret (X := Unit) E [] w0 (fun _ => .int .i64 r) (fun _ => []) (fun _ => [])) := by
  unfold F_stitch_All at h
  obtain ⟨ad1, cp2, _, rfl, _⟩ := S.know (i := 0) (e := fRep (rL r_api_Stitch) (v0) p0) rfl
  refine sEnter (args := [.slice ad1 p0.length cp2]) 19 Try.func53 rfl rfl (by simp) S (fun a S => ?_)
  refine sSeq (fun K3 hK3 => ?_)
  refine sRegion ?_
  refine sMove (iv 0) S (wN rfl) (.inr rfl) rfl rfl (lb rfl) fun a S => ?_
  refine leafL (leafT (hK3 _ _ ?_))
  refine sSeq (fun K4 hK4 => ?_)
  refine sSeq (fun K5 hK5 => ?_)
  refine sRegion ?_
  refine sMove (.slice ad1 p0.length cp2) S (wN rfl) (.inl rfl) rfl rfl (lb rfl) fun a S => ?_
  refine sLen (ad := ad1) (m := p0.length) (c := cp2) S (wN rfl) rfl Try.underlying70 rfl rfl (lb rfl) fun a S => ?_
  refine sBin (.bool (decide (200 < (p0.length : Int)))) S (wN rfl) rfl rfl rfl (bGt _ _ _ _ .i64 (p0.length : Int) 200) rfl (lb rfl) fun a S => ?_
  refine leafL (leafT (hK5 _ _ ?_))
  rcases iteSome h with ⟨hc6, h⟩ | ⟨hc6, h⟩
  · refine sCondT S rfl hc6 ?_
    refine sSeq (fun K7 hK7 => ?_)
    refine sRegion ?_
    refine sMove (iv 4) S (wN rfl) (.inr rfl) rfl rfl (lb rfl) fun a S => ?_
    refine leafL (leafT (hK7 _ _ ?_))
    obtain rfl := Option.some.inj h
    exact wp_ret (rThen (sRet (iv 4) S (rsl1 rfl (rvT (t := 2) (v := iv 4) S rfl)) ⟨(), rfl, S.mem.sel [] [] (by decide) rfl rfl⟩))
  refine sCondF S rfl hc6 ?_
  refine wp_skip (leafT (hK4 _ _ ?_))
  refine sSeq (fun K8 hK8 => ?_)
  refine sSeq (fun K9 hK9 => ?_)
  refine sRegion ?_
  refine sMove (.slice ad1 p0.length cp2) S (wN rfl) (.inl rfl) rfl rfl (lb rfl) fun a S => ?_
  obtain ⟨r10, hx11, h⟩ := bindSome h
  have S1 := S.mem
  refine sCallQ (X := Unit) (f := 71) (vs := [.slice ad1 p0.length cp2, .func (.func 72) #[] #[]]) (val := fun _ => .bool r10) S (wN rfl) rfl callee71 rfl (S1.quiet [0] rfl) (fun E1 w1 S1 => c_slices_ContainsFunc___api_Stitch_api_Stitch__s0 E1 w1 p0 (.slice ad1 p0.length cp2) r10 hx11 S1) rfl (lb rfl) fun _ a w S => ?_
  refine leafL (leafT (hK9 _ _ ?_))
  rcases iteSome h with ⟨hc12, h⟩ | ⟨hc12, h⟩
  · refine sCondT S rfl hc12 ?_
    refine sSeq (fun K13 hK13 => ?_)
    refine sRegion ?_
    refine sMove (iv 8) S (wN rfl) (.inr rfl) rfl rfl (lb rfl) fun a S => ?_
    refine leafL (leafT (hK13 _ _ ?_))
    obtain rfl := Option.some.inj h
    exact wp_ret (rThen (sRet (iv 8) S (rsl1 rfl (rvT (t := 2) (v := iv 8) S rfl)) ⟨(), rfl, S.mem.sel [] [] (by decide) rfl rfl⟩))
  refine sCondF S rfl hc12 ?_
  refine wp_skip (leafT (hK8 _ _ ?_))
  refine sSeq (fun K14 hK14 => ?_)
  refine sSeq (fun K15 hK15 => ?_)
  refine sRegion ?_
  refine sMove (.slice ad1 p0.length cp2) S (wN rfl) (.inl rfl) rfl rfl (lb rfl) fun a S => ?_
  obtain ⟨r16, hx17, h⟩ := bindSome h
  have S1 := S.mem
  refine sCallQ (X := Unit) (f := 54) (vs := [.slice ad1 p0.length cp2]) (val := fun _ => .tuple #[iv r16.1, iv r16.2]) S (wN rfl) rfl callee54 rfl (S1.quiet [0] rfl) (fun E1 w1 S1 => c_stitch_sum E1 w1 p0 (.slice ad1 p0.length cp2) r16 hx17 S1) rfl (lb rfl) fun _ a w S => ?_
  refine sMove (.tuple #[iv r16.1, iv r16.2]) S (wN rfl) (.inl rfl) rfl rfl (lb rfl) fun a S => ?_
  refine sExtract (vs := [iv r16.1, iv r16.2]) (iv r16.1) S (wN rfl) rfl rfl rfl rfl (lb rfl) fun a S => ?_
  refine sExtract (vs := [iv r16.1, iv r16.2]) (iv r16.2) S (wN rfl) rfl rfl rfl rfl (lb rfl) fun a S => ?_
  refine sMove (iv r16.1) S (wN rfl) (.inr rfl) rfl rfl (lb rfl) fun a S => ?_
  refine sMove (iv r16.2) S (wN rfl) (.inr rfl) rfl rfl (lb rfl) fun a S => ?_
  refine leafL (leafT (hK15 _ _ ?_))
  refine sSeq (fun K18 hK18 => ?_)
  refine sRegion ?_
  refine sMove (iv r16.1) S (wN rfl) (.inl rfl) rfl rfl (lb rfl) fun a S => ?_
  refine sMove (iv r16.2) S (wN rfl) (.inl rfl) rfl rfl (lb rfl) fun a S => ?_
  refine sMax2 (p := r16.1) (q := r16.2) S (wN rfl) rfl rfl rfl rfl (lb rfl) fun a S => ?_
  refine sBin (.bool (decide (200 < (if r16.1 < r16.2 then r16.2 else r16.1)))) S (wN rfl) rfl rfl rfl (bGt _ _ _ _ .i64 (if r16.1 < r16.2 then r16.2 else r16.1) 200) rfl (lb rfl) fun a S => ?_
  refine leafL (leafT (hK18 _ _ ?_))
  rcases iteSome h with ⟨hc19, h⟩ | ⟨hc19, h⟩
  · refine sCondT S rfl hc19 ?_
    refine sSeq (fun K20 hK20 => ?_)
    refine sRegion ?_
    refine sMove (iv 4) S (wN rfl) (.inr rfl) rfl rfl (lb rfl) fun a S => ?_
    refine leafL (leafT (hK20 _ _ ?_))
    obtain rfl := Option.some.inj h
    exact wp_ret (rThen (sRet (iv 4) S (rsl1 rfl (rvT (t := 2) (v := iv 4) S rfl)) ⟨(), rfl, S.mem.sel [] [] (by decide) rfl rfl⟩))
  refine sCondF S rfl hc19 ?_
  refine wp_skip (leafT (hK14 _ _ ?_))
  refine sSeq (fun K21 hK21 => ?_)
  refine sRegion ?_
  refine sMove (iv 0) S (wN rfl) (.inr rfl) rfl rfl (lb rfl) fun a S => ?_
  refine leafL (leafT (hK21 _ _ ?_))
  obtain rfl := Option.some.inj h
  exact wp_ret (sRet (iv 0) S (rsl1 rfl (rvT (t := 2) (v := iv 0) S rfl)) ⟨(), rfl, S.mem.sel [] [] (by decide) rfl rfl⟩)

end Go.Proofs.Ytdbgkakmhlmpbaa
namespace Go.Proofs.Ytdbgkakmhlmpbaa
open Go.RowKit
set_option linter.unusedVariables false

noncomputable def F_stitch_Makes (p0 : (List api_Stitch)) : Option (Int × Int) :=
  Option.bind (F_stitch_All p0) fun r6 =>
  if r6 != 0 then
    some (0, r6)
  else
    Option.bind (F_stitch_sum p0) fun r12 =>
    some (r12.2, 0)
set_option maxHeartbeats 4000000 in
set_option maxRecDepth 100000 in
theorem c_stitch_Makes (E : Nat → Prop) (w0 : World) (p0 : (List api_Stitch)) (v0 : Value) (r : (Int × Int)) (h : F_stitch_Makes p0 = some r) (S : St0 E [] w0 w0 [] [fRep (rL r_api_Stitch) (v0) p0]) :
    Calls Try.prog 33 #[v0] w0 (Ret (X := Unit) E [] w0 (fun _ => .tuple #[.int .i64 r.1, .int .i64 r.2]) (fun _ => []) (fun _ => [])) := by
  unfold F_stitch_Makes at h
  obtain ⟨ad1, cp2, _, rfl, _⟩ := S.know (i := 0) (e := fRep (rL r_api_Stitch) (v0) p0) rfl
  refine sEnter (args := [.slice ad1 p0.length cp2]) 18 Try.func33 rfl rfl (by simp) S (fun a S => ?_)
  refine sSeq (fun K3 hK3 => ?_)
  refine sRegion ?_
  refine sMove (iv 0) S (wN rfl) (.inr rfl) rfl rfl (lb rfl) fun a S => ?_
  refine sMove (iv 0) S (wN rfl) (.inr rfl) rfl rfl (lb rfl) fun a S => ?_
  refine leafL (leafT (hK3 _ _ ?_))
  refine sSeq (fun K4 hK4 => ?_)
  refine sSeq (fun K5 hK5 => ?_)
  refine sRegion ?_
  refine sMove (.slice ad1 p0.length cp2) S (wN rfl) (.inl rfl) rfl rfl (lb rfl) fun a S => ?_
  obtain ⟨r6, hx7, h⟩ := bindSome h
  have S1 := S.mem
  refine sCallQ (X := Unit) (f := 53) (vs := [.slice ad1 p0.length cp2]) (val := fun _ => iv r6) S (wN rfl) rfl callee53 rfl (S1.quiet [0] rfl) (fun E1 w1 S1 => c_stitch_All E1 w1 p0 (.slice ad1 p0.length cp2) r6 hx7 S1) rfl (lb rfl) fun _ a w S => ?_
  refine sMove (iv r6) S (wN rfl) (.inr rfl) rfl rfl (lb rfl) fun a S => ?_
  refine leafL (leafT (hK5 _ _ ?_))
  refine sSeq (fun K8 hK8 => ?_)
  refine sRegion ?_
  refine sMove (iv r6) S (wN rfl) (.inl rfl) rfl rfl (lb rfl) fun a S => ?_
  refine sBin (.bool (r6 != 0)) S (wN rfl) rfl rfl rfl (bNe _ _ _ _ .i64 r6 0) rfl (lb rfl) fun a S => ?_
  refine leafL (leafT (hK8 _ _ ?_))
  rcases iteSome h with ⟨hc9, h⟩ | ⟨hc9, h⟩
  · refine sCondT S rfl hc9 ?_
    refine sSeq (fun K10 hK10 => ?_)
    refine sRegion ?_
    refine sMove (iv r6) S (wN rfl) (.inl rfl) rfl rfl (lb rfl) fun a S => ?_
    refine sMove (iv 0) S (wN rfl) (.inr rfl) rfl rfl (lb rfl) fun a S => ?_
    refine sMove (iv r6) S (wN rfl) (.inr rfl) rfl rfl (lb rfl) fun a S => ?_
    refine leafL (leafT (hK10 _ _ ?_))
    obtain rfl := Option.some.inj h
    exact wp_ret (rThen (sRet (.tuple #[iv 0, iv r6]) S (rsl2 rfl (rvT (t := 2) (v := iv 0) S rfl) (rvT (t := 3) (v := iv r6) S rfl)) ⟨(), rfl, S.mem.sel [] [] (by decide) rfl rfl⟩))
  refine sCondF S rfl hc9 ?_
  refine wp_skip (leafT (hK4 _ _ ?_))
  refine sSeq (fun K11 hK11 => ?_)
  refine sRegion ?_
  refine sMove (.slice ad1 p0.length cp2) S (wN rfl) (.inl rfl) rfl rfl (lb rfl) fun a S => ?_
  obtain ⟨r12, hx13, h⟩ := bindSome h
  have S1 := S.mem
  refine sCallQ (X := Unit) (f := 54) (vs := [.slice ad1 p0.length cp2]) (val := fun _ => .tuple #[iv r12.1, iv r12.2]) S (wN rfl) rfl callee54 rfl (S1.quiet [0] rfl) (fun E1 w1 S1 => c_stitch_sum E1 w1 p0 (.slice ad1 p0.length cp2) r12 hx13 S1) rfl (lb rfl) fun _ a w S => ?_
  refine sMove (.tuple #[iv r12.1, iv r12.2]) S (wN rfl) (.inl rfl) rfl rfl (lb rfl) fun a S => ?_
  refine sExtract (vs := [iv r12.1, iv r12.2]) (iv r12.1) S (wN rfl) rfl rfl rfl rfl (lb rfl) fun a S => ?_
  refine sExtract (vs := [iv r12.1, iv r12.2]) (iv r12.2) S (wN rfl) rfl rfl rfl rfl (lb rfl) fun a S => ?_
  refine sMove (iv r12.1) S (wN rfl) (.inr rfl) rfl rfl (lb rfl) fun a S => ?_
  refine sMove (iv r12.2) S (wN rfl) (.inr rfl) rfl rfl (lb rfl) fun a S => ?_
  refine leafL (leafT (hK11 _ _ ?_))
  refine sSeq (fun K14 hK14 => ?_)
  refine sRegion ?_
  refine sMove (iv r12.2) S (wN rfl) (.inl rfl) rfl rfl (lb rfl) fun a S => ?_
  refine sMove (iv r12.2) S (wN rfl) (.inr rfl) rfl rfl (lb rfl) fun a S => ?_
  refine sMove (iv 0) S (wN rfl) (.inr rfl) rfl rfl (lb rfl) fun a S => ?_
  refine leafL (leafT (hK14 _ _ ?_))
  obtain rfl := Option.some.inj h
  exact wp_ret (sRet (.tuple #[iv r12.2, iv 0]) S (rsl2 rfl (rvT (t := 2) (v := iv r12.2) S rfl) (rvT (t := 3) (v := iv 0) S rfl)) ⟨(), rfl, S.mem.sel [] [] (by decide) rfl rfl⟩)

end Go.Proofs.Ytdbgkakmhlmpbaa
namespace Go.Proofs.Ytdbgkakmhlmpbaa
open Go.RowKit
set_option linter.unusedVariables false

noncomputable def F_stitch_Uses (p0 : (List api_Stitch)) : Option (Int × Int) :=
  Option.bind (F_stitch_All p0) fun r6 =>
  if r6 != 0 then
    some (0, r6)
  else
    Option.bind (F_stitch_sum p0) fun r12 =>
    some (r12.1, 0)
set_option maxHeartbeats 4000000 in
set_option maxRecDepth 100000 in
theorem c_stitch_Uses (E : Nat → Prop) (w0 : World) (p0 : (List api_Stitch)) (v0 : Value) (r : (Int × Int)) (h : F_stitch_Uses p0 = some r) (S : St0 E [] w0 w0 [] [fRep (rL r_api_Stitch) (v0) p0]) :
    Calls Try.prog 86 #[v0] w0 (Ret (X := Unit) E [] w0 (fun _ => .tuple #[.int .i64 r.1, .int .i64 r.2]) (fun _ => []) (fun _ => [])) := by
  unfold F_stitch_Uses at h
  obtain ⟨ad1, cp2, _, rfl, _⟩ := S.know (i := 0) (e := fRep (rL r_api_Stitch) (v0) p0) rfl
  refine sEnter (args := [.slice ad1 p0.length cp2]) 18 Try.func86 rfl rfl (by simp) S (fun a S => ?_)
  refine sSeq (fun K3 hK3 => ?_)
  refine sRegion ?_
  refine sMove (iv 0) S (wN rfl) (.inr rfl) rfl rfl (lb rfl) fun a S => ?_
  refine sMove (iv 0) S (wN rfl) (.inr rfl) rfl rfl (lb rfl) fun a S => ?_
  refine leafL (leafT (hK3 _ _ ?_))
  refine sSeq (fun K4 hK4 => ?_)
  refine sSeq (fun K5 hK5 => ?_)
  refine sRegion ?_
  refine sMove (.slice ad1 p0.length cp2) S (wN rfl) (.inl rfl) rfl rfl (lb rfl) fun a S => ?_
  obtain ⟨r6, hx7, h⟩ := bindSome h
  have S1 := S.mem
  refine sCallQ (X := Unit) (f := 53) (vs := [.slice ad1 p0.length cp2]) (val := fun _ => iv r6) S (wN rfl) rfl callee53 rfl (S1.quiet [0] rfl) (fun E1 w1 S1 => c_stitch_All E1 w1 p0 (.slice ad1 p0.length cp2) r6 hx7 S1) rfl (lb rfl) fun _ a w S => ?_
  refine sMove (iv r6) S (wN rfl) (.inr rfl) rfl rfl (lb rfl) fun a S => ?_
  refine leafL (leafT (hK5 _ _ ?_))
  refine sSeq (fun K8 hK8 => ?_)
  refine sRegion ?_
  refine sMove (iv r6) S (wN rfl) (.inl rfl) rfl rfl (lb rfl) fun a S => ?_
  refine sBin (.bool (r6 != 0)) S (wN rfl) rfl rfl rfl (bNe _ _ _ _ .i64 r6 0) rfl (lb rfl) fun a S => ?_
  refine leafL (leafT (hK8 _ _ ?_))
  rcases iteSome h with ⟨hc9, h⟩ | ⟨hc9, h⟩
  · refine sCondT S rfl hc9 ?_
    refine sSeq (fun K10 hK10 => ?_)
    refine sRegion ?_
    refine sMove (iv r6) S (wN rfl) (.inl rfl) rfl rfl (lb rfl) fun a S => ?_
    refine sMove (iv 0) S (wN rfl) (.inr rfl) rfl rfl (lb rfl) fun a S => ?_
    refine sMove (iv r6) S (wN rfl) (.inr rfl) rfl rfl (lb rfl) fun a S => ?_
    refine leafL (leafT (hK10 _ _ ?_))
    obtain rfl := Option.some.inj h
    exact wp_ret (rThen (sRet (.tuple #[iv 0, iv r6]) S (rsl2 rfl (rvT (t := 2) (v := iv 0) S rfl) (rvT (t := 3) (v := iv r6) S rfl)) ⟨(), rfl, S.mem.sel [] [] (by decide) rfl rfl⟩))
  refine sCondF S rfl hc9 ?_
  refine wp_skip (leafT (hK4 _ _ ?_))
  refine sSeq (fun K11 hK11 => ?_)
  refine sRegion ?_
  refine sMove (.slice ad1 p0.length cp2) S (wN rfl) (.inl rfl) rfl rfl (lb rfl) fun a S => ?_
  obtain ⟨r12, hx13, h⟩ := bindSome h
  have S1 := S.mem
  refine sCallQ (X := Unit) (f := 54) (vs := [.slice ad1 p0.length cp2]) (val := fun _ => .tuple #[iv r12.1, iv r12.2]) S (wN rfl) rfl callee54 rfl (S1.quiet [0] rfl) (fun E1 w1 S1 => c_stitch_sum E1 w1 p0 (.slice ad1 p0.length cp2) r12 hx13 S1) rfl (lb rfl) fun _ a w S => ?_
  refine sMove (.tuple #[iv r12.1, iv r12.2]) S (wN rfl) (.inl rfl) rfl rfl (lb rfl) fun a S => ?_
  refine sExtract (vs := [iv r12.1, iv r12.2]) (iv r12.1) S (wN rfl) rfl rfl rfl rfl (lb rfl) fun a S => ?_
  refine sExtract (vs := [iv r12.1, iv r12.2]) (iv r12.2) S (wN rfl) rfl rfl rfl rfl (lb rfl) fun a S => ?_
  refine sMove (iv r12.1) S (wN rfl) (.inr rfl) rfl rfl (lb rfl) fun a S => ?_
  refine sMove (iv r12.2) S (wN rfl) (.inr rfl) rfl rfl (lb rfl) fun a S => ?_
  refine leafL (leafT (hK11 _ _ ?_))
  refine sSeq (fun K14 hK14 => ?_)
  refine sRegion ?_
  refine sMove (iv r12.1) S (wN rfl) (.inl rfl) rfl rfl (lb rfl) fun a S => ?_
  refine sMove (iv r12.1) S (wN rfl) (.inr rfl) rfl rfl (lb rfl) fun a S => ?_
  refine sMove (iv 0) S (wN rfl) (.inr rfl) rfl rfl (lb rfl) fun a S => ?_
  refine leafL (leafT (hK14 _ _ ?_))
  obtain rfl := Option.some.inj h
  exact wp_ret (sRet (.tuple #[iv r12.1, iv 0]) S (rsl2 rfl (rvT (t := 2) (v := iv r12.1) S rfl) (rvT (t := 3) (v := iv 0) S rfl)) ⟨(), rfl, S.mem.sel [] [] (by decide) rfl rfl⟩)

end Go.Proofs.Ytdbgkakmhlmpbaa
namespace Go.Proofs.Ytdbgkakmhlmpbaa
open Go.RowKit
set_option linter.unusedVariables false

noncomputable def chart_counted_1_l1 {σ τ : Type} (p0 : api_Chart) (B : σ → (Int × chart_count) → Option (σ ⊕ τ)) : (Int × Int × σ) → Option ((Int × Int × σ) ⊕ ((σ ⊕ τ) ⊕ (σ))) := fun s0 => match s0 with
  | (s11, s12, gz13) =>
    if decide (s12 < (p0.Rows.length : Int)) then
      Option.bind (idxO p0.Rows s12) fun x23 =>
      Option.bind (F_stitch_Uses x23.Cells) fun r36 =>
      Option.bind (α := (Int × Int)) (
        if r36.2 != 0 then
          some (0, r36.2)
        else
          if r36.1 != s11 then
            some (0, 26)
          else
            Option.bind (F_stitch_Makes x23.Cells) fun r46 =>
            some (r46.1, 0)) fun (o38, o39) =>
      Option.bind (B gz13 (s12, (chart_count.mk s11 o38 o39))) fun y51 =>
      match y51 with
      | .inl gz53 =>
        if ((chart_count.mk s11 o38 o39).e) != 0 then
          some (.inr (.inl (.inl gz53)))
        else
          some (.inl ((chart_count.mk s11 o38 o39).after, w64 (s12 + 1), gz53))
      | .inr tz54 =>
        some (.inr (.inl (.inr tz54)))
    else
      some (.inr (.inr gz13))
noncomputable def I_chart_counted_1 (p0 : api_Chart) (σ τ : Type) (B : σ → (Int × chart_count) → Option (σ ⊕ τ)) (gz0 : σ) : Option (σ ⊕ τ) :=
  Option.bind (whileO (chart_counted_1_l1 p0 B) (p0.Start, 0, gz0)) fun z0 => match z0 with
    | .inl z =>
      some z
    | .inr gz17 =>
      some (.inl gz17)
set_option maxHeartbeats 4000000 in
set_option maxRecDepth 100000 in
theorem it_chart_counted_1 (p0 : api_Chart) (v0 : Value) : SeqF Try.prog 85 #[v0] (fA2 (rI .i64) r_chart_count) (I_chart_counted_1 p0) [fPtr r_api_Chart (v0) p0] := by
  refine seqF_of (lb := [v0]) (fun σ τ B gz0 r h l J Jx E w0 hC S hJ => ?_)
  unfold I_chart_counted_1 at h
  refine sEnterI (args := [.func (.yield l) #[] #[], v0]) 57 Try.func85 rfl rfl (by simp) S (fun a S => ?_)
  refine sSeq (fun K1 hK1 => ?_)
  refine sRegion ?_
  obtain ⟨q2, hq3, S⟩ := pFld (P := Try.prog) (r := r_api_Chart) (s2 := (rI .i64)) (g := (·.Start)) (q := v0) (z := p0) 41 0 0 0 S rfl rfl comp_api_Chart_Start
  refine sFldV (q := v0) S (wN rfl) rfl rfl hq3 rfl (lb rfl) fun a S => ?_
  obtain ⟨u4, S⟩ := pLoad (r := (rI .i64)) (q := q2) (x := p0.Start) 0 S rfl
  obtain rfl : u4 = iv p0.Start := S.mem.know (i := 1) (e := fRep (rI .i64) (u4) p0.Start) rfl
  refine sLoadV1 (vq := q2) 0 (iv p0.Start) S (wN rfl) rfl rfl rfl rfl rfl (lb rfl) fun a S => ?_
  refine sMove (iv p0.Start) S (wN rfl) (.inr rfl) rfl rfl (lb rfl) fun a S => ?_
  refine leafL (leafT (hK1 _ _ ?_))
  refine sSeq (fun K5 hK5 => ?_)
  refine sRegion ?_
  obtain ⟨q6, hq7, S⟩ := pFld (P := Try.prog) (r := r_api_Chart) (s2 := (rL r_api_Row)) (g := (·.Rows)) (q := v0) (z := p0) 41 1 3 1 S rfl rfl comp_api_Chart_Rows
  refine sFldV (q := v0) S (wN rfl) rfl rfl hq7 rfl (lb rfl) fun a S => ?_
  obtain ⟨u8, S⟩ := pLoad (r := (rL r_api_Row)) (q := q6) (x := p0.Rows) 0 S rfl
  obtain ⟨ad9, cp10, _, rfl, _⟩ := S.mem.know (i := 1) (e := fRep (rL r_api_Row) (u8) p0.Rows) rfl
  refine sLoadV1 (vq := q6) 0 (.slice ad9 p0.Rows.length cp10) S (wN rfl) rfl rfl rfl rfl rfl (lb rfl) fun a S => ?_
  refine sLen (ad := ad9) (m := p0.Rows.length) (c := cp10) S (wN rfl) rfl Try.underlying39 rfl rfl (lb rfl) fun a S => ?_
  refine sMove (iv 0) S (wN rfl) (.inl rfl) rfl rfl (lb rfl) fun a S => ?_
  refine leafL (leafT (hK5 _ _ ?_))
  refine wp_block ?_
  obtain ⟨t16, hl, g15⟩ := bindSome h
  refine sLoop hl (fun s0 a w => match s0 with | (s11, s12, gz13) => ∃ E w0, J gz13 E w0 ∧ St [] E [] w0 57 a w [(0, .func (.yield l) #[] #[]), (3, iv s11), (12, .slice ad9 p0.Rows.length cp10), (13, iv (p0.Rows.length : Int)), (14, iv s12)] [] [fRep (rL r_api_Row) (.slice ad9 p0.Rows.length cp10) p0.Rows]) ⟨_, _, hJ, S.fix [] [1] (by decide) rfl rfl rfl⟩ ?_
  clear hl h
  intro s0 a w c0 hI h hu14
  obtain ⟨s11, s12, gz13⟩ := s0
  unfold chart_counted_1_l1 at h
  dsimp only at h hI
  obtain ⟨E, w0, hJ, S⟩ := hI
  refine sSeq (fun K18 hK18 => ?_)
  refine sRegion ?_
  refine sBin (.bool (decide (s12 < (p0.Rows.length : Int)))) S (wN rfl) rfl rfl rfl (bLt _ _ _ _ .i64 s12 (p0.Rows.length : Int)) rfl (lb rfl) fun a S => ?_
  refine leafL (leafT (hK18 _ _ ?_))
  refine sSeq (fun K19 hK19 => ?_)
  rcases iteSome h with ⟨hc20, h⟩ | ⟨hc20, h⟩
  rotate_left
  · refine sCondF S rfl hc20 ?_
    obtain rfl := Option.some.inj h
    obtain rfl := hu14 _ rfl
    have h := g15
    clear g15
    try dsimp only at h
    exact wp_exit (xThen (xThen (xHit (sEnd (.tuple #[]) S (res0 rfl) (sGoI S hC hJ (Option.some.inj h) _)))))
  refine sCondT S rfl hc20 ?_
  refine wp_skip (leafT (hK19 _ _ ?_))
  refine sSeq (fun K21 hK21 => ?_)
  refine wp_block ?_
  refine sSeq (fun K22 hK22 => ?_)
  refine sRegion ?_
  refine sMove (iv s12) S (wN rfl) (.inl rfl) rfl rfl (lb rfl) fun a S => ?_
  obtain ⟨x23, hx24, h⟩ := bindSome h
  obtain ⟨q25, hq26, S⟩ := pIdx (P := Try.prog) (r := r_api_Row) (v := .slice ad9 p0.Rows.length cp10) (xs := p0.Rows) (j := s12) 39 72 0 S Try.underlying39 rfl rfl hx24
  refine sIdxV (v := .slice ad9 p0.Rows.length cp10) (k := .i64) (j := s12) S (wN rfl) rfl rfl rfl hq26 rfl (lb rfl) fun a S => ?_
  obtain ⟨u27, S⟩ := pLoad (r := r_api_Row) (q := q25) (x := x23) 0 S rfl
  obtain ⟨u28, rfl, hu29⟩ := S.mem.know (i := 1) (e := fRep r_api_Row (u27) x23) rfl
  have S := S.learn (fRep (rL r_api_Stitch) u28 x23.Cells) hu29
  obtain ⟨ad30, cp31, _, rfl, _⟩ := hu29
  refine sLoadVN (vq := q25) 1 [.bool x23.Back, .slice ad30 x23.Cells.length cp31] S (wN rfl) rfl rfl rfl rfl rfl rfl (lb rfl) fun a S => ?_
  refine sAlloc (.agg #[.bool false, .slice none 0 0]) S (wN rfl) rfl rfl [.bool false, .slice none 0 0] rfl rfl (lb rfl) fun a b32 w S => ?_
  refine sMove (iv s12) S (wN rfl) (.inr rfl) rfl rfl (lb rfl) fun a S => ?_
  refine sStore (p := b32) (off := 0) (T := 72) (vs := [.bool false, .slice none 0 0]) (v := .agg #[.bool x23.Back, .slice ad30 x23.Cells.length cp31]) 0 [.bool x23.Back, .slice ad30 x23.Cells.length cp31] S (wN rfl) rfl rfl rfl rfl rfl rfl rfl (by simp) rfl fun a w S => ?_
  refine leafL (leafT (hK22 _ _ ?_))
  refine sSeq (fun K33 hK33 => ?_)
  refine sRegion ?_
  refine sMove (iv s11) S (wN rfl) (.inl rfl) rfl rfl (lb rfl) fun a S => ?_
  refine sBuild [(0, iv s11)] [iv s11, iv 0, iv 0] S (wN rfl) rfl rfl rfl rfl (lb rfl) fun a S => ?_
  refine sAlloc (.agg #[iv 0, iv 0, iv 0]) S (wN rfl) rfl rfl [iv 0, iv 0, iv 0] rfl rfl (lb rfl) fun a b34 w S => ?_
  refine sStore (p := b34) (off := 0) (T := 120) (vs := [iv 0, iv 0, iv 0]) (v := .agg #[iv s11, iv 0, iv 0]) 0 [iv s11, iv 0, iv 0] S (wN rfl) rfl rfl rfl rfl rfl rfl rfl (by simp) rfl fun a w S => ?_
  refine leafL (leafT (hK33 _ _ ?_))
  refine sSeq (fun K35 hK35 => ?_)
  refine sRegion ?_
  refine sField (b := b32) (off := 0) 1 1 S (wN rfl) rfl rfl rfl rfl rfl (lb rfl) fun a S => ?_
  refine sLoad1 (p := b32) (off := 1) (T := 72) (vs := [.bool x23.Back, .slice ad30 x23.Cells.length cp31]) 1 (.slice ad30 x23.Cells.length cp31) S (wN rfl) rfl rfl rfl rfl rfl rfl (lb rfl) fun a S => ?_
  obtain ⟨r36, hx37, h⟩ := bindSome h
  have S1 := S.mem
  refine sCallQ (X := Unit) (f := 86) (vs := [.slice ad30 x23.Cells.length cp31]) (val := fun _ => .tuple #[iv r36.1, iv r36.2]) S (wN rfl) rfl callee86 rfl (S1.quiet [0] rfl) (fun E1 w1 S1 => c_stitch_Uses E1 w1 x23.Cells (.slice ad30 x23.Cells.length cp31) r36 hx37 S1) rfl (lb rfl) fun _ a w S => ?_
  refine sMove (.tuple #[iv r36.1, iv r36.2]) S (wN rfl) (.inl rfl) rfl rfl (lb rfl) fun a S => ?_
  refine sExtract (vs := [iv r36.1, iv r36.2]) (iv r36.1) S (wN rfl) rfl rfl rfl rfl (lb rfl) fun a S => ?_
  refine sExtract (vs := [iv r36.1, iv r36.2]) (iv r36.2) S (wN rfl) rfl rfl rfl rfl (lb rfl) fun a S => ?_
  refine sMove (iv r36.1) S (wN rfl) (.inr rfl) rfl rfl (lb rfl) fun a S => ?_
  refine sMove (iv r36.2) S (wN rfl) (.inr rfl) rfl rfl (lb rfl) fun a S => ?_
  refine leafL (leafT (hK35 _ _ ?_))
  obtain ⟨t40, h, g41⟩ := bindSome h
  refine sCut (fun a w => ∃ o38, ∃ o39, (o38, o39) = t40 ∧ ∃ E w0, J gz13 E w0 ∧ St [] E [] w0 57 a w [(0, .func (.yield l) #[] #[]), (4, iv s12), (6, .pointer (some ⟨b34, 0, none⟩)), (12, .slice ad9 p0.Rows.length cp10), (13, iv (p0.Rows.length : Int)), (14, iv s12)] [eBox b34 120 [iv s11, iv o38, iv o39]] [fRep (rL r_api_Row) (.slice ad9 p0.Rows.length cp10) p0.Rows]) ?_ (fun a w hI => ?_)
  · refine wp_block ?_
    refine sSeq (fun K42 hK42 => ?_)
    refine sRegion ?_
    refine sMove (iv r36.2) S (wN rfl) (.inl rfl) rfl rfl (lb rfl) fun a S => ?_
    refine sBin (.bool (r36.2 != 0)) S (wN rfl) rfl rfl rfl (bNe _ _ _ _ .i64 r36.2 0) rfl (lb rfl) fun a S => ?_
    refine sMove (.bool (r36.2 != 0)) S (wN rfl) (.inr rfl) rfl rfl (lb rfl) fun a S => ?_
    refine leafL (leafT (hK42 _ _ ?_))
    rcases iteSome h with ⟨hc43, h⟩ | ⟨hc43, h⟩
    · refine sCondT S rfl hc43 ?_
      refine sRegion ?_
      refine sMove (iv r36.2) S (wN rfl) (.inl rfl) rfl rfl (lb rfl) fun a S => ?_
      refine sField (b := b34) (off := 0) 2 2 S (wN rfl) rfl rfl rfl rfl rfl (lb rfl) fun a S => ?_
      refine sStore (p := b34) (off := 2) (T := 120) (vs := [iv s11, iv 0, iv 0]) (v := iv r36.2) 0 [iv r36.2] S (wN rfl) rfl rfl rfl rfl rfl rfl rfl (by simp) rfl fun a w S => ?_
      exact leafL (leafB (leafT (⟨0, r36.2, Option.some.inj h, _, _, hJ, S.fix [0] [4] (by decide) rfl rfl rfl⟩)))
    refine sCondF S rfl hc43 ?_
    refine sSeq (fun K44 hK44 => ?_)
    refine sRegion ?_
    refine sMove (iv r36.1) S (wN rfl) (.inl rfl) rfl rfl (lb rfl) fun a S => ?_
    refine sMove (iv s11) S (wN rfl) (.inl rfl) rfl rfl (lb rfl) fun a S => ?_
    refine sBin (.bool (r36.1 != s11)) S (wN rfl) rfl rfl rfl (bNe _ _ _ _ .i64 r36.1 s11) rfl (lb rfl) fun a S => ?_
    refine sMove (.bool (r36.1 != s11)) S (wN rfl) (.inr rfl) rfl rfl (lb rfl) fun a S => ?_
    refine leafL (leafT (hK44 _ _ ?_))
    rcases iteSome h with ⟨hc45, h⟩ | ⟨hc45, h⟩
    · refine sCondT S rfl hc45 ?_
      refine sRegion ?_
      refine sField (b := b34) (off := 0) 2 2 S (wN rfl) rfl rfl rfl rfl rfl (lb rfl) fun a S => ?_
      refine sStore (p := b34) (off := 2) (T := 120) (vs := [iv s11, iv 0, iv 0]) (v := iv 26) 0 [iv 26] S (wN rfl) rfl rfl rfl rfl rfl rfl rfl (by simp) rfl fun a w S => ?_
      exact leafL (leafB (leafT (⟨0, 26, Option.some.inj h, _, _, hJ, S.fix [0] [4] (by decide) rfl rfl rfl⟩)))
    refine sCondF S rfl hc45 ?_
    refine sRegion ?_
    refine sField (b := b32) (off := 0) 1 1 S (wN rfl) rfl rfl rfl rfl rfl (lb rfl) fun a S => ?_
    refine sLoad1 (p := b32) (off := 1) (T := 72) (vs := [.bool x23.Back, .slice ad30 x23.Cells.length cp31]) 1 (.slice ad30 x23.Cells.length cp31) S (wN rfl) rfl rfl rfl rfl rfl rfl (lb rfl) fun a S => ?_
    obtain ⟨r46, hx47, h⟩ := bindSome h
    have S1 := S.mem
    refine sCallQ (X := Unit) (f := 33) (vs := [.slice ad30 x23.Cells.length cp31]) (val := fun _ => .tuple #[iv r46.1, iv r46.2]) S (wN rfl) rfl callee33 rfl (S1.quiet [0] rfl) (fun E1 w1 S1 => c_stitch_Makes E1 w1 x23.Cells (.slice ad30 x23.Cells.length cp31) r46 hx47 S1) rfl (lb rfl) fun _ a w S => ?_
    refine sMove (.tuple #[iv r46.1, iv r46.2]) S (wN rfl) (.inl rfl) rfl rfl (lb rfl) fun a S => ?_
    refine sExtract (vs := [iv r46.1, iv r46.2]) (iv r46.1) S (wN rfl) rfl rfl rfl rfl (lb rfl) fun a S => ?_
    refine sExtract (vs := [iv r46.1, iv r46.2]) (iv r46.2) S (wN rfl) rfl rfl rfl rfl (lb rfl) fun a S => ?_
    refine sField (b := b34) (off := 0) 1 1 S (wN rfl) rfl rfl rfl rfl rfl (lb rfl) fun a S => ?_
    refine sStore (p := b34) (off := 1) (T := 120) (vs := [iv s11, iv 0, iv 0]) (v := iv r46.1) 0 [iv r46.1] S (wN rfl) rfl rfl rfl rfl rfl rfl rfl (by simp) rfl fun a w S => ?_
    exact leafL (leafB (leafT (⟨r46.1, 0, Option.some.inj h, _, _, hJ, S.fix [0] [4] (by decide) rfl rfl rfl⟩)))
  obtain ⟨o38, o39, rfl, E, w0, hJ, S⟩ := hI
  have h := g41
  clear g41
  try dsimp only at h
  refine sSeq (fun K48 hK48 => ?_)
  refine sSeq (fun K49 hK49 => ?_)
  refine sRegionY ?_
  refine sSplitR (by repeat (first | exact roundU_out | exact it_out | exact lo_false | refine lo_then ?_ | refine lo_block ?_)) 3 rfl (fun K50 hK50 => ?_)
  refine sMove (.func (.yield l) #[] #[]) S (wN rfl) (.inl rfl) rfl rfl (lb rfl) fun a S => ?_
  refine sMove (iv s12) S (wN rfl) (.inl rfl) rfl rfl (lb rfl) fun a S => ?_
  refine sLoadN (p := b34) (off := 0) (T := 120) (vs := [iv s11, iv o38, iv o39]) 0 [iv s11, iv o38, iv o39] S (wN rfl) rfl rfl rfl rfl rfl rfl rfl (lb rfl) fun a S => ?_
  refine leafL ⟨rfl, hK50 _ _ ?_⟩
  have S := S.learn (fRep r_chart_count (.agg #[iv s11, iv o38, iv o39]) (chart_count.mk s11 o38 o39)) rfl
  have S := S.shutB (r := r_chart_count) (T := 120) (b := b34) (cs := [iv s11, iv o38, iv o39]) 0 (.agg #[iv s11, iv o38, iv o39]) (chart_count.mk s11 o38 o39) rfl rfl (S.mem.know (i := 0) (e := fRep r_chart_count (.agg #[iv s11, iv o38, iv o39]) (chart_count.mk s11 o38 o39)) rfl)
  obtain ⟨y51, hy52, h⟩ := bindSome h
  refine sYieldI (s12, (chart_count.mk s11 o38 o39)) [iv s12, .agg #[iv s11, iv o38, iv o39]] S hC hJ hy52 (fA2_mk (rfl) (S.mem.know (i := 1) (e := fRep r_chart_count (.agg #[iv s11, iv o38, iv o39]) (chart_count.mk s11 o38 o39)) rfl)) (wN rfl) rfl rfl rfl rfl (by decide) (fun gz53 E a w hb hJ S => ?_) (fun tz54 a w hb hJ S => ?_)
  · obtain rfl := hb
    dsimp only at h
    refine list_inR (by repeat (first | exact roundU_out | exact it_out | exact lo_false | refine lo_then ?_ | refine lo_block ?_)) _ rfl _ _ ?_
    refine sNot (b := true) S (wN rfl) rfl rfl rfl (lb rfl) fun a S => ?_
    refine sMove (.bool false) S (wN rfl) (.inl rfl) rfl rfl (lb rfl) fun a S => ?_
    obtain ⟨q55, hq56, S⟩ := pFld (P := Try.prog) (r := r_chart_count) (s2 := (rI .i64)) (g := (·.e)) (q := .pointer (some ⟨b34, 0, none⟩)) (z := (chart_count.mk s11 o38 o39)) 120 2 0 2 S rfl rfl comp_chart_count_e
    refine sFldV (q := .pointer (some ⟨b34, 0, none⟩)) S (wG 5 false 49 rfl rfl rfl rfl) rfl rfl hq56 rfl (lb rfl) fun a S => ?_
    obtain ⟨u57, S⟩ := pLoad (r := (rI .i64)) (q := q55) (x := (chart_count.mk s11 o38 o39).e) 0 S rfl
    obtain rfl : u57 = iv ((chart_count.mk s11 o38 o39).e) := S.mem.know (i := 1) (e := fRep (rI .i64) (u57) ((chart_count.mk s11 o38 o39).e)) rfl
    refine sLoadV1 (vq := q55) 0 (iv ((chart_count.mk s11 o38 o39).e)) S (wG 5 false 49 rfl rfl rfl rfl) rfl rfl rfl rfl rfl (lb rfl) fun a S => ?_
    refine sBin (.bool (((chart_count.mk s11 o38 o39).e) != 0)) S (wG 5 false 49 rfl rfl rfl rfl) rfl rfl rfl (bNe _ _ _ _ .i64 ((chart_count.mk s11 o38 o39).e) 0) rfl (lb rfl) fun a S => ?_
    refine sPickF (.bool (((chart_count.mk s11 o38 o39).e) != 0)) S (wN rfl) rfl rfl rfl rfl rfl (lb rfl) fun a S => ?_
    refine leafL (leafT (hK49 _ _ ?_))
    rcases iteSome h with ⟨hc58, h⟩ | ⟨hc58, h⟩
    · refine sCondT S rfl hc58 ?_
      obtain rfl := Option.some.inj h
      obtain rfl := hu14 _ rfl
      have h := g15
      clear g15
      try dsimp only at h
      exact wp_ret (rThen (rBlock (rThen (rThen (rBlock (sRet (.tuple #[]) S (res0 rfl) (sGoI S hC hJ (Option.some.inj h) _)))))))
    refine sCondF S rfl hc58 ?_
    refine wp_skip (leafT (hK48 _ _ ?_))
    refine sRegion ?_
    obtain ⟨q59, hq60, S⟩ := pFld (P := Try.prog) (r := r_chart_count) (s2 := (rI .i64)) (g := (·.after)) (q := .pointer (some ⟨b34, 0, none⟩)) (z := (chart_count.mk s11 o38 o39)) 120 1 3 1 S rfl rfl comp_chart_count_after
    refine sFldV (q := .pointer (some ⟨b34, 0, none⟩)) S (wN rfl) rfl rfl hq60 rfl (lb rfl) fun a S => ?_
    obtain ⟨u61, S⟩ := pLoad (r := (rI .i64)) (q := q59) (x := (chart_count.mk s11 o38 o39).after) 0 S rfl
    obtain rfl : u61 = iv ((chart_count.mk s11 o38 o39).after) := S.mem.know (i := 1) (e := fRep (rI .i64) (u61) ((chart_count.mk s11 o38 o39).after)) rfl
    refine sLoadV1 (vq := q59) 0 (iv ((chart_count.mk s11 o38 o39).after)) S (wN rfl) rfl rfl rfl rfl rfl (lb rfl) fun a S => ?_
    refine sMove (iv ((chart_count.mk s11 o38 o39).after)) S (wN rfl) (.inr rfl) rfl rfl (lb rfl) fun a S => ?_
    refine leafL (leafB (leafT (hK21 _ _ ?_)))
    refine sRegion ?_
    refine sBin (iv (w64 (s12 + 1))) S (wN rfl) rfl rfl rfl (bAdd _ _ _ _ s12 1) rfl (lb rfl) fun a S => ?_
    refine sMove (iv (w64 (s12 + 1))) S (wN rfl) (.inl rfl) rfl rfl (lb rfl) fun a S => ?_
    exact leafL (leafT (⟨((chart_count.mk s11 o38 o39).after, w64 (s12 + 1), gz53), (Option.some.inj h).symm, ⟨_, _, hJ, S.fix [] [8] (by decide) rfl rfl rfl⟩⟩))
  · obtain rfl := hb
    dsimp only at h
    refine list_inR (by repeat (first | exact roundU_out | exact it_out | exact lo_false | refine lo_then ?_ | refine lo_block ?_)) _ rfl _ _ ?_
    refine sNot (b := false) S (wN rfl) rfl rfl rfl (lb rfl) fun a S => ?_
    refine sMove (.bool true) S (wN rfl) (.inl rfl) rfl rfl (lb rfl) fun a S => ?_
    refine sSkip 5 false 49 50 S rfl rfl rfl rfl rfl (lb rfl) fun a S => ?_
    refine sSkip 5 false 49 51 S rfl rfl rfl rfl rfl (lb rfl) fun a S => ?_
    refine sSkip 5 false 49 52 S rfl rfl rfl rfl rfl (lb rfl) fun a S => ?_
    refine sPickT (.bool true) S (wN rfl) rfl rfl rfl rfl rfl (lb rfl) fun a S => ?_
    refine leafL (leafT (hK49 _ _ ?_))
    refine sCondT S rfl rfl ?_
    obtain rfl := Option.some.inj h
    obtain rfl := hu14 _ rfl
    have h := g15
    clear g15
    try dsimp only at h
    exact wp_ret (rThen (rBlock (rThen (rThen (rBlock (sRet (.tuple #[]) S (res0 rfl) (sStopI S hC hJ (Option.some.inj h) _)))))))

end Go.Proofs.Ytdbgkakmhlmpbaa
namespace Go.Proofs.Ytdbgkakmhlmpbaa
open Go.RowKit
set_option linter.unusedVariables false

noncomputable def chart_Check_l2  : Unit → (Int × chart_count) → Option (Unit ⊕ Int) := fun s0 x0 => match s0, x0 with
  | _, (x25, x27) =>
    if x27.e != 0 then
      some (.inr x27.e)
    else
      some (.inl ())
noncomputable def F_chart_Check (p0 : api_Chart) : Option Int :=
  if decide (100 < (p0.Rows.length : Int)) then
    some 4
  else
    Option.bind (α := Bool) (
      if decide (p0.Start < 0) then
        some true
      else
        some (decide (200 < p0.Start))) fun o13 =>
    if o13 then
      some 8
    else
      Option.bind (F_chart_counted p0) fun r21 =>
      Option.bind (I_chart_counted_1 r21 _ _ (chart_Check_l2) ()) fun z0 => match z0 with
        | .inl _ =>
          some 0
        | .inr e24 =>
          some e24
set_option maxHeartbeats 4000000 in
set_option maxRecDepth 100000 in
theorem c_chart_Check (E : Nat → Prop) (w0 : World) (p0 : api_Chart) (v0 : Value) (r : Int) (h : F_chart_Check p0 = some r) (S : St0 E [] w0 w0 [] [fRep r_api_Chart (v0) p0]) :
    Calls Try.prog 41 #[v0] w0 (Ret (X := Unit) E [] w0 (fun _ => .int .i64 r) (fun _ => []) (fun _ => [])) := by
  unfold F_chart_Check at h
  obtain ⟨u1, rfl, hu2⟩ := S.know (i := 0) (e := fRep r_api_Chart (v0) p0) rfl
  have S := S.learn (fRep (rL r_api_Row) u1 p0.Rows) hu2
  obtain ⟨ad3, cp4, _, rfl, _⟩ := hu2
  refine sEnterM (args := [.agg #[iv p0.Start, .slice ad3 p0.Rows.length cp4]]) 26 Try.func41 rfl rfl (by simp) S (fun a S => ?_)
  refine sSeq (fun K5 hK5 => ?_)
  refine sRegion ?_
  refine sBox (v := .agg #[iv p0.Start, .slice ad3 p0.Rows.length cp4]) S (wN rfl) rfl rfl [iv p0.Start, .slice ad3 p0.Rows.length cp4] rfl rfl (lb rfl) fun a b6 w S => ?_
  refine sAlloc (iv 0) S (wN rfl) rfl rfl [iv 0] rfl rfl (lb rfl) fun a b7 w S => ?_
  refine leafL (leafT (hK5 _ _ ?_))
  refine sSeq (fun K8 hK8 => ?_)
  refine sSeq (fun K9 hK9 => ?_)
  refine sRegion ?_
  refine sField (b := b6) (off := 0) 1 1 S (wN rfl) rfl rfl rfl rfl rfl (lb rfl) fun a S => ?_
  refine sLoad1 (p := b6) (off := 1) (T := 41) (vs := [iv p0.Start, .slice ad3 p0.Rows.length cp4]) 1 (.slice ad3 p0.Rows.length cp4) S (wN rfl) rfl rfl rfl rfl rfl rfl (lb rfl) fun a S => ?_
  refine sLen (ad := ad3) (m := p0.Rows.length) (c := cp4) S (wN rfl) rfl Try.underlying39 rfl rfl (lb rfl) fun a S => ?_
  refine sBin (.bool (decide (100 < (p0.Rows.length : Int)))) S (wN rfl) rfl rfl rfl (bGt _ _ _ _ .i64 (p0.Rows.length : Int) 100) rfl (lb rfl) fun a S => ?_
  refine leafL (leafT (hK9 _ _ ?_))
  rcases iteSome h with ⟨hc10, h⟩ | ⟨hc10, h⟩
  · refine sCondT S rfl hc10 ?_
    refine sSeq (fun K11 hK11 => ?_)
    refine sRegion ?_
    refine sStore (p := b7) (off := 0) (T := 28) (vs := [iv 0]) (v := iv 4) 0 [iv 4] S (wN rfl) rfl rfl rfl rfl rfl rfl rfl (by simp) rfl fun a w S => ?_
    refine leafL (leafT (hK11 _ _ ?_))
    obtain rfl := Option.some.inj h
    exact wp_ret (rThen (sRetM0 (iv 4) S (rsl1 rfl (rv1 (c := 2) (t := 28) (T := 28) (p := b7) 0 (iv 4) S rfl rfl rfl)) ⟨(), rfl, S.mem.sel [] [] (by decide) rfl rfl⟩))
  refine sCondF S rfl hc10 ?_
  refine wp_skip (leafT (hK8 _ _ ?_))
  refine sSeq (fun K12 hK12 => ?_)
  obtain ⟨t14, h, g15⟩ := bindSome h
  refine sCut (fun a w => ∃ o13, o13 = t14 ∧ St [] E [] w0 26 a w [(1, .pointer (some ⟨b6, 0, none⟩)), (2, .pointer (some ⟨b7, 0, none⟩)), (16, .bool o13)] [eBox b6 41 [iv p0.Start, .slice ad3 p0.Rows.length cp4], eBox b7 28 [iv 0]] [fRep (rL r_api_Row) (.slice ad3 p0.Rows.length cp4) p0.Rows]) ?_ (fun a w hI => ?_)
  · refine sRegion ?_
    refine sField (b := b6) (off := 0) 0 0 S (wN rfl) rfl rfl rfl rfl rfl (lb rfl) fun a S => ?_
    refine sLoad1 (p := b6) (off := 0) (T := 41) (vs := [iv p0.Start, .slice ad3 p0.Rows.length cp4]) 1 (iv p0.Start) S (wN rfl) rfl rfl rfl rfl rfl rfl (lb rfl) fun a S => ?_
    refine sBin (.bool (decide (p0.Start < 0))) S (wN rfl) rfl rfl rfl (bLt _ _ _ _ .i64 p0.Start 0) rfl (lb rfl) fun a S => ?_
    refine sMove (.bool (decide (p0.Start < 0))) S (wN rfl) (.inl rfl) rfl rfl (lb rfl) fun a S => ?_
    rcases iteSome h with ⟨hc16, h⟩ | ⟨hc16, h⟩
    · refine sSkip 3 false 12 13 S rfl rfl rfl hc16 rfl (lb rfl) fun a S => ?_
      refine sSkip 3 false 12 14 S rfl rfl rfl hc16 rfl (lb rfl) fun a S => ?_
      refine sSkip 3 false 12 15 S rfl rfl rfl hc16 rfl (lb rfl) fun a S => ?_
      refine sPickT (.bool true) S (wN rfl) rfl rfl hc16 rfl rfl (lb rfl) fun a S => ?_
      exact leafL (leafT (⟨true, Option.some.inj h, S.fix [1, 0] [0] (by decide) rfl rfl rfl⟩))
    refine sField (b := b6) (off := 0) 0 0 S (wG 3 false 12 rfl rfl rfl hc16) rfl rfl rfl rfl rfl (lb rfl) fun a S => ?_
    refine sLoad1 (p := b6) (off := 0) (T := 41) (vs := [iv p0.Start, .slice ad3 p0.Rows.length cp4]) 1 (iv p0.Start) S (wG 3 false 12 rfl rfl rfl hc16) rfl rfl rfl rfl rfl rfl (lb rfl) fun a S => ?_
    refine sBin (.bool (decide (200 < p0.Start))) S (wG 3 false 12 rfl rfl rfl hc16) rfl rfl rfl (bGt _ _ _ _ .i64 p0.Start 200) rfl (lb rfl) fun a S => ?_
    refine sPickF (.bool (decide (200 < p0.Start))) S (wN rfl) rfl rfl hc16 rfl rfl (lb rfl) fun a S => ?_
    exact leafL (leafT (⟨decide (200 < p0.Start), Option.some.inj h, S.fix [1, 0] [0] (by decide) rfl rfl rfl⟩))
  obtain ⟨o13, rfl, S⟩ := hI
  have h := g15
  clear g15
  try dsimp only at h
  rcases iteSome h with ⟨hc17, h⟩ | ⟨hc17, h⟩
  · refine sCondT S rfl hc17 ?_
    refine sSeq (fun K18 hK18 => ?_)
    refine sRegion ?_
    refine sStore (p := b7) (off := 0) (T := 28) (vs := [iv 0]) (v := iv 8) 1 [iv 8] S (wN rfl) rfl rfl rfl rfl rfl rfl rfl (by simp) rfl fun a w S => ?_
    refine leafL (leafT (hK18 _ _ ?_))
    obtain rfl := Option.some.inj h
    exact wp_ret (rThen (sRetM0 (iv 8) S (rsl1 rfl (rv1 (c := 2) (t := 28) (T := 28) (p := b7) 0 (iv 8) S rfl rfl rfl)) ⟨(), rfl, S.mem.sel [] [] (by decide) rfl rfl⟩))
  refine sCondF S rfl hc17 ?_
  refine wp_skip (leafT (hK12 _ _ ?_))
  refine sSeq (fun K19 hK19 => ?_)
  refine sSeq (fun K20 hK20 => ?_)
  refine sRegion ?_
  refine sLoadN (p := b6) (off := 0) (T := 41) (vs := [iv p0.Start, .slice ad3 p0.Rows.length cp4]) 0 [iv p0.Start, .slice ad3 p0.Rows.length cp4] S (wN rfl) rfl rfl rfl rfl rfl rfl rfl (lb rfl) fun a S => ?_
  obtain ⟨r21, hx22, h⟩ := bindSome h
  have S := S.learn (fRep r_api_Chart (.agg #[iv p0.Start, .slice ad3 p0.Rows.length cp4]) p0) ⟨_, rfl, S.mem.know (i := 0) (e := fRep (rL r_api_Row) (.slice ad3 p0.Rows.length cp4) p0.Rows) rfl⟩
  refine sCall (X := Value) (f := 64) (vs := [.agg #[iv p0.Start, .slice ad3 p0.Rows.length cp4]]) (val := c_chart_counted_val r21) (B' := fun _ => []) (D' := c_chart_counted_D r21) [] [eBox b6 41 [iv p0.Start, .slice ad3 p0.Rows.length cp4], eBox b7 28 [iv 0]] [fRep r_api_Chart (.agg #[iv p0.Start, .slice ad3 p0.Rows.length cp4]) p0] [0, 1] [0] S (wN rfl) rfl callee64 rfl (by decide) rfl rfl (fun E1 w1 S1 => c_chart_counted E1 w1 p0 (.agg #[iv p0.Start, .slice ad3 p0.Rows.length cp4]) r21 hx22 S1) rfl (lb rfl) fun u23 a w S => ?_
  refine leafL (leafT (hK20 _ _ ?_))
  refine wp_block ?_
  obtain ⟨t35, hl36, g34⟩ := bindSome h
  replace S : St [] E [] w0 26 a w [(2, .pointer (some ⟨b7, 0, none⟩)), (18, .func (.func 85) #[] #[u23])] [eBox b7 28 [iv 0]] [fPtr r_api_Chart (u23) r21] := S.fix [1] [0] (by decide) rfl rfl rfl
  refine sRange2 (B := chart_Check_l2) (fun s0 L D => match s0 with | _ => L = [eBox b7 28 [iv 0]] ∧ D = [fPtr r_api_Chart (u23) r21]) (fun t0 c L D => match t0 with | e24 => c = .ret ∧ L = [eBox b7 28 [iv e24]] ∧ D = []) [0] S hl36 rfl callee85 (it_chart_counted_1 r21 u23) rfl (by decide) (by decide) ⟨rfl, rfl⟩ ?_ ?_ ?_
  · intro E l0 s0 x25 x27 u26 u28 b L D K a w0 hK hIL hB S
    clear hl36 g34 h hK
    unfold chart_Check_l2 at hB
    dsimp only at hB hIL
    obtain ⟨rfl, rfl⟩ := hIL
    have h := hB
    clear hB
    obtain rfl : u26 = iv x25 := S.mem.know (i := 0) (e := fRep (rI .i64) (u26) x25) rfl
    obtain rfl : u28 = .agg #[iv x27.before, iv x27.after, iv x27.e] := S.mem.know (i := 1) (e := fRep r_chart_count (u28) x27) rfl
    refine sRegionR (by repeat (first | exact roundU_out | exact it_out | exact lo_false | refine lo_then ?_ | refine lo_block ?_)) rfl ?_
    refine sAlloc (.agg #[iv 0, iv 0, iv 0]) S (wN rfl) rfl rfl [iv 0, iv 0, iv 0] rfl rfl (lb rfl) fun a b29 w S => ?_
    refine sStore (p := b29) (off := 0) (T := 120) (vs := [iv 0, iv 0, iv 0]) (v := .agg #[iv x27.before, iv x27.after, iv x27.e]) 0 [iv x27.before, iv x27.after, iv x27.e] S (wN rfl) rfl rfl rfl rfl rfl rfl rfl (by simp) rfl fun a w S => ?_
    refine leafL (leafT (⟨_, _, _, S, fun K a w0 hK S => ?_⟩))
    refine wpIn_block ?_
    refine sSeqR (fun K30 hK30 => ?_)
    refine sRegionR (by repeat (first | exact roundU_out | exact it_out | exact lo_false | refine lo_then ?_ | refine lo_block ?_)) rfl ?_
    refine sField (b := b29) (off := 0) 2 2 S (wN rfl) rfl rfl rfl rfl rfl (lb rfl) fun a S => ?_
    refine sLoad1 (p := b29) (off := 2) (T := 120) (vs := [iv x27.before, iv x27.after, iv x27.e]) 0 (iv x27.e) S (wN rfl) rfl rfl rfl rfl rfl rfl (lb rfl) fun a S => ?_
    refine sBin (.bool (x27.e != 0)) S (wN rfl) rfl rfl rfl (bNe _ _ _ _ .i64 x27.e 0) rfl (lb rfl) fun a S => ?_
    refine leafL (leafT (hK30 _ _ ?_))
    rcases iteSome h with ⟨hc31, h⟩ | ⟨hc31, h⟩
    rotate_left
    · refine sCondFR S rfl hc31 ?_
      exact wpIn_skip (leafB (rnN () _ _ [] (Option.some.inj h) ⟨rfl, rfl⟩ (S.fix [1] [2] (by decide) rfl rfl rfl)))
    refine sCondTR S rfl hc31 ?_
    refine sSeqR (fun K32 hK32 => ?_)
    refine sRegionR (by repeat (first | exact roundU_out | exact it_out | exact lo_false | refine lo_then ?_ | refine lo_block ?_)) rfl ?_
    refine sField (b := b29) (off := 0) 2 2 S (wN rfl) rfl rfl rfl rfl rfl (lb rfl) fun a S => ?_
    refine sLoad1 (p := b29) (off := 2) (T := 120) (vs := [iv x27.before, iv x27.after, iv x27.e]) 0 (iv x27.e) S (wN rfl) rfl rfl rfl rfl rfl rfl (lb rfl) fun a S => ?_
    refine sStore (p := b7) (off := 0) (T := 28) (vs := [iv 0]) (v := iv x27.e) 1 [iv x27.e] S (wN rfl) rfl rfl rfl rfl rfl rfl rfl (by simp) rfl fun a w S => ?_
    refine leafL (leafT (hK32 _ _ ?_))
    exact wpIn_ret (rBlock (rnR x27.e _ _ [] (Option.some.inj h) ⟨rfl, rfl, rfl⟩ (S.fix [0] [] (by decide) rfl rfl rfl)))
  · intro dk33 s0 L D a w hr hIL S
    clear h
    obtain rfl := hr
    dsimp only at g34 hIL
    obtain ⟨rfl, rfl⟩ := hIL
    have h := g34
    clear g34 hl36
    replace S : St [mark dk33] E [] w0 26 a w [(2, .pointer (some ⟨b7, 0, none⟩)), (18, .func (.func 85) #[] #[u23])] [eBox b7 28 [iv 0], eDef dk33] [fPtr r_api_Chart (u23) r21] := S
    refine leafB (leafT (hK19 _ _ ?_))
    refine sSeq (fun K37 hK37 => ?_)
    refine sRegion ?_
    refine sStore (p := b7) (off := 0) (T := 28) (vs := [iv 0]) (v := iv 0) 0 [iv 0] S (wN rfl) rfl rfl rfl rfl rfl rfl rfl (by simp) rfl fun a w S => ?_
    refine leafL (leafT (hK37 _ _ ?_))
    refine wp_ret (sRetM1 1 S rfl (fun a w S => ?_))
    obtain rfl := Option.some.inj h
    exact sFin (iv 0) S (rsl1 rfl (rv1 (c := 2) (t := 28) (T := 28) (p := b7) 0 (iv 0) S rfl rfl rfl)) ⟨(), rfl, S.mem.sel [] [] (by decide) rfl rfl⟩
  · intro dk33 c0 e24 L D a w hr hIX S
    clear h
    obtain rfl := hr
    dsimp only at g34 hIX
    obtain ⟨rfl, rfl, rfl⟩ := hIX
    have h := g34
    clear g34 hl36
    replace S : St [mark dk33] E [] w0 26 a w [(2, .pointer (some ⟨b7, 0, none⟩)), (18, .func (.func 85) #[] #[u23])] [eBox b7 28 [iv e24], eDef dk33] [] := S
    refine wp_ret (rBlock (rThen (sRetM1 1 S rfl (fun a w S => ?_))))
    obtain rfl := Option.some.inj h
    exact sFin (iv e24) S (rsl1 rfl (rv1 (c := 2) (t := 28) (T := 28) (p := b7) 0 (iv e24) S rfl rfl rfl)) ⟨(), rfl, S.mem.sel [] [] (by decide) rfl rfl⟩

end Go.Proofs.Ytdbgkakmhlmpbaa
namespace Go.Proofs.Ytdbgkakmhlmpbaa
open Go.RowKit
set_option linter.unusedVariables false

noncomputable def cost_Count_l1 (x74 : api_Row) : (Int × Int × Int × Int × Int × Int × Int × Int × Int × Int × Int × Int) → Option ((Int × Int × Int × Int × Int × Int × Int × Int × Int × Int × Int × Int) ⊕ (Int × Int × Int × Int × Int × Int × Int × Int × Int × Int × Int)) := fun s0 => match s0 with
  | (s85, s86, s87, s88, s89, s90, s91, s92, s93, s94, s95, s96) =>
    if decide (s85 < (x74.Cells.length : Int)) then
      Option.bind (idxO x74.Cells s85) fun x116 =>
      Option.bind (idxO ([s86, s87, s88, s89, s90, s91, s92, s93, s94, s95, s96] : List Int) x116.Kind) fun x122 =>
      some (.inl (w64 (s85 + 1), (if x116.Kind = 0 then w64 (x122 + 1) else s86), (if x116.Kind = 1 then w64 (x122 + 1) else s87), (if x116.Kind = 2 then w64 (x122 + 1) else s88), (if x116.Kind = 3 then w64 (x122 + 1) else s89), (if x116.Kind = 4 then w64 (x122 + 1) else s90), (if x116.Kind = 5 then w64 (x122 + 1) else s91), (if x116.Kind = 6 then w64 (x122 + 1) else s92), (if x116.Kind = 7 then w64 (x122 + 1) else s93), (if x116.Kind = 8 then w64 (x122 + 1) else s94), (if x116.Kind = 9 then w64 (x122 + 1) else s95), (if x116.Kind = 10 then w64 (x122 + 1) else s96)))
    else
      some (.inr (s86, s87, s88, s89, s90, s91, s92, s93, s94, s95, s96))
noncomputable def cost_Count_l2 (p0 : api_Chart) : (Int × Int × Int × Int × Int × Int × Int × Int × Int × Int × Int × Int) → Option ((Int × Int × Int × Int × Int × Int × Int × Int × Int × Int × Int × Int) ⊕ (Int × Int × Int × Int × Int × Int × Int × Int × Int × Int × Int)) := fun s0 => match s0 with
  | (s31, s32, s33, s34, s35, s36, s37, s38, s39, s40, s41, s42) =>
    if decide (s31 < (p0.Rows.length : Int)) then
      Option.bind (α := (Int × Int × Int × Int × Int × Int × Int × Int × Int × Int × Int)) (
        Option.bind (idxO p0.Rows s31) fun x74 =>
        Option.bind (whileO (cost_Count_l1 x74) (0, s32, s33, s34, s35, s36, s37, s38, s39, s40, s41, s42)) fun (e100, e101, e102, e103, e104, e105, e106, e107, e108, e109, e110) =>
          some (e100, e101, e102, e103, e104, e105, e106, e107, e108, e109, e110)) fun (o60, o61, o62, o63, o64, o65, o66, o67, o68, o69, o70) =>
      some (.inl (w64 (s31 + 1), o60, o61, o62, o63, o64, o65, o66, o67, o68, o69, o70))
    else
      some (.inr (s32, s33, s34, s35, s36, s37, s38, s39, s40, s41, s42))
noncomputable def F_cost_Count (p0 : api_Chart) : Option ((Int × Int × Int × Int × Int × Int × Int × Int × Int × Int × Int) × Int) :=
  Option.bind (F_chart_Check p0) fun r12 =>
  if r12 != 0 then
    some ((0, 0, 0, 0, 0, 0, 0, 0, 0, 0, 0), r12)
  else
    Option.bind (α := (Int × Int × Int × Int × Int × Int × Int × Int × Int × Int × Int)) (
      Option.bind (whileO (cost_Count_l2 p0) (0, 0, 0, 0, 0, 0, 0, 0, 0, 0, 0, 0)) fun (e46, e47, e48, e49, e50, e51, e52, e53, e54, e55, e56) =>
        some (e46, e47, e48, e49, e50, e51, e52, e53, e54, e55, e56)) fun (o17, o18, o19, o20, o21, o22, o23, o24, o25, o26, o27) =>
    some ((o17, o18, o19, o20, o21, o22, o23, o24, o25, o26, o27), 0)
def c_cost_Count_val (r : ((Int × Int × Int × Int × Int × Int × Int × Int × Int × Int × Int) × Int)) (x : Value) : Value := .tuple #[x, .int .i64 r.2]
def c_cost_Count_D (r : ((Int × Int × Int × Int × Int × Int × Int × Int × Int × Int × Int) × Int)) (x : Value) : List Fact := [fRep r_A11_Int x r.1]
set_option maxHeartbeats 4000000 in
set_option maxRecDepth 100000 in
theorem c_cost_Count (E : Nat → Prop) (w0 : World) (p0 : api_Chart) (v0 : Value) (r : ((Int × Int × Int × Int × Int × Int × Int × Int × Int × Int × Int) × Int)) (h : F_cost_Count p0 = some r) (S : St0 E [] w0 w0 [] [fRep r_api_Chart (v0) p0]) :
    Calls Try.prog 16 #[v0] w0 (Ret (X := Value) E [] w0 (c_cost_Count_val r) (fun _ => []) (c_cost_Count_D r)) := by
  unfold F_cost_Count at h
  obtain ⟨u1, rfl, hu2⟩ := S.know (i := 0) (e := fRep r_api_Chart (v0) p0) rfl
  have S := S.learn (fRep (rL r_api_Row) u1 p0.Rows) hu2
  obtain ⟨ad3, cp4, _, rfl, _⟩ := hu2
  refine sEnter (args := [.agg #[iv p0.Start, .slice ad3 p0.Rows.length cp4]]) 39 Try.func16 rfl rfl (by simp) S (fun a S => ?_)
  refine sSeq (fun K5 hK5 => ?_)
  refine sRegion ?_
  refine sBox (v := .agg #[iv p0.Start, .slice ad3 p0.Rows.length cp4]) S (wN rfl) rfl rfl [iv p0.Start, .slice ad3 p0.Rows.length cp4] rfl rfl (lb rfl) fun a b6 w S => ?_
  refine sAlloc (gv_A11_Int (0, 0, 0, 0, 0, 0, 0, 0, 0, 0, 0)) S (wN rfl) rfl rfl (gl_A11_Int (0, 0, 0, 0, 0, 0, 0, 0, 0, 0, 0)) rfl rfl (lb rfl) fun a b7 w S => ?_
  refine sMove (iv 0) S (wN rfl) (.inr rfl) rfl rfl (lb rfl) fun a S => ?_
  refine leafL (leafT (hK5 _ _ ?_))
  refine sSeq (fun K8 hK8 => ?_)
  refine sRegion ?_
  refine sAlloc (gv_A11_Int (0, 0, 0, 0, 0, 0, 0, 0, 0, 0, 0)) S (wN rfl) rfl rfl (gl_A11_Int (0, 0, 0, 0, 0, 0, 0, 0, 0, 0, 0)) rfl rfl (lb rfl) fun a b9 w S => ?_
  refine leafL (leafT (hK8 _ _ ?_))
  refine sSeq (fun K10 hK10 => ?_)
  refine sSeq (fun K11 hK11 => ?_)
  refine sRegion ?_
  refine sLoadN (p := b6) (off := 0) (T := 41) (vs := [iv p0.Start, .slice ad3 p0.Rows.length cp4]) 2 [iv p0.Start, .slice ad3 p0.Rows.length cp4] S (wN rfl) rfl rfl rfl rfl rfl rfl rfl (lb rfl) fun a S => ?_
  obtain ⟨r12, hx13, h⟩ := bindSome h
  have S1 := S.mem
  refine sCallQ (X := Unit) (f := 41) (vs := [.agg #[iv p0.Start, .slice ad3 p0.Rows.length cp4]]) (val := fun _ => iv r12) S (wN rfl) rfl callee41 rfl (S1.quiet [1] rfl) (fun E1 w1 S1 => c_chart_Check E1 w1 p0 (.agg #[iv p0.Start, .slice ad3 p0.Rows.length cp4]) r12 hx13 S1) rfl (lb rfl) fun _ a w S => ?_
  refine sMove (iv r12) S (wN rfl) (.inr rfl) rfl rfl (lb rfl) fun a S => ?_
  refine leafL (leafT (hK11 _ _ ?_))
  refine sSeq (fun K14 hK14 => ?_)
  refine sRegion ?_
  refine sMove (iv r12) S (wN rfl) (.inl rfl) rfl rfl (lb rfl) fun a S => ?_
  refine sBin (.bool (r12 != 0)) S (wN rfl) rfl rfl rfl (bNe _ _ _ _ .i64 r12 0) rfl (lb rfl) fun a S => ?_
  refine leafL (leafT (hK14 _ _ ?_))
  rcases iteSome h with ⟨hc15, h⟩ | ⟨hc15, h⟩
  · refine sCondT S rfl hc15 ?_
    refine sSeq (fun K16 hK16 => ?_)
    refine sRegion ?_
    refine sLoadN (p := b9) (off := 0) (T := 42) (vs := (gl_A11_Int (0, 0, 0, 0, 0, 0, 0, 0, 0, 0, 0))) 0 (gl_A11_Int (0, 0, 0, 0, 0, 0, 0, 0, 0, 0, 0)) S (wN rfl) rfl rfl rfl rfl rfl rfl rfl (lb rfl) fun a S => ?_
    refine sMove (iv r12) S (wN rfl) (.inl rfl) rfl rfl (lb rfl) fun a S => ?_
    refine sStore (p := b7) (off := 0) (T := 42) (vs := [iv 0, iv 0, iv 0, iv 0, iv 0, iv 0, iv 0, iv 0, iv 0, iv 0, iv 0]) (v := gv_A11_Int (0, 0, 0, 0, 0, 0, 0, 0, 0, 0, 0)) 1 [iv 0, iv 0, iv 0, iv 0, iv 0, iv 0, iv 0, iv 0, iv 0, iv 0, iv 0] S (wN rfl) rfl rfl rfl rfl rfl rfl rfl (by simp) rfl fun a w S => ?_
    refine sMove (iv r12) S (wN rfl) (.inr rfl) rfl rfl (lb rfl) fun a S => ?_
    refine leafL (leafT (hK16 _ _ ?_))
    obtain rfl := Option.some.inj h
    have S := S.learn (fRep r_A11_Int (gv_A11_Int (0, 0, 0, 0, 0, 0, 0, 0, 0, 0, 0)) (0, 0, 0, 0, 0, 0, 0, 0, 0, 0, 0)) rfl
    exact wp_ret (rThen (sRet (.tuple #[gv_A11_Int (0, 0, 0, 0, 0, 0, 0, 0, 0, 0, 0), iv r12]) S (rsl2 rfl (rvN (c := 2) (t := 42) (T := 42) (p := b7) 0 [iv 0, iv 0, iv 0, iv 0, iv 0, iv 0, iv 0, iv 0, iv 0, iv 0, iv 0] S rfl rfl rfl rfl) (rvT (t := 3) (v := iv r12) S rfl)) ⟨(gv_A11_Int (0, 0, 0, 0, 0, 0, 0, 0, 0, 0, 0)), rfl, S.mem.sel [] [0] (by decide) rfl rfl⟩))
  refine sCondF S rfl hc15 ?_
  refine wp_skip (leafT (hK10 _ _ ?_))
  obtain ⟨t28, h, g29⟩ := bindSome h
  refine sCut (fun a w => ∃ o17, ∃ o18, ∃ o19, ∃ o20, ∃ o21, ∃ o22, ∃ o23, ∃ o24, ∃ o25, ∃ o26, ∃ o27, (o17, o18, o19, o20, o21, o22, o23, o24, o25, o26, o27) = t28 ∧ St [] E [] w0 39 a w [(2, .pointer (some ⟨b7, 0, none⟩)), (4, .pointer (some ⟨b9, 0, none⟩))] [eBox b7 42 (gl_A11_Int (0, 0, 0, 0, 0, 0, 0, 0, 0, 0, 0)), eBox b9 42 (gl_A11_Int (o17, o18, o19, o20, o21, o22, o23, o24, o25, o26, o27))] []) ?_ (fun a w hI => ?_)
  rotate_left
  · obtain ⟨o17, o18, o19, o20, o21, o22, o23, o24, o25, o26, o27, rfl, S⟩ := hI
    have h := g29
    clear g29
    try dsimp only at h
    refine sSeq (fun K125 hK125 => ?_)
    refine sRegion ?_
    refine sLoadN (p := b9) (off := 0) (T := 42) (vs := (gl_A11_Int (o17, o18, o19, o20, o21, o22, o23, o24, o25, o26, o27))) 1 (gl_A11_Int (o17, o18, o19, o20, o21, o22, o23, o24, o25, o26, o27)) S (wN rfl) rfl rfl rfl rfl rfl rfl rfl (lb rfl) fun a S => ?_
    refine sStore (p := b7) (off := 0) (T := 42) (vs := [iv 0, iv 0, iv 0, iv 0, iv 0, iv 0, iv 0, iv 0, iv 0, iv 0, iv 0]) (v := gv_A11_Int (o17, o18, o19, o20, o21, o22, o23, o24, o25, o26, o27)) 0 [iv o17, iv o18, iv o19, iv o20, iv o21, iv o22, iv o23, iv o24, iv o25, iv o26, iv o27] S (wN rfl) rfl rfl rfl rfl rfl rfl rfl (by simp) rfl fun a w S => ?_
    refine sMove (iv 0) S (wN rfl) (.inr rfl) rfl rfl (lb rfl) fun a S => ?_
    refine leafL (leafT (hK125 _ _ ?_))
    obtain rfl := Option.some.inj h
    have S := S.learn (fRep r_A11_Int (gv_A11_Int (o17, o18, o19, o20, o21, o22, o23, o24, o25, o26, o27)) (o17, o18, o19, o20, o21, o22, o23, o24, o25, o26, o27)) rfl
    exact wp_ret (sRet (.tuple #[gv_A11_Int (o17, o18, o19, o20, o21, o22, o23, o24, o25, o26, o27), iv 0]) S (rsl2 rfl (rvN (c := 2) (t := 42) (T := 42) (p := b7) 0 [iv o17, iv o18, iv o19, iv o20, iv o21, iv o22, iv o23, iv o24, iv o25, iv o26, iv o27] S rfl rfl rfl rfl) (rvT (t := 3) (v := iv 0) S rfl)) ⟨(gv_A11_Int (o17, o18, o19, o20, o21, o22, o23, o24, o25, o26, o27)), rfl, S.mem.sel [] [0] (by decide) rfl rfl⟩)
  refine sSeq (fun K30 hK30 => ?_)
  refine sRegion ?_
  refine sField (b := b6) (off := 0) 1 1 S (wN rfl) rfl rfl rfl rfl rfl (lb rfl) fun a S => ?_
  refine sLoad1 (p := b6) (off := 1) (T := 41) (vs := [iv p0.Start, .slice ad3 p0.Rows.length cp4]) 2 (.slice ad3 p0.Rows.length cp4) S (wN rfl) rfl rfl rfl rfl rfl rfl (lb rfl) fun a S => ?_
  refine sLen (ad := ad3) (m := p0.Rows.length) (c := cp4) S (wN rfl) rfl Try.underlying39 rfl rfl (lb rfl) fun a S => ?_
  refine sMove (iv 0) S (wN rfl) (.inl rfl) rfl rfl (lb rfl) fun a S => ?_
  refine leafL (leafT (hK30 _ _ ?_))
  refine wp_block ?_
  obtain ⟨t45, hl, g44⟩ := bindSome h
  refine sLoop hl (fun s0 a w => match s0 with | (s31, s32, s33, s34, s35, s36, s37, s38, s39, s40, s41, s42) => St [] E [] w0 39 a w [(2, .pointer (some ⟨b7, 0, none⟩)), (4, .pointer (some ⟨b9, 0, none⟩)), (17, .slice ad3 p0.Rows.length cp4), (18, iv (p0.Rows.length : Int)), (19, iv s31)] [eBox b7 42 (gl_A11_Int (0, 0, 0, 0, 0, 0, 0, 0, 0, 0, 0)), eBox b9 42 (gl_A11_Int (s32, s33, s34, s35, s36, s37, s38, s39, s40, s41, s42))] [fRep (rL r_api_Row) (.slice ad3 p0.Rows.length cp4) p0.Rows]) (S.fix [1, 0] [0] (by decide) rfl rfl rfl) ?_
  clear hl h
  intro s0 a w c0 hI h hu43
  obtain ⟨s31, s32, s33, s34, s35, s36, s37, s38, s39, s40, s41, s42⟩ := s0
  unfold cost_Count_l2 at h
  dsimp only at h hI
  have S := hI
  refine sSeq (fun K57 hK57 => ?_)
  refine sRegion ?_
  refine sBin (.bool (decide (s31 < (p0.Rows.length : Int)))) S (wN rfl) rfl rfl rfl (bLt _ _ _ _ .i64 s31 (p0.Rows.length : Int)) rfl (lb rfl) fun a S => ?_
  refine leafL (leafT (hK57 _ _ ?_))
  refine sSeq (fun K58 hK58 => ?_)
  rcases iteSome h with ⟨hc59, h⟩ | ⟨hc59, h⟩
  rotate_left
  · refine sCondF S rfl hc59 ?_
    obtain rfl := Option.some.inj h
    obtain rfl := hu43 _ rfl
    have h := g44
    clear g44
    try dsimp only at h
    exact wp_exit (xThen (xThen (xHit (leafT (⟨s32, s33, s34, s35, s36, s37, s38, s39, s40, s41, s42, Option.some.inj h, S.fix [0, 1] [] (by decide) rfl rfl rfl⟩)))))
  refine sCondT S rfl hc59 ?_
  refine wp_skip (leafT (hK58 _ _ ?_))
  obtain ⟨t71, h, g72⟩ := bindSome h
  refine sCut (fun a w => ∃ o60, ∃ o61, ∃ o62, ∃ o63, ∃ o64, ∃ o65, ∃ o66, ∃ o67, ∃ o68, ∃ o69, ∃ o70, (o60, o61, o62, o63, o64, o65, o66, o67, o68, o69, o70) = t71 ∧ St [] E [] w0 39 a w [(2, .pointer (some ⟨b7, 0, none⟩)), (4, .pointer (some ⟨b9, 0, none⟩)), (17, .slice ad3 p0.Rows.length cp4), (18, iv (p0.Rows.length : Int)), (19, iv s31)] [eBox b7 42 (gl_A11_Int (0, 0, 0, 0, 0, 0, 0, 0, 0, 0, 0)), eBox b9 42 (gl_A11_Int (o60, o61, o62, o63, o64, o65, o66, o67, o68, o69, o70))] [fRep (rL r_api_Row) (.slice ad3 p0.Rows.length cp4) p0.Rows]) ?_ (fun a w hI => ?_)
  rotate_left
  · obtain ⟨o60, o61, o62, o63, o64, o65, o66, o67, o68, o69, o70, rfl, S⟩ := hI
    have h := g72
    clear g72
    try dsimp only at h
    refine sRegion ?_
    refine sBin (iv (w64 (s31 + 1))) S (wN rfl) rfl rfl rfl (bAdd _ _ _ _ s31 1) rfl (lb rfl) fun a S => ?_
    refine sMove (iv (w64 (s31 + 1))) S (wN rfl) (.inl rfl) rfl rfl (lb rfl) fun a S => ?_
    exact leafL (leafT (⟨(w64 (s31 + 1), o60, o61, o62, o63, o64, o65, o66, o67, o68, o69, o70), (Option.some.inj h).symm, (S.fix [0, 1] [0] (by decide) rfl rfl rfl)⟩))
  refine wp_block ?_
  refine sSeq (fun K73 hK73 => ?_)
  refine sRegion ?_
  obtain ⟨x74, hx75, h⟩ := bindSome h
  obtain ⟨q76, hq77, S⟩ := pIdx (P := Try.prog) (r := r_api_Row) (v := .slice ad3 p0.Rows.length cp4) (xs := p0.Rows) (j := s31) 39 72 0 S Try.underlying39 rfl rfl hx75
  refine sIdxV (v := .slice ad3 p0.Rows.length cp4) (k := .i64) (j := s31) S (wN rfl) rfl rfl rfl hq77 rfl (lb rfl) fun a S => ?_
  obtain ⟨u78, S⟩ := pLoad (r := r_api_Row) (q := q76) (x := x74) 0 S rfl
  obtain ⟨u79, rfl, hu80⟩ := S.mem.know (i := 1) (e := fRep r_api_Row (u78) x74) rfl
  have S := S.learn (fRep (rL r_api_Stitch) u79 x74.Cells) hu80
  obtain ⟨ad81, cp82, _, rfl, _⟩ := hu80
  refine sLoadVN (vq := q76) 1 [.bool x74.Back, .slice ad81 x74.Cells.length cp82] S (wN rfl) rfl rfl rfl rfl rfl rfl (lb rfl) fun a S => ?_
  refine sAlloc (.agg #[.bool false, .slice none 0 0]) S (wN rfl) rfl rfl [.bool false, .slice none 0 0] rfl rfl (lb rfl) fun a b83 w S => ?_
  refine sStore (p := b83) (off := 0) (T := 72) (vs := [.bool false, .slice none 0 0]) (v := .agg #[.bool x74.Back, .slice ad81 x74.Cells.length cp82]) 0 [.bool x74.Back, .slice ad81 x74.Cells.length cp82] S (wN rfl) rfl rfl rfl rfl rfl rfl rfl (by simp) rfl fun a w S => ?_
  refine leafL (leafT (hK73 _ _ ?_))
  refine sSeq (fun K84 hK84 => ?_)
  refine sRegion ?_
  refine sField (b := b83) (off := 0) 1 1 S (wN rfl) rfl rfl rfl rfl rfl (lb rfl) fun a S => ?_
  refine sLoad1 (p := b83) (off := 1) (T := 72) (vs := [.bool x74.Back, .slice ad81 x74.Cells.length cp82]) 0 (.slice ad81 x74.Cells.length cp82) S (wN rfl) rfl rfl rfl rfl rfl rfl (lb rfl) fun a S => ?_
  refine sLen (ad := ad81) (m := x74.Cells.length) (c := cp82) S (wN rfl) rfl Try.underlying70 rfl rfl (lb rfl) fun a S => ?_
  refine sMove (iv 0) S (wN rfl) (.inl rfl) rfl rfl (lb rfl) fun a S => ?_
  refine leafL (leafT (hK84 _ _ ?_))
  refine wp_block ?_
  obtain ⟨t99, hl, g98⟩ := bindSome h
  refine sLoop hl (fun s0 a w => match s0 with | (s85, s86, s87, s88, s89, s90, s91, s92, s93, s94, s95, s96) => St [] E [] w0 39 a w [(2, .pointer (some ⟨b7, 0, none⟩)), (4, .pointer (some ⟨b9, 0, none⟩)), (17, .slice ad3 p0.Rows.length cp4), (18, iv (p0.Rows.length : Int)), (19, iv s31), (24, .slice ad81 x74.Cells.length cp82), (25, iv (x74.Cells.length : Int)), (26, iv s85)] [eBox b7 42 (gl_A11_Int (0, 0, 0, 0, 0, 0, 0, 0, 0, 0, 0)), eBox b9 42 (gl_A11_Int (s86, s87, s88, s89, s90, s91, s92, s93, s94, s95, s96))] [fRep (rL r_api_Row) (.slice ad3 p0.Rows.length cp4) p0.Rows, fRep (rL r_api_Stitch) (.slice ad81 x74.Cells.length cp82) x74.Cells]) (S.fix [1, 2] [4, 0] (by decide) rfl rfl rfl) ?_
  clear hl h
  intro s0 a w c0 hI h hu97
  obtain ⟨s85, s86, s87, s88, s89, s90, s91, s92, s93, s94, s95, s96⟩ := s0
  unfold cost_Count_l1 at h
  dsimp only at h hI
  have S := hI
  refine sSeq (fun K111 hK111 => ?_)
  refine sRegion ?_
  refine sBin (.bool (decide (s85 < (x74.Cells.length : Int)))) S (wN rfl) rfl rfl rfl (bLt _ _ _ _ .i64 s85 (x74.Cells.length : Int)) rfl (lb rfl) fun a S => ?_
  refine leafL (leafT (hK111 _ _ ?_))
  refine sSeq (fun K112 hK112 => ?_)
  rcases iteSome h with ⟨hc113, h⟩ | ⟨hc113, h⟩
  rotate_left
  · refine sCondF S rfl hc113 ?_
    obtain rfl := Option.some.inj h
    obtain rfl := hu97 _ rfl
    have h := g98
    clear g98
    try dsimp only at h
    exact wp_exit (xThen (xThen (xHit (leafB (leafT (⟨s86, s87, s88, s89, s90, s91, s92, s93, s94, s95, s96, Option.some.inj h, S.fix [0, 1] [0] (by decide) rfl rfl rfl⟩))))))
  refine sCondT S rfl hc113 ?_
  refine wp_skip (leafT (hK112 _ _ ?_))
  refine sSeq (fun K114 hK114 => ?_)
  refine wp_block ?_
  refine sSeq (fun K115 hK115 => ?_)
  refine sRegion ?_
  obtain ⟨x116, hx117, h⟩ := bindSome h
  obtain ⟨q118, hq119, S⟩ := pIdx (P := Try.prog) (r := r_api_Stitch) (v := .slice ad81 x74.Cells.length cp82) (xs := x74.Cells) (j := s85) 70 74 1 S Try.underlying70 rfl rfl hx117
  refine sIdxV (v := .slice ad81 x74.Cells.length cp82) (k := .i64) (j := s85) S (wN rfl) rfl rfl rfl hq119 rfl (lb rfl) fun a S => ?_
  obtain ⟨u120, S⟩ := pLoad (r := r_api_Stitch) (q := q118) (x := x116) 0 S rfl
  obtain rfl : u120 = .agg #[.int .u8 x116.Kind, .bool x116.Purl, iv x116.A, iv x116.B] := S.mem.know (i := 1) (e := fRep r_api_Stitch (u120) x116) rfl
  refine sLoadVN (vq := q118) 0 [.int .u8 x116.Kind, .bool x116.Purl, iv x116.A, iv x116.B] S (wN rfl) rfl rfl rfl rfl rfl rfl (lb rfl) fun a S => ?_
  refine sAlloc (.agg #[.int .u8 0, .bool false, iv 0, iv 0]) S (wN rfl) rfl rfl [.int .u8 0, .bool false, iv 0, iv 0] rfl rfl (lb rfl) fun a b121 w S => ?_
  refine sStore (p := b121) (off := 0) (T := 74) (vs := [.int .u8 0, .bool false, iv 0, iv 0]) (v := .agg #[.int .u8 x116.Kind, .bool x116.Purl, iv x116.A, iv x116.B]) 0 [.int .u8 x116.Kind, .bool x116.Purl, iv x116.A, iv x116.B] S (wN rfl) rfl rfl rfl rfl rfl rfl rfl (by simp) rfl fun a w S => ?_
  refine leafL (leafT (hK115 _ _ ?_))
  refine sRegion ?_
  refine sField (b := b121) (off := 0) 0 0 S (wN rfl) rfl rfl rfl rfl rfl (lb rfl) fun a S => ?_
  refine sLoad1 (p := b121) (off := 0) (T := 74) (vs := [.int .u8 x116.Kind, .bool x116.Purl, iv x116.A, iv x116.B]) 0 (.int .u8 x116.Kind) S (wN rfl) rfl rfl rfl rfl rfl rfl (lb rfl) fun a S => ?_
  obtain ⟨x122, hx123, h⟩ := bindSome h
  refine sIdxV (v := .pointer (some ⟨b9, 0, none⟩)) (k := .u8) (j := x116.Kind) (q := .pointer (some ⟨b9, 0 + (x116.Kind).toNat * 1, none⟩)) S (wN rfl) rfl rfl rfl (idxV_arr (m := 11) (sz := 1) Try.underlying42 rfl (idxO_rng (m := 11) hx123 rfl).1 (idxO_rng (m := 11) hx123 rfl).2 0) rfl (lb rfl) fun a S => ?_
  refine sLoad1 (p := b9) (off := 0 + (x116.Kind).toNat * 1) (T := 42) (vs := [iv s86, iv s87, iv s88, iv s89, iv s90, iv s91, iv s92, iv s93, iv s94, iv s95, iv s96]) 2 (iv x122) S (wN rfl) rfl rfl rfl rfl (box_at (g := (fun z => .int .i64 z)) [] [] 0 hx123 rfl rfl) rfl (lb rfl) fun a S => ?_
  refine sBin (iv (w64 (x122 + 1))) S (wN rfl) rfl rfl rfl (bAdd _ _ _ _ x122 1) rfl (lb rfl) fun a S => ?_
  refine sIdxV (v := .pointer (some ⟨b9, 0, none⟩)) (k := .u8) (j := x116.Kind) (q := .pointer (some ⟨b9, 0 + (x116.Kind).toNat * 1, none⟩)) S (wN rfl) rfl rfl rfl (idxV_arr (m := 11) (sz := 1) Try.underlying42 rfl (idxO_rng (m := 11) hx123 rfl).1 (idxO_rng (m := 11) hx123 rfl).2 0) rfl (lb rfl) fun a S => ?_
  refine sStore (p := b9) (off := 0 + (x116.Kind).toNat * 1) (T := 42) (vs := [iv s86, iv s87, iv s88, iv s89, iv s90, iv s91, iv s92, iv s93, iv s94, iv s95, iv s96]) (v := iv (w64 (x122 + 1))) 2 [iv (w64 (x122 + 1))] S (wN rfl) rfl rfl rfl rfl rfl rfl rfl (by have hq := idxO_rng (m := 11) hx123 rfl; simp; omega) rfl fun a w S => ?_
  have ho124 : over [iv s86, iv s87, iv s88, iv s89, iv s90, iv s91, iv s92, iv s93, iv s94, iv s95, iv s96] (0 + (x116.Kind).toNat * 1) [iv (w64 (x122 + 1))] = [iv (if x116.Kind = 0 then w64 (x122 + 1) else s86), iv (if x116.Kind = 1 then w64 (x122 + 1) else s87), iv (if x116.Kind = 2 then w64 (x122 + 1) else s88), iv (if x116.Kind = 3 then w64 (x122 + 1) else s89), iv (if x116.Kind = 4 then w64 (x122 + 1) else s90), iv (if x116.Kind = 5 then w64 (x122 + 1) else s91), iv (if x116.Kind = 6 then w64 (x122 + 1) else s92), iv (if x116.Kind = 7 then w64 (x122 + 1) else s93), iv (if x116.Kind = 8 then w64 (x122 + 1) else s94), iv (if x116.Kind = 9 then w64 (x122 + 1) else s95), iv (if x116.Kind = 10 then w64 (x122 + 1) else s96)] := over_at (g := (fun z => .int .i64 z)) (xs := ([s86, s87, s88, s89, s90, s91, s92, s93, s94, s95, s96] : List Int)) (y := w64 (x122 + 1)) [] [] 0 hx123 rfl rfl rfl rfl
  rw [ho124] at S
  refine leafL (leafB (leafT (hK114 _ _ ?_)))
  refine sRegion ?_
  refine sBin (iv (w64 (s85 + 1))) S (wN rfl) rfl rfl rfl (bAdd _ _ _ _ s85 1) rfl (lb rfl) fun a S => ?_
  refine sMove (iv (w64 (s85 + 1))) S (wN rfl) (.inl rfl) rfl rfl (lb rfl) fun a S => ?_
  exact leafL (leafT (⟨(w64 (s85 + 1), (if x116.Kind = 0 then w64 (x122 + 1) else s86), (if x116.Kind = 1 then w64 (x122 + 1) else s87), (if x116.Kind = 2 then w64 (x122 + 1) else s88), (if x116.Kind = 3 then w64 (x122 + 1) else s89), (if x116.Kind = 4 then w64 (x122 + 1) else s90), (if x116.Kind = 5 then w64 (x122 + 1) else s91), (if x116.Kind = 6 then w64 (x122 + 1) else s92), (if x116.Kind = 7 then w64 (x122 + 1) else s93), (if x116.Kind = 8 then w64 (x122 + 1) else s94), (if x116.Kind = 9 then w64 (x122 + 1) else s95), (if x116.Kind = 10 then w64 (x122 + 1) else s96)), (Option.some.inj h).symm, (S.fix [2, 0] [3, 4] (by decide) rfl rfl rfl)⟩))

end Go.Proofs.Ytdbgkakmhlmpbaa
namespace Go.Proofs.Ytdbgkakmhlmpbaa
open Go.RowKit
set_option linter.unusedVariables false

noncomputable def F_cost_rate (p0 : Int) : Option Bool :=
  Option.bind (α := Bool) (
    if decide (0 ≤ p0) then
      some (decide (p0 ≤ 1000000))
    else
      some false) fun o2 =>
  some o2
set_option maxHeartbeats 4000000 in
set_option maxRecDepth 100000 in
theorem c_cost_rate (E : Nat → Prop) (w0 : World) (p0 : Int) (r : Bool) (h : F_cost_rate p0 = some r) (S : St0 E [] w0 w0 [] []) :
    Calls Try.prog 42 #[iv p0] w0 (Ret (X := Unit) E [] w0 (fun _ => .bool r) (fun _ => []) (fun _ => [])) := by
  unfold F_cost_rate at h
  refine sEnter (args := [iv p0]) 9 Try.func42 rfl rfl (by simp) S (fun a S => ?_)
  refine sSeq (fun K1 hK1 => ?_)
  refine sRegion ?_
  refine sMove (.bool false) S (wN rfl) (.inr rfl) rfl rfl (lb rfl) fun a S => ?_
  refine leafL (leafT (hK1 _ _ ?_))
  obtain ⟨t3, h, g4⟩ := bindSome h
  refine sCut (fun a w => ∃ o2, o2 = t3 ∧ St [] E [] w0 9 a w [(2, .bool o2)] [] []) ?_ (fun a w hI => ?_)
  rotate_left
  · obtain ⟨o2, rfl, S⟩ := hI
    have h := g4
    clear g4
    try dsimp only at h
    obtain rfl := Option.some.inj h
    exact wp_ret (sRet (.bool o2) S (rsl1 rfl (rvT (t := 2) (v := .bool o2) S rfl)) ⟨(), rfl, S.mem.sel [] [] (by decide) rfl rfl⟩)
  refine sRegion ?_
  refine sMove (iv p0) S (wN rfl) (.inl rfl) rfl rfl (lb rfl) fun a S => ?_
  refine sBin (.bool (decide (0 ≤ p0))) S (wN rfl) rfl rfl rfl (bGe _ _ _ _ .i64 p0 0) rfl (lb rfl) fun a S => ?_
  refine sMove (.bool (decide (0 ≤ p0))) S (wN rfl) (.inl rfl) rfl rfl (lb rfl) fun a S => ?_
  rcases iteSome h with ⟨hc5, h⟩ | ⟨hc5, h⟩
  rotate_left
  · refine sSkip 2 true 5 6 S rfl rfl rfl hc5 rfl (lb rfl) fun a S => ?_
    refine sSkip 2 true 5 7 S rfl rfl rfl hc5 rfl (lb rfl) fun a S => ?_
    refine sPickF (.bool false) S (wN rfl) rfl rfl hc5 rfl rfl (lb rfl) fun a S => ?_
    refine sMove (.bool false) S (wN rfl) (.inr rfl) rfl rfl (lb rfl) fun a S => ?_
    exact leafL (leafT (⟨false, Option.some.inj h, S.fix [] [] (by decide) rfl rfl rfl⟩))
  refine sMove (iv p0) S (wG 2 true 5 rfl rfl rfl hc5) (.inl rfl) rfl rfl (lb rfl) fun a S => ?_
  refine sBin (.bool (decide (p0 ≤ 1000000))) S (wG 2 true 5 rfl rfl rfl hc5) rfl rfl rfl (bLe _ _ _ _ .i64 p0 1000000) rfl (lb rfl) fun a S => ?_
  refine sPickT (.bool (decide (p0 ≤ 1000000))) S (wN rfl) rfl rfl hc5 rfl rfl (lb rfl) fun a S => ?_
  refine sMove (.bool (decide (p0 ≤ 1000000))) S (wN rfl) (.inr rfl) rfl rfl (lb rfl) fun a S => ?_
  exact leafL (leafT (⟨decide (p0 ≤ 1000000), Option.some.inj h, S.fix [] [] (by decide) rfl rfl rfl⟩))

end Go.Proofs.Ytdbgkakmhlmpbaa
namespace Go.Proofs.Ytdbgkakmhlmpbaa
open Go.RowKit
set_option linter.unusedVariables false

noncomputable def cost_Check_l1 (p0 : api_Rates) : Int → Option (Int ⊕ (Int ⊕ Unit)) := fun s0 => match s0 with
  | s6 =>
    if decide (s6 < 11) then
      Option.bind (idxO ([p0.Length.1, p0.Length.2.1, p0.Length.2.2.1, p0.Length.2.2.2.1, p0.Length.2.2.2.2.1, p0.Length.2.2.2.2.2.1, p0.Length.2.2.2.2.2.2.1, p0.Length.2.2.2.2.2.2.2.1, p0.Length.2.2.2.2.2.2.2.2.1, p0.Length.2.2.2.2.2.2.2.2.2.1, p0.Length.2.2.2.2.2.2.2.2.2.2] : List Int) s6) fun x15 =>
      Option.bind (α := Bool) (
        Option.bind (F_cost_rate x15) fun r20 =>
        if !r20 then
          some true
        else
          Option.bind (idxO ([p0.Time.1, p0.Time.2.1, p0.Time.2.2.1, p0.Time.2.2.2.1, p0.Time.2.2.2.2.1, p0.Time.2.2.2.2.2.1, p0.Time.2.2.2.2.2.2.1, p0.Time.2.2.2.2.2.2.2.1, p0.Time.2.2.2.2.2.2.2.2.1, p0.Time.2.2.2.2.2.2.2.2.2.1, p0.Time.2.2.2.2.2.2.2.2.2.2] : List Int) s6) fun x23 =>
          Option.bind (F_cost_rate x23) fun r25 =>
          some (!r25)) fun o17 =>
      if o17 then
        some (.inr (.inl 8))
      else
        some (.inl (w64 (s6 + 1)))
    else
      some (.inr (.inr ()))
noncomputable def F_cost_Check (p0 : api_Rates) : Option Int :=
  Option.bind (α := Unit ⊕ Int) (
    Option.bind (whileO (cost_Check_l1 p0) 0) fun z0 => match z0 with
      | .inl z =>
        some (.inr z)
      | .inr _ =>
        some (.inl ())) fun z0 => match z0 with
    | .inl _ =>
      Option.bind (α := Bool) (
        Option.bind (F_cost_rate p0.Turn) fun r33 =>
        if !r33 then
          some true
        else
          if p0.Length.1 != 0 then
            some true
          else
            some (p0.Time.1 != 0)) fun o30 =>
      if o30 then
        some 8
      else
        some 0
    | .inr z =>
      some z
set_option maxHeartbeats 4000000 in
set_option maxRecDepth 100000 in
theorem c_cost_Check (E : Nat → Prop) (w0 : World) (p0 : api_Rates) (v0 : Value) (r : Int) (h : F_cost_Check p0 = some r) (S : St0 E [] w0 w0 [] [fRep r_api_Rates (v0) p0]) :
    Calls Try.prog 22 #[v0] w0 (Ret (X := Unit) E [] w0 (fun _ => .int .i64 r) (fun _ => []) (fun _ => [])) := by
  unfold F_cost_Check at h
  obtain rfl : v0 = gv_api_Rates p0 := S.know (i := 0) (e := fRep r_api_Rates (v0) p0) rfl
  refine sEnter (args := [gv_api_Rates p0]) 39 Try.func22 rfl rfl (by simp) S (fun a S => ?_)
  refine sSeq (fun K1 hK1 => ?_)
  refine sRegion ?_
  refine sBox (v := gv_api_Rates p0) S (wN rfl) rfl rfl (gl_api_Rates p0) rfl rfl (lb rfl) fun a b2 w S => ?_
  refine sMove (iv 0) S (wN rfl) (.inr rfl) rfl rfl (lb rfl) fun a S => ?_
  refine leafL (leafT (hK1 _ _ ?_))
  obtain ⟨t3, h, g4⟩ := bindSome h
  refine sCut (fun a w => .inl () = t3 ∧ St [] E [] w0 39 a w [(1, .pointer (some ⟨b2, 0, none⟩))] [eBox b2 44 (gl_api_Rates p0)] []) ?_ (fun a w hI => ?_)
  rotate_left
  · obtain ⟨rfl, S⟩ := hI
    have h := g4
    clear g4
    try dsimp only at h
    refine sSeq (fun K29 hK29 => ?_)
    obtain ⟨t31, h, g32⟩ := bindSome h
    refine sCut (fun a w => ∃ o30, o30 = t31 ∧ St [] E [] w0 39 a w [(38, .bool o30)] [] []) ?_ (fun a w hI => ?_)
    rotate_left
    · obtain ⟨o30, rfl, S⟩ := hI
      have h := g32
      clear g32
      try dsimp only at h
      rcases iteSome h with ⟨hc37, h⟩ | ⟨hc37, h⟩
      · refine sCondT S rfl hc37 ?_
        refine sSeq (fun K38 hK38 => ?_)
        refine sRegion ?_
        refine sMove (iv 8) S (wN rfl) (.inr rfl) rfl rfl (lb rfl) fun a S => ?_
        refine leafL (leafT (hK38 _ _ ?_))
        obtain rfl := Option.some.inj h
        exact wp_ret (rThen (sRet (iv 8) S (rsl1 rfl (rvT (t := 2) (v := iv 8) S rfl)) ⟨(), rfl, S.mem.sel [] [] (by decide) rfl rfl⟩))
      refine sCondF S rfl hc37 ?_
      refine wp_skip (leafT (hK29 _ _ ?_))
      refine sSeq (fun K39 hK39 => ?_)
      refine sRegion ?_
      refine sMove (iv 0) S (wN rfl) (.inr rfl) rfl rfl (lb rfl) fun a S => ?_
      refine leafL (leafT (hK39 _ _ ?_))
      obtain rfl := Option.some.inj h
      exact wp_ret (sRet (iv 0) S (rsl1 rfl (rvT (t := 2) (v := iv 0) S rfl)) ⟨(), rfl, S.mem.sel [] [] (by decide) rfl rfl⟩)
    refine sRegion ?_
    refine sField (b := b2) (off := 0) 22 22 S (wN rfl) rfl rfl rfl rfl rfl (lb rfl) fun a S => ?_
    refine sLoad1 (p := b2) (off := 22) (T := 44) (vs := (gl_api_Rates p0)) 0 (iv p0.Turn) S (wN rfl) rfl rfl rfl rfl rfl rfl (lb rfl) fun a S => ?_
    obtain ⟨r33, hx34, h⟩ := bindSome h
    have S1 := S.mem
    refine sCallQ (X := Unit) (f := 42) (vs := [iv p0.Turn]) (val := fun _ => .bool r33) S (wN rfl) rfl callee42 rfl (S1.quiet [] rfl) (fun E1 w1 S1 => c_cost_rate E1 w1 p0.Turn r33 hx34 S1) rfl (lb rfl) fun _ a w S => ?_
    refine sNot (b := r33) S (wN rfl) rfl rfl rfl (lb rfl) fun a S => ?_
    refine sMove (.bool (!r33)) S (wN rfl) (.inl rfl) rfl rfl (lb rfl) fun a S => ?_
    rcases iteSome h with ⟨hc35, h⟩ | ⟨hc35, h⟩
    · refine sSkip 4 false 27 28 S rfl rfl rfl hc35 rfl (lb rfl) fun a S => ?_
      refine sSkip 4 false 27 29 S rfl rfl rfl hc35 rfl (lb rfl) fun a S => ?_
      refine sSkip 4 false 27 30 S rfl rfl rfl hc35 rfl (lb rfl) fun a S => ?_
      refine sSkip 4 false 27 31 S rfl rfl rfl hc35 rfl (lb rfl) fun a S => ?_
      refine sPickT (.bool true) S (wN rfl) rfl rfl hc35 rfl rfl (lb rfl) fun a S => ?_
      refine sMove (.bool true) S (wN rfl) (.inl rfl) rfl rfl (lb rfl) fun a S => ?_
      refine sSkip 10 false 33 34 S rfl rfl rfl rfl rfl (lb rfl) fun a S => ?_
      refine sSkip 10 false 33 35 S rfl rfl rfl rfl rfl (lb rfl) fun a S => ?_
      refine sSkip 10 false 33 36 S rfl rfl rfl rfl rfl (lb rfl) fun a S => ?_
      refine sSkip 10 false 33 37 S rfl rfl rfl rfl rfl (lb rfl) fun a S => ?_
      refine sPickT (.bool true) S (wN rfl) rfl rfl rfl rfl rfl (lb rfl) fun a S => ?_
      exact leafL (leafT (⟨true, Option.some.inj h, S.fix [] [] (by decide) rfl rfl rfl⟩))
    refine sField (b := b2) (off := 0) 0 0 S (wG 4 false 27 rfl rfl rfl hc35) rfl rfl rfl rfl rfl (lb rfl) fun a S => ?_
    refine sIdxV (v := .pointer (some ⟨b2, 0, none⟩)) (k := .i64) (j := 0) (q := .pointer (some ⟨b2, 0, none⟩)) S (wG 4 false 27 rfl rfl rfl hc35) rfl rfl rfl (idxV_arr (m := 11) (sz := 1) Try.underlying42 rfl (by decide) (by decide) 0) rfl (lb rfl) fun a S => ?_
    refine sLoad1 (p := b2) (off := 0) (T := 44) (vs := (gl_api_Rates p0)) 0 (iv p0.Length.1) S (wG 4 false 27 rfl rfl rfl hc35) rfl rfl rfl rfl rfl rfl (lb rfl) fun a S => ?_
    refine sBin (.bool (p0.Length.1 != 0)) S (wG 4 false 27 rfl rfl rfl hc35) rfl rfl rfl (bNe _ _ _ _ .i64 p0.Length.1 0) rfl (lb rfl) fun a S => ?_
    refine sPickF (.bool (p0.Length.1 != 0)) S (wN rfl) rfl rfl hc35 rfl rfl (lb rfl) fun a S => ?_
    refine sMove (.bool (p0.Length.1 != 0)) S (wN rfl) (.inl rfl) rfl rfl (lb rfl) fun a S => ?_
    rcases iteSome h with ⟨hc36, h⟩ | ⟨hc36, h⟩
    · refine sSkip 10 false 33 34 S rfl rfl rfl hc36 rfl (lb rfl) fun a S => ?_
      refine sSkip 10 false 33 35 S rfl rfl rfl hc36 rfl (lb rfl) fun a S => ?_
      refine sSkip 10 false 33 36 S rfl rfl rfl hc36 rfl (lb rfl) fun a S => ?_
      refine sSkip 10 false 33 37 S rfl rfl rfl hc36 rfl (lb rfl) fun a S => ?_
      refine sPickT (.bool true) S (wN rfl) rfl rfl hc36 rfl rfl (lb rfl) fun a S => ?_
      exact leafL (leafT (⟨true, Option.some.inj h, S.fix [] [] (by decide) rfl rfl rfl⟩))
    refine sField (b := b2) (off := 0) 11 11 S (wG 10 false 33 rfl rfl rfl hc36) rfl rfl rfl rfl rfl (lb rfl) fun a S => ?_
    refine sIdxV (v := .pointer (some ⟨b2, 11, none⟩)) (k := .i64) (j := 0) (q := .pointer (some ⟨b2, 11, none⟩)) S (wG 10 false 33 rfl rfl rfl hc36) rfl rfl rfl (idxV_arr (m := 11) (sz := 1) Try.underlying42 rfl (by decide) (by decide) 11) rfl (lb rfl) fun a S => ?_
    refine sLoad1 (p := b2) (off := 11) (T := 44) (vs := (gl_api_Rates p0)) 0 (iv p0.Time.1) S (wG 10 false 33 rfl rfl rfl hc36) rfl rfl rfl rfl rfl rfl (lb rfl) fun a S => ?_
    refine sBin (.bool (p0.Time.1 != 0)) S (wG 10 false 33 rfl rfl rfl hc36) rfl rfl rfl (bNe _ _ _ _ .i64 p0.Time.1 0) rfl (lb rfl) fun a S => ?_
    refine sPickF (.bool (p0.Time.1 != 0)) S (wN rfl) rfl rfl hc36 rfl rfl (lb rfl) fun a S => ?_
    exact leafL (leafT (⟨p0.Time.1 != 0, Option.some.inj h, S.fix [] [] (by decide) rfl rfl rfl⟩))
  refine sSeq (fun K5 hK5 => ?_)
  refine sRegion ?_
  refine sField (b := b2) (off := 0) 0 0 S (wN rfl) rfl rfl rfl rfl rfl (lb rfl) fun a S => ?_
  refine sLoadN (p := b2) (off := 0) (T := 44) (vs := (gl_api_Rates p0)) 0 (gl_A11_Int p0.Length) S (wN rfl) rfl rfl rfl rfl rfl rfl rfl (lb rfl) fun a S => ?_
  refine sMove (iv 0) S (wN rfl) (.inl rfl) rfl rfl (lb rfl) fun a S => ?_
  refine leafL (leafT (hK5 _ _ ?_))
  refine wp_block ?_
  obtain ⟨t9, hl, g8⟩ := bindSome h
  refine sLoop hl (fun s0 a w => match s0 with | s6 => St [] E [] w0 39 a w [(1, .pointer (some ⟨b2, 0, none⟩)), (6, gv_A11_Int p0.Length), (7, iv s6)] [eBox b2 44 (gl_api_Rates p0)] []) (S.fix [0] [] (by decide) rfl rfl rfl) ?_
  clear hl h
  intro s6 a w c0 hI h hu7
  unfold cost_Check_l1 at h
  dsimp only at h hI
  have S := hI
  refine sSeq (fun K10 hK10 => ?_)
  refine sRegion ?_
  refine sBin (.bool (decide (s6 < 11))) S (wN rfl) rfl rfl rfl (bLt _ _ _ _ .i64 s6 11) rfl (lb rfl) fun a S => ?_
  refine leafL (leafT (hK10 _ _ ?_))
  refine sSeq (fun K11 hK11 => ?_)
  rcases iteSome h with ⟨hc12, h⟩ | ⟨hc12, h⟩
  rotate_left
  · refine sCondF S rfl hc12 ?_
    obtain rfl := Option.some.inj h
    obtain rfl := hu7 _ rfl
    have h := g8
    clear g8
    try dsimp only at h
    exact wp_exit (xThen (xThen (xHit (leafT (⟨Option.some.inj h, S.fix [0] [] (by decide) rfl rfl rfl⟩)))))
  refine sCondT S rfl hc12 ?_
  refine wp_skip (leafT (hK11 _ _ ?_))
  refine sSeq (fun K13 hK13 => ?_)
  refine wp_block ?_
  refine sSeq (fun K14 hK14 => ?_)
  refine sRegion ?_
  refine sMove (iv s6) S (wN rfl) (.inl rfl) rfl rfl (lb rfl) fun a S => ?_
  obtain ⟨x15, hx16, h⟩ := bindSome h
  refine sIndexA (g := fun z => .int .i64 z) (xs := ([p0.Length.1, p0.Length.2.1, p0.Length.2.2.1, p0.Length.2.2.2.1, p0.Length.2.2.2.2.1, p0.Length.2.2.2.2.2.1, p0.Length.2.2.2.2.2.2.1, p0.Length.2.2.2.2.2.2.2.1, p0.Length.2.2.2.2.2.2.2.2.1, p0.Length.2.2.2.2.2.2.2.2.2.1, p0.Length.2.2.2.2.2.2.2.2.2.2] : List Int)) (j := s6) (k := .i64) 11 [iv p0.Length.1, iv p0.Length.2.1, iv p0.Length.2.2.1, iv p0.Length.2.2.2.1, iv p0.Length.2.2.2.2.1, iv p0.Length.2.2.2.2.2.1, iv p0.Length.2.2.2.2.2.2.1, iv p0.Length.2.2.2.2.2.2.2.1, iv p0.Length.2.2.2.2.2.2.2.2.1, iv p0.Length.2.2.2.2.2.2.2.2.2.1, iv p0.Length.2.2.2.2.2.2.2.2.2.2] S (wN rfl) rfl Try.underlying42 rfl rfl rfl rfl rfl rfl hx16 rfl (lb rfl) fun a S => ?_
  refine sMove (iv s6) S (wN rfl) (.inr rfl) rfl rfl (lb rfl) fun a S => ?_
  refine sMove (iv x15) S (wN rfl) (.inr rfl) rfl rfl (lb rfl) fun a S => ?_
  refine leafL (leafT (hK14 _ _ ?_))
  obtain ⟨t18, h, g19⟩ := bindSome h
  refine sCut (fun a w => ∃ o17, o17 = t18 ∧ St [] E [] w0 39 a w [(1, .pointer (some ⟨b2, 0, none⟩)), (6, gv_A11_Int p0.Length), (7, iv s6), (21, .bool o17)] [eBox b2 44 (gl_api_Rates p0)] []) ?_ (fun a w hI => ?_)
  rotate_left
  · obtain ⟨o17, rfl, S⟩ := hI
    have h := g19
    clear g19
    try dsimp only at h
    rcases iteSome h with ⟨hc27, h⟩ | ⟨hc27, h⟩
    rotate_left
    · refine sCondF S rfl hc27 ?_
      refine wp_skip (leafB (leafT (hK13 _ _ ?_)))
      refine sRegion ?_
      refine sBin (iv (w64 (s6 + 1))) S (wN rfl) rfl rfl rfl (bAdd _ _ _ _ s6 1) rfl (lb rfl) fun a S => ?_
      refine sMove (iv (w64 (s6 + 1))) S (wN rfl) (.inl rfl) rfl rfl (lb rfl) fun a S => ?_
      exact leafL (leafT (⟨w64 (s6 + 1), (Option.some.inj h).symm, (S.fix [0] [] (by decide) rfl rfl rfl)⟩))
    refine sCondT S rfl hc27 ?_
    refine sSeq (fun K28 hK28 => ?_)
    refine sRegion ?_
    refine sMove (iv 8) S (wN rfl) (.inr rfl) rfl rfl (lb rfl) fun a S => ?_
    refine leafL (leafT (hK28 _ _ ?_))
    obtain rfl := Option.some.inj h
    obtain rfl := hu7 _ rfl
    have h := g8
    clear g8
    try dsimp only at h
    obtain rfl := Option.some.inj h
    have h := g4
    clear g4
    try dsimp only at h
    obtain rfl := Option.some.inj h
    exact wp_ret (rBlock (rThen (rThen (rBlock (rThen (sRet (iv 8) S (rsl1 rfl (rvT (t := 2) (v := iv 8) S rfl)) ⟨(), rfl, S.mem.sel [] [] (by decide) rfl rfl⟩))))))
  refine sRegion ?_
  refine sMove (iv x15) S (wN rfl) (.inl rfl) rfl rfl (lb rfl) fun a S => ?_
  obtain ⟨r20, hx21, h⟩ := bindSome h
  have S1 := S.mem
  refine sCallQ (X := Unit) (f := 42) (vs := [iv x15]) (val := fun _ => .bool r20) S (wN rfl) rfl callee42 rfl (S1.quiet [] rfl) (fun E1 w1 S1 => c_cost_rate E1 w1 x15 r20 hx21 S1) rfl (lb rfl) fun _ a w S => ?_
  refine sNot (b := r20) S (wN rfl) rfl rfl rfl (lb rfl) fun a S => ?_
  refine sMove (.bool (!r20)) S (wN rfl) (.inl rfl) rfl rfl (lb rfl) fun a S => ?_
  rcases iteSome h with ⟨hc22, h⟩ | ⟨hc22, h⟩
  · refine sSkip 3 false 14 15 S rfl rfl rfl hc22 rfl (lb rfl) fun a S => ?_
    refine sSkip 3 false 14 16 S rfl rfl rfl hc22 rfl (lb rfl) fun a S => ?_
    refine sSkip 3 false 14 17 S rfl rfl rfl hc22 rfl (lb rfl) fun a S => ?_
    refine sSkip 3 false 14 18 S rfl rfl rfl hc22 rfl (lb rfl) fun a S => ?_
    refine sSkip 3 false 14 19 S rfl rfl rfl hc22 rfl (lb rfl) fun a S => ?_
    refine sSkip 3 false 14 20 S rfl rfl rfl hc22 rfl (lb rfl) fun a S => ?_
    refine sPickT (.bool true) S (wN rfl) rfl rfl hc22 rfl rfl (lb rfl) fun a S => ?_
    exact leafL (leafT (⟨true, Option.some.inj h, S.fix [0] [] (by decide) rfl rfl rfl⟩))
  refine sMove (iv s6) S (wG 3 false 14 rfl rfl rfl hc22) (.inl rfl) rfl rfl (lb rfl) fun a S => ?_
  refine sField (b := b2) (off := 0) 11 11 S (wG 3 false 14 rfl rfl rfl hc22) rfl rfl rfl rfl rfl (lb rfl) fun a S => ?_
  obtain ⟨x23, hx24, h⟩ := bindSome h
  refine sIdxV (v := .pointer (some ⟨b2, 11, none⟩)) (k := .i64) (j := s6) (q := .pointer (some ⟨b2, 11 + (s6).toNat * 1, none⟩)) S (wG 3 false 14 rfl rfl rfl hc22) rfl rfl rfl (idxV_arr (m := 11) (sz := 1) Try.underlying42 rfl (idxO_rng (m := 11) hx24 rfl).1 (idxO_rng (m := 11) hx24 rfl).2 11) rfl (lb rfl) fun a S => ?_
  refine sLoad1 (p := b2) (off := 11 + (s6).toNat * 1) (T := 44) (vs := [iv p0.Length.1, iv p0.Length.2.1, iv p0.Length.2.2.1, iv p0.Length.2.2.2.1, iv p0.Length.2.2.2.2.1, iv p0.Length.2.2.2.2.2.1, iv p0.Length.2.2.2.2.2.2.1, iv p0.Length.2.2.2.2.2.2.2.1, iv p0.Length.2.2.2.2.2.2.2.2.1, iv p0.Length.2.2.2.2.2.2.2.2.2.1, iv p0.Length.2.2.2.2.2.2.2.2.2.2, iv p0.Time.1, iv p0.Time.2.1, iv p0.Time.2.2.1, iv p0.Time.2.2.2.1, iv p0.Time.2.2.2.2.1, iv p0.Time.2.2.2.2.2.1, iv p0.Time.2.2.2.2.2.2.1, iv p0.Time.2.2.2.2.2.2.2.1, iv p0.Time.2.2.2.2.2.2.2.2.1, iv p0.Time.2.2.2.2.2.2.2.2.2.1, iv p0.Time.2.2.2.2.2.2.2.2.2.2, iv p0.Turn]) 0 (iv x23) S (wG 3 false 14 rfl rfl rfl hc22) rfl rfl rfl rfl (box_at (g := (fun z => .int .i64 z)) [iv p0.Length.1, iv p0.Length.2.1, iv p0.Length.2.2.1, iv p0.Length.2.2.2.1, iv p0.Length.2.2.2.2.1, iv p0.Length.2.2.2.2.2.1, iv p0.Length.2.2.2.2.2.2.1, iv p0.Length.2.2.2.2.2.2.2.1, iv p0.Length.2.2.2.2.2.2.2.2.1, iv p0.Length.2.2.2.2.2.2.2.2.2.1, iv p0.Length.2.2.2.2.2.2.2.2.2.2] [iv p0.Turn] 11 hx24 rfl rfl) rfl (lb rfl) fun a S => ?_
  obtain ⟨r25, hx26, h⟩ := bindSome h
  have S1 := S.mem
  refine sCallQ (X := Unit) (f := 42) (vs := [iv x23]) (val := fun _ => .bool r25) S (wG 3 false 14 rfl rfl rfl hc22) rfl callee42 rfl (S1.quiet [] rfl) (fun E1 w1 S1 => c_cost_rate E1 w1 x23 r25 hx26 S1) rfl (lb rfl) fun _ a w S => ?_
  refine sNot (b := r25) S (wG 3 false 14 rfl rfl rfl hc22) rfl rfl rfl (lb rfl) fun a S => ?_
  refine sPickF (.bool (!r25)) S (wN rfl) rfl rfl hc22 rfl rfl (lb rfl) fun a S => ?_
  exact leafL (leafT (⟨!r25, Option.some.inj h, S.fix [0] [] (by decide) rfl rfl rfl⟩))

end Go.Proofs.Ytdbgkakmhlmpbaa
namespace Go.Proofs.Ytdbgkakmhlmpbaa
open Go.RowKit
set_option linter.unusedVariables false

def anc_cost_Need_0 : List (List Nat) := [[], [0], [], [], [2, 3], [2, 3, 4], [], [2, 3, 4, 5, 6], [0, 1, 2, 3, 4, 5, 6, 7], [0, 1, 2, 3, 4, 5, 6, 7, 8], [0, 1, 2, 3, 4, 5, 6, 7, 8, 9]]
def anc_cost_Need_1 : List (List Nat) := [[], [0], [], [2], [], [2, 3, 4], [2, 3, 4, 5], [], [7], [2, 3, 4, 5, 6, 7, 8], [0, 1, 2, 3, 4, 5, 6, 7, 8, 9], [0, 1, 2, 3, 4, 5, 6, 7, 8, 9, 10], [0, 1, 2, 3, 4, 5, 6, 7, 8, 9, 10, 11]]
noncomputable def cost_Need_l1 (r10 : ((Int × Int × Int × Int × Int × Int × Int × Int × Int × Int × Int) × Int)) (p1 : api_Rates) : (Int × Int) → Option ((Int × Int) ⊕ Int) := fun s0 => match s0 with
  | (s31, s32) =>
    if decide (s31 < 11) then
      Option.bind (idxO ([r10.1.1, r10.1.2.1, r10.1.2.2.1, r10.1.2.2.2.1, r10.1.2.2.2.2.1, r10.1.2.2.2.2.2.1, r10.1.2.2.2.2.2.2.1, r10.1.2.2.2.2.2.2.2.1, r10.1.2.2.2.2.2.2.2.2.1, r10.1.2.2.2.2.2.2.2.2.2.1, r10.1.2.2.2.2.2.2.2.2.2.2] : List Int) s31) fun x42 =>
      Option.bind (idxO ([p1.Time.1, p1.Time.2.1, p1.Time.2.2.1, p1.Time.2.2.2.1, p1.Time.2.2.2.2.1, p1.Time.2.2.2.2.2.1, p1.Time.2.2.2.2.2.2.1, p1.Time.2.2.2.2.2.2.2.1, p1.Time.2.2.2.2.2.2.2.2.1, p1.Time.2.2.2.2.2.2.2.2.2.1, p1.Time.2.2.2.2.2.2.2.2.2.2] : List Int) s31) fun x44 =>
      some (.inl (w64 (s31 + 1), w64 (s32 + (w64 (x44 * x42)))))
    else
      some (.inr s32)
noncomputable def cost_Need_l2 (x63 : api_Row) (p1 : api_Rates) : (Int × Int) → Option ((Int × Int) ⊕ Int) := fun s0 => match s0 with
  | (s74, s75) =>
    if decide (s74 < (x63.Cells.length : Int)) then
      Option.bind (idxO x63.Cells s74) fun x85 =>
      Option.bind (F_stitch_Makes [x85]) fun r94 =>
      Option.bind (idxO ([p1.Length.1, p1.Length.2.1, p1.Length.2.2.1, p1.Length.2.2.2.1, p1.Length.2.2.2.2.1, p1.Length.2.2.2.2.2.1, p1.Length.2.2.2.2.2.2.1, p1.Length.2.2.2.2.2.2.2.1, p1.Length.2.2.2.2.2.2.2.2.1, p1.Length.2.2.2.2.2.2.2.2.2.1, p1.Length.2.2.2.2.2.2.2.2.2.2] : List Int) x85.Kind) fun x96 =>
      some (.inl (w64 (s74 + 1), w64 (s75 + (w64 (x96 * (if (1 : Int) < r94.1 then r94.1 else 1))))))
    else
      some (.inr s75)
noncomputable def cost_Need_l3 (p0 : api_Chart) (p1 : api_Rates) : (Int × Int) → Option ((Int × Int) ⊕ Int) := fun s0 => match s0 with
  | (s50, s51) =>
    if decide (s50 < (p0.Rows.length : Int)) then
      Option.bind (α := Int) (
        Option.bind (idxO p0.Rows s50) fun x63 =>
        Option.bind (whileO (cost_Need_l2 x63 p1) (0, s51)) fun e79 =>
          some e79) fun o59 =>
      some (.inl (w64 (s50 + 1), o59))
    else
      some (.inr s51)
noncomputable def F_cost_Need (p0 : api_Chart) (p1 : api_Rates) : Option (api_Bill × Int) :=
  Option.bind (F_cost_Count p0) fun r10 =>
  if r10.2 != 0 then
    some ((api_Bill.mk 0 0), r10.2)
  else
    Option.bind (F_cost_Check p1) fun r20 =>
    if r20 != 0 then
      some ((api_Bill.mk 0 0), r20)
    else
      Option.bind (α := Int) (
        Option.bind (whileO (cost_Need_l1 r10 p1) (0, w64 (p1.Turn * (p0.Rows.length : Int)))) fun e36 =>
          some e36) fun o27 =>
      Option.bind (α := Int) (
        Option.bind (whileO (cost_Need_l3 p0 p1) (0, 0)) fun e55 =>
          some e55) fun o46 =>
      some ((api_Bill.mk o46 o27), 0)
def c_cost_Need_val (r : (api_Bill × Int)) (x : Value) : Value := .tuple #[x, .int .i64 r.2]
def c_cost_Need_D (r : (api_Bill × Int)) (x : Value) : List Fact := [fRep r_api_Bill x r.1]
set_option maxHeartbeats 4000000 in
set_option maxRecDepth 100000 in
theorem c_cost_Need (E : Nat → Prop) (w0 : World) (p0 : api_Chart) (v0 : Value) (p1 : api_Rates) (v1 : Value) (r : (api_Bill × Int)) (h : F_cost_Need p0 p1 = some r) (S : St0 E [] w0 w0 [] [fRep r_api_Chart (v0) p0, fRep r_api_Rates (v1) p1]) :
    Calls Try.prog 18 #[v0, v1] w0 (Ret (X := Value) E [] w0 (c_cost_Need_val r) (fun _ => []) (c_cost_Need_D r)) := by
  unfold F_cost_Need at h
  obtain ⟨u1, rfl, hu2⟩ := S.know (i := 0) (e := fRep r_api_Chart (v0) p0) rfl
  have S := S.learn (fRep (rL r_api_Row) u1 p0.Rows) hu2
  obtain ⟨ad3, cp4, _, rfl, _⟩ := hu2
  obtain rfl : v1 = gv_api_Rates p1 := S.know (i := 2) (e := fRep r_api_Rates (v1) p1) rfl
  refine sEnter (args := [.agg #[iv p0.Start, .slice ad3 p0.Rows.length cp4], gv_api_Rates p1]) 91 Try.func18 rfl rfl (by simp) S (fun a S => ?_)
  refine sSeq (fun K5 hK5 => ?_)
  refine sRegion ?_
  refine sBox (v := .agg #[iv p0.Start, .slice ad3 p0.Rows.length cp4]) S (wN rfl) rfl rfl [iv p0.Start, .slice ad3 p0.Rows.length cp4] rfl rfl (lb rfl) fun a b6 w S => ?_
  refine sBox (v := gv_api_Rates p1) S (wN rfl) rfl rfl (gl_api_Rates p1) rfl rfl (lb rfl) fun a b7 w S => ?_
  refine sAlloc (.agg #[iv 0, iv 0]) S (wN rfl) rfl rfl [iv 0, iv 0] rfl rfl (lb rfl) fun a b8 w S => ?_
  refine sMove (iv 0) S (wN rfl) (.inr rfl) rfl rfl (lb rfl) fun a S => ?_
  refine leafL (leafT (hK5 _ _ ?_))
  refine sSeq (fun K9 hK9 => ?_)
  refine sRegion ?_
  refine sLoadN (p := b6) (off := 0) (T := 41) (vs := [iv p0.Start, .slice ad3 p0.Rows.length cp4]) 2 [iv p0.Start, .slice ad3 p0.Rows.length cp4] S (wN rfl) rfl rfl rfl rfl rfl rfl rfl (lb rfl) fun a S => ?_
  obtain ⟨r10, hx11, h⟩ := bindSome h
  refine sCall (X := Value) (f := 16) (vs := [.agg #[iv p0.Start, .slice ad3 p0.Rows.length cp4]]) (val := c_cost_Count_val r10) (B' := fun _ => []) (D' := c_cost_Count_D r10) [] [eBox b8 23 [iv 0, iv 0], eBox b7 44 (gl_api_Rates p1), eBox b6 41 [iv p0.Start, .slice ad3 p0.Rows.length cp4]] [fRep r_api_Chart (.agg #[iv p0.Start, .slice ad3 p0.Rows.length cp4]) p0] [0, 1, 2] [1] S (wN rfl) rfl callee16 rfl (by decide) rfl rfl (fun E1 w1 S1 => c_cost_Count E1 w1 p0 (.agg #[iv p0.Start, .slice ad3 p0.Rows.length cp4]) r10 hx11 S1) rfl (lb rfl) fun u12 a w S => ?_
  obtain rfl : u12 = gv_A11_Int r10.1 := S.mem.know (i := 0) (e := fRep r_A11_Int (u12) r10.1) rfl
  refine sMove (.tuple #[gv_A11_Int r10.1, iv r10.2]) S (wN rfl) (.inl rfl) rfl rfl (lb rfl) fun a S => ?_
  refine sExtract (vs := [gv_A11_Int r10.1, iv r10.2]) (gv_A11_Int r10.1) S (wN rfl) rfl rfl rfl rfl (lb rfl) fun a S => ?_
  refine sExtract (vs := [gv_A11_Int r10.1, iv r10.2]) (iv r10.2) S (wN rfl) rfl rfl rfl rfl (lb rfl) fun a S => ?_
  refine sAlloc (gv_A11_Int (0, 0, 0, 0, 0, 0, 0, 0, 0, 0, 0)) S (wN rfl) rfl rfl (gl_A11_Int (0, 0, 0, 0, 0, 0, 0, 0, 0, 0, 0)) rfl rfl (lb rfl) fun a b13 w S => ?_
  refine sStore (p := b13) (off := 0) (T := 42) (vs := [iv 0, iv 0, iv 0, iv 0, iv 0, iv 0, iv 0, iv 0, iv 0, iv 0, iv 0]) (v := gv_A11_Int r10.1) 0 [iv r10.1.1, iv r10.1.2.1, iv r10.1.2.2.1, iv r10.1.2.2.2.1, iv r10.1.2.2.2.2.1, iv r10.1.2.2.2.2.2.1, iv r10.1.2.2.2.2.2.2.1, iv r10.1.2.2.2.2.2.2.2.1, iv r10.1.2.2.2.2.2.2.2.2.1, iv r10.1.2.2.2.2.2.2.2.2.2.1, iv r10.1.2.2.2.2.2.2.2.2.2.2] S (wN rfl) rfl rfl rfl rfl rfl rfl rfl (by simp) rfl fun a w S => ?_
  refine sMove (iv r10.2) S (wN rfl) (.inr rfl) rfl rfl (lb rfl) fun a S => ?_
  refine leafL (leafT (hK9 _ _ ?_))
  refine sSeq (fun K14 hK14 => ?_)
  refine sSeq (fun K15 hK15 => ?_)
  refine sRegion ?_
  refine sMove (iv r10.2) S (wN rfl) (.inl rfl) rfl rfl (lb rfl) fun a S => ?_
  refine sBin (.bool (r10.2 != 0)) S (wN rfl) rfl rfl rfl (bNe _ _ _ _ .i64 r10.2 0) rfl (lb rfl) fun a S => ?_
  refine leafL (leafT (hK15 _ _ ?_))
  rcases iteSome h with ⟨hc16, h⟩ | ⟨hc16, h⟩
  · refine sCondT S rfl hc16 ?_
    refine sSeq (fun K17 hK17 => ?_)
    refine sRegion ?_
    refine sBuild [] [iv 0, iv 0] S (wN rfl) rfl rfl rfl rfl (lb rfl) fun a S => ?_
    refine sMove (iv r10.2) S (wN rfl) (.inl rfl) rfl rfl (lb rfl) fun a S => ?_
    refine sStore (p := b8) (off := 0) (T := 23) (vs := [iv 0, iv 0]) (v := .agg #[iv 0, iv 0]) 1 [iv 0, iv 0] S (wN rfl) rfl rfl rfl rfl rfl rfl rfl (by simp) rfl fun a w S => ?_
    refine sMove (iv r10.2) S (wN rfl) (.inr rfl) rfl rfl (lb rfl) fun a S => ?_
    refine leafL (leafT (hK17 _ _ ?_))
    obtain rfl := Option.some.inj h
    have S := S.learn (fRep r_api_Bill (.agg #[iv 0, iv 0]) (api_Bill.mk 0 0)) rfl
    exact wp_ret (rThen (sRet (.tuple #[.agg #[iv 0, iv 0], iv r10.2]) S (rsl2 rfl (rvN (c := 4) (t := 23) (T := 23) (p := b8) 0 [iv 0, iv 0] S rfl rfl rfl rfl) (rvT (t := 5) (v := iv r10.2) S rfl)) ⟨(.agg #[iv 0, iv 0]), rfl, S.mem.sel [] [0] (by decide) rfl rfl⟩))
  refine sCondF S rfl hc16 ?_
  refine wp_skip (leafT (hK14 _ _ ?_))
  refine sSeq (fun K18 hK18 => ?_)
  refine sSeq (fun K19 hK19 => ?_)
  refine sRegion ?_
  refine sLoadN (p := b7) (off := 0) (T := 44) (vs := (gl_api_Rates p1)) 2 (gl_api_Rates p1) S (wN rfl) rfl rfl rfl rfl rfl rfl rfl (lb rfl) fun a S => ?_
  obtain ⟨r20, hx21, h⟩ := bindSome h
  have S1 := S.mem
  refine sCallQ (X := Unit) (f := 22) (vs := [gv_api_Rates p1]) (val := fun _ => iv r20) S (wN rfl) rfl callee22 rfl (S1.quiet [3] rfl) (fun E1 w1 S1 => c_cost_Check E1 w1 p1 (gv_api_Rates p1) r20 hx21 S1) rfl (lb rfl) fun _ a w S => ?_
  refine sMove (iv r20) S (wN rfl) (.inr rfl) rfl rfl (lb rfl) fun a S => ?_
  refine leafL (leafT (hK19 _ _ ?_))
  refine sSeq (fun K22 hK22 => ?_)
  refine sRegion ?_
  refine sMove (iv r20) S (wN rfl) (.inl rfl) rfl rfl (lb rfl) fun a S => ?_
  refine sBin (.bool (r20 != 0)) S (wN rfl) rfl rfl rfl (bNe _ _ _ _ .i64 r20 0) rfl (lb rfl) fun a S => ?_
  refine leafL (leafT (hK22 _ _ ?_))
  rcases iteSome h with ⟨hc23, h⟩ | ⟨hc23, h⟩
  · refine sCondT S rfl hc23 ?_
    refine sSeq (fun K24 hK24 => ?_)
    refine sRegion ?_
    refine sBuild [] [iv 0, iv 0] S (wN rfl) rfl rfl rfl rfl (lb rfl) fun a S => ?_
    refine sMove (iv r20) S (wN rfl) (.inl rfl) rfl rfl (lb rfl) fun a S => ?_
    refine sStore (p := b8) (off := 0) (T := 23) (vs := [iv 0, iv 0]) (v := .agg #[iv 0, iv 0]) 1 [iv 0, iv 0] S (wN rfl) rfl rfl rfl rfl rfl rfl rfl (by simp) rfl fun a w S => ?_
    refine sMove (iv r20) S (wN rfl) (.inr rfl) rfl rfl (lb rfl) fun a S => ?_
    refine leafL (leafT (hK24 _ _ ?_))
    obtain rfl := Option.some.inj h
    have S := S.learn (fRep r_api_Bill (.agg #[iv 0, iv 0]) (api_Bill.mk 0 0)) rfl
    exact wp_ret (rThen (sRet (.tuple #[.agg #[iv 0, iv 0], iv r20]) S (rsl2 rfl (rvN (c := 4) (t := 23) (T := 23) (p := b8) 0 [iv 0, iv 0] S rfl rfl rfl rfl) (rvT (t := 5) (v := iv r20) S rfl)) ⟨(.agg #[iv 0, iv 0]), rfl, S.mem.sel [] [0] (by decide) rfl rfl⟩))
  refine sCondF S rfl hc23 ?_
  refine wp_skip (leafT (hK18 _ _ ?_))
  refine sSeq (fun K25 hK25 => ?_)
  refine sRegion ?_
  refine sField (b := b7) (off := 0) 22 22 S (wN rfl) rfl rfl rfl rfl rfl (lb rfl) fun a S => ?_
  refine sLoad1 (p := b7) (off := 22) (T := 44) (vs := (gl_api_Rates p1)) 2 (iv p1.Turn) S (wN rfl) rfl rfl rfl rfl rfl rfl (lb rfl) fun a S => ?_
  refine sField (b := b6) (off := 0) 1 1 S (wN rfl) rfl rfl rfl rfl rfl (lb rfl) fun a S => ?_
  refine sLoad1 (p := b6) (off := 1) (T := 41) (vs := [iv p0.Start, .slice ad3 p0.Rows.length cp4]) 3 (.slice ad3 p0.Rows.length cp4) S (wN rfl) rfl rfl rfl rfl rfl rfl (lb rfl) fun a S => ?_
  refine sLen (ad := ad3) (m := p0.Rows.length) (c := cp4) S (wN rfl) rfl Try.underlying39 rfl rfl (lb rfl) fun a S => ?_
  refine sBin (iv (w64 (p1.Turn * (p0.Rows.length : Int)))) S (wN rfl) rfl rfl rfl (bMul _ _ _ _ p1.Turn (p0.Rows.length : Int)) rfl (lb rfl) fun a S => ?_
  refine sBuild [(1, iv (w64 (p1.Turn * (p0.Rows.length : Int))))] [iv 0, iv (w64 (p1.Turn * (p0.Rows.length : Int)))] S (wN rfl) rfl rfl rfl rfl (lb rfl) fun a S => ?_
  refine sAlloc (.agg #[iv 0, iv 0]) S (wN rfl) rfl rfl [iv 0, iv 0] rfl rfl (lb rfl) fun a b26 w S => ?_
  refine sStore (p := b26) (off := 0) (T := 23) (vs := [iv 0, iv 0]) (v := .agg #[iv 0, iv (w64 (p1.Turn * (p0.Rows.length : Int)))]) 0 [iv 0, iv (w64 (p1.Turn * (p0.Rows.length : Int)))] S (wN rfl) rfl rfl rfl rfl rfl rfl rfl (by simp) rfl fun a w S => ?_
  refine leafL (leafT (hK25 _ _ ?_))
  obtain ⟨t28, h, g29⟩ := bindSome h
  refine sCut (fun a w => ∃ o27, o27 = t28 ∧ St [] E [] w0 91 a w [(2, .pointer (some ⟨b6, 0, none⟩)), (3, .pointer (some ⟨b7, 0, none⟩)), (4, .pointer (some ⟨b8, 0, none⟩)), (9, .pointer (some ⟨b26, 0, none⟩))] [eBox b6 41 [iv p0.Start, .slice ad3 p0.Rows.length cp4], eBox b7 44 (gl_api_Rates p1), eBox b8 23 [iv 0, iv 0], eBox b26 23 [iv 0, iv o27]] [fRep (rL r_api_Row) (.slice ad3 p0.Rows.length cp4) p0.Rows]) ?_ (fun a w hI => ?_)
  · refine sSeq (fun K30 hK30 => ?_)
    refine sRegion ?_
    refine sLoadN (p := b13) (off := 0) (T := 42) (vs := (gl_A11_Int r10.1)) 1 (gl_A11_Int r10.1) S (wN rfl) rfl rfl rfl rfl rfl rfl rfl (lb rfl) fun a S => ?_
    refine sMove (iv 0) S (wN rfl) (.inl rfl) rfl rfl (lb rfl) fun a S => ?_
    refine leafL (leafT (hK30 _ _ ?_))
    refine wp_block ?_
    obtain ⟨t35, hl, g34⟩ := bindSome h
    refine sLoop hl (fun s0 a w => match s0 with | (s31, s32) => St [] E [] w0 91 a w [(2, .pointer (some ⟨b6, 0, none⟩)), (3, .pointer (some ⟨b7, 0, none⟩)), (4, .pointer (some ⟨b8, 0, none⟩)), (9, .pointer (some ⟨b26, 0, none⟩)), (40, gv_A11_Int r10.1), (41, iv s31)] [eBox b6 41 [iv p0.Start, .slice ad3 p0.Rows.length cp4], eBox b7 44 (gl_api_Rates p1), eBox b8 23 [iv 0, iv 0], eBox b26 23 [iv 0, iv s32]] [fRep (rL r_api_Row) (.slice ad3 p0.Rows.length cp4) p0.Rows]) (S.fix [4, 3, 2, 0] [1] (by decide) rfl rfl rfl) ?_
    clear hl h
    intro s0 a w c0 hI h hu33
    obtain ⟨s31, s32⟩ := s0
    unfold cost_Need_l1 at h
    dsimp only at h hI
    have S := hI
    refine sSeq (fun K37 hK37 => ?_)
    refine sRegion ?_
    refine sBin (.bool (decide (s31 < 11))) S (wN rfl) rfl rfl rfl (bLt _ _ _ _ .i64 s31 11) rfl (lb rfl) fun a S => ?_
    refine leafL (leafT (hK37 _ _ ?_))
    refine sSeq (fun K38 hK38 => ?_)
    rcases iteSome h with ⟨hc39, h⟩ | ⟨hc39, h⟩
    rotate_left
    · refine sCondF S rfl hc39 ?_
      obtain rfl := Option.some.inj h
      obtain rfl := hu33 _ rfl
      have h := g34
      clear g34
      try dsimp only at h
      exact wp_exit (xThen (xThen (xHit (leafT (⟨s32, Option.some.inj h, S.fix [0, 1, 2, 3] [0] (by decide) rfl rfl rfl⟩)))))
    refine sCondT S rfl hc39 ?_
    refine wp_skip (leafT (hK38 _ _ ?_))
    refine sSeq (fun K40 hK40 => ?_)
    refine wp_block ?_
    refine sSeq (fun K41 hK41 => ?_)
    refine sRegion ?_
    refine sMove (iv s31) S (wN rfl) (.inl rfl) rfl rfl (lb rfl) fun a S => ?_
    obtain ⟨x42, hx43, h⟩ := bindSome h
    refine sIndexA (g := fun z => .int .i64 z) (xs := ([r10.1.1, r10.1.2.1, r10.1.2.2.1, r10.1.2.2.2.1, r10.1.2.2.2.2.1, r10.1.2.2.2.2.2.1, r10.1.2.2.2.2.2.2.1, r10.1.2.2.2.2.2.2.2.1, r10.1.2.2.2.2.2.2.2.2.1, r10.1.2.2.2.2.2.2.2.2.2.1, r10.1.2.2.2.2.2.2.2.2.2.2] : List Int)) (j := s31) (k := .i64) 11 [iv r10.1.1, iv r10.1.2.1, iv r10.1.2.2.1, iv r10.1.2.2.2.1, iv r10.1.2.2.2.2.1, iv r10.1.2.2.2.2.2.1, iv r10.1.2.2.2.2.2.2.1, iv r10.1.2.2.2.2.2.2.2.1, iv r10.1.2.2.2.2.2.2.2.2.1, iv r10.1.2.2.2.2.2.2.2.2.2.1, iv r10.1.2.2.2.2.2.2.2.2.2.2] S (wN rfl) rfl Try.underlying42 rfl rfl rfl rfl rfl rfl hx43 rfl (lb rfl) fun a S => ?_
    refine sMove (iv s31) S (wN rfl) (.inr rfl) rfl rfl (lb rfl) fun a S => ?_
    refine sMove (iv x42) S (wN rfl) (.inr rfl) rfl rfl (lb rfl) fun a S => ?_
    refine leafL (leafT (hK41 _ _ ?_))
    obtain ⟨x44, hx45, h⟩ := bindSome h
    refine sDraw (nf := [10]) (W := [(0, 45, .pointer (some ⟨b26, 1, none⟩)), (1, 46, iv s32), (2, 47, iv s31), (3, 48, .pointer (some ⟨b7, 11, none⟩)), (4, 49, .pointer (some ⟨b7, 11 + (s31).toNat * 1, none⟩)), (5, 50, iv x44), (6, 51, iv x42), (7, 52, iv (w64 (x44 * x42))), (8, 53, iv (w64 (s32 + (w64 (x44 * x42))))), (9, 54, .pointer (some ⟨b26, 1, none⟩))]) rfl S ?_
    refine node_by (A := anc_cost_Need_0) (nf := [10]) (Y := []) (W := [(0, 45, .pointer (some ⟨b26, 1, none⟩)), (1, 46, iv s32), (2, 47, iv s31), (3, 48, .pointer (some ⟨b7, 11, none⟩)), (4, 49, .pointer (some ⟨b7, 11 + (s31).toNat * 1, none⟩)), (5, 50, iv x44), (6, 51, iv x42), (7, 52, iv (w64 (x44 * x42))), (8, 53, iv (w64 (s32 + (w64 (x44 * x42))))), (9, 54, .pointer (some ⟨b26, 1, none⟩))]) 11 (by kernel_rfl) (by kernel_rfl) (by kernel_rfl) (by kernel_rfl) (by kernel_rfl) [0, 1, 2, 3, 4, 5, 6, 7, 8, 9] (by kernel_rfl) (by decide) (by decide) (aF 0 10 (by decide) ?_ (aF 1 9 (by decide) ?_ (aF 2 8 (by decide) ?_ (aF 3 7 (by decide) ?_ (aF 4 6 (by decide) ?_ (aF 5 5 (by decide) ?_ (aF 6 4 (by decide) ?_ (aF 7 3 (by decide) ?_ (aF 8 2 (by decide) ?_ (aF 9 1 (by decide) ?_ (aN 10 0 (by decide) ?_ (trivial)))))))))))) [] (fun q hq => by cases hq) (fun hY => absurd (hY 10 (by decide)) (by decide))
    · refine fI 45 (.pointer (some ⟨b26, 1, none⟩)) [(9, .pointer (some ⟨b26, 0, none⟩))] 0 [none] rfl rfl rfl rfl rfl rfl fun G a w S => ?_
      refine sField (b := b26) (off := 0) 1 1 S (wN rfl) rfl rfl rfl rfl rfl (lb rfl) fun a S => ?_
      exact leafL ⟨rfl, S⟩
    · refine fI 46 (iv s32) [(45, .pointer (some ⟨b26, 1, none⟩))] 1 [some 0] rfl rfl rfl rfl rfl rfl fun G a w S => ?_
      refine sLoad1 (p := b26) (off := 1) (T := 23) (vs := [iv 0, iv s32]) 3 (iv s32) S (wN rfl) rfl rfl rfl rfl rfl rfl (lb rfl) fun a S => ?_
      exact leafL ⟨rfl, S⟩
    · refine fI 47 (iv s31) [(10, iv s31)] 2 [none] rfl rfl rfl rfl rfl rfl fun G a w S => ?_
      refine sMove (iv s31) S (wN rfl) (.inl rfl) rfl rfl (lb rfl) fun a S => ?_
      exact leafL ⟨rfl, S⟩
    · refine fI 48 (.pointer (some ⟨b7, 11, none⟩)) [(3, .pointer (some ⟨b7, 0, none⟩))] 3 [none] rfl rfl rfl rfl rfl rfl fun G a w S => ?_
      refine sField (b := b7) (off := 0) 11 11 S (wN rfl) rfl rfl rfl rfl rfl (lb rfl) fun a S => ?_
      exact leafL ⟨rfl, S⟩
    · refine fI 49 (.pointer (some ⟨b7, 11 + (s31).toNat * 1, none⟩)) [(47, iv s31), (48, .pointer (some ⟨b7, 11, none⟩))] 4 [some 2, some 3] rfl rfl rfl rfl rfl rfl fun G a w S => ?_
      refine sIdxV (v := .pointer (some ⟨b7, 11, none⟩)) (k := .i64) (j := s31) (q := .pointer (some ⟨b7, 11 + (s31).toNat * 1, none⟩)) S (wN rfl) rfl rfl rfl (idxV_arr (m := 11) (sz := 1) Try.underlying42 rfl (idxO_rng (m := 11) hx45 rfl).1 (idxO_rng (m := 11) hx45 rfl).2 11) rfl (lb rfl) fun a S => ?_
      exact leafL ⟨rfl, S⟩
    · refine fI 50 (iv x44) [(49, .pointer (some ⟨b7, 11 + (s31).toNat * 1, none⟩))] 5 [some 4] rfl rfl rfl rfl rfl rfl fun G a w S => ?_
      refine sLoad1 (p := b7) (off := 11 + (s31).toNat * 1) (T := 44) (vs := [iv p1.Length.1, iv p1.Length.2.1, iv p1.Length.2.2.1, iv p1.Length.2.2.2.1, iv p1.Length.2.2.2.2.1, iv p1.Length.2.2.2.2.2.1, iv p1.Length.2.2.2.2.2.2.1, iv p1.Length.2.2.2.2.2.2.2.1, iv p1.Length.2.2.2.2.2.2.2.2.1, iv p1.Length.2.2.2.2.2.2.2.2.2.1, iv p1.Length.2.2.2.2.2.2.2.2.2.2, iv p1.Time.1, iv p1.Time.2.1, iv p1.Time.2.2.1, iv p1.Time.2.2.2.1, iv p1.Time.2.2.2.2.1, iv p1.Time.2.2.2.2.2.1, iv p1.Time.2.2.2.2.2.2.1, iv p1.Time.2.2.2.2.2.2.2.1, iv p1.Time.2.2.2.2.2.2.2.2.1, iv p1.Time.2.2.2.2.2.2.2.2.2.1, iv p1.Time.2.2.2.2.2.2.2.2.2.2, iv p1.Turn]) 1 (iv x44) S (wN rfl) rfl rfl rfl rfl (box_at (g := (fun z => .int .i64 z)) [iv p1.Length.1, iv p1.Length.2.1, iv p1.Length.2.2.1, iv p1.Length.2.2.2.1, iv p1.Length.2.2.2.2.1, iv p1.Length.2.2.2.2.2.1, iv p1.Length.2.2.2.2.2.2.1, iv p1.Length.2.2.2.2.2.2.2.1, iv p1.Length.2.2.2.2.2.2.2.2.1, iv p1.Length.2.2.2.2.2.2.2.2.2.1, iv p1.Length.2.2.2.2.2.2.2.2.2.2] [iv p1.Turn] 11 hx45 rfl rfl) rfl (lb rfl) fun a S => ?_
      exact leafL ⟨rfl, S⟩
    · refine fI 51 (iv x42) [(11, iv x42)] 6 [none] rfl rfl rfl rfl rfl rfl fun G a w S => ?_
      refine sMove (iv x42) S (wN rfl) (.inl rfl) rfl rfl (lb rfl) fun a S => ?_
      exact leafL ⟨rfl, S⟩
    · refine fI 52 (iv (w64 (x44 * x42))) [(50, iv x44), (51, iv x42)] 7 [some 5, some 6] rfl rfl rfl rfl rfl rfl fun G a w S => ?_
      refine sBin (iv (w64 (x44 * x42))) S (wN rfl) rfl rfl rfl (bMul _ _ _ _ x44 x42) rfl (lb rfl) fun a S => ?_
      exact leafL ⟨rfl, S⟩
    · refine fI 53 (iv (w64 (s32 + (w64 (x44 * x42))))) [(46, iv s32), (52, iv (w64 (x44 * x42)))] 8 [some 1, some 7] rfl rfl rfl rfl rfl rfl fun G a w S => ?_
      refine sBin (iv (w64 (s32 + (w64 (x44 * x42))))) S (wN rfl) rfl rfl rfl (bAdd _ _ _ _ s32 (w64 (x44 * x42))) rfl (lb rfl) fun a S => ?_
      exact leafL ⟨rfl, S⟩
    · refine fI 54 (.pointer (some ⟨b26, 1, none⟩)) [(9, .pointer (some ⟨b26, 0, none⟩))] 9 [none] rfl rfl rfl rfl rfl rfl fun G a w S => ?_
      refine sField (b := b26) (off := 0) 1 1 S (wN rfl) rfl rfl rfl rfl rfl (lb rfl) fun a S => ?_
      exact leafL ⟨rfl, S⟩
    refine ⟨_, [(53, iv (w64 (s32 + (w64 (x44 * x42))))), (54, .pointer (some ⟨b26, 1, none⟩))], rfl, (srcs_of [some 8, some 9] rfl rfl rfl), fun G a w S => ?_⟩
    refine sStore (p := b26) (off := 1) (T := 23) (vs := [iv 0, iv s32]) (v := iv (w64 (s32 + (w64 (x44 * x42))))) 3 [iv (w64 (s32 + (w64 (x44 * x42))))] S (wN rfl) rfl rfl rfl rfl rfl rfl rfl (by simp) rfl fun a w S => ?_
    refine leafL ⟨rfl, _, _, .inr ⟨[], rfl, S, hz_of rfl, ?_⟩⟩
    refine node_by (A := anc_cost_Need_0) (nf := [10]) (Y := [10]) 11 (by kernel_rfl) (by kernel_rfl) (by kernel_rfl) (by kernel_rfl) (by kernel_rfl) [0, 1, 2, 3, 4, 5, 6, 7, 8, 9] (by kernel_rfl) (by decide) (by decide) (aD 0 10 10 (by decide) (aD 1 9 10 (by decide) (aD 2 8 10 (by decide) (aD 3 7 10 (by decide) (aD 4 6 10 (by decide) (aD 5 5 10 (by decide) (aD 6 4 10 (by decide) (aD 7 3 10 (by decide) (aD 8 2 10 (by decide) (aD 9 1 10 (by decide) (aY 10 0 (by decide) (trivial)))))))))))) [(2, .pointer (some ⟨b6, 0, none⟩)), (3, .pointer (some ⟨b7, 0, none⟩)), (4, .pointer (some ⟨b8, 0, none⟩)), (9, .pointer (some ⟨b26, 0, none⟩)), (40, gv_A11_Int r10.1), (41, iv s31)] (fin_of [none, none, none, none, none, none] rfl (by kernel_rfl) (by kernel_rfl)) (fun _ a w S => ?_)
    refine leafB (leafT (hK40 _ _ ?_))
    refine sRegion ?_
    refine sBin (iv (w64 (s31 + 1))) S (wN rfl) rfl rfl rfl (bAdd _ _ _ _ s31 1) rfl (lb rfl) fun a S => ?_
    refine sMove (iv (w64 (s31 + 1))) S (wN rfl) (.inl rfl) rfl rfl (lb rfl) fun a S => ?_
    exact leafL (leafT (⟨(w64 (s31 + 1), w64 (s32 + (w64 (x44 * x42)))), (Option.some.inj h).symm, (S.fix [1, 2, 3, 0] [0] (by decide) rfl rfl rfl)⟩))
  obtain ⟨o27, rfl, S⟩ := hI
  have h := g29
  clear g29
  try dsimp only at h
  obtain ⟨t47, h, g48⟩ := bindSome h
  refine sCut (fun a w => ∃ o46, o46 = t47 ∧ St [] E [] w0 91 a w [(4, .pointer (some ⟨b8, 0, none⟩)), (9, .pointer (some ⟨b26, 0, none⟩))] [eBox b8 23 [iv 0, iv 0], eBox b26 23 [iv o46, iv o27]] []) ?_ (fun a w hI => ?_)
  rotate_left
  · obtain ⟨o46, rfl, S⟩ := hI
    have h := g48
    clear g48
    try dsimp only at h
    refine sSeq (fun K98 hK98 => ?_)
    refine sRegion ?_
    refine sLoadN (p := b26) (off := 0) (T := 23) (vs := [iv o46, iv o27]) 1 [iv o46, iv o27] S (wN rfl) rfl rfl rfl rfl rfl rfl rfl (lb rfl) fun a S => ?_
    refine sStore (p := b8) (off := 0) (T := 23) (vs := [iv 0, iv 0]) (v := .agg #[iv o46, iv o27]) 0 [iv o46, iv o27] S (wN rfl) rfl rfl rfl rfl rfl rfl rfl (by simp) rfl fun a w S => ?_
    refine sMove (iv 0) S (wN rfl) (.inr rfl) rfl rfl (lb rfl) fun a S => ?_
    refine leafL (leafT (hK98 _ _ ?_))
    obtain rfl := Option.some.inj h
    have S := S.learn (fRep r_api_Bill (.agg #[iv o46, iv o27]) (api_Bill.mk o46 o27)) rfl
    exact wp_ret (sRet (.tuple #[.agg #[iv o46, iv o27], iv 0]) S (rsl2 rfl (rvN (c := 4) (t := 23) (T := 23) (p := b8) 0 [iv o46, iv o27] S rfl rfl rfl rfl) (rvT (t := 5) (v := iv 0) S rfl)) ⟨(.agg #[iv o46, iv o27]), rfl, S.mem.sel [] [0] (by decide) rfl rfl⟩)
  refine sSeq (fun K49 hK49 => ?_)
  refine sRegion ?_
  refine sField (b := b6) (off := 0) 1 1 S (wN rfl) rfl rfl rfl rfl rfl (lb rfl) fun a S => ?_
  refine sLoad1 (p := b6) (off := 1) (T := 41) (vs := [iv p0.Start, .slice ad3 p0.Rows.length cp4]) 0 (.slice ad3 p0.Rows.length cp4) S (wN rfl) rfl rfl rfl rfl rfl rfl (lb rfl) fun a S => ?_
  refine sLen (ad := ad3) (m := p0.Rows.length) (c := cp4) S (wN rfl) rfl Try.underlying39 rfl rfl (lb rfl) fun a S => ?_
  refine sMove (iv 0) S (wN rfl) (.inl rfl) rfl rfl (lb rfl) fun a S => ?_
  refine leafL (leafT (hK49 _ _ ?_))
  refine wp_block ?_
  obtain ⟨t54, hl, g53⟩ := bindSome h
  refine sLoop hl (fun s0 a w => match s0 with | (s50, s51) => St [] E [] w0 91 a w [(3, .pointer (some ⟨b7, 0, none⟩)), (4, .pointer (some ⟨b8, 0, none⟩)), (9, .pointer (some ⟨b26, 0, none⟩)), (57, .slice ad3 p0.Rows.length cp4), (58, iv (p0.Rows.length : Int)), (59, iv s50)] [eBox b7 44 (gl_api_Rates p1), eBox b8 23 [iv 0, iv 0], eBox b26 23 [iv s51, iv o27]] [fRep (rL r_api_Row) (.slice ad3 p0.Rows.length cp4) p0.Rows]) (S.fix [1, 2, 3] [0] (by decide) rfl rfl rfl) ?_
  clear hl h
  intro s0 a w c0 hI h hu52
  obtain ⟨s50, s51⟩ := s0
  unfold cost_Need_l3 at h
  dsimp only at h hI
  have S := hI
  refine sSeq (fun K56 hK56 => ?_)
  refine sRegion ?_
  refine sBin (.bool (decide (s50 < (p0.Rows.length : Int)))) S (wN rfl) rfl rfl rfl (bLt _ _ _ _ .i64 s50 (p0.Rows.length : Int)) rfl (lb rfl) fun a S => ?_
  refine leafL (leafT (hK56 _ _ ?_))
  refine sSeq (fun K57 hK57 => ?_)
  rcases iteSome h with ⟨hc58, h⟩ | ⟨hc58, h⟩
  rotate_left
  · refine sCondF S rfl hc58 ?_
    obtain rfl := Option.some.inj h
    obtain rfl := hu52 _ rfl
    have h := g53
    clear g53
    try dsimp only at h
    exact wp_exit (xThen (xThen (xHit (leafT (⟨s51, Option.some.inj h, S.fix [1, 2] [] (by decide) rfl rfl rfl⟩)))))
  refine sCondT S rfl hc58 ?_
  refine wp_skip (leafT (hK57 _ _ ?_))
  obtain ⟨t60, h, g61⟩ := bindSome h
  refine sCut (fun a w => ∃ o59, o59 = t60 ∧ St [] E [] w0 91 a w [(3, .pointer (some ⟨b7, 0, none⟩)), (4, .pointer (some ⟨b8, 0, none⟩)), (9, .pointer (some ⟨b26, 0, none⟩)), (57, .slice ad3 p0.Rows.length cp4), (58, iv (p0.Rows.length : Int)), (59, iv s50)] [eBox b7 44 (gl_api_Rates p1), eBox b8 23 [iv 0, iv 0], eBox b26 23 [iv o59, iv o27]] [fRep (rL r_api_Row) (.slice ad3 p0.Rows.length cp4) p0.Rows]) ?_ (fun a w hI => ?_)
  rotate_left
  · obtain ⟨o59, rfl, S⟩ := hI
    have h := g61
    clear g61
    try dsimp only at h
    refine sRegion ?_
    refine sBin (iv (w64 (s50 + 1))) S (wN rfl) rfl rfl rfl (bAdd _ _ _ _ s50 1) rfl (lb rfl) fun a S => ?_
    refine sMove (iv (w64 (s50 + 1))) S (wN rfl) (.inl rfl) rfl rfl (lb rfl) fun a S => ?_
    exact leafL (leafT (⟨(w64 (s50 + 1), o59), (Option.some.inj h).symm, (S.fix [0, 1, 2] [0] (by decide) rfl rfl rfl)⟩))
  refine wp_block ?_
  refine sSeq (fun K62 hK62 => ?_)
  refine sRegion ?_
  obtain ⟨x63, hx64, h⟩ := bindSome h
  obtain ⟨q65, hq66, S⟩ := pIdx (P := Try.prog) (r := r_api_Row) (v := .slice ad3 p0.Rows.length cp4) (xs := p0.Rows) (j := s50) 39 72 0 S Try.underlying39 rfl rfl hx64
  refine sIdxV (v := .slice ad3 p0.Rows.length cp4) (k := .i64) (j := s50) S (wN rfl) rfl rfl rfl hq66 rfl (lb rfl) fun a S => ?_
  obtain ⟨u67, S⟩ := pLoad (r := r_api_Row) (q := q65) (x := x63) 0 S rfl
  obtain ⟨u68, rfl, hu69⟩ := S.mem.know (i := 1) (e := fRep r_api_Row (u67) x63) rfl
  have S := S.learn (fRep (rL r_api_Stitch) u68 x63.Cells) hu69
  obtain ⟨ad70, cp71, _, rfl, _⟩ := hu69
  refine sLoadVN (vq := q65) 1 [.bool x63.Back, .slice ad70 x63.Cells.length cp71] S (wN rfl) rfl rfl rfl rfl rfl rfl (lb rfl) fun a S => ?_
  refine sAlloc (.agg #[.bool false, .slice none 0 0]) S (wN rfl) rfl rfl [.bool false, .slice none 0 0] rfl rfl (lb rfl) fun a b72 w S => ?_
  refine sStore (p := b72) (off := 0) (T := 72) (vs := [.bool false, .slice none 0 0]) (v := .agg #[.bool x63.Back, .slice ad70 x63.Cells.length cp71]) 0 [.bool x63.Back, .slice ad70 x63.Cells.length cp71] S (wN rfl) rfl rfl rfl rfl rfl rfl rfl (by simp) rfl fun a w S => ?_
  refine leafL (leafT (hK62 _ _ ?_))
  refine sSeq (fun K73 hK73 => ?_)
  refine sRegion ?_
  refine sField (b := b72) (off := 0) 1 1 S (wN rfl) rfl rfl rfl rfl rfl (lb rfl) fun a S => ?_
  refine sLoad1 (p := b72) (off := 1) (T := 72) (vs := [.bool x63.Back, .slice ad70 x63.Cells.length cp71]) 0 (.slice ad70 x63.Cells.length cp71) S (wN rfl) rfl rfl rfl rfl rfl rfl (lb rfl) fun a S => ?_
  refine sLen (ad := ad70) (m := x63.Cells.length) (c := cp71) S (wN rfl) rfl Try.underlying70 rfl rfl (lb rfl) fun a S => ?_
  refine sMove (iv 0) S (wN rfl) (.inl rfl) rfl rfl (lb rfl) fun a S => ?_
  refine leafL (leafT (hK73 _ _ ?_))
  refine wp_block ?_
  obtain ⟨t78, hl, g77⟩ := bindSome h
  refine sLoop hl (fun s0 a w => match s0 with | (s74, s75) => St [] E [] w0 91 a w [(3, .pointer (some ⟨b7, 0, none⟩)), (4, .pointer (some ⟨b8, 0, none⟩)), (9, .pointer (some ⟨b26, 0, none⟩)), (57, .slice ad3 p0.Rows.length cp4), (58, iv (p0.Rows.length : Int)), (59, iv s50), (64, .slice ad70 x63.Cells.length cp71), (65, iv (x63.Cells.length : Int)), (66, iv s74)] [eBox b7 44 (gl_api_Rates p1), eBox b8 23 [iv 0, iv 0], eBox b26 23 [iv s75, iv o27]] [fRep (rL r_api_Row) (.slice ad3 p0.Rows.length cp4) p0.Rows, fRep (rL r_api_Stitch) (.slice ad70 x63.Cells.length cp71) x63.Cells]) (S.fix [1, 2, 3] [4, 0] (by decide) rfl rfl rfl) ?_
  clear hl h
  intro s0 a w c0 hI h hu76
  obtain ⟨s74, s75⟩ := s0
  unfold cost_Need_l2 at h
  dsimp only at h hI
  have S := hI
  refine sSeq (fun K80 hK80 => ?_)
  refine sRegion ?_
  refine sBin (.bool (decide (s74 < (x63.Cells.length : Int)))) S (wN rfl) rfl rfl rfl (bLt _ _ _ _ .i64 s74 (x63.Cells.length : Int)) rfl (lb rfl) fun a S => ?_
  refine leafL (leafT (hK80 _ _ ?_))
  refine sSeq (fun K81 hK81 => ?_)
  rcases iteSome h with ⟨hc82, h⟩ | ⟨hc82, h⟩
  rotate_left
  · refine sCondF S rfl hc82 ?_
    obtain rfl := Option.some.inj h
    obtain rfl := hu76 _ rfl
    have h := g77
    clear g77
    try dsimp only at h
    exact wp_exit (xThen (xThen (xHit (leafB (leafT (⟨s75, Option.some.inj h, S.fix [0, 1, 2] [0] (by decide) rfl rfl rfl⟩))))))
  refine sCondT S rfl hc82 ?_
  refine wp_skip (leafT (hK81 _ _ ?_))
  refine sSeq (fun K83 hK83 => ?_)
  refine wp_block ?_
  refine sSeq (fun K84 hK84 => ?_)
  refine sRegion ?_
  obtain ⟨x85, hx86, h⟩ := bindSome h
  obtain ⟨q87, hq88, S⟩ := pIdx (P := Try.prog) (r := r_api_Stitch) (v := .slice ad70 x63.Cells.length cp71) (xs := x63.Cells) (j := s74) 70 74 1 S Try.underlying70 rfl rfl hx86
  refine sIdxV (v := .slice ad70 x63.Cells.length cp71) (k := .i64) (j := s74) S (wN rfl) rfl rfl rfl hq88 rfl (lb rfl) fun a S => ?_
  obtain ⟨u89, S⟩ := pLoad (r := r_api_Stitch) (q := q87) (x := x85) 0 S rfl
  obtain rfl : u89 = .agg #[.int .u8 x85.Kind, .bool x85.Purl, iv x85.A, iv x85.B] := S.mem.know (i := 1) (e := fRep r_api_Stitch (u89) x85) rfl
  refine sLoadVN (vq := q87) 0 [.int .u8 x85.Kind, .bool x85.Purl, iv x85.A, iv x85.B] S (wN rfl) rfl rfl rfl rfl rfl rfl (lb rfl) fun a S => ?_
  refine sAlloc (.agg #[.int .u8 0, .bool false, iv 0, iv 0]) S (wN rfl) rfl rfl [.int .u8 0, .bool false, iv 0, iv 0] rfl rfl (lb rfl) fun a b90 w S => ?_
  refine sStore (p := b90) (off := 0) (T := 74) (vs := [.int .u8 0, .bool false, iv 0, iv 0]) (v := .agg #[.int .u8 x85.Kind, .bool x85.Purl, iv x85.A, iv x85.B]) 0 [.int .u8 x85.Kind, .bool x85.Purl, iv x85.A, iv x85.B] S (wN rfl) rfl rfl rfl rfl rfl rfl rfl (by simp) rfl fun a w S => ?_
  refine leafL (leafT (hK84 _ _ ?_))
  refine sSeq (fun K91 hK91 => ?_)
  refine sRegion ?_
  refine sLoadN (p := b90) (off := 0) (T := 74) (vs := [.int .u8 x85.Kind, .bool x85.Purl, iv x85.A, iv x85.B]) 0 [.int .u8 x85.Kind, .bool x85.Purl, iv x85.A, iv x85.B] S (wN rfl) rfl rfl rfl rfl rfl rfl rfl (lb rfl) fun a S => ?_
  refine sLit (r := r_api_Stitch) (T := 74) (xs := [x85]) [(0, .agg #[.int .u8 x85.Kind, .bool x85.Purl, iv x85.A, iv x85.B])] 1 [.agg #[.int .u8 x85.Kind, .bool x85.Purl, iv x85.A, iv x85.B]] [.int .u8 x85.Kind, .bool x85.Purl, iv x85.A, iv x85.B] (.agg #[.int .u8 0, .bool false, iv 0, iv 0]) 24 S (wN rfl) rfl rfl Try.underlying70 rfl (by decide) (by decide) (by kernel_rfl) rfl (fun E1 w1 hE => All.cons (r_api_Stitch.mono hE (S.mem.know (i := 1) (e := fRep r_api_Stitch (.agg #[.int .u8 x85.Kind, .bool x85.Purl, iv x85.A, iv x85.B]) x85) rfl)) (All.nil _ _ _)) rfl rfl (lb rfl) fun a w ad92 cp93 S => ?_
  obtain ⟨r94, hx95, h⟩ := bindSome h
  have S1 := S.mem
  have S1 := S1.shutR (r := r_api_Stitch) (T := 74) (v := .slice ad92 [x85].length cp93) (xs := [x85]) 0 rfl
  refine sCallQ (X := Unit) (f := 33) (vs := [.slice ad92 [x85].length cp93]) (val := fun _ => .tuple #[iv r94.1, iv r94.2]) S (wN rfl) rfl callee33 rfl (S1.quiet [0] rfl) (fun E1 w1 S1 => c_stitch_Makes E1 w1 [x85] (.slice ad92 [x85].length cp93) r94 hx95 S1) rfl (lb rfl) fun _ a w S => ?_
  refine sMove (.tuple #[iv r94.1, iv r94.2]) S (wN rfl) (.inl rfl) rfl rfl (lb rfl) fun a S => ?_
  refine sExtract (vs := [iv r94.1, iv r94.2]) (iv r94.1) S (wN rfl) rfl rfl rfl rfl (lb rfl) fun a S => ?_
  refine sExtract (vs := [iv r94.1, iv r94.2]) (iv r94.2) S (wN rfl) rfl rfl rfl rfl (lb rfl) fun a S => ?_
  refine sMove (iv r94.1) S (wN rfl) (.inr rfl) rfl rfl (lb rfl) fun a S => ?_
  refine sMove (iv r94.2) S (wN rfl) (.inr rfl) rfl rfl (lb rfl) fun a S => ?_
  refine leafL (leafT (hK91 _ _ ?_))
  obtain ⟨x96, hx97, h⟩ := bindSome h
  refine sDraw (nf := [12]) (W := [(0, 76, .pointer (some ⟨b26, 0, none⟩)), (1, 77, iv s75), (2, 78, .pointer (some ⟨b90, 0, none⟩)), (3, 79, .int .u8 x85.Kind), (4, 80, .pointer (some ⟨b7, 0, none⟩)), (5, 81, .pointer (some ⟨b7, 0 + (x85.Kind).toNat * 1, none⟩)), (6, 82, iv x96), (7, 83, iv r94.1), (8, 84, iv (if (1 : Int) < r94.1 then r94.1 else 1)), (9, 85, iv (w64 (x96 * (if (1 : Int) < r94.1 then r94.1 else 1)))), (10, 86, iv (w64 (s75 + (w64 (x96 * (if (1 : Int) < r94.1 then r94.1 else 1)))))), (11, 87, .pointer (some ⟨b26, 0, none⟩))]) rfl S ?_
  refine node_by (A := anc_cost_Need_1) (nf := [12]) (Y := []) (W := [(0, 76, .pointer (some ⟨b26, 0, none⟩)), (1, 77, iv s75), (2, 78, .pointer (some ⟨b90, 0, none⟩)), (3, 79, .int .u8 x85.Kind), (4, 80, .pointer (some ⟨b7, 0, none⟩)), (5, 81, .pointer (some ⟨b7, 0 + (x85.Kind).toNat * 1, none⟩)), (6, 82, iv x96), (7, 83, iv r94.1), (8, 84, iv (if (1 : Int) < r94.1 then r94.1 else 1)), (9, 85, iv (w64 (x96 * (if (1 : Int) < r94.1 then r94.1 else 1)))), (10, 86, iv (w64 (s75 + (w64 (x96 * (if (1 : Int) < r94.1 then r94.1 else 1)))))), (11, 87, .pointer (some ⟨b26, 0, none⟩))]) 13 (by kernel_rfl) (by kernel_rfl) (by kernel_rfl) (by kernel_rfl) (by kernel_rfl) [0, 1, 2, 3, 4, 5, 6, 7, 8, 9, 10, 11] (by kernel_rfl) (by decide) (by decide) (aF 0 12 (by decide) ?_ (aF 1 11 (by decide) ?_ (aF 2 10 (by decide) ?_ (aF 3 9 (by decide) ?_ (aF 4 8 (by decide) ?_ (aF 5 7 (by decide) ?_ (aF 6 6 (by decide) ?_ (aF 7 5 (by decide) ?_ (aF 8 4 (by decide) ?_ (aF 9 3 (by decide) ?_ (aF 10 2 (by decide) ?_ (aF 11 1 (by decide) ?_ (aN 12 0 (by decide) ?_ (trivial)))))))))))))) [] (fun q hq => by cases hq) (fun hY => absurd (hY 12 (by decide)) (by decide))
  · refine fI 76 (.pointer (some ⟨b26, 0, none⟩)) [(9, .pointer (some ⟨b26, 0, none⟩))] 0 [none] rfl rfl rfl rfl rfl rfl fun G a w S => ?_
    refine sField (b := b26) (off := 0) 0 0 S (wN rfl) rfl rfl rfl rfl rfl (lb rfl) fun a S => ?_
    exact leafL ⟨rfl, S⟩
  · refine fI 77 (iv s75) [(76, .pointer (some ⟨b26, 0, none⟩))] 1 [some 0] rfl rfl rfl rfl rfl rfl fun G a w S => ?_
    refine sLoad1 (p := b26) (off := 0) (T := 23) (vs := [iv s75, iv o27]) 4 (iv s75) S (wN rfl) rfl rfl rfl rfl rfl rfl (lb rfl) fun a S => ?_
    exact leafL ⟨rfl, S⟩
  · refine fI 78 (.pointer (some ⟨b90, 0, none⟩)) [(15, .pointer (some ⟨b90, 0, none⟩))] 2 [none] rfl rfl rfl rfl rfl rfl fun G a w S => ?_
    refine sField (b := b90) (off := 0) 0 0 S (wN rfl) rfl rfl rfl rfl rfl (lb rfl) fun a S => ?_
    exact leafL ⟨rfl, S⟩
  · refine fI 79 (.int .u8 x85.Kind) [(78, .pointer (some ⟨b90, 0, none⟩))] 3 [some 2] rfl rfl rfl rfl rfl rfl fun G a w S => ?_
    refine sLoad1 (p := b90) (off := 0) (T := 74) (vs := [.int .u8 x85.Kind, .bool x85.Purl, iv x85.A, iv x85.B]) 1 (.int .u8 x85.Kind) S (wN rfl) rfl rfl rfl rfl rfl rfl (lb rfl) fun a S => ?_
    exact leafL ⟨rfl, S⟩
  · refine fI 80 (.pointer (some ⟨b7, 0, none⟩)) [(3, .pointer (some ⟨b7, 0, none⟩))] 4 [none] rfl rfl rfl rfl rfl rfl fun G a w S => ?_
    refine sField (b := b7) (off := 0) 0 0 S (wN rfl) rfl rfl rfl rfl rfl (lb rfl) fun a S => ?_
    exact leafL ⟨rfl, S⟩
  · refine fI 81 (.pointer (some ⟨b7, 0 + (x85.Kind).toNat * 1, none⟩)) [(79, .int .u8 x85.Kind), (80, .pointer (some ⟨b7, 0, none⟩))] 5 [some 3, some 4] rfl rfl rfl rfl rfl rfl fun G a w S => ?_
    refine sIdxV (v := .pointer (some ⟨b7, 0, none⟩)) (k := .u8) (j := x85.Kind) (q := .pointer (some ⟨b7, 0 + (x85.Kind).toNat * 1, none⟩)) S (wN rfl) rfl rfl rfl (idxV_arr (m := 11) (sz := 1) Try.underlying42 rfl (idxO_rng (m := 11) hx97 rfl).1 (idxO_rng (m := 11) hx97 rfl).2 0) rfl (lb rfl) fun a S => ?_
    exact leafL ⟨rfl, S⟩
  · refine fI 82 (iv x96) [(81, .pointer (some ⟨b7, 0 + (x85.Kind).toNat * 1, none⟩))] 6 [some 5] rfl rfl rfl rfl rfl rfl fun G a w S => ?_
    refine sLoad1 (p := b7) (off := 0 + (x85.Kind).toNat * 1) (T := 44) (vs := [iv p1.Length.1, iv p1.Length.2.1, iv p1.Length.2.2.1, iv p1.Length.2.2.2.1, iv p1.Length.2.2.2.2.1, iv p1.Length.2.2.2.2.2.1, iv p1.Length.2.2.2.2.2.2.1, iv p1.Length.2.2.2.2.2.2.2.1, iv p1.Length.2.2.2.2.2.2.2.2.1, iv p1.Length.2.2.2.2.2.2.2.2.2.1, iv p1.Length.2.2.2.2.2.2.2.2.2.2, iv p1.Time.1, iv p1.Time.2.1, iv p1.Time.2.2.1, iv p1.Time.2.2.2.1, iv p1.Time.2.2.2.2.1, iv p1.Time.2.2.2.2.2.1, iv p1.Time.2.2.2.2.2.2.1, iv p1.Time.2.2.2.2.2.2.2.1, iv p1.Time.2.2.2.2.2.2.2.2.1, iv p1.Time.2.2.2.2.2.2.2.2.2.1, iv p1.Time.2.2.2.2.2.2.2.2.2.2, iv p1.Turn]) 2 (iv x96) S (wN rfl) rfl rfl rfl rfl (box_at (g := (fun z => .int .i64 z)) [] [iv p1.Time.1, iv p1.Time.2.1, iv p1.Time.2.2.1, iv p1.Time.2.2.2.1, iv p1.Time.2.2.2.2.1, iv p1.Time.2.2.2.2.2.1, iv p1.Time.2.2.2.2.2.2.1, iv p1.Time.2.2.2.2.2.2.2.1, iv p1.Time.2.2.2.2.2.2.2.2.1, iv p1.Time.2.2.2.2.2.2.2.2.2.1, iv p1.Time.2.2.2.2.2.2.2.2.2.2, iv p1.Turn] 0 hx97 rfl rfl) rfl (lb rfl) fun a S => ?_
    exact leafL ⟨rfl, S⟩
  · refine fI 83 (iv r94.1) [(16, iv r94.1)] 7 [none] rfl rfl rfl rfl rfl rfl fun G a w S => ?_
    refine sMove (iv r94.1) S (wN rfl) (.inl rfl) rfl rfl (lb rfl) fun a S => ?_
    exact leafL ⟨rfl, S⟩
  · refine fI 84 (iv (if (1 : Int) < r94.1 then r94.1 else 1)) [(83, iv r94.1)] 8 [some 7] rfl rfl rfl rfl rfl rfl fun G a w S => ?_
    refine sMax2 (p := 1) (q := r94.1) S (wN rfl) rfl rfl rfl rfl (lb rfl) fun a S => ?_
    exact leafL ⟨rfl, S⟩
  · refine fI 85 (iv (w64 (x96 * (if (1 : Int) < r94.1 then r94.1 else 1)))) [(82, iv x96), (84, iv (if (1 : Int) < r94.1 then r94.1 else 1))] 9 [some 6, some 8] rfl rfl rfl rfl rfl rfl fun G a w S => ?_
    refine sBin (iv (w64 (x96 * (if (1 : Int) < r94.1 then r94.1 else 1)))) S (wN rfl) rfl rfl rfl (bMul _ _ _ _ x96 (if (1 : Int) < r94.1 then r94.1 else 1)) rfl (lb rfl) fun a S => ?_
    exact leafL ⟨rfl, S⟩
  · refine fI 86 (iv (w64 (s75 + (w64 (x96 * (if (1 : Int) < r94.1 then r94.1 else 1)))))) [(77, iv s75), (85, iv (w64 (x96 * (if (1 : Int) < r94.1 then r94.1 else 1))))] 10 [some 1, some 9] rfl rfl rfl rfl rfl rfl fun G a w S => ?_
    refine sBin (iv (w64 (s75 + (w64 (x96 * (if (1 : Int) < r94.1 then r94.1 else 1)))))) S (wN rfl) rfl rfl rfl (bAdd _ _ _ _ s75 (w64 (x96 * (if (1 : Int) < r94.1 then r94.1 else 1)))) rfl (lb rfl) fun a S => ?_
    exact leafL ⟨rfl, S⟩
  · refine fI 87 (.pointer (some ⟨b26, 0, none⟩)) [(9, .pointer (some ⟨b26, 0, none⟩))] 11 [none] rfl rfl rfl rfl rfl rfl fun G a w S => ?_
    refine sField (b := b26) (off := 0) 0 0 S (wN rfl) rfl rfl rfl rfl rfl (lb rfl) fun a S => ?_
    exact leafL ⟨rfl, S⟩
  refine ⟨_, [(86, iv (w64 (s75 + (w64 (x96 * (if (1 : Int) < r94.1 then r94.1 else 1)))))), (87, .pointer (some ⟨b26, 0, none⟩))], rfl, (srcs_of [some 10, some 11] rfl rfl rfl), fun G a w S => ?_⟩
  refine sStore (p := b26) (off := 0) (T := 23) (vs := [iv s75, iv o27]) (v := iv (w64 (s75 + (w64 (x96 * (if (1 : Int) < r94.1 then r94.1 else 1)))))) 4 [iv (w64 (s75 + (w64 (x96 * (if (1 : Int) < r94.1 then r94.1 else 1)))))] S (wN rfl) rfl rfl rfl rfl rfl rfl rfl (by simp) rfl fun a w S => ?_
  refine leafL ⟨rfl, _, _, .inr ⟨[], rfl, S, hz_of rfl, ?_⟩⟩
  refine node_by (A := anc_cost_Need_1) (nf := [12]) (Y := [12]) 13 (by kernel_rfl) (by kernel_rfl) (by kernel_rfl) (by kernel_rfl) (by kernel_rfl) [0, 1, 2, 3, 4, 5, 6, 7, 8, 9, 10, 11] (by kernel_rfl) (by decide) (by decide) (aD 0 12 12 (by decide) (aD 1 11 12 (by decide) (aD 2 10 12 (by decide) (aD 3 9 12 (by decide) (aD 4 8 12 (by decide) (aD 5 7 12 (by decide) (aD 6 6 12 (by decide) (aD 7 5 12 (by decide) (aD 8 4 12 (by decide) (aD 9 3 12 (by decide) (aD 10 2 12 (by decide) (aD 11 1 12 (by decide) (aY 12 0 (by decide) (trivial)))))))))))))) [(3, .pointer (some ⟨b7, 0, none⟩)), (4, .pointer (some ⟨b8, 0, none⟩)), (9, .pointer (some ⟨b26, 0, none⟩)), (57, .slice ad3 p0.Rows.length cp4), (58, iv (p0.Rows.length : Int)), (59, iv s50), (64, .slice ad70 x63.Cells.length cp71), (65, iv (x63.Cells.length : Int)), (66, iv s74)] (fin_of [none, none, none, none, none, none, none, none, none] rfl (by kernel_rfl) (by kernel_rfl)) (fun _ a w S => ?_)
  refine leafB (leafT (hK83 _ _ ?_))
  refine sRegion ?_
  refine sBin (iv (w64 (s74 + 1))) S (wN rfl) rfl rfl rfl (bAdd _ _ _ _ s74 1) rfl (lb rfl) fun a S => ?_
  refine sMove (iv (w64 (s74 + 1))) S (wN rfl) (.inl rfl) rfl rfl (lb rfl) fun a S => ?_
  exact leafL (leafT (⟨(w64 (s74 + 1), w64 (s75 + (w64 (x96 * (if (1 : Int) < r94.1 then r94.1 else 1))))), (Option.some.inj h).symm, (S.fix [3, 4, 0] [3, 4] (by decide) rfl rfl rfl)⟩))

end Go.Proofs.Ytdbgkakmhlmpbaa
namespace Go.Proofs.Ytdbgkakmhlmpbaa
open Go.RowKit
set_option linter.unusedVariables false

noncomputable def F_raddleref25_Gives (p0 : api_Stitch) : Option Int :=
  if p0.Kind == 10 then
    some 0
  else
    Option.bind (α := Bool) (
      if p0.Kind == 5 then
        some (p0.Kind == 5)
      else
        some (p0.Kind == 9)) fun o8 =>
    if o8 then
      some p0.A
    else
      Option.bind (α := Bool) (
        if p0.Kind == 6 then
          some (p0.Kind == 6)
        else
          some (p0.Kind == 7)) fun o15 =>
      if o15 then
        some (w64 (p0.A + p0.B))
      else
        some 1
set_option maxHeartbeats 4000000 in
set_option maxRecDepth 100000 in
theorem c_raddleref25_Gives (E : Nat → Prop) (w0 : World) (p0 : api_Stitch) (v0 : Value) (r : Int) (h : F_raddleref25_Gives p0 = some r) (S : St0 E [] w0 w0 [] [fRep r_api_Stitch (v0) p0]) :
    Calls Try.prog 32 #[v0] w0 (Ret (X := Unit) E [] w0 (fun _ => .int .i64 r) (fun _ => []) (fun _ => [])) := by
  unfold F_raddleref25_Gives at h
  obtain rfl : v0 = .agg #[.int .u8 p0.Kind, .bool p0.Purl, iv p0.A, iv p0.B] := S.know (i := 0) (e := fRep r_api_Stitch (v0) p0) rfl
  refine sEnter (args := [.agg #[.int .u8 p0.Kind, .bool p0.Purl, iv p0.A, iv p0.B]]) 20 Try.func32 rfl rfl (by simp) S (fun a S => ?_)
  refine sSeq (fun K1 hK1 => ?_)
  refine sRegion ?_
  refine sBox (v := .agg #[.int .u8 p0.Kind, .bool p0.Purl, iv p0.A, iv p0.B]) S (wN rfl) rfl rfl [.int .u8 p0.Kind, .bool p0.Purl, iv p0.A, iv p0.B] rfl rfl (lb rfl) fun a b2 w S => ?_
  refine sMove (iv 0) S (wN rfl) (.inr rfl) rfl rfl (lb rfl) fun a S => ?_
  refine leafL (leafT (hK1 _ _ ?_))
  refine sSeq (fun K3 hK3 => ?_)
  refine sSeq (fun K4 hK4 => ?_)
  refine sRegion ?_
  refine sField (b := b2) (off := 0) 0 0 S (wN rfl) rfl rfl rfl rfl rfl (lb rfl) fun a S => ?_
  refine sLoad1 (p := b2) (off := 0) (T := 74) (vs := [.int .u8 p0.Kind, .bool p0.Purl, iv p0.A, iv p0.B]) 0 (.int .u8 p0.Kind) S (wN rfl) rfl rfl rfl rfl rfl rfl (lb rfl) fun a S => ?_
  refine leafL (leafT (hK4 _ _ ?_))
  refine wp_block ?_
  refine sSeq (fun K5 hK5 => ?_)
  refine sRegion ?_
  refine sBin (.bool (p0.Kind == 10)) S (wN rfl) rfl rfl rfl (bEq _ _ _ _ .u8 p0.Kind 10) rfl (lb rfl) fun a S => ?_
  refine sMove (.bool (p0.Kind == 10)) S (wN rfl) (.inr rfl) rfl rfl (lb rfl) fun a S => ?_
  refine leafL (leafT (hK5 _ _ ?_))
  rcases iteSome h with ⟨hc6, h⟩ | ⟨hc6, h⟩
  · refine sCondT S rfl hc6 ?_
    refine sSeq (fun K7 hK7 => ?_)
    refine sRegion ?_
    refine sMove (iv 0) S (wN rfl) (.inr rfl) rfl rfl (lb rfl) fun a S => ?_
    refine leafL (leafT (hK7 _ _ ?_))
    obtain rfl := Option.some.inj h
    exact wp_ret (rBlock (rThen (sRet (iv 0) S (rsl1 rfl (rvT (t := 2) (v := iv 0) S rfl)) ⟨(), rfl, S.mem.sel [] [] (by decide) rfl rfl⟩)))
  refine sCondF S rfl hc6 ?_
  obtain ⟨t9, h, g10⟩ := bindSome h
  refine sCut (fun a w => ∃ o8, o8 = t9 ∧ St [] E [] w0 20 a w [(1, .pointer (some ⟨b2, 0, none⟩)), (4, .int .u8 p0.Kind), (7, .bool o8)] [eBox b2 74 [.int .u8 p0.Kind, .bool p0.Purl, iv p0.A, iv p0.B]] []) ?_ (fun a w hI => ?_)
  · refine sSeq (fun K11 hK11 => ?_)
    refine sRegion ?_
    refine sBin (.bool (p0.Kind == 5)) S (wN rfl) rfl rfl rfl (bEq _ _ _ _ .u8 p0.Kind 5) rfl (lb rfl) fun a S => ?_
    refine sMove (.bool (p0.Kind == 5)) S (wN rfl) (.inr rfl) rfl rfl (lb rfl) fun a S => ?_
    refine leafL (leafT (hK11 _ _ ?_))
    rcases iteSome h with ⟨hc12, h⟩ | ⟨hc12, h⟩
    · refine sCondT S rfl hc12 ?_
      exact wp_skip (leafT (⟨p0.Kind == 5, Option.some.inj h, S.fix [0] [] (by decide) rfl rfl rfl⟩))
    refine sCondF S rfl hc12 ?_
    refine sRegion ?_
    refine sBin (.bool (p0.Kind == 9)) S (wN rfl) rfl rfl rfl (bEq _ _ _ _ .u8 p0.Kind 9) rfl (lb rfl) fun a S => ?_
    refine sMove (.bool (p0.Kind == 9)) S (wN rfl) (.inr rfl) rfl rfl (lb rfl) fun a S => ?_
    exact leafL (leafT (⟨p0.Kind == 9, Option.some.inj h, S.fix [0] [] (by decide) rfl rfl rfl⟩))
  obtain ⟨o8, rfl, S⟩ := hI
  have h := g10
  clear g10
  try dsimp only at h
  rcases iteSome h with ⟨hc13, h⟩ | ⟨hc13, h⟩
  · refine sCondT S rfl hc13 ?_
    refine sSeq (fun K14 hK14 => ?_)
    refine sRegion ?_
    refine sField (b := b2) (off := 0) 2 2 S (wN rfl) rfl rfl rfl rfl rfl (lb rfl) fun a S => ?_
    refine sLoad1 (p := b2) (off := 2) (T := 74) (vs := [.int .u8 p0.Kind, .bool p0.Purl, iv p0.A, iv p0.B]) 0 (iv p0.A) S (wN rfl) rfl rfl rfl rfl rfl rfl (lb rfl) fun a S => ?_
    refine sMove (iv p0.A) S (wN rfl) (.inr rfl) rfl rfl (lb rfl) fun a S => ?_
    refine leafL (leafT (hK14 _ _ ?_))
    obtain rfl := Option.some.inj h
    exact wp_ret (rBlock (rThen (sRet (iv p0.A) S (rsl1 rfl (rvT (t := 2) (v := iv p0.A) S rfl)) ⟨(), rfl, S.mem.sel [] [] (by decide) rfl rfl⟩)))
  refine sCondF S rfl hc13 ?_
  obtain ⟨t16, h, g17⟩ := bindSome h
  refine sCut (fun a w => ∃ o15, o15 = t16 ∧ St [] E [] w0 20 a w [(1, .pointer (some ⟨b2, 0, none⟩)), (12, .bool o15)] [eBox b2 74 [.int .u8 p0.Kind, .bool p0.Purl, iv p0.A, iv p0.B]] []) ?_ (fun a w hI => ?_)
  · refine sSeq (fun K18 hK18 => ?_)
    refine sRegion ?_
    refine sBin (.bool (p0.Kind == 6)) S (wN rfl) rfl rfl rfl (bEq _ _ _ _ .u8 p0.Kind 6) rfl (lb rfl) fun a S => ?_
    refine sMove (.bool (p0.Kind == 6)) S (wN rfl) (.inr rfl) rfl rfl (lb rfl) fun a S => ?_
    refine leafL (leafT (hK18 _ _ ?_))
    rcases iteSome h with ⟨hc19, h⟩ | ⟨hc19, h⟩
    · refine sCondT S rfl hc19 ?_
      exact wp_skip (leafT (⟨p0.Kind == 6, Option.some.inj h, S.fix [0] [] (by decide) rfl rfl rfl⟩))
    refine sCondF S rfl hc19 ?_
    refine sRegion ?_
    refine sBin (.bool (p0.Kind == 7)) S (wN rfl) rfl rfl rfl (bEq _ _ _ _ .u8 p0.Kind 7) rfl (lb rfl) fun a S => ?_
    refine sMove (.bool (p0.Kind == 7)) S (wN rfl) (.inr rfl) rfl rfl (lb rfl) fun a S => ?_
    exact leafL (leafT (⟨p0.Kind == 7, Option.some.inj h, S.fix [0] [] (by decide) rfl rfl rfl⟩))
  obtain ⟨o15, rfl, S⟩ := hI
  have h := g17
  clear g17
  try dsimp only at h
  rcases iteSome h with ⟨hc20, h⟩ | ⟨hc20, h⟩
  rotate_left
  · refine sCondF S rfl hc20 ?_
    refine wp_skip (leafB (leafT (hK3 _ _ ?_)))
    refine sSeq (fun K22 hK22 => ?_)
    refine sRegion ?_
    refine sMove (iv 1) S (wN rfl) (.inr rfl) rfl rfl (lb rfl) fun a S => ?_
    refine leafL (leafT (hK22 _ _ ?_))
    obtain rfl := Option.some.inj h
    exact wp_ret (sRet (iv 1) S (rsl1 rfl (rvT (t := 2) (v := iv 1) S rfl)) ⟨(), rfl, S.mem.sel [] [] (by decide) rfl rfl⟩)
  refine sCondT S rfl hc20 ?_
  refine sSeq (fun K21 hK21 => ?_)
  refine sRegion ?_
  refine sField (b := b2) (off := 0) 2 2 S (wN rfl) rfl rfl rfl rfl rfl (lb rfl) fun a S => ?_
  refine sLoad1 (p := b2) (off := 2) (T := 74) (vs := [.int .u8 p0.Kind, .bool p0.Purl, iv p0.A, iv p0.B]) 0 (iv p0.A) S (wN rfl) rfl rfl rfl rfl rfl rfl (lb rfl) fun a S => ?_
  refine sField (b := b2) (off := 0) 3 3 S (wN rfl) rfl rfl rfl rfl rfl (lb rfl) fun a S => ?_
  refine sLoad1 (p := b2) (off := 3) (T := 74) (vs := [.int .u8 p0.Kind, .bool p0.Purl, iv p0.A, iv p0.B]) 0 (iv p0.B) S (wN rfl) rfl rfl rfl rfl rfl rfl (lb rfl) fun a S => ?_
  refine sBin (iv (w64 (p0.A + p0.B))) S (wN rfl) rfl rfl rfl (bAdd _ _ _ _ p0.A p0.B) rfl (lb rfl) fun a S => ?_
  refine sMove (iv (w64 (p0.A + p0.B))) S (wN rfl) (.inr rfl) rfl rfl (lb rfl) fun a S => ?_
  refine leafL (leafT (hK21 _ _ ?_))
  obtain rfl := Option.some.inj h
  exact wp_ret (rBlock (rThen (sRet (iv (w64 (p0.A + p0.B))) S (rsl1 rfl (rvT (t := 2) (v := iv (w64 (p0.A + p0.B))) S rfl)) ⟨(), rfl, S.mem.sel [] [] (by decide) rfl rfl⟩)))

end Go.Proofs.Ytdbgkakmhlmpbaa
namespace Go.Proofs.Ytdbgkakmhlmpbaa
open Go.RowKit
set_option linter.unusedVariables false

noncomputable def F_raddleref25_Used (p0 : api_Stitch) : Option Int :=
  Option.bind (α := Bool) (
    if p0.Kind == 2 then
      some (p0.Kind == 2)
    else
      some (p0.Kind == 9)) fun o5 =>
  if o5 then
    some 0
  else
    Option.bind (α := Bool) (
      if p0.Kind == 3 then
        some (p0.Kind == 3)
      else
        if p0.Kind == 4 then
          some (p0.Kind == 4)
        else
          some (p0.Kind == 10)) fun o12 =>
    if o12 then
      some p0.A
    else
      Option.bind (α := Bool) (
        if p0.Kind == 6 then
          some (p0.Kind == 6)
        else
          some (p0.Kind == 7)) fun o21 =>
      if o21 then
        some (w64 (p0.A + p0.B))
      else
        some 1
set_option maxHeartbeats 4000000 in
set_option maxRecDepth 100000 in
theorem c_raddleref25_Used (E : Nat → Prop) (w0 : World) (p0 : api_Stitch) (v0 : Value) (r : Int) (h : F_raddleref25_Used p0 = some r) (S : St0 E [] w0 w0 [] [fRep r_api_Stitch (v0) p0]) :
    Calls Try.prog 90 #[v0] w0 (Ret (X := Unit) E [] w0 (fun _ => .int .i64 r) (fun _ => []) (fun _ => [])) := by
  unfold F_raddleref25_Used at h
  obtain rfl : v0 = .agg #[.int .u8 p0.Kind, .bool p0.Purl, iv p0.A, iv p0.B] := S.know (i := 0) (e := fRep r_api_Stitch (v0) p0) rfl
  refine sEnter (args := [.agg #[.int .u8 p0.Kind, .bool p0.Purl, iv p0.A, iv p0.B]]) 22 Try.func90 rfl rfl (by simp) S (fun a S => ?_)
  refine sSeq (fun K1 hK1 => ?_)
  refine sRegion ?_
  refine sBox (v := .agg #[.int .u8 p0.Kind, .bool p0.Purl, iv p0.A, iv p0.B]) S (wN rfl) rfl rfl [.int .u8 p0.Kind, .bool p0.Purl, iv p0.A, iv p0.B] rfl rfl (lb rfl) fun a b2 w S => ?_
  refine sMove (iv 0) S (wN rfl) (.inr rfl) rfl rfl (lb rfl) fun a S => ?_
  refine leafL (leafT (hK1 _ _ ?_))
  refine sSeq (fun K3 hK3 => ?_)
  refine sSeq (fun K4 hK4 => ?_)
  refine sRegion ?_
  refine sField (b := b2) (off := 0) 0 0 S (wN rfl) rfl rfl rfl rfl rfl (lb rfl) fun a S => ?_
  refine sLoad1 (p := b2) (off := 0) (T := 74) (vs := [.int .u8 p0.Kind, .bool p0.Purl, iv p0.A, iv p0.B]) 0 (.int .u8 p0.Kind) S (wN rfl) rfl rfl rfl rfl rfl rfl (lb rfl) fun a S => ?_
  refine leafL (leafT (hK4 _ _ ?_))
  refine wp_block ?_
  obtain ⟨t6, h, g7⟩ := bindSome h
  refine sCut (fun a w => ∃ o5, o5 = t6 ∧ St [] E [] w0 22 a w [(1, .pointer (some ⟨b2, 0, none⟩)), (4, .int .u8 p0.Kind), (5, .bool o5)] [eBox b2 74 [.int .u8 p0.Kind, .bool p0.Purl, iv p0.A, iv p0.B]] []) ?_ (fun a w hI => ?_)
  · refine sSeq (fun K8 hK8 => ?_)
    refine sRegion ?_
    refine sBin (.bool (p0.Kind == 2)) S (wN rfl) rfl rfl rfl (bEq _ _ _ _ .u8 p0.Kind 2) rfl (lb rfl) fun a S => ?_
    refine sMove (.bool (p0.Kind == 2)) S (wN rfl) (.inr rfl) rfl rfl (lb rfl) fun a S => ?_
    refine leafL (leafT (hK8 _ _ ?_))
    rcases iteSome h with ⟨hc9, h⟩ | ⟨hc9, h⟩
    · refine sCondT S rfl hc9 ?_
      exact wp_skip (leafT (⟨p0.Kind == 2, Option.some.inj h, S.fix [0] [] (by decide) rfl rfl rfl⟩))
    refine sCondF S rfl hc9 ?_
    refine sRegion ?_
    refine sBin (.bool (p0.Kind == 9)) S (wN rfl) rfl rfl rfl (bEq _ _ _ _ .u8 p0.Kind 9) rfl (lb rfl) fun a S => ?_
    refine sMove (.bool (p0.Kind == 9)) S (wN rfl) (.inr rfl) rfl rfl (lb rfl) fun a S => ?_
    exact leafL (leafT (⟨p0.Kind == 9, Option.some.inj h, S.fix [0] [] (by decide) rfl rfl rfl⟩))
  obtain ⟨o5, rfl, S⟩ := hI
  have h := g7
  clear g7
  try dsimp only at h
  rcases iteSome h with ⟨hc10, h⟩ | ⟨hc10, h⟩
  · refine sCondT S rfl hc10 ?_
    refine sSeq (fun K11 hK11 => ?_)
    refine sRegion ?_
    refine sMove (iv 0) S (wN rfl) (.inr rfl) rfl rfl (lb rfl) fun a S => ?_
    refine leafL (leafT (hK11 _ _ ?_))
    obtain rfl := Option.some.inj h
    exact wp_ret (rBlock (rThen (sRet (iv 0) S (rsl1 rfl (rvT (t := 2) (v := iv 0) S rfl)) ⟨(), rfl, S.mem.sel [] [] (by decide) rfl rfl⟩)))
  refine sCondF S rfl hc10 ?_
  obtain ⟨t13, h, g14⟩ := bindSome h
  refine sCut (fun a w => ∃ o12, o12 = t13 ∧ St [] E [] w0 22 a w [(1, .pointer (some ⟨b2, 0, none⟩)), (4, .int .u8 p0.Kind), (8, .bool o12)] [eBox b2 74 [.int .u8 p0.Kind, .bool p0.Purl, iv p0.A, iv p0.B]] []) ?_ (fun a w hI => ?_)
  · refine sSeq (fun K15 hK15 => ?_)
    refine sRegion ?_
    refine sBin (.bool (p0.Kind == 3)) S (wN rfl) rfl rfl rfl (bEq _ _ _ _ .u8 p0.Kind 3) rfl (lb rfl) fun a S => ?_
    refine sMove (.bool (p0.Kind == 3)) S (wN rfl) (.inr rfl) rfl rfl (lb rfl) fun a S => ?_
    refine leafL (leafT (hK15 _ _ ?_))
    rcases iteSome h with ⟨hc16, h⟩ | ⟨hc16, h⟩
    · refine sCondT S rfl hc16 ?_
      exact wp_skip (leafT (⟨p0.Kind == 3, Option.some.inj h, S.fix [0] [] (by decide) rfl rfl rfl⟩))
    refine sCondF S rfl hc16 ?_
    refine sSeq (fun K17 hK17 => ?_)
    refine sRegion ?_
    refine sBin (.bool (p0.Kind == 4)) S (wN rfl) rfl rfl rfl (bEq _ _ _ _ .u8 p0.Kind 4) rfl (lb rfl) fun a S => ?_
    refine sMove (.bool (p0.Kind == 4)) S (wN rfl) (.inr rfl) rfl rfl (lb rfl) fun a S => ?_
    refine leafL (leafT (hK17 _ _ ?_))
    rcases iteSome h with ⟨hc18, h⟩ | ⟨hc18, h⟩
    · refine sCondT S rfl hc18 ?_
      exact wp_skip (leafT (⟨p0.Kind == 4, Option.some.inj h, S.fix [0] [] (by decide) rfl rfl rfl⟩))
    refine sCondF S rfl hc18 ?_
    refine sRegion ?_
    refine sBin (.bool (p0.Kind == 10)) S (wN rfl) rfl rfl rfl (bEq _ _ _ _ .u8 p0.Kind 10) rfl (lb rfl) fun a S => ?_
    refine sMove (.bool (p0.Kind == 10)) S (wN rfl) (.inr rfl) rfl rfl (lb rfl) fun a S => ?_
    exact leafL (leafT (⟨p0.Kind == 10, Option.some.inj h, S.fix [0] [] (by decide) rfl rfl rfl⟩))
  obtain ⟨o12, rfl, S⟩ := hI
  have h := g14
  clear g14
  try dsimp only at h
  rcases iteSome h with ⟨hc19, h⟩ | ⟨hc19, h⟩
  · refine sCondT S rfl hc19 ?_
    refine sSeq (fun K20 hK20 => ?_)
    refine sRegion ?_
    refine sField (b := b2) (off := 0) 2 2 S (wN rfl) rfl rfl rfl rfl rfl (lb rfl) fun a S => ?_
    refine sLoad1 (p := b2) (off := 2) (T := 74) (vs := [.int .u8 p0.Kind, .bool p0.Purl, iv p0.A, iv p0.B]) 0 (iv p0.A) S (wN rfl) rfl rfl rfl rfl rfl rfl (lb rfl) fun a S => ?_
    refine sMove (iv p0.A) S (wN rfl) (.inr rfl) rfl rfl (lb rfl) fun a S => ?_
    refine leafL (leafT (hK20 _ _ ?_))
    obtain rfl := Option.some.inj h
    exact wp_ret (rBlock (rThen (sRet (iv p0.A) S (rsl1 rfl (rvT (t := 2) (v := iv p0.A) S rfl)) ⟨(), rfl, S.mem.sel [] [] (by decide) rfl rfl⟩)))
  refine sCondF S rfl hc19 ?_
  obtain ⟨t22, h, g23⟩ := bindSome h
  refine sCut (fun a w => ∃ o21, o21 = t22 ∧ St [] E [] w0 22 a w [(1, .pointer (some ⟨b2, 0, none⟩)), (14, .bool o21)] [eBox b2 74 [.int .u8 p0.Kind, .bool p0.Purl, iv p0.A, iv p0.B]] []) ?_ (fun a w hI => ?_)
  · refine sSeq (fun K24 hK24 => ?_)
    refine sRegion ?_
    refine sBin (.bool (p0.Kind == 6)) S (wN rfl) rfl rfl rfl (bEq _ _ _ _ .u8 p0.Kind 6) rfl (lb rfl) fun a S => ?_
    refine sMove (.bool (p0.Kind == 6)) S (wN rfl) (.inr rfl) rfl rfl (lb rfl) fun a S => ?_
    refine leafL (leafT (hK24 _ _ ?_))
    rcases iteSome h with ⟨hc25, h⟩ | ⟨hc25, h⟩
    · refine sCondT S rfl hc25 ?_
      exact wp_skip (leafT (⟨p0.Kind == 6, Option.some.inj h, S.fix [0] [] (by decide) rfl rfl rfl⟩))
    refine sCondF S rfl hc25 ?_
    refine sRegion ?_
    refine sBin (.bool (p0.Kind == 7)) S (wN rfl) rfl rfl rfl (bEq _ _ _ _ .u8 p0.Kind 7) rfl (lb rfl) fun a S => ?_
    refine sMove (.bool (p0.Kind == 7)) S (wN rfl) (.inr rfl) rfl rfl (lb rfl) fun a S => ?_
    exact leafL (leafT (⟨p0.Kind == 7, Option.some.inj h, S.fix [0] [] (by decide) rfl rfl rfl⟩))
  obtain ⟨o21, rfl, S⟩ := hI
  have h := g23
  clear g23
  try dsimp only at h
  rcases iteSome h with ⟨hc26, h⟩ | ⟨hc26, h⟩
  rotate_left
  · refine sCondF S rfl hc26 ?_
    refine wp_skip (leafB (leafT (hK3 _ _ ?_)))
    refine sSeq (fun K28 hK28 => ?_)
    refine sRegion ?_
    refine sMove (iv 1) S (wN rfl) (.inr rfl) rfl rfl (lb rfl) fun a S => ?_
    refine leafL (leafT (hK28 _ _ ?_))
    obtain rfl := Option.some.inj h
    exact wp_ret (sRet (iv 1) S (rsl1 rfl (rvT (t := 2) (v := iv 1) S rfl)) ⟨(), rfl, S.mem.sel [] [] (by decide) rfl rfl⟩)
  refine sCondT S rfl hc26 ?_
  refine sSeq (fun K27 hK27 => ?_)
  refine sRegion ?_
  refine sField (b := b2) (off := 0) 2 2 S (wN rfl) rfl rfl rfl rfl rfl (lb rfl) fun a S => ?_
  refine sLoad1 (p := b2) (off := 2) (T := 74) (vs := [.int .u8 p0.Kind, .bool p0.Purl, iv p0.A, iv p0.B]) 0 (iv p0.A) S (wN rfl) rfl rfl rfl rfl rfl rfl (lb rfl) fun a S => ?_
  refine sField (b := b2) (off := 0) 3 3 S (wN rfl) rfl rfl rfl rfl rfl (lb rfl) fun a S => ?_
  refine sLoad1 (p := b2) (off := 3) (T := 74) (vs := [.int .u8 p0.Kind, .bool p0.Purl, iv p0.A, iv p0.B]) 0 (iv p0.B) S (wN rfl) rfl rfl rfl rfl rfl rfl (lb rfl) fun a S => ?_
  refine sBin (iv (w64 (p0.A + p0.B))) S (wN rfl) rfl rfl rfl (bAdd _ _ _ _ p0.A p0.B) rfl (lb rfl) fun a S => ?_
  refine sMove (iv (w64 (p0.A + p0.B))) S (wN rfl) (.inr rfl) rfl rfl (lb rfl) fun a S => ?_
  refine leafL (leafT (hK27 _ _ ?_))
  obtain rfl := Option.some.inj h
  exact wp_ret (rBlock (rThen (sRet (iv (w64 (p0.A + p0.B))) S (rsl1 rfl (rvT (t := 2) (v := iv (w64 (p0.A + p0.B))) S rfl)) ⟨(), rfl, S.mem.sel [] [] (by decide) rfl rfl⟩)))

end Go.Proofs.Ytdbgkakmhlmpbaa
namespace Go.Proofs.Ytdbgkakmhlmpbaa
open Go.RowKit
set_option linter.unusedVariables false

noncomputable def raddleref25_sums_l1 (p0 : (List api_Stitch)) : (Int × Int × Int) → Option ((Int × Int × Int) ⊕ (Int × Int)) := fun s0 => match s0 with
  | (s10, s11, s12) =>
    if decide (s12 < (p0.length : Int)) then
      Option.bind (idxO p0 s12) fun x23 =>
      Option.bind (F_raddleref25_Used x23) fun r28 =>
      Option.bind (F_raddleref25_Gives x23) fun r33 =>
      some (.inl (w64 (s10 + r28), w64 (s11 + r33), w64 (s12 + 1)))
    else
      some (.inr (s10, s11))
noncomputable def F_raddleref25_sums (p0 : (List api_Stitch)) : Option (Int × Int) :=
  Option.bind (α := (Int × Int)) (
    Option.bind (whileO (raddleref25_sums_l1 p0) (0, 0, 0)) fun (e16, e17) =>
      some (e16, e17)) fun (o5, o6) =>
  some (o5, o6)
set_option maxHeartbeats 4000000 in
set_option maxRecDepth 100000 in
theorem c_raddleref25_sums (E : Nat → Prop) (w0 : World) (p0 : (List api_Stitch)) (v0 : Value) (r : (Int × Int)) (h : F_raddleref25_sums p0 = some r) (S : St0 E [] w0 w0 [] [fRep (rL r_api_Stitch) (v0) p0]) :
    Calls Try.prog 70 #[v0] w0 (Ret (X := Unit) E [] w0 (fun _ => .tuple #[.int .i64 r.1, .int .i64 r.2]) (fun _ => []) (fun _ => [])) := by
  unfold F_raddleref25_sums at h
  obtain ⟨ad1, cp2, _, rfl, _⟩ := S.know (i := 0) (e := fRep (rL r_api_Stitch) (v0) p0) rfl
  refine sEnter (args := [.slice ad1 p0.length cp2]) 29 Try.func70 rfl rfl (by simp) S (fun a S => ?_)
  refine sSeq (fun K3 hK3 => ?_)
  refine sRegion ?_
  refine sMove (iv 0) S (wN rfl) (.inr rfl) rfl rfl (lb rfl) fun a S => ?_
  refine sMove (iv 0) S (wN rfl) (.inr rfl) rfl rfl (lb rfl) fun a S => ?_
  refine leafL (leafT (hK3 _ _ ?_))
  refine sSeq (fun K4 hK4 => ?_)
  refine sRegion ?_
  refine sMove (iv 0) S (wN rfl) (.inr rfl) rfl rfl (lb rfl) fun a S => ?_
  refine sMove (iv 0) S (wN rfl) (.inr rfl) rfl rfl (lb rfl) fun a S => ?_
  refine leafL (leafT (hK4 _ _ ?_))
  obtain ⟨t7, h, g8⟩ := bindSome h
  refine sCut (fun a w => ∃ o5, ∃ o6, (o5, o6) = t7 ∧ St [] E [] w0 29 a w [(4, iv o5), (5, iv o6)] [] []) ?_ (fun a w hI => ?_)
  rotate_left
  · obtain ⟨o5, o6, rfl, S⟩ := hI
    have h := g8
    clear g8
    try dsimp only at h
    refine sSeq (fun K35 hK35 => ?_)
    refine sRegion ?_
    refine sMove (iv o5) S (wN rfl) (.inl rfl) rfl rfl (lb rfl) fun a S => ?_
    refine sMove (iv o6) S (wN rfl) (.inl rfl) rfl rfl (lb rfl) fun a S => ?_
    refine sMove (iv o5) S (wN rfl) (.inr rfl) rfl rfl (lb rfl) fun a S => ?_
    refine sMove (iv o6) S (wN rfl) (.inr rfl) rfl rfl (lb rfl) fun a S => ?_
    refine leafL (leafT (hK35 _ _ ?_))
    obtain rfl := Option.some.inj h
    exact wp_ret (sRet (.tuple #[iv o5, iv o6]) S (rsl2 rfl (rvT (t := 2) (v := iv o5) S rfl) (rvT (t := 3) (v := iv o6) S rfl)) ⟨(), rfl, S.mem.sel [] [] (by decide) rfl rfl⟩)
  refine sSeq (fun K9 hK9 => ?_)
  refine sRegion ?_
  refine sMove (iv 0) S (wN rfl) (.inr rfl) rfl rfl (lb rfl) fun a S => ?_
  refine leafL (leafT (hK9 _ _ ?_))
  refine wp_block ?_
  obtain ⟨t15, hl, g14⟩ := bindSome h
  refine sLoop hl (fun s0 a w => match s0 with | (s10, s11, s12) => St [] E [] w0 29 a w [(0, .slice ad1 p0.length cp2), (4, iv s10), (5, iv s11), (6, iv s12)] [] [fRep (rL r_api_Stitch) (.slice ad1 p0.length cp2) p0]) (S.fix [] [0] (by decide) rfl rfl rfl) ?_
  clear hl h
  intro s0 a w c0 hI h hu13
  obtain ⟨s10, s11, s12⟩ := s0
  unfold raddleref25_sums_l1 at h
  dsimp only at h hI
  have S := hI
  refine sSeq (fun K18 hK18 => ?_)
  refine sSeq (fun K19 hK19 => ?_)
  refine sRegion ?_
  refine sMove (iv s12) S (wN rfl) (.inl rfl) rfl rfl (lb rfl) fun a S => ?_
  refine sMove (.slice ad1 p0.length cp2) S (wN rfl) (.inl rfl) rfl rfl (lb rfl) fun a S => ?_
  refine sLen (ad := ad1) (m := p0.length) (c := cp2) S (wN rfl) rfl Try.underlying70 rfl rfl (lb rfl) fun a S => ?_
  refine sBin (.bool (decide (s12 < (p0.length : Int)))) S (wN rfl) rfl rfl rfl (bLt _ _ _ _ .i64 s12 (p0.length : Int)) rfl (lb rfl) fun a S => ?_
  refine leafL (leafT (hK19 _ _ ?_))
  rcases iteSome h with ⟨hc20, h⟩ | ⟨hc20, h⟩
  rotate_left
  · refine sCondF S rfl hc20 ?_
    obtain rfl := Option.some.inj h
    obtain rfl := hu13 _ rfl
    have h := g14
    clear g14
    try dsimp only at h
    exact wp_exit (xThen (xThen (xHit (leafT (⟨s10, s11, Option.some.inj h, S.fix [] [] (by decide) rfl rfl rfl⟩)))))
  refine sCondT S rfl hc20 ?_
  refine wp_skip (leafT (hK18 _ _ ?_))
  refine sSeq (fun K21 hK21 => ?_)
  refine wp_block ?_
  refine sSeq (fun K22 hK22 => ?_)
  refine sRegion ?_
  refine sMove (iv s10) S (wN rfl) (.inl rfl) rfl rfl (lb rfl) fun a S => ?_
  refine sMove (.slice ad1 p0.length cp2) S (wN rfl) (.inl rfl) rfl rfl (lb rfl) fun a S => ?_
  refine sMove (iv s12) S (wN rfl) (.inl rfl) rfl rfl (lb rfl) fun a S => ?_
  obtain ⟨x23, hx24, h⟩ := bindSome h
  obtain ⟨q25, hq26, S⟩ := pIdx (P := Try.prog) (r := r_api_Stitch) (v := .slice ad1 p0.length cp2) (xs := p0) (j := s12) 70 74 0 S Try.underlying70 rfl rfl hx24
  refine sIdxV (v := .slice ad1 p0.length cp2) (k := .i64) (j := s12) S (wN rfl) rfl rfl rfl hq26 rfl (lb rfl) fun a S => ?_
  obtain ⟨u27, S⟩ := pLoad (r := r_api_Stitch) (q := q25) (x := x23) 0 S rfl
  obtain rfl : u27 = .agg #[.int .u8 x23.Kind, .bool x23.Purl, iv x23.A, iv x23.B] := S.mem.know (i := 1) (e := fRep r_api_Stitch (u27) x23) rfl
  refine sLoadVN (vq := q25) 0 [.int .u8 x23.Kind, .bool x23.Purl, iv x23.A, iv x23.B] S (wN rfl) rfl rfl rfl rfl rfl rfl (lb rfl) fun a S => ?_
  obtain ⟨r28, hx29, h⟩ := bindSome h
  have S1 := S.mem
  refine sCallQ (X := Unit) (f := 90) (vs := [.agg #[.int .u8 x23.Kind, .bool x23.Purl, iv x23.A, iv x23.B]]) (val := fun _ => iv r28) S (wN rfl) rfl callee90 rfl (S1.quiet [1] rfl) (fun E1 w1 S1 => c_raddleref25_Used E1 w1 x23 (.agg #[.int .u8 x23.Kind, .bool x23.Purl, iv x23.A, iv x23.B]) r28 hx29 S1) rfl (lb rfl) fun _ a w S => ?_
  refine sBin (iv (w64 (s10 + r28))) S (wN rfl) rfl rfl rfl (bAdd _ _ _ _ s10 r28) rfl (lb rfl) fun a S => ?_
  refine sMove (iv (w64 (s10 + r28))) S (wN rfl) (.inr rfl) rfl rfl (lb rfl) fun a S => ?_
  refine leafL (leafT (hK22 _ _ ?_))
  refine sRegion ?_
  refine sMove (iv s11) S (wN rfl) (.inl rfl) rfl rfl (lb rfl) fun a S => ?_
  refine sMove (.slice ad1 p0.length cp2) S (wN rfl) (.inl rfl) rfl rfl (lb rfl) fun a S => ?_
  refine sMove (iv s12) S (wN rfl) (.inl rfl) rfl rfl (lb rfl) fun a S => ?_
  obtain ⟨q30, hq31, S⟩ := pIdx (P := Try.prog) (r := r_api_Stitch) (v := .slice ad1 p0.length cp2) (xs := p0) (j := s12) 70 74 3 S Try.underlying70 rfl rfl hx24
  refine sIdxV (v := .slice ad1 p0.length cp2) (k := .i64) (j := s12) S (wN rfl) rfl rfl rfl hq31 rfl (lb rfl) fun a S => ?_
  obtain ⟨u32, S⟩ := pLoad (r := r_api_Stitch) (q := q30) (x := x23) 0 S rfl
  obtain rfl : u32 = .agg #[.int .u8 x23.Kind, .bool x23.Purl, iv x23.A, iv x23.B] := S.mem.know (i := 1) (e := fRep r_api_Stitch (u32) x23) rfl
  refine sLoadVN (vq := q30) 0 [.int .u8 x23.Kind, .bool x23.Purl, iv x23.A, iv x23.B] S (wN rfl) rfl rfl rfl rfl rfl rfl (lb rfl) fun a S => ?_
  obtain ⟨r33, hx34, h⟩ := bindSome h
  have S1 := S.mem
  refine sCallQ (X := Unit) (f := 32) (vs := [.agg #[.int .u8 x23.Kind, .bool x23.Purl, iv x23.A, iv x23.B]]) (val := fun _ => iv r33) S (wN rfl) rfl callee32 rfl (S1.quiet [1] rfl) (fun E1 w1 S1 => c_raddleref25_Gives E1 w1 x23 (.agg #[.int .u8 x23.Kind, .bool x23.Purl, iv x23.A, iv x23.B]) r33 hx34 S1) rfl (lb rfl) fun _ a w S => ?_
  refine sBin (iv (w64 (s11 + r33))) S (wN rfl) rfl rfl rfl (bAdd _ _ _ _ s11 r33) rfl (lb rfl) fun a S => ?_
  refine sMove (iv (w64 (s11 + r33))) S (wN rfl) (.inr rfl) rfl rfl (lb rfl) fun a S => ?_
  refine leafL (leafB (leafT (hK21 _ _ ?_)))
  refine sRegion ?_
  refine sMove (iv s12) S (wN rfl) (.inl rfl) rfl rfl (lb rfl) fun a S => ?_
  refine sBin (iv (w64 (s12 + 1))) S (wN rfl) rfl rfl rfl (bAdd _ _ _ _ s12 1) rfl (lb rfl) fun a S => ?_
  refine sMove (iv (w64 (s12 + 1))) S (wN rfl) (.inr rfl) rfl rfl (lb rfl) fun a S => ?_
  exact leafL (leafT (⟨(w64 (s10 + r28), w64 (s11 + r33), w64 (s12 + 1)), (Option.some.inj h).symm, (S.fix [] [6] (by decide) rfl rfl rfl)⟩))

end Go.Proofs.Ytdbgkakmhlmpbaa
