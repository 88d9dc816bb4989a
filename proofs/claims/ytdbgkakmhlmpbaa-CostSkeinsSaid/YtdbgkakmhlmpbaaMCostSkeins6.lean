/- Several texts in one: G28 G29 G44 KeAlive G24 KvAlive PlA PlB G45 G25 PlR PlQ G83 PlW PlZ G26 -/
import Derived.WalkKit
import Derived.Maps.AppendAt
import Derived.Deep.AppendLies
import Derived.KernelRfl
import Derived.Laws.OwnMore
import Derived.Great.BuildSlice
import Derived.Orders
import Derived.Laws.StructEq
import Derived.ChangeKeysEq
import Derived.Defers
import Derived.Laws.BytesString
import Derived.RangeFuncNested
import Derived.RangeFuncBound
import Derived.RangeFuncCalls
import Derived.RangeFuncLeaves
import Derived.OrdersIn
import Derived.LoopNIn
import Derived.Test.YtdbgkakmhlmpbaaProg
import Derived.ProofKit
import Derived.OpenShut
import Derived.ChangeOld
import Derived.Deep.Slices
import Derived.Lib.SmallJoins
import Derived.JoinedOf
import Derived.JoinedAt
import Derived.Below
import Derived.Test.YtdbgkakmhlmpbaaRows
import Derived.Test.YtdbgkakmhlmpbaaMCostSkeins5
namespace Go.Proofs.Ytdbgkakmhlmpbaa
open Go.RowKit
set_option linter.unusedVariables false

noncomputable def F_raddlelaw45_rates  : Option api_Rates :=
  some (api_Rates.mk (0, 100, 150, 0, 90, 0, 0, 0, 0, 0, 0) (0, 1000, 500, 0, 1500, 0, 0, 0, 0, 0, 0) 2000)
def c_raddlelaw45_rates_val (r : api_Rates) (x : Value) : Value := x
def c_raddlelaw45_rates_D (r : api_Rates) (x : Value) : List Fact := [fRep r_api_Rates x r]
set_option maxHeartbeats 4000000 in
set_option maxRecDepth 100000 in
theorem c_raddlelaw45_rates (E : Nat → Prop) (w0 : World)  (r : api_Rates) (h : F_raddlelaw45_rates  = some r) (S : St0 E [] w0 w0 [] []) :
    Calls Try.prog 28 #[] w0 (Ret (X := Value) E [] w0 (c_raddlelaw45_rates_val r) (fun _ => []) (c_raddlelaw45_rates_D r)) := by
  unfold F_raddlelaw45_rates at h
  refine sEnter (args := []) 16 Try.func28 rfl rfl (by simp) S (fun a S => ?_)
  refine sSeq (fun K1 hK1 => ?_)
  refine sRegion ?_
  refine sAlloc (gv_api_Rates (api_Rates.mk (0, 0, 0, 0, 0, 0, 0, 0, 0, 0, 0) (0, 0, 0, 0, 0, 0, 0, 0, 0, 0, 0) 0)) S (wN rfl) rfl rfl (gl_api_Rates (api_Rates.mk (0, 0, 0, 0, 0, 0, 0, 0, 0, 0, 0) (0, 0, 0, 0, 0, 0, 0, 0, 0, 0, 0) 0)) rfl rfl (lb rfl) fun a b2 w S => ?_
  refine leafL (leafT (hK1 _ _ ?_))
  refine sSeq (fun K3 hK3 => ?_)
  refine sRegion ?_
  refine sBuild [(2, iv 2000)] (gl_api_Rates (api_Rates.mk (0, 0, 0, 0, 0, 0, 0, 0, 0, 0, 0) (0, 0, 0, 0, 0, 0, 0, 0, 0, 0, 0) 2000)) S (wN rfl) rfl rfl rfl rfl (lb rfl) fun a S => ?_
  refine sAlloc (gv_api_Rates (api_Rates.mk (0, 0, 0, 0, 0, 0, 0, 0, 0, 0, 0) (0, 0, 0, 0, 0, 0, 0, 0, 0, 0, 0) 0)) S (wN rfl) rfl rfl (gl_api_Rates (api_Rates.mk (0, 0, 0, 0, 0, 0, 0, 0, 0, 0, 0) (0, 0, 0, 0, 0, 0, 0, 0, 0, 0, 0) 0)) rfl rfl (lb rfl) fun a b4 w S => ?_
  refine sStore (p := b4) (off := 0) (T := 44) (vs := [iv 0, iv 0, iv 0, iv 0, iv 0, iv 0, iv 0, iv 0, iv 0, iv 0, iv 0, iv 0, iv 0, iv 0, iv 0, iv 0, iv 0, iv 0, iv 0, iv 0, iv 0, iv 0, iv 0]) (v := gv_api_Rates (api_Rates.mk (0, 0, 0, 0, 0, 0, 0, 0, 0, 0, 0) (0, 0, 0, 0, 0, 0, 0, 0, 0, 0, 0) 2000)) 0 [iv 0, iv 0, iv 0, iv 0, iv 0, iv 0, iv 0, iv 0, iv 0, iv 0, iv 0, iv 0, iv 0, iv 0, iv 0, iv 0, iv 0, iv 0, iv 0, iv 0, iv 0, iv 0, iv 2000] S (wN rfl) rfl rfl rfl rfl rfl rfl rfl (by simp) rfl fun a w S => ?_
  refine leafL (leafT (hK3 _ _ ?_))
  refine sSeq (fun K5 hK5 => ?_)
  refine sRegion ?_
  refine sField (b := b4) (off := 0) 0 0 S (wN rfl) rfl rfl rfl rfl rfl (lb rfl) fun a S => ?_
  refine sIdxV (v := .pointer (some ⟨b4, 0, none⟩)) (k := .u8) (j := 1) (q := .pointer (some ⟨b4, 1, none⟩)) S (wN rfl) rfl rfl rfl (idxV_arr (m := 11) (sz := 1) Try.underlying42 rfl (by decide) (by decide) 0) rfl (lb rfl) fun a S => ?_
  refine sStore (p := b4) (off := 1) (T := 44) (vs := [iv 0, iv 0, iv 0, iv 0, iv 0, iv 0, iv 0, iv 0, iv 0, iv 0, iv 0, iv 0, iv 0, iv 0, iv 0, iv 0, iv 0, iv 0, iv 0, iv 0, iv 0, iv 0, iv 2000]) (v := iv 100) 0 [iv 100] S (wN rfl) rfl rfl rfl rfl rfl rfl rfl (by simp) rfl fun a w S => ?_
  refine sField (b := b4) (off := 0) 11 11 S (wN rfl) rfl rfl rfl rfl rfl (lb rfl) fun a S => ?_
  refine sIdxV (v := .pointer (some ⟨b4, 11, none⟩)) (k := .u8) (j := 1) (q := .pointer (some ⟨b4, 12, none⟩)) S (wN rfl) rfl rfl rfl (idxV_arr (m := 11) (sz := 1) Try.underlying42 rfl (by decide) (by decide) 11) rfl (lb rfl) fun a S => ?_
  refine sStore (p := b4) (off := 12) (T := 44) (vs := [iv 0, iv 100, iv 0, iv 0, iv 0, iv 0, iv 0, iv 0, iv 0, iv 0, iv 0, iv 0, iv 0, iv 0, iv 0, iv 0, iv 0, iv 0, iv 0, iv 0, iv 0, iv 0, iv 2000]) (v := iv 1000) 0 [iv 1000] S (wN rfl) rfl rfl rfl rfl rfl rfl rfl (by simp) rfl fun a w S => ?_
  refine leafL (leafT (hK5 _ _ ?_))
  refine sSeq (fun K6 hK6 => ?_)
  refine sRegion ?_
  refine sField (b := b4) (off := 0) 0 0 S (wN rfl) rfl rfl rfl rfl rfl (lb rfl) fun a S => ?_
  refine sIdxV (v := .pointer (some ⟨b4, 0, none⟩)) (k := .u8) (j := 2) (q := .pointer (some ⟨b4, 2, none⟩)) S (wN rfl) rfl rfl rfl (idxV_arr (m := 11) (sz := 1) Try.underlying42 rfl (by decide) (by decide) 0) rfl (lb rfl) fun a S => ?_
  refine sStore (p := b4) (off := 2) (T := 44) (vs := [iv 0, iv 100, iv 0, iv 0, iv 0, iv 0, iv 0, iv 0, iv 0, iv 0, iv 0, iv 0, iv 1000, iv 0, iv 0, iv 0, iv 0, iv 0, iv 0, iv 0, iv 0, iv 0, iv 2000]) (v := iv 150) 0 [iv 150] S (wN rfl) rfl rfl rfl rfl rfl rfl rfl (by simp) rfl fun a w S => ?_
  refine sField (b := b4) (off := 0) 11 11 S (wN rfl) rfl rfl rfl rfl rfl (lb rfl) fun a S => ?_
  refine sIdxV (v := .pointer (some ⟨b4, 11, none⟩)) (k := .u8) (j := 2) (q := .pointer (some ⟨b4, 13, none⟩)) S (wN rfl) rfl rfl rfl (idxV_arr (m := 11) (sz := 1) Try.underlying42 rfl (by decide) (by decide) 11) rfl (lb rfl) fun a S => ?_
  refine sStore (p := b4) (off := 13) (T := 44) (vs := [iv 0, iv 100, iv 150, iv 0, iv 0, iv 0, iv 0, iv 0, iv 0, iv 0, iv 0, iv 0, iv 1000, iv 0, iv 0, iv 0, iv 0, iv 0, iv 0, iv 0, iv 0, iv 0, iv 2000]) (v := iv 500) 0 [iv 500] S (wN rfl) rfl rfl rfl rfl rfl rfl rfl (by simp) rfl fun a w S => ?_
  refine leafL (leafT (hK6 _ _ ?_))
  refine sSeq (fun K7 hK7 => ?_)
  refine sRegion ?_
  refine sField (b := b4) (off := 0) 0 0 S (wN rfl) rfl rfl rfl rfl rfl (lb rfl) fun a S => ?_
  refine sIdxV (v := .pointer (some ⟨b4, 0, none⟩)) (k := .u8) (j := 4) (q := .pointer (some ⟨b4, 4, none⟩)) S (wN rfl) rfl rfl rfl (idxV_arr (m := 11) (sz := 1) Try.underlying42 rfl (by decide) (by decide) 0) rfl (lb rfl) fun a S => ?_
  refine sStore (p := b4) (off := 4) (T := 44) (vs := [iv 0, iv 100, iv 150, iv 0, iv 0, iv 0, iv 0, iv 0, iv 0, iv 0, iv 0, iv 0, iv 1000, iv 500, iv 0, iv 0, iv 0, iv 0, iv 0, iv 0, iv 0, iv 0, iv 2000]) (v := iv 90) 0 [iv 90] S (wN rfl) rfl rfl rfl rfl rfl rfl rfl (by simp) rfl fun a w S => ?_
  refine sField (b := b4) (off := 0) 11 11 S (wN rfl) rfl rfl rfl rfl rfl (lb rfl) fun a S => ?_
  refine sIdxV (v := .pointer (some ⟨b4, 11, none⟩)) (k := .u8) (j := 4) (q := .pointer (some ⟨b4, 15, none⟩)) S (wN rfl) rfl rfl rfl (idxV_arr (m := 11) (sz := 1) Try.underlying42 rfl (by decide) (by decide) 11) rfl (lb rfl) fun a S => ?_
  refine sStore (p := b4) (off := 15) (T := 44) (vs := [iv 0, iv 100, iv 150, iv 0, iv 90, iv 0, iv 0, iv 0, iv 0, iv 0, iv 0, iv 0, iv 1000, iv 500, iv 0, iv 0, iv 0, iv 0, iv 0, iv 0, iv 0, iv 0, iv 2000]) (v := iv 1500) 0 [iv 1500] S (wN rfl) rfl rfl rfl rfl rfl rfl rfl (by simp) rfl fun a w S => ?_
  refine leafL (leafT (hK7 _ _ ?_))
  refine sSeq (fun K8 hK8 => ?_)
  refine sRegion ?_
  refine sLoadN (p := b4) (off := 0) (T := 44) (vs := (gl_api_Rates (api_Rates.mk (0, 100, 150, 0, 90, 0, 0, 0, 0, 0, 0) (0, 1000, 500, 0, 1500, 0, 0, 0, 0, 0, 0) 2000))) 0 (gl_api_Rates (api_Rates.mk (0, 100, 150, 0, 90, 0, 0, 0, 0, 0, 0) (0, 1000, 500, 0, 1500, 0, 0, 0, 0, 0, 0) 2000)) S (wN rfl) rfl rfl rfl rfl rfl rfl rfl (lb rfl) fun a S => ?_
  refine sStore (p := b2) (off := 0) (T := 44) (vs := [iv 0, iv 0, iv 0, iv 0, iv 0, iv 0, iv 0, iv 0, iv 0, iv 0, iv 0, iv 0, iv 0, iv 0, iv 0, iv 0, iv 0, iv 0, iv 0, iv 0, iv 0, iv 0, iv 0]) (v := gv_api_Rates (api_Rates.mk (0, 100, 150, 0, 90, 0, 0, 0, 0, 0, 0) (0, 1000, 500, 0, 1500, 0, 0, 0, 0, 0, 0) 2000)) 1 [iv 0, iv 100, iv 150, iv 0, iv 90, iv 0, iv 0, iv 0, iv 0, iv 0, iv 0, iv 0, iv 1000, iv 500, iv 0, iv 1500, iv 0, iv 0, iv 0, iv 0, iv 0, iv 0, iv 2000] S (wN rfl) rfl rfl rfl rfl rfl rfl rfl (by simp) rfl fun a w S => ?_
  refine leafL (leafT (hK8 _ _ ?_))
  obtain rfl := Option.some.inj h
  have S := S.learn (fRep r_api_Rates (gv_api_Rates (api_Rates.mk (0, 100, 150, 0, 90, 0, 0, 0, 0, 0, 0) (0, 1000, 500, 0, 1500, 0, 0, 0, 0, 0, 0) 2000)) (api_Rates.mk (0, 100, 150, 0, 90, 0, 0, 0, 0, 0, 0) (0, 1000, 500, 0, 1500, 0, 0, 0, 0, 0, 0) 2000)) rfl
  exact wp_ret (sRet (gv_api_Rates (api_Rates.mk (0, 100, 150, 0, 90, 0, 0, 0, 0, 0, 0) (0, 1000, 500, 0, 1500, 0, 0, 0, 0, 0, 0) 2000)) S (rsl1 rfl (rvN (c := 0) (t := 44) (T := 44) (p := b2) 0 [iv 0, iv 100, iv 150, iv 0, iv 90, iv 0, iv 0, iv 0, iv 0, iv 0, iv 0, iv 0, iv 1000, iv 500, iv 0, iv 1500, iv 0, iv 0, iv 0, iv 0, iv 0, iv 0, iv 2000] S rfl rfl rfl rfl)) ⟨(gv_api_Rates (api_Rates.mk (0, 100, 150, 0, 90, 0, 0, 0, 0, 0, 0) (0, 1000, 500, 0, 1500, 0, 0, 0, 0, 0, 0) 2000)), rfl, S.mem.sel [] [0] (by decide) rfl rfl⟩)

end Go.Proofs.Ytdbgkakmhlmpbaa
namespace Go.Proofs.Ytdbgkakmhlmpbaa
open Go.RowKit
set_option linter.unusedVariables false

noncomputable def F_raddlelaw45_tex (p0 : Int) : Option api_Count :=
  some (api_Count.mk 1 (api_Ratio.mk p0 1))
def c_raddlelaw45_tex_val (r : api_Count) (x : Value) : Value := x
def c_raddlelaw45_tex_D (r : api_Count) (x : Value) : List Fact := [fRep r_api_Count x r]
set_option maxHeartbeats 4000000 in
set_option maxRecDepth 100000 in
theorem c_raddlelaw45_tex (E : Nat → Prop) (w0 : World) (p0 : Int) (r : api_Count) (h : F_raddlelaw45_tex p0 = some r) (S : St0 E [] w0 w0 [] []) :
    Calls Try.prog 29 #[iv p0] w0 (Ret (X := Value) E [] w0 (c_raddlelaw45_tex_val r) (fun _ => []) (c_raddlelaw45_tex_D r)) := by
  unfold F_raddlelaw45_tex at h
  refine sEnter (args := [iv p0]) 6 Try.func29 rfl rfl (by simp) S (fun a S => ?_)
  refine sSeq (fun K1 hK1 => ?_)
  refine sRegion ?_
  refine sAlloc (.agg #[.int .u8 0, iv 0, iv 0]) S (wN rfl) rfl rfl [.int .u8 0, iv 0, iv 0] rfl rfl (lb rfl) fun a b2 w S => ?_
  refine leafL (leafT (hK1 _ _ ?_))
  refine sSeq (fun K3 hK3 => ?_)
  refine sRegion ?_
  refine sMove (iv p0) S (wN rfl) (.inl rfl) rfl rfl (lb rfl) fun a S => ?_
  refine sBuild [(0, iv p0), (1, iv 1)] [iv p0, iv 1] S (wN rfl) rfl rfl rfl rfl (lb rfl) fun a S => ?_
  refine sBuild [(0, .int .u8 1), (1, .agg #[iv p0, iv 1])] [.int .u8 1, iv p0, iv 1] S (wN rfl) rfl rfl rfl rfl (lb rfl) fun a S => ?_
  refine sStore (p := b2) (off := 0) (T := 27) (vs := [.int .u8 0, iv 0, iv 0]) (v := .agg #[.int .u8 1, iv p0, iv 1]) 0 [.int .u8 1, iv p0, iv 1] S (wN rfl) rfl rfl rfl rfl rfl rfl rfl (by simp) rfl fun a w S => ?_
  refine leafL (leafT (hK3 _ _ ?_))
  obtain rfl := Option.some.inj h
  have S := S.learn (fRep r_api_Count (.agg #[.int .u8 1, iv p0, iv 1]) (api_Count.mk 1 (api_Ratio.mk p0 1))) rfl
  exact wp_ret (sRet (.agg #[.int .u8 1, iv p0, iv 1]) S (rsl1 rfl (rvN (c := 2) (t := 27) (T := 27) (p := b2) 0 [.int .u8 1, iv p0, iv 1] S rfl rfl rfl rfl)) ⟨(.agg #[.int .u8 1, iv p0, iv 1]), rfl, S.mem.sel [] [0] (by decide) rfl rfl⟩)

end Go.Proofs.Ytdbgkakmhlmpbaa
namespace Go.Proofs.Ytdbgkakmhlmpbaa
open Go.RowKit
set_option linter.unusedVariables false

noncomputable def F_raddlelaw45_given  : Option api_Chart :=
  Option.bind (F_raddleref26_Parse (⟨#[115, 116, 97, 114, 116, 32, 51, 10, 102, 114, 111, 110, 116, 32, 107, 32, 121, 111, 32, 107, 108, 50, 10, 98, 97, 99, 107, 32, 112, 51, 10]⟩ : ByteArray)) fun r4 =>
  if r4.2 != 0 then
    some (api_Chart.mk 0 ([] : (List api_Row)))
  else
    some r4.1
def c_raddlelaw45_given_val (r : api_Chart) (x : Value) : Value := x
def c_raddlelaw45_given_D (r : api_Chart) (x : Value) : List Fact := [fRep r_api_Chart x r]
set_option maxHeartbeats 4000000 in
set_option maxRecDepth 100000 in
theorem c_raddlelaw45_given (E : Nat → Prop) (w0 : World)  (r : api_Chart) (h : F_raddlelaw45_given  = some r) (S : St0 E [] w0 w0 [] []) :
    Calls Try.prog 44 #[] w0 (Ret (X := Value) E [] w0 (c_raddlelaw45_given_val r) (fun _ => []) (c_raddlelaw45_given_D r)) := by
  unfold F_raddlelaw45_given at h
  refine sEnter (args := []) 11 Try.func44 rfl rfl (by simp) S (fun a S => ?_)
  refine sSeq (fun K1 hK1 => ?_)
  refine sRegion ?_
  refine sAlloc (.agg #[iv 0, .slice none 0 0]) S (wN rfl) rfl rfl [iv 0, .slice none 0 0] rfl rfl (lb rfl) fun a b2 w S => ?_
  refine leafL (leafT (hK1 _ _ ?_))
  refine sSeq (fun K3 hK3 => ?_)
  refine sRegion ?_
  obtain ⟨r4, hx5, h⟩ := bindSome h
  refine sCall (X := Value) (f := 27) (vs := [.string (⟨#[115, 116, 97, 114, 116, 32, 51, 10, 102, 114, 111, 110, 116, 32, 107, 32, 121, 111, 32, 107, 108, 50, 10, 98, 97, 99, 107, 32, 112, 51, 10]⟩ : ByteArray)]) (val := c_raddleref26_Parse_val r4) (B' := fun _ => []) (D' := c_raddleref26_Parse_D r4) [] [eBox b2 41 [iv 0, .slice none 0 0]] [] [0] [] S (wN rfl) rfl callee27 rfl (by decide) rfl rfl (fun E1 w1 S1 => c_raddleref26_Parse E1 w1 (⟨#[115, 116, 97, 114, 116, 32, 51, 10, 102, 114, 111, 110, 116, 32, 107, 32, 121, 111, 32, 107, 108, 50, 10, 98, 97, 99, 107, 32, 112, 51, 10]⟩ : ByteArray) r4 hx5 S1) rfl (lb rfl) fun u6 a w S => ?_
  obtain ⟨u7, rfl, hu8⟩ := S.mem.know (i := 0) (e := fRep r_api_Chart (u6) r4.1) rfl
  have S := S.learn (fRep (rL r_api_Row) u7 r4.1.Rows) hu8
  obtain ⟨ad9, cp10, _, rfl, _⟩ := hu8
  refine sMove (.tuple #[.agg #[iv r4.1.Start, .slice ad9 r4.1.Rows.length cp10], iv r4.2]) S (wN rfl) (.inl rfl) rfl rfl (lb rfl) fun a S => ?_
  refine sExtract (vs := [.agg #[iv r4.1.Start, .slice ad9 r4.1.Rows.length cp10], iv r4.2]) (.agg #[iv r4.1.Start, .slice ad9 r4.1.Rows.length cp10]) S (wN rfl) rfl rfl rfl rfl (lb rfl) fun a S => ?_
  refine sExtract (vs := [.agg #[iv r4.1.Start, .slice ad9 r4.1.Rows.length cp10], iv r4.2]) (iv r4.2) S (wN rfl) rfl rfl rfl rfl (lb rfl) fun a S => ?_
  refine sAlloc (.agg #[iv 0, .slice none 0 0]) S (wN rfl) rfl rfl [iv 0, .slice none 0 0] rfl rfl (lb rfl) fun a b11 w S => ?_
  refine sStore (p := b11) (off := 0) (T := 41) (vs := [iv 0, .slice none 0 0]) (v := .agg #[iv r4.1.Start, .slice ad9 r4.1.Rows.length cp10]) 0 [iv r4.1.Start, .slice ad9 r4.1.Rows.length cp10] S (wN rfl) rfl rfl rfl rfl rfl rfl rfl (by simp) rfl fun a w S => ?_
  refine sMove (iv r4.2) S (wN rfl) (.inr rfl) rfl rfl (lb rfl) fun a S => ?_
  refine leafL (leafT (hK3 _ _ ?_))
  refine sSeq (fun K12 hK12 => ?_)
  refine sSeq (fun K13 hK13 => ?_)
  refine sRegion ?_
  refine sMove (iv r4.2) S (wN rfl) (.inl rfl) rfl rfl (lb rfl) fun a S => ?_
  refine sBin (.bool (r4.2 != 0)) S (wN rfl) rfl rfl rfl (bNe _ _ _ _ .i64 r4.2 0) rfl (lb rfl) fun a S => ?_
  refine leafL (leafT (hK13 _ _ ?_))
  rcases iteSome h with ⟨hc14, h⟩ | ⟨hc14, h⟩
  rotate_left
  · refine sCondF S rfl hc14 ?_
    refine wp_skip (leafT (hK12 _ _ ?_))
    refine sSeq (fun K16 hK16 => ?_)
    refine sRegion ?_
    refine sLoadN (p := b11) (off := 0) (T := 41) (vs := [iv r4.1.Start, .slice ad9 r4.1.Rows.length cp10]) 0 [iv r4.1.Start, .slice ad9 r4.1.Rows.length cp10] S (wN rfl) rfl rfl rfl rfl rfl rfl rfl (lb rfl) fun a S => ?_
    refine sStore (p := b2) (off := 0) (T := 41) (vs := [iv 0, .slice none 0 0]) (v := .agg #[iv r4.1.Start, .slice ad9 r4.1.Rows.length cp10]) 1 [iv r4.1.Start, .slice ad9 r4.1.Rows.length cp10] S (wN rfl) rfl rfl rfl rfl rfl rfl rfl (by simp) rfl fun a w S => ?_
    refine leafL (leafT (hK16 _ _ ?_))
    obtain rfl := Option.some.inj h
    exact wp_ret (sRet (.agg #[iv r4.1.Start, .slice ad9 r4.1.Rows.length cp10]) S (rsl1 rfl (rvN (c := 0) (t := 41) (T := 41) (p := b2) 0 [iv r4.1.Start, .slice ad9 r4.1.Rows.length cp10] S rfl rfl rfl rfl)) ⟨(.agg #[iv r4.1.Start, .slice ad9 r4.1.Rows.length cp10]), rfl, S.mem.sel [] [1] (by decide) rfl rfl⟩)
  refine sCondT S rfl hc14 ?_
  refine sSeq (fun K15 hK15 => ?_)
  refine sRegion ?_
  refine sBuild [] [iv 0, .slice none 0 0] S (wN rfl) rfl rfl rfl rfl (lb rfl) fun a S => ?_
  refine sStore (p := b2) (off := 0) (T := 41) (vs := [iv 0, .slice none 0 0]) (v := .agg #[iv 0, .slice none 0 0]) 1 [iv 0, .slice none 0 0] S (wN rfl) rfl rfl rfl rfl rfl rfl rfl (by simp) rfl fun a w S => ?_
  refine leafL (leafT (hK15 _ _ ?_))
  obtain rfl := Option.some.inj h
  have S := S.learn (fRep (rL r_api_Row) (.slice none 0 0) ([] : (List api_Row))) (rL_nil _ _ _)
  have S := S.learn (fRep r_api_Chart (.agg #[iv 0, .slice none 0 0]) (api_Chart.mk 0 ([] : (List api_Row)))) ⟨_, rfl, S.mem.know (i := 0) (e := fRep (rL r_api_Row) (.slice none 0 0) ([] : (List api_Row))) rfl⟩
  exact wp_ret (rThen (sRet (.agg #[iv 0, .slice none 0 0]) S (rsl1 rfl (rvN (c := 0) (t := 41) (T := 41) (p := b2) 0 [iv 0, .slice none 0 0] S rfl rfl rfl rfl)) ⟨(.agg #[iv 0, .slice none 0 0]), rfl, S.mem.sel [] [0] (by decide) rfl rfl⟩))

end Go.Proofs.Ytdbgkakmhlmpbaa
namespace Go.Proofs.Ytdbgkakmhlmpbaa
open Go.RowKit
set_option linter.unusedVariables false

def K_raddleref25_Cut_l1 (p0 : ByteArray) (p1 : Int) : (List ByteArray × Int × Int) → Option ((List ByteArray × Int × Int) ⊕ List ByteArray) := fun s0 => match s0 with
  | (s10, s13, s14) =>
    if decide (s14 ≤ (p0.size : Int)) then
      Option.bind (α := (List ByteArray × Int)) (
        Option.bind (α := Bool) (
          if s14 == (p0.size : Int) then
            some true
          else
            Option.bind (idxS p0 s14) fun x34 =>
            some (x34 == p1)) fun o30 =>
        if o30 then
          Option.bind (sliceS p0 s13 s14) fun y38 =>
          Option.bind (appO s10 [y38]) fun l42 =>
          some (l42, w64 (s14 + 1))
        else
          some (s10, s13)) fun (o24, o27) =>
      some (.inl (o24, o27, w64 (s14 + 1)))
    else
      some (.inr s10)
def K_raddleref25_Cut (p0 : ByteArray) (p1 : Int) : Option (List ByteArray) :=
  Option.bind (α := List ByteArray) (
    Option.bind (whileK (K_raddleref25_Cut_l1 p0 p1) (([] : List ByteArray), 0, 0)) fun e18 =>
      some e18) fun o4 =>
  some o4
def K_raddleref25_Number_l1 (p0 : ByteArray) : (Int × Int) → Option ((Int × Int) ⊕ ((Int × Bool) ⊕ Int)) := fun s0 => match s0 with
  | (s18, s19) =>
    if decide (s19 < (p0.size : Int)) then
      Option.bind (α := Bool) (
        Option.bind (idxS p0 s19) fun x32 =>
        if decide (x32 < 48) then
          some true
        else
          some (decide (57 < x32))) fun o29 =>
      if o29 then
        some (.inr (.inl (0, false)))
      else
        Option.bind (idxS p0 s19) fun x37 =>
        some (.inl (w64 ((w64 (10 * s18)) + (IntKind.i64.wrap (IntKind.u8.wrap (x37 - 48)))), w64 (s19 + 1)))
    else
      some (.inr (.inr s18))
def K_raddleref25_Number (p0 : ByteArray) : Option (Int × Bool) :=
  Option.bind (α := Bool) (
    if (p0.size : Int) == 0 then
      some true
    else
      if decide (4 < (p0.size : Int)) then
        some true
      else
        if decide (1 < (p0.size : Int)) then
          Option.bind (idxS p0 0) fun x9 =>
          some (x9 == 48)
        else
          some false) fun o3 =>
  if o3 then
    some (0, false)
  else
    Option.bind (α := Int ⊕ (Int × Bool)) (
      Option.bind (whileK (K_raddleref25_Number_l1 p0) (0, 0)) fun z0 => match z0 with
        | .inl z =>
          some (.inr z)
        | .inr e23 =>
          some (.inl e23)) fun z0 => match z0 with
      | .inl o14 =>
        some (o14, true)
      | .inr z =>
        some z
def K_raddleref26_Parse_l1 (r8 : (List ByteArray)) (s54 : Int) : Int → Option (Int ⊕ Int) := fun s0 => match s0 with
  | s76 =>
    Option.bind (α := Bool) (
      Option.bind (idxO r8 s54) fun x85 =>
      if decide (s76 < (x85.size : Int)) then
        Option.bind (idxS x85 s76) fun x94 =>
        some (x94 != 32)
      else
        some false) fun o82 =>
    if o82 then
      some (.inl (w64 (s76 + 1)))
    else
      some (.inr s76)
def K_raddleref25_word_l1 (r49 : (Int × Bool)) (x35 : Int) : (List api_Stitch × Int) → Option ((List api_Stitch × Int) ⊕ List api_Stitch) := fun s0 => match s0 with
  | (s60, s63) =>
    Option.bind (α := Bool) (
      if decide (s63 < r49.1) then
        some (decide (s63 < 300))
      else
        some false) fun o71 =>
    if o71 then
      Option.bind (appO s60 [(api_Stitch.mk 1 (x35 == 112) 0 0)]) fun l79 =>
      some (.inl (l79, w64 (s63 + 1)))
    else
      some (.inr s60)
def K_raddleref25_kind_l1 (p0 : Int) : Int → Option (Int ⊕ (Int ⊕ Unit)) := fun s0 => match s0 with
  | s9 =>
    if decide (s9 < ((⟨#[102, 108, 109, 120, 121, 115, 111]⟩ : ByteArray).size : Int)) then
      Option.bind (idxS (⟨#[102, 108, 109, 120, 121, 115, 111]⟩ : ByteArray) s9) fun x18 =>
      if x18 == p0 then
        Option.bind (idxO ([3, 4, 5, 6, 7, 8, 10] : List Int) s9) fun x22 =>
        some (.inr (.inl x22))
      else
        some (.inl (w64 (s9 + 1)))
    else
      some (.inr (.inr ()))
def K_raddleref25_kind (p0 : Int) : Option Int :=
  Option.bind (α := Unit ⊕ Int) (
    Option.bind (whileK (K_raddleref25_kind_l1 p0) 0) fun z0 => match z0 with
      | .inl z =>
        some (.inr z)
      | .inr _ =>
        some (.inl ())) fun z0 => match z0 with
    | .inl _ =>
      some 0
    | .inr z =>
      some z
def K_raddleref25_word (p0 : ByteArray) : Option ((List api_Stitch) × Bool) :=
  if p0 == (⟨#[121, 111]⟩ : ByteArray) then
    some ([(api_Stitch.mk 2 false 0 0)], true)
  else
    Option.bind (α := Bool) (
      if decide (2 < (p0.size : Int)) then
        Option.bind (sliceS p0 0 2) fun y13 =>
        some (y13 == (⟨#[111, 110]⟩ : ByteArray))
      else
        some false) fun o9 =>
    if o9 then
      Option.bind (sliceS p0 2 (p0.size : Int)) fun y17 =>
      Option.bind (K_raddleref25_Number y17) fun r19 =>
      some ([(api_Stitch.mk 9 false r19.1 0)], r19.2)
    else
      Option.bind (α := Bool) (
        if (p0.size : Int) == 0 then
          some true
        else
          Option.bind (idxS p0 0) fun x29 =>
          if x29 != 107 then
            some (x29 != 112)
          else
            some false) fun o25 =>
      if o25 then
        some (([] : (List api_Stitch)), false)
      else
        Option.bind (idxS p0 0) fun x35 =>
        if (p0.size : Int) == 1 then
          some ([(api_Stitch.mk 1 (x35 == 112) 0 0)], true)
        else
          Option.bind (α := Unit ⊕ ((List api_Stitch) × Bool)) (
            Option.bind (sliceS p0 1 (p0.size : Int)) fun y47 =>
            Option.bind (K_raddleref25_Number y47) fun r49 =>
            if r49.2 then
              Option.bind (α := List api_Stitch) (
                Option.bind (whileK (K_raddleref25_word_l1 r49 x35) (([] : List api_Stitch), 0)) fun e67 =>
                  some e67) fun o54 =>
              some (.inr (o54, decide (1 < r49.1)))
            else
              some (.inl ())) fun z0 => match z0 with
            | .inl _ =>
              Option.bind (idxS p0 1) fun x85 =>
              Option.bind (K_raddleref25_kind x85) fun r87 =>
              if r87 == 8 then
                some ([(api_Stitch.mk r87 (x35 == 112) 0 0)], (p0.size : Int) == 2)
              else
                Option.bind (sliceS p0 2 (p0.size : Int)) fun y96 =>
                Option.bind (K_raddleref25_Cut y96 47) fun r98 =>
                Option.bind (α := Bool) (
                  if r87 != 0 then
                    some ((r98.length : Int) == 1)
                  else
                    some false) fun o103 =>
                Option.bind (α := (Bool × Int)) (
                  Option.bind (α := Bool) (
                    if r87 == 6 then
                      some true
                    else
                      some (r87 == 7)) fun o111 =>
                  if o111 then
                    if (r98.length : Int) == 2 then
                      Option.bind (idxO r98 1) fun x119 =>
                      Option.bind (K_raddleref25_Number x119) fun r124 =>
                      some (r124.2, r124.1)
                    else
                      some ((r98.length : Int) == 2, 0)
                  else
                    some (o103, 0)) fun (o107, o108) =>
                Option.bind (idxO r98 0) fun x127 =>
                Option.bind (K_raddleref25_Number x127) fun r132 =>
                Option.bind (α := Bool) (
                  if o107 then
                    some r132.2
                  else
                    some false) fun o137 =>
                some ([(api_Stitch.mk r87 (x35 == 112) r132.1 o108)], o137)
            | .inr z =>
              some z
def K_raddleref25_Parse_l1 (r11 : (List ByteArray)) : (List api_Stitch × Int) → Option ((List api_Stitch × Int) ⊕ (((List api_Stitch) × Int) ⊕ (List api_Stitch))) := fun s0 => match s0 with
  | (s23, s26) =>
    if decide (s26 < (r11.length : Int)) then
      Option.bind (idxO r11 s26) fun x38 =>
      Option.bind (K_raddleref25_word x38) fun r43 =>
      if !r43.2 then
        some (.inr (.inl (([] : (List api_Stitch)), 12)))
      else
        Option.bind (appO s23 r43.1) fun l53 =>
        if decide (200 < (l53.length : Int)) then
          some (.inr (.inl (([] : (List api_Stitch)), 12)))
        else
          some (.inl (l53, w64 (s26 + 1)))
    else
      some (.inr (.inr s23))
def K_raddleref25_Check (p0 : api_Stitch) : Option Int :=
  Option.bind (α := Bool) (
    if p0.A == 0 then
      some (p0.B == 0)
    else
      some false) fun o3 =>
  Option.bind (α := Bool) (
    Option.bind (α := Bool) (
      if p0.Kind == 1 then
        some (p0.Kind == 1)
      else
        some (p0.Kind == 8)) fun o12 =>
    if o12 then
      some o3
    else
      if p0.Kind == 2 then
        if o3 then
          some (!p0.Purl)
        else
          some false
      else
        Option.bind (α := Bool) (
          if p0.Kind == 3 then
            some (p0.Kind == 3)
          else
            if p0.Kind == 4 then
              some (p0.Kind == 4)
            else
              some (p0.Kind == 5)) fun o21 =>
        if o21 then
          if p0.B == 0 then
            if decide (2 ≤ p0.A) then
              some (decide (p0.A ≤ 4))
            else
              some false
          else
            some false
        else
          Option.bind (α := Bool) (
            if p0.Kind == 6 then
              some (p0.Kind == 6)
            else
              some (p0.Kind == 7)) fun o31 =>
          if o31 then
            if decide (1 ≤ p0.A) then
              if decide (p0.A ≤ 6) then
                if decide (1 ≤ p0.B) then
                  some (decide (p0.B ≤ 6))
                else
                  some false
              else
                some false
            else
              some false
          else
            if p0.Kind == 9 then
              if p0.B == 0 then
                if !p0.Purl then
                  if decide (1 ≤ p0.A) then
                    some (decide (p0.A ≤ 200))
                  else
                    some false
                else
                  some false
              else
                some false
            else
              if p0.Kind == 10 then
                if p0.B == 0 then
                  if decide (1 ≤ p0.A) then
                    some (decide (p0.A ≤ 200))
                  else
                    some false
                else
                  some false
              else
                some false) fun o8 =>
  if !o8 then
    some 8
  else
    some 0
def K_raddleref25_All_l1 (p0 : (List api_Stitch)) : Int → Option (Int ⊕ (Int ⊕ Unit)) := fun s0 => match s0 with
  | s11 =>
    if decide (s11 < (p0.length : Int)) then
      Option.bind (idxO p0 s11) fun x20 =>
      Option.bind (K_raddleref25_Check x20) fun r25 =>
      if r25 != 0 then
        some (.inr (.inl 8))
      else
        some (.inl (w64 (s11 + 1)))
    else
      some (.inr (.inr ()))
def K_raddleref25_Used (p0 : api_Stitch) : Option Int :=
  Option.bind (α := Bool) (
    if p0.Kind == 2 then
      some (p0.Kind == 2)
    else
      some (p0.Kind == 9)) fun o5 =>
  if o5 then
    some 0
  else
    Option.bind (α := Bool) (
      if p0.Kind == 3 then
        some (p0.Kind == 3)
      else
        if p0.Kind == 4 then
          some (p0.Kind == 4)
        else
          some (p0.Kind == 10)) fun o12 =>
    if o12 then
      some p0.A
    else
      Option.bind (α := Bool) (
        if p0.Kind == 6 then
          some (p0.Kind == 6)
        else
          some (p0.Kind == 7)) fun o21 =>
      if o21 then
        some (w64 (p0.A + p0.B))
      else
        some 1
def K_raddleref25_Gives (p0 : api_Stitch) : Option Int :=
  if p0.Kind == 10 then
    some 0
  else
    Option.bind (α := Bool) (
      if p0.Kind == 5 then
        some (p0.Kind == 5)
      else
        some (p0.Kind == 9)) fun o8 =>
    if o8 then
      some p0.A
    else
      Option.bind (α := Bool) (
        if p0.Kind == 6 then
          some (p0.Kind == 6)
        else
          some (p0.Kind == 7)) fun o15 =>
      if o15 then
        some (w64 (p0.A + p0.B))
      else
        some 1
def K_raddleref25_sums_l1 (p0 : (List api_Stitch)) : (Int × Int × Int) → Option ((Int × Int × Int) ⊕ (Int × Int)) := fun s0 => match s0 with
  | (s10, s11, s12) =>
    if decide (s12 < (p0.length : Int)) then
      Option.bind (idxO p0 s12) fun x23 =>
      Option.bind (K_raddleref25_Used x23) fun r28 =>
      Option.bind (K_raddleref25_Gives x23) fun r33 =>
      some (.inl (w64 (s10 + r28), w64 (s11 + r33), w64 (s12 + 1)))
    else
      some (.inr (s10, s11))
def K_raddleref25_sums (p0 : (List api_Stitch)) : Option (Int × Int) :=
  Option.bind (α := (Int × Int)) (
    Option.bind (whileK (K_raddleref25_sums_l1 p0) (0, 0, 0)) fun (e16, e17) =>
      some (e16, e17)) fun (o5, o6) =>
  some (o5, o6)
def K_raddleref25_All (p0 : (List api_Stitch)) : Option Int :=
  if decide (200 < (p0.length : Int)) then
    some 4
  else
    Option.bind (α := Unit ⊕ Int) (
      Option.bind (whileK (K_raddleref25_All_l1 p0) 0) fun z0 => match z0 with
        | .inl z =>
          some (.inr z)
        | .inr _ =>
          some (.inl ())) fun z0 => match z0 with
      | .inl _ =>
        Option.bind (K_raddleref25_sums p0) fun r30 =>
        Option.bind (α := Bool) (
          if decide (200 < r30.1) then
            some true
          else
            some (decide (200 < r30.2))) fun o33 =>
        if o33 then
          some 4
        else
          some 0
      | .inr z =>
        some z
def K_raddleref25_Decimal_l1  : (Int × ByteArray) → Option ((Int × ByteArray) ⊕ ByteArray) := fun s0 => match s0 with
  | (s13, s14) =>
    if decide (0 < s13) then
      Option.bind (remI s13 10) fun z23 =>
      Option.bind (addS (strO ([IntKind.u8.wrap (w64 (48 + z23))] : List Int)) s14) fun z27 =>
      Option.bind (quoI s13 10) fun z29 =>
      some (.inl (z29, z27))
    else
      some (.inr s14)
def K_raddleref25_Decimal (p0 : Int) : Option ByteArray :=
  Option.bind (remI p0 10) fun z3 =>
  Option.bind (α := ByteArray) (
    Option.bind (quoI p0 10) fun z11 =>
    Option.bind (whileK (K_raddleref25_Decimal_l1) (z11, strO ([IntKind.u8.wrap (w64 (48 + z3))] : List Int))) fun e18 =>
      some e18) fun o7 =>
  some o7
def K_raddleref25_one (p0 : api_Stitch) : Option ByteArray :=
  Option.bind (α := ByteArray) (
    if p0.Purl then
      some (⟨#[112]⟩ : ByteArray)
    else
      some (⟨#[107]⟩ : ByteArray)) fun o4 =>
  if p0.Kind == 1 then
    some o4
  else
    if p0.Kind == 2 then
      some (⟨#[121, 111]⟩ : ByteArray)
    else
      if p0.Kind == 3 then
        Option.bind (addS o4 (⟨#[102]⟩ : ByteArray)) fun z20 =>
        Option.bind (K_raddleref25_Decimal p0.A) fun r22 =>
        Option.bind (addS z20 r22) fun z24 =>
        some z24
      else
        if p0.Kind == 4 then
          Option.bind (addS o4 (⟨#[108]⟩ : ByteArray)) fun z29 =>
          Option.bind (K_raddleref25_Decimal p0.A) fun r31 =>
          Option.bind (addS z29 r31) fun z33 =>
          some z33
        else
          if p0.Kind == 5 then
            Option.bind (addS o4 (⟨#[109]⟩ : ByteArray)) fun z38 =>
            Option.bind (K_raddleref25_Decimal p0.A) fun r40 =>
            Option.bind (addS z38 r40) fun z42 =>
            some z42
          else
            if p0.Kind == 6 then
              Option.bind (addS o4 (⟨#[120]⟩ : ByteArray)) fun z47 =>
              Option.bind (K_raddleref25_Decimal p0.A) fun r49 =>
              Option.bind (addS z47 r49) fun z51 =>
              Option.bind (addS z51 (⟨#[47]⟩ : ByteArray)) fun z53 =>
              Option.bind (K_raddleref25_Decimal p0.B) fun r55 =>
              Option.bind (addS z53 r55) fun z57 =>
              some z57
            else
              if p0.Kind == 7 then
                Option.bind (addS o4 (⟨#[121]⟩ : ByteArray)) fun z62 =>
                Option.bind (K_raddleref25_Decimal p0.A) fun r64 =>
                Option.bind (addS z62 r64) fun z66 =>
                Option.bind (addS z66 (⟨#[47]⟩ : ByteArray)) fun z68 =>
                Option.bind (K_raddleref25_Decimal p0.B) fun r70 =>
                Option.bind (addS z68 r70) fun z72 =>
                some z72
              else
                if p0.Kind == 8 then
                  Option.bind (addS o4 (⟨#[115]⟩ : ByteArray)) fun z77 =>
                  some z77
                else
                  if p0.Kind == 9 then
                    Option.bind (K_raddleref25_Decimal p0.A) fun r82 =>
                    Option.bind (addS (⟨#[111, 110]⟩ : ByteArray) r82) fun z84 =>
                    some z84
                  else
                    Option.bind (addS o4 (⟨#[111]⟩ : ByteArray)) fun z87 =>
                    Option.bind (K_raddleref25_Decimal p0.A) fun r89 =>
                    Option.bind (addS z87 r89) fun z91 =>
                    some z91
def K_raddleref25_Written_l1 (p0 : (List api_Stitch)) : (Int × Int) → Option ((Int × Int) ⊕ (Int × Int)) := fun s0 => match s0 with
  | (s44, s45) =>
    Option.bind (α := Bool) (
      Option.bind (idxO p0 s44) fun x55 =>
      if x55.Kind == 1 then
        if decide ((w64 (s44 + 1)) < (p0.length : Int)) then
          Option.bind (idxO p0 (w64 (s44 + 1))) fun x64 =>
          some ((x64.Kind == x55.Kind) && ((x64.Purl == x55.Purl) && ((x64.A == x55.A) && ((x64.B == x55.B) && true))))
        else
          some false
      else
        some false) fun o52 =>
    if o52 then
      some (.inl (w64 (s44 + 1), w64 (s45 + 1)))
    else
      some (.inr (s44, s45))
def K_raddleref25_Written_l2 (p0 : (List api_Stitch)) : (ByteArray × Int) → Option ((ByteArray × Int) ⊕ ByteArray) := fun s0 => match s0 with
  | (s9, s10) =>
    if decide (s10 < (p0.length : Int)) then
      Option.bind (α := (ByteArray × Int)) (
        Option.bind (α := ByteArray) (
          if decide (0 < s10) then
            Option.bind (addS s9 (⟨#[32]⟩ : ByteArray)) fun z27 =>
            some z27
          else
            some s9) fun o22 =>
        Option.bind (idxO p0 s10) fun x30 =>
        Option.bind (K_raddleref25_one x30) fun r35 =>
        Option.bind (addS o22 r35) fun z37 =>
        Option.bind (α := (Int × Int)) (
          Option.bind (whileK (K_raddleref25_Written_l1 p0) (s10, 1)) fun (e49, e50) =>
            some (e49, e50)) fun (o40, o41) =>
        if decide (1 < o41) then
          Option.bind (K_raddleref25_Decimal o41) fun r97 =>
          Option.bind (addS z37 r97) fun z99 =>
          some (z99, o40)
        else
          some (z37, o40)) fun (o18, o19) =>
      some (.inl (o18, w64 (o19 + 1)))
    else
      some (.inr s9)
def K_raddleref25_Written (p0 : (List api_Stitch)) : Option ByteArray :=
  Option.bind (α := ByteArray) (
    Option.bind (whileK (K_raddleref25_Written_l2 p0) ((⟨#[]⟩ : ByteArray), 0)) fun e14 =>
      some e14) fun o5 =>
  some o5
def K_raddleref25_Parse (p0 : ByteArray) : Option ((List api_Stitch) × Int) :=
  if decide (3000 < (p0.size : Int)) then
    some (([] : (List api_Stitch)), 12)
  else
    if p0 == (⟨#[]⟩ : ByteArray) then
      some (([] : (List api_Stitch)), 0)
    else
      Option.bind (K_raddleref25_Cut p0 32) fun r11 =>
      Option.bind (α := List api_Stitch ⊕ ((List api_Stitch) × Int)) (
        Option.bind (whileK (K_raddleref25_Parse_l1 r11) (([] : List api_Stitch), 0)) fun z0 => match z0 with
          | .inl z =>
            some (.inr z)
          | .inr e30 =>
            some (.inl e30)) fun z0 => match z0 with
        | .inl o17 =>
          Option.bind (α := Bool) (
            Option.bind (K_raddleref25_All o17) fun r64 =>
            if r64 != 0 then
              some true
            else
              Option.bind (K_raddleref25_Written o17) fun r67 =>
              some (r67 != p0)) fun o61 =>
          if o61 then
            some (([] : (List api_Stitch)), 12)
          else
            some (o17, 0)
        | .inr z =>
          some z
def K_raddleref26_Parse_l2 (r8 : (List ByteArray)) : (Int × List api_Row) → Option ((Int × List api_Row) ⊕ ((api_Chart × Int) ⊕ (List api_Row))) := fun s0 => match s0 with
  | (s54, s55) =>
    if decide ((w64 (s54 + 1)) < (r8.length : Int)) then
      Option.bind (α := List api_Row ⊕ (api_Chart × Int)) (
        Option.bind (α := Int) (
          Option.bind (whileK (K_raddleref26_Parse_l1 r8 s54) 0) fun e80 =>
            some e80) fun o73 =>
        Option.bind (α := Bool) (
          Option.bind (idxO r8 s54) fun x101 =>
          Option.bind (sliceS x101 0 o73) fun y106 =>
          if y106 != (⟨#[102, 114, 111, 110, 116]⟩ : ByteArray) then
            some (y106 != (⟨#[98, 97, 99, 107]⟩ : ByteArray))
          else
            some false) fun o98 =>
        if o98 then
          some (.inr ((api_Chart.mk 0 ([] : (List api_Row))), 12))
        else
          Option.bind (idxO r8 s54) fun x115 =>
          Option.bind (sliceS x115 0 o73) fun y120 =>
          Option.bind (α := List api_Stitch ⊕ (api_Chart × Int)) (
            if decide (o73 < (x115.size : Int)) then
              Option.bind (sliceS x115 (w64 (o73 + 1)) (x115.size : Int)) fun y137 =>
              Option.bind (K_raddleref25_Parse y137) fun r139 =>
              if r139.2 != 0 then
                some (.inr ((api_Chart.mk 0 ([] : (List api_Row))), 12))
              else
                some (.inl r139.1)
            else
              some (.inl ([] : List api_Stitch))) fun z0 => match z0 with
            | .inl o123 =>
              Option.bind (appO s55 [(api_Row.mk (y120 == (⟨#[98, 97, 99, 107]⟩ : ByteArray)) o123)]) fun l150 =>
              some (.inl l150)
            | .inr z =>
              some (.inr z)) fun z0 => match z0 with
        | .inl o67 =>
          some (.inl (w64 (s54 + 1), o67))
        | .inr z =>
          some (.inr (.inl z))
    else
      some (.inr (.inr s55))
def K_raddleref25_Uses (p0 : (List api_Stitch)) : Option (Int × Int) :=
  Option.bind (K_raddleref25_All p0) fun r6 =>
  if r6 != 0 then
    some (0, r6)
  else
    Option.bind (K_raddleref25_sums p0) fun r11 =>
    some (r11.1, 0)
def K_raddleref25_Makes (p0 : (List api_Stitch)) : Option (Int × Int) :=
  Option.bind (K_raddleref25_All p0) fun r6 =>
  if r6 != 0 then
    some (0, r6)
  else
    Option.bind (K_raddleref25_sums p0) fun r11 =>
    some (r11.2, 0)
def K_raddleref26_Check_l1 (p0 : api_Chart) : (Int × Int) → Option ((Int × Int) ⊕ (Int ⊕ Unit)) := fun s0 => match s0 with
  | (s22, s23) =>
    if decide (s23 < (p0.Rows.length : Int)) then
      Option.bind (idxO p0.Rows s23) fun x32 =>
      Option.bind (K_raddleref25_Uses x32.Cells) fun r41 =>
      if r41.2 != 0 then
        some (.inr (.inl r41.2))
      else
        if r41.1 != s22 then
          some (.inr (.inl 26))
        else
          Option.bind (K_raddleref25_Makes x32.Cells) fun r58 =>
          some (.inl (r58.1, w64 (s23 + 1)))
    else
      some (.inr (.inr ()))
def K_raddleref26_Check (p0 : api_Chart) : Option Int :=
  if decide (100 < (p0.Rows.length : Int)) then
    some 4
  else
    Option.bind (α := Bool) (
      if decide (p0.Start < 0) then
        some true
      else
        some (decide (200 < p0.Start))) fun o12 =>
    if o12 then
      some 8
    else
      Option.bind (α := Unit ⊕ Int) (
        Option.bind (whileK (K_raddleref26_Check_l1 p0) (p0.Start, 0)) fun z0 => match z0 with
          | .inl z =>
            some (.inr z)
          | .inr _ =>
            some (.inl ())) fun z0 => match z0 with
        | .inl _ =>
          some 0
        | .inr z =>
          some z
def K_raddleref26_side (p0 : Bool) : Option ByteArray :=
  if p0 then
    some (⟨#[98, 97, 99, 107]⟩ : ByteArray)
  else
    some (⟨#[102, 114, 111, 110, 116]⟩ : ByteArray)
def K_raddleref26_Written_l1 (p0 : api_Chart) : (ByteArray × Int) → Option ((ByteArray × Int) ⊕ ((ByteArray × Bool) ⊕ ByteArray)) := fun s0 => match s0 with
  | (s18, s19) =>
    if decide (s19 < (p0.Rows.length : Int)) then
      Option.bind (idxO p0.Rows s19) fun x29 =>
      Option.bind (K_raddleref25_Written x29.Cells) fun r38 =>
      if decide (3000 < (r38.size : Int)) then
        some (.inr (.inl ((⟨#[]⟩ : ByteArray), false)))
      else
        Option.bind (K_raddleref26_side x29.Back) fun r50 =>
        Option.bind (addS s18 r50) fun z52 =>
        Option.bind (α := ByteArray) (
          if r38 != (⟨#[]⟩ : ByteArray) then
            Option.bind (addS z52 (⟨#[32]⟩ : ByteArray)) fun z59 =>
            Option.bind (addS z59 r38) fun z61 =>
            some z61
          else
            some z52) fun o54 =>
        Option.bind (addS o54 (⟨#[10]⟩ : ByteArray)) fun z63 =>
        some (.inl (z63, w64 (s19 + 1)))
    else
      some (.inr (.inr s18))
def K_raddleref26_Written (p0 : api_Chart) : Option (ByteArray × Bool) :=
  Option.bind (K_raddleref25_Decimal p0.Start) fun r8 =>
  Option.bind (addS (⟨#[115, 116, 97, 114, 116, 32]⟩ : ByteArray) r8) fun z10 =>
  Option.bind (addS z10 (⟨#[10]⟩ : ByteArray)) fun z12 =>
  Option.bind (α := ByteArray ⊕ (ByteArray × Bool)) (
    Option.bind (whileK (K_raddleref26_Written_l1 p0) (z12, 0)) fun z0 => match z0 with
      | .inl z =>
        some (.inr z)
      | .inr e23 =>
        some (.inl e23)) fun z0 => match z0 with
    | .inl o14 =>
      some (o14, true)
    | .inr z =>
      some z
def K_raddleref26_Parse (p0 : ByteArray) : Option (api_Chart × Int) :=
  if decide (20000 < (p0.size : Int)) then
    some ((api_Chart.mk 0 ([] : (List api_Row))), 12)
  else
    Option.bind (K_raddleref25_Cut p0 10) fun r8 =>
    Option.bind (α := Bool) (
      if decide ((r8.length : Int) < 2) then
        some true
      else
        if decide (100 < (w64 ((r8.length : Int) - 2))) then
          some true
        else
          Option.bind (idxO r8 0) fun x19 =>
          if decide ((x19.size : Int) < 7) then
            some true
          else
            Option.bind (sliceS x19 0 6) fun y28 =>
            some (y28 != (⟨#[115, 116, 97, 114, 116, 32]⟩ : ByteArray))) fun o14 =>
    if o14 then
      some ((api_Chart.mk 0 ([] : (List api_Row))), 12)
    else
      Option.bind (idxO r8 0) fun x33 =>
      Option.bind (sliceS x33 6 (x33.size : Int)) fun y38 =>
      Option.bind (K_raddleref25_Number y38) fun r40 =>
      if !r40.2 then
        some ((api_Chart.mk 0 ([] : (List api_Row))), 12)
      else
        Option.bind (α := List api_Row ⊕ (api_Chart × Int)) (
          Option.bind (whileK (K_raddleref26_Parse_l2 r8) (1, ([] : List api_Row))) fun z0 => match z0 with
            | .inl z =>
              some (.inr z)
            | .inr e61 =>
              some (.inl e61)) fun z0 => match z0 with
          | .inl o48 =>
            Option.bind (K_raddleref26_Check (api_Chart.mk r40.1 o48)) fun r156 =>
            if r156 != 0 then
              some ((api_Chart.mk 0 ([] : (List api_Row))), 12)
            else
              Option.bind (K_raddleref26_Written (api_Chart.mk r40.1 o48)) fun r161 =>
              Option.bind (α := Bool) (
                if !r161.2 then
                  some true
                else
                  some (r161.1 != p0)) fun o164 =>
              if o164 then
                some ((api_Chart.mk 0 ([] : (List api_Row))), 12)
              else
                some ((api_Chart.mk r40.1 o48), 0)
          | .inr z =>
            some z
def K_raddlelaw45_given  : Option api_Chart :=
  Option.bind (K_raddleref26_Parse (⟨#[115, 116, 97, 114, 116, 32, 51, 10, 102, 114, 111, 110, 116, 32, 107, 32, 121, 111, 32, 107, 108, 50, 10, 98, 97, 99, 107, 32, 112, 51, 10]⟩ : ByteArray)) fun r4 =>
  if r4.2 != 0 then
    some (api_Chart.mk 0 ([] : (List api_Row)))
  else
    some r4.1
def K_chart_counted (p0 : api_Chart) : Option api_Chart :=
  some p0
def K_stitch_forms (p0 : Int) : Option (stitch_form × Bool) :=
  Option.bind (α := Bool) (
    if decide (p0 < 1) then
      some true
    else
      some (decide (([(stitch_form.mk (⟨#[]⟩ : ByteArray) (0, 0) (0, 0) true 1 1), (stitch_form.mk (⟨#[]⟩ : ByteArray) (0, 0) (0, 0) false 0 1), (stitch_form.mk (⟨#[102]⟩ : ByteArray) (2, 4) (0, 0) true 2 1), (stitch_form.mk (⟨#[108]⟩ : ByteArray) (2, 4) (0, 0) true 2 1), (stitch_form.mk (⟨#[109]⟩ : ByteArray) (2, 4) (0, 0) true 1 2), (stitch_form.mk (⟨#[120]⟩ : ByteArray) (1, 6) (1, 6) true 3 3), (stitch_form.mk (⟨#[121]⟩ : ByteArray) (1, 6) (1, 6) true 3 3), (stitch_form.mk (⟨#[115]⟩ : ByteArray) (0, 0) (0, 0) true 1 1), (stitch_form.mk (⟨#[]⟩ : ByteArray) (1, 200) (0, 0) false 0 2), (stitch_form.mk (⟨#[111]⟩ : ByteArray) (1, 200) (0, 0) true 2 0)].length : Int) < (IntKind.i64.wrap p0)))) fun o12 =>
  if o12 then
    some ((stitch_form.mk (⟨#[]⟩ : ByteArray) (0, 0) (0, 0) false 0 0), false)
  else
    Option.bind (idxO [(stitch_form.mk (⟨#[]⟩ : ByteArray) (0, 0) (0, 0) true 1 1), (stitch_form.mk (⟨#[]⟩ : ByteArray) (0, 0) (0, 0) false 0 1), (stitch_form.mk (⟨#[102]⟩ : ByteArray) (2, 4) (0, 0) true 2 1), (stitch_form.mk (⟨#[108]⟩ : ByteArray) (2, 4) (0, 0) true 2 1), (stitch_form.mk (⟨#[109]⟩ : ByteArray) (2, 4) (0, 0) true 1 2), (stitch_form.mk (⟨#[120]⟩ : ByteArray) (1, 6) (1, 6) true 3 3), (stitch_form.mk (⟨#[121]⟩ : ByteArray) (1, 6) (1, 6) true 3 3), (stitch_form.mk (⟨#[115]⟩ : ByteArray) (0, 0) (0, 0) true 1 1), (stitch_form.mk (⟨#[]⟩ : ByteArray) (1, 200) (0, 0) false 0 2), (stitch_form.mk (⟨#[111]⟩ : ByteArray) (1, 200) (0, 0) true 2 0)] (IntKind.u8.wrap (p0 - 1))) fun x19 =>
    some (x19, true)
def K_stitch_within (p0 : Int) (p1 : (Int × Int)) : Option Bool :=
  Option.bind (α := Bool) (
    if decide (p1.1 ≤ p0) then
      some (decide (p0 ≤ p1.2))
    else
      some false) fun o3 =>
  some o3
def K_stitch_Check (p0 : api_Stitch) : Option Int :=
  Option.bind (K_stitch_forms p0.Kind) fun r4 =>
  Option.bind (α := Bool) (
    if !r4.2 then
      some true
    else
      Option.bind (K_stitch_within p0.A r4.1.a) fun r13 =>
      if !r13 then
        some true
      else
        Option.bind (K_stitch_within p0.B r4.1.b) fun r16 =>
        if !r16 then
          some true
        else
          if p0.Purl then
            some (!r4.1.sided)
          else
            some false) fun o9 =>
  if o9 then
    some 8
  else
    some 0
def K_stitch_All_1 (p0 : api_Stitch) : Option Bool :=
  Option.bind (K_stitch_Check p0) fun r4 =>
  some (r4 != 0)
def K_slices_IndexFunc___api_Stitch_api_Stitch__s0_l1 (p0 : (List api_Stitch)) : Int → Option (Int ⊕ (Int ⊕ Unit)) := fun s0 => match s0 with
  | s7 =>
    if decide (s7 < (p0.length : Int)) then
      Option.bind (idxO p0 s7) fun x17 =>
      Option.bind (K_stitch_All_1 x17) fun r22 =>
      if r22 then
        some (.inr (.inl s7))
      else
        some (.inl (w64 (s7 + 1)))
    else
      some (.inr (.inr ()))
def K_slices_IndexFunc___api_Stitch_api_Stitch__s0 (p0 : (List api_Stitch)) : Option Int :=
  Option.bind (α := Unit ⊕ Int) (
    Option.bind (whileK (K_slices_IndexFunc___api_Stitch_api_Stitch__s0_l1 p0) 0) fun z0 => match z0 with
      | .inl z =>
        some (.inr z)
      | .inr _ =>
        some (.inl ())) fun z0 => match z0 with
    | .inl _ =>
      some (-1)
    | .inr z =>
      some z
def K_slices_ContainsFunc___api_Stitch_api_Stitch__s0 (p0 : (List api_Stitch)) : Option Bool :=
  Option.bind (K_slices_IndexFunc___api_Stitch_api_Stitch__s0 p0) fun r5 =>
  some (decide (0 ≤ r5))
def K_stitch_loops (p0 : api_Stitch) (p1 : Int) : Option Int :=
  Option.bind (idxO ([0, 1, p0.A, w64 (p0.A + p0.B)] : List Int) p1) fun x4 =>
  some x4
def K_stitch_sum_l1 (p0 : (List api_Stitch)) : (Int × Int × Int) → Option ((Int × Int × Int) ⊕ (Int × Int)) := fun s0 => match s0 with
  | (s9, s10, s11) =>
    if decide (s11 < (p0.length : Int)) then
      Option.bind (idxO p0 s11) fun x22 =>
      Option.bind (K_stitch_forms x22.Kind) fun r29 =>
      Option.bind (K_stitch_loops x22 r29.1.uses) fun r34 =>
      Option.bind (K_stitch_loops x22 r29.1.made) fun r36 =>
      some (.inl (w64 (s9 + r34), w64 (s10 + r36), w64 (s11 + 1)))
    else
      some (.inr (s9, s10))
def K_stitch_sum (p0 : (List api_Stitch)) : Option (Int × Int) :=
  Option.bind (α := (Int × Int)) (
    Option.bind (whileK (K_stitch_sum_l1 p0) (0, 0, 0)) fun (e15, e16) =>
      some (e15, e16)) fun (o4, o5) =>
  some (o4, o5)
def K_stitch_All (p0 : (List api_Stitch)) : Option Int :=
  if decide (200 < (p0.length : Int)) then
    some 4
  else
    Option.bind (K_slices_ContainsFunc___api_Stitch_api_Stitch__s0 p0) fun r10 =>
    if r10 then
      some 8
    else
      Option.bind (K_stitch_sum p0) fun r16 =>
      if decide (200 < (if r16.1 < r16.2 then r16.2 else r16.1)) then
        some 4
      else
        some 0
def K_stitch_Uses (p0 : (List api_Stitch)) : Option (Int × Int) :=
  Option.bind (K_stitch_All p0) fun r6 =>
  if r6 != 0 then
    some (0, r6)
  else
    Option.bind (K_stitch_sum p0) fun r12 =>
    some (r12.1, 0)
def K_stitch_Makes (p0 : (List api_Stitch)) : Option (Int × Int) :=
  Option.bind (K_stitch_All p0) fun r6 =>
  if r6 != 0 then
    some (0, r6)
  else
    Option.bind (K_stitch_sum p0) fun r12 =>
    some (r12.2, 0)
def K_chart_counted_1_l1 {σ τ : Type} (p0 : api_Chart) (B : σ → (Int × chart_count) → Option (σ ⊕ τ)) : (Int × Int × σ) → Option ((Int × Int × σ) ⊕ ((σ ⊕ τ) ⊕ (σ))) := fun s0 => match s0 with
  | (s11, s12, gz13) =>
    if decide (s12 < (p0.Rows.length : Int)) then
      Option.bind (idxO p0.Rows s12) fun x23 =>
      Option.bind (K_stitch_Uses x23.Cells) fun r36 =>
      Option.bind (α := (Int × Int)) (
        if r36.2 != 0 then
          some (0, r36.2)
        else
          if r36.1 != s11 then
            some (0, 26)
          else
            Option.bind (K_stitch_Makes x23.Cells) fun r46 =>
            some (r46.1, 0)) fun (o38, o39) =>
      Option.bind (B gz13 (s12, (chart_count.mk s11 o38 o39))) fun y51 =>
      match y51 with
      | .inl gz53 =>
        if ((chart_count.mk s11 o38 o39).e) != 0 then
          some (.inr (.inl (.inl gz53)))
        else
          some (.inl ((chart_count.mk s11 o38 o39).after, w64 (s12 + 1), gz53))
      | .inr tz54 =>
        some (.inr (.inl (.inr tz54)))
    else
      some (.inr (.inr gz13))
def K_I_chart_counted_1 (p0 : api_Chart) (σ τ : Type) (B : σ → (Int × chart_count) → Option (σ ⊕ τ)) (gz0 : σ) : Option (σ ⊕ τ) :=
  Option.bind (whileK (K_chart_counted_1_l1 p0 B) (p0.Start, 0, gz0)) fun z0 => match z0 with
    | .inl z =>
      some z
    | .inr gz17 =>
      some (.inl gz17)
def K_chart_Check_l2  : Unit → (Int × chart_count) → Option (Unit ⊕ Int) := fun s0 x0 => match s0, x0 with
  | _, (x25, x27) =>
    if x27.e != 0 then
      some (.inr x27.e)
    else
      some (.inl ())
def K_chart_Check (p0 : api_Chart) : Option Int :=
  if decide (100 < (p0.Rows.length : Int)) then
    some 4
  else
    Option.bind (α := Bool) (
      if decide (p0.Start < 0) then
        some true
      else
        some (decide (200 < p0.Start))) fun o13 =>
    if o13 then
      some 8
    else
      Option.bind (K_chart_counted p0) fun r21 =>
      Option.bind (K_I_chart_counted_1 r21 _ _ (K_chart_Check_l2) ()) fun z0 => match z0 with
        | .inl _ =>
          some 0
        | .inr e24 =>
          some e24
def K_cost_Count_l1 (x74 : api_Row) : (Int × Int × Int × Int × Int × Int × Int × Int × Int × Int × Int × Int) → Option ((Int × Int × Int × Int × Int × Int × Int × Int × Int × Int × Int × Int) ⊕ (Int × Int × Int × Int × Int × Int × Int × Int × Int × Int × Int)) := fun s0 => match s0 with
  | (s85, s86, s87, s88, s89, s90, s91, s92, s93, s94, s95, s96) =>
    if decide (s85 < (x74.Cells.length : Int)) then
      Option.bind (idxO x74.Cells s85) fun x116 =>
      Option.bind (idxO ([s86, s87, s88, s89, s90, s91, s92, s93, s94, s95, s96] : List Int) x116.Kind) fun x122 =>
      some (.inl (w64 (s85 + 1), (if x116.Kind = 0 then w64 (x122 + 1) else s86), (if x116.Kind = 1 then w64 (x122 + 1) else s87), (if x116.Kind = 2 then w64 (x122 + 1) else s88), (if x116.Kind = 3 then w64 (x122 + 1) else s89), (if x116.Kind = 4 then w64 (x122 + 1) else s90), (if x116.Kind = 5 then w64 (x122 + 1) else s91), (if x116.Kind = 6 then w64 (x122 + 1) else s92), (if x116.Kind = 7 then w64 (x122 + 1) else s93), (if x116.Kind = 8 then w64 (x122 + 1) else s94), (if x116.Kind = 9 then w64 (x122 + 1) else s95), (if x116.Kind = 10 then w64 (x122 + 1) else s96)))
    else
      some (.inr (s86, s87, s88, s89, s90, s91, s92, s93, s94, s95, s96))
def K_cost_Count_l2 (p0 : api_Chart) : (Int × Int × Int × Int × Int × Int × Int × Int × Int × Int × Int × Int) → Option ((Int × Int × Int × Int × Int × Int × Int × Int × Int × Int × Int × Int) ⊕ (Int × Int × Int × Int × Int × Int × Int × Int × Int × Int × Int)) := fun s0 => match s0 with
  | (s31, s32, s33, s34, s35, s36, s37, s38, s39, s40, s41, s42) =>
    if decide (s31 < (p0.Rows.length : Int)) then
      Option.bind (α := (Int × Int × Int × Int × Int × Int × Int × Int × Int × Int × Int)) (
        Option.bind (idxO p0.Rows s31) fun x74 =>
        Option.bind (whileK (K_cost_Count_l1 x74) (0, s32, s33, s34, s35, s36, s37, s38, s39, s40, s41, s42)) fun (e100, e101, e102, e103, e104, e105, e106, e107, e108, e109, e110) =>
          some (e100, e101, e102, e103, e104, e105, e106, e107, e108, e109, e110)) fun (o60, o61, o62, o63, o64, o65, o66, o67, o68, o69, o70) =>
      some (.inl (w64 (s31 + 1), o60, o61, o62, o63, o64, o65, o66, o67, o68, o69, o70))
    else
      some (.inr (s32, s33, s34, s35, s36, s37, s38, s39, s40, s41, s42))
def K_cost_Count (p0 : api_Chart) : Option ((Int × Int × Int × Int × Int × Int × Int × Int × Int × Int × Int) × Int) :=
  Option.bind (K_chart_Check p0) fun r12 =>
  if r12 != 0 then
    some ((0, 0, 0, 0, 0, 0, 0, 0, 0, 0, 0), r12)
  else
    Option.bind (α := (Int × Int × Int × Int × Int × Int × Int × Int × Int × Int × Int)) (
      Option.bind (whileK (K_cost_Count_l2 p0) (0, 0, 0, 0, 0, 0, 0, 0, 0, 0, 0, 0)) fun (e46, e47, e48, e49, e50, e51, e52, e53, e54, e55, e56) =>
        some (e46, e47, e48, e49, e50, e51, e52, e53, e54, e55, e56)) fun (o17, o18, o19, o20, o21, o22, o23, o24, o25, o26, o27) =>
    some ((o17, o18, o19, o20, o21, o22, o23, o24, o25, o26, o27), 0)
def K_raddlelaw45_rates  : Option api_Rates :=
  some (api_Rates.mk (0, 100, 150, 0, 90, 0, 0, 0, 0, 0, 0) (0, 1000, 500, 0, 1500, 0, 0, 0, 0, 0, 0) 2000)
def K_cost_rate (p0 : Int) : Option Bool :=
  Option.bind (α := Bool) (
    if decide (0 ≤ p0) then
      some (decide (p0 ≤ 1000000))
    else
      some false) fun o2 =>
  some o2
def K_cost_Check_l1 (p0 : api_Rates) : Int → Option (Int ⊕ (Int ⊕ Unit)) := fun s0 => match s0 with
  | s6 =>
    if decide (s6 < 11) then
      Option.bind (idxO ([p0.Length.1, p0.Length.2.1, p0.Length.2.2.1, p0.Length.2.2.2.1, p0.Length.2.2.2.2.1, p0.Length.2.2.2.2.2.1, p0.Length.2.2.2.2.2.2.1, p0.Length.2.2.2.2.2.2.2.1, p0.Length.2.2.2.2.2.2.2.2.1, p0.Length.2.2.2.2.2.2.2.2.2.1, p0.Length.2.2.2.2.2.2.2.2.2.2] : List Int) s6) fun x15 =>
      Option.bind (α := Bool) (
        Option.bind (K_cost_rate x15) fun r20 =>
        if !r20 then
          some true
        else
          Option.bind (idxO ([p0.Time.1, p0.Time.2.1, p0.Time.2.2.1, p0.Time.2.2.2.1, p0.Time.2.2.2.2.1, p0.Time.2.2.2.2.2.1, p0.Time.2.2.2.2.2.2.1, p0.Time.2.2.2.2.2.2.2.1, p0.Time.2.2.2.2.2.2.2.2.1, p0.Time.2.2.2.2.2.2.2.2.2.1, p0.Time.2.2.2.2.2.2.2.2.2.2] : List Int) s6) fun x23 =>
          Option.bind (K_cost_rate x23) fun r25 =>
          some (!r25)) fun o17 =>
      if o17 then
        some (.inr (.inl 8))
      else
        some (.inl (w64 (s6 + 1)))
    else
      some (.inr (.inr ()))
def K_cost_Check (p0 : api_Rates) : Option Int :=
  Option.bind (α := Unit ⊕ Int) (
    Option.bind (whileK (K_cost_Check_l1 p0) 0) fun z0 => match z0 with
      | .inl z =>
        some (.inr z)
      | .inr _ =>
        some (.inl ())) fun z0 => match z0 with
    | .inl _ =>
      Option.bind (α := Bool) (
        Option.bind (K_cost_rate p0.Turn) fun r33 =>
        if !r33 then
          some true
        else
          if p0.Length.1 != 0 then
            some true
          else
            some (p0.Time.1 != 0)) fun o30 =>
      if o30 then
        some 8
      else
        some 0
    | .inr z =>
      some z
def K_cost_Need_l1 (r10 : ((Int × Int × Int × Int × Int × Int × Int × Int × Int × Int × Int) × Int)) (p1 : api_Rates) : (Int × Int) → Option ((Int × Int) ⊕ Int) := fun s0 => match s0 with
  | (s31, s32) =>
    if decide (s31 < 11) then
      Option.bind (idxO ([r10.1.1, r10.1.2.1, r10.1.2.2.1, r10.1.2.2.2.1, r10.1.2.2.2.2.1, r10.1.2.2.2.2.2.1, r10.1.2.2.2.2.2.2.1, r10.1.2.2.2.2.2.2.2.1, r10.1.2.2.2.2.2.2.2.2.1, r10.1.2.2.2.2.2.2.2.2.2.1, r10.1.2.2.2.2.2.2.2.2.2.2] : List Int) s31) fun x42 =>
      Option.bind (idxO ([p1.Time.1, p1.Time.2.1, p1.Time.2.2.1, p1.Time.2.2.2.1, p1.Time.2.2.2.2.1, p1.Time.2.2.2.2.2.1, p1.Time.2.2.2.2.2.2.1, p1.Time.2.2.2.2.2.2.2.1, p1.Time.2.2.2.2.2.2.2.2.1, p1.Time.2.2.2.2.2.2.2.2.2.1, p1.Time.2.2.2.2.2.2.2.2.2.2] : List Int) s31) fun x44 =>
      some (.inl (w64 (s31 + 1), w64 (s32 + (w64 (x44 * x42)))))
    else
      some (.inr s32)
def K_cost_Need_l2 (x63 : api_Row) (p1 : api_Rates) : (Int × Int) → Option ((Int × Int) ⊕ Int) := fun s0 => match s0 with
  | (s74, s75) =>
    if decide (s74 < (x63.Cells.length : Int)) then
      Option.bind (idxO x63.Cells s74) fun x85 =>
      Option.bind (K_stitch_Makes [x85]) fun r94 =>
      Option.bind (idxO ([p1.Length.1, p1.Length.2.1, p1.Length.2.2.1, p1.Length.2.2.2.1, p1.Length.2.2.2.2.1, p1.Length.2.2.2.2.2.1, p1.Length.2.2.2.2.2.2.1, p1.Length.2.2.2.2.2.2.2.1, p1.Length.2.2.2.2.2.2.2.2.1, p1.Length.2.2.2.2.2.2.2.2.2.1, p1.Length.2.2.2.2.2.2.2.2.2.2] : List Int) x85.Kind) fun x96 =>
      some (.inl (w64 (s74 + 1), w64 (s75 + (w64 (x96 * (if (1 : Int) < r94.1 then r94.1 else 1))))))
    else
      some (.inr s75)
def K_cost_Need_l3 (p0 : api_Chart) (p1 : api_Rates) : (Int × Int) → Option ((Int × Int) ⊕ Int) := fun s0 => match s0 with
  | (s50, s51) =>
    if decide (s50 < (p0.Rows.length : Int)) then
      Option.bind (α := Int) (
        Option.bind (idxO p0.Rows s50) fun x63 =>
        Option.bind (whileK (K_cost_Need_l2 x63 p1) (0, s51)) fun e79 =>
          some e79) fun o59 =>
      some (.inl (w64 (s50 + 1), o59))
    else
      some (.inr s51)
def K_cost_Need (p0 : api_Chart) (p1 : api_Rates) : Option (api_Bill × Int) :=
  Option.bind (K_cost_Count p0) fun r10 =>
  if r10.2 != 0 then
    some ((api_Bill.mk 0 0), r10.2)
  else
    Option.bind (K_cost_Check p1) fun r20 =>
    if r20 != 0 then
      some ((api_Bill.mk 0 0), r20)
    else
      Option.bind (α := Int) (
        Option.bind (whileK (K_cost_Need_l1 r10 p1) (0, w64 (p1.Turn * (p0.Rows.length : Int)))) fun e36 =>
          some e36) fun o27 =>
      Option.bind (α := Int) (
        Option.bind (whileK (K_cost_Need_l3 p0 p1) (0, 0)) fun e55 =>
          some e55) fun o46 =>
      some ((api_Bill.mk o46 o27), 0)
def K_raddlelaw45_tex (p0 : Int) : Option api_Count :=
  some (api_Count.mk 1 (api_Ratio.mk p0 1))
def K_yarn_factors (p0 : Int) : Option (Int × Int × Bool × Bool) :=
  if p0 == 1 then
    some (1, 1, true, true)
  else
    if p0 == 2 then
      some (1, 9, true, true)
    else
      if p0 == 3 then
        some (1000, 1, false, true)
      else
        if p0 == 4 then
          some (226796185, 384048, false, true)
        else
          some (0, 0, false, false)
def K_yarn_size (p0 : Int) : Option Int :=
  if decide (p0 < 0) then
    some (IntKind.u64.wrap (0 - (IntKind.u64.wrap p0)))
  else
    some (IntKind.u64.wrap p0)
def K_yarn_gcd_l1  : (Int × Int) → Option ((Int × Int) ⊕ Int) := fun s0 => match s0 with
  | (s5, s6) =>
    if s6 != 0 then
      Option.bind (remI s5 s6) fun z14 =>
      some (.inl (s6, z14))
    else
      some (.inr s5)
def K_yarn_gcd (p0 : Int) (p1 : Int) : Option Int :=
  Option.bind (α := Int) (
    Option.bind (whileK (K_yarn_gcd_l1) (p0, p1)) fun e10 =>
      some e10) fun o2 =>
  some o2
def K_yarn_Check (p0 : api_Ratio) : Option Int :=
  Option.bind (α := Bool) (
    if decide (p0.Den < 1) then
      some true
    else
      if decide (1000000000 < p0.Den) then
        some true
      else
        Option.bind (K_yarn_size p0.Num) fun r9 =>
        if decide (1000000000 < r9) then
          some true
        else
          Option.bind (K_yarn_gcd r9 (IntKind.u64.wrap p0.Den)) fun r12 =>
          some (r12 != 1)) fun o4 =>
  if o4 then
    some 8
  else
    some 0
def K_yarn_counted (p0 : api_Count) : Option Int :=
  Option.bind (K_yarn_factors p0.System) fun r5 =>
  Option.bind (α := Bool) (
    if !r5.2.2.2 then
      some true
    else
      Option.bind (K_yarn_Check p0.N) fun r11 =>
      if r11 != 0 then
        some true
      else
        some (decide (p0.N.Num ≤ 0))) fun o7 =>
  if o7 then
    some 8
  else
    some 0
def K_yarn_Make (p0 : Int) (p1 : Int) : Option (api_Ratio × Int) :=
  if p1 == 0 then
    some ((api_Ratio.mk 0 0), 18)
  else
    Option.bind (K_yarn_size p0) fun r8 =>
    Option.bind (K_yarn_size p1) fun r10 =>
    Option.bind (K_yarn_gcd r8 r10) fun r13 =>
    Option.bind (quoK .u64 r8 r13) fun z16 =>
    Option.bind (quoK .u64 r10 r13) fun z18 =>
    Option.bind (α := Bool) (
      if decide (1000000000 < z16) then
        some true
      else
        some (decide (1000000000 < z18))) fun o21 =>
    if o21 then
      some ((api_Ratio.mk 0 0), 16)
    else
      Option.bind (α := Int) (
        if (decide (p0 < 0)) != (decide (p1 < 0)) then
          some (w64 (0 - (IntKind.i64.wrap z16)))
        else
          some (IntKind.i64.wrap z16)) fun o29 =>
      some ((api_Ratio.mk o29 (IntKind.i64.wrap z18)), 0)
def K_yarn_Convert (p0 : api_Count) (p1 : Int) : Option (api_Count × Int) :=
  Option.bind (K_yarn_counted p0) fun r6 =>
  if r6 != 0 then
    some ((api_Count.mk 0 (api_Ratio.mk 0 0)), r6)
  else
    Option.bind (K_yarn_factors p0.System) fun r12 =>
    Option.bind (K_yarn_factors p1) fun r15 =>
    if !r15.2.2.2 then
      some ((api_Count.mk 0 (api_Ratio.mk 0 0)), 2)
    else
      Option.bind (α := (Int × Int)) (
        Option.bind (α := Bool) (
          if !r12.2.2.1 then
            some (!r15.2.2.1)
          else
            some false) fun o26 =>
        if o26 then
          some (w64 (r12.2.1 * r15.1), w64 (r12.1 * r15.2.1))
        else
          some (w64 (r12.1 * r15.2.1), w64 (r12.2.1 * r15.1))) fun (o22, o23) =>
      Option.bind (α := (Int × Int)) (
        Option.bind (α := Bool) (
          if r12.2.2.1 then
            some (!r15.2.2.1)
          else
            some false) fun o35 =>
        if o35 then
          some (w64 (r15.1 * r12.2.1), w64 (r15.2.1 * r12.1))
        else
          some (o22, o23)) fun (o31, o32) =>
      Option.bind (K_yarn_gcd (IntKind.u64.wrap o31) (IntKind.u64.wrap o32)) fun r41 =>
      Option.bind (quoI o31 (IntKind.i64.wrap r41)) fun z44 =>
      Option.bind (quoI o32 (IntKind.i64.wrap r41)) fun z46 =>
      Option.bind (α := (Int × Int)) (
        if r12.2.2.1 != r15.2.2.1 then
          some (p0.N.Den, p0.N.Num)
        else
          some (p0.N.Num, p0.N.Den)) fun (o50, o51) =>
      Option.bind (K_yarn_Make (w64 (z44 * o50)) (w64 (z46 * o51))) fun r57 =>
      if r57.2 != 0 then
        some ((api_Count.mk 0 (api_Ratio.mk 0 0)), r57.2)
      else
        if r57.1.Num == 0 then
          some ((api_Count.mk 0 (api_Ratio.mk 0 0)), 16)
        else
          some ((api_Count.mk p1 r57.1), 0)
def K_yarn_Weigh (p0 : api_Count) (p1 : Int) : Option (api_Ratio × Int) :=
  Option.bind (K_yarn_counted p0) fun r6 =>
  if r6 != 0 then
    some ((api_Ratio.mk 0 0), r6)
  else
    Option.bind (α := Bool) (
      if decide (p1 < 0) then
        some true
      else
        some (decide (1000000000 < p1))) fun o12 =>
    if o12 then
      some ((api_Ratio.mk 0 0), 2)
    else
      Option.bind (K_yarn_Convert p0 1) fun r19 =>
      if r19.2 != 0 then
        some ((api_Ratio.mk 0 0), r19.2)
      else
        Option.bind (K_yarn_Make (w64 (p1 * r19.1.N.Num)) (w64 (10000 * r19.1.N.Den))) fun r28 =>
        some (r28.1, r28.2)
def K_cost_Weight (p0 : api_Bill) (p1 : api_Count) : Option (api_Ratio × Int) :=
  Option.bind (α := Bool) (
    if decide (p0.Length < 0) then
      some true
    else
      some (decide (p0.Time < 0))) fun o6 =>
  if o6 then
    some ((api_Ratio.mk 0 0), 2)
  else
    Option.bind (K_yarn_Weigh p1 p0.Length) fun r13 =>
    some (r13.1, r13.2)
def K_yarn_floor (p0 : Int) (p1 : Int) : Option Int :=
  Option.bind (quoI p0 p1) fun z3 =>
  Option.bind (α := Int) (
    Option.bind (remI p0 p1) fun z9 =>
    if decide (z9 < 0) then
      some (w64 (z3 - 1))
    else
      some z3) fun o5 =>
  some o5
def K_yarn_Skeins (p0 : api_Count) (p1 : Int) (p2 : Int) : Option (Int × Int) :=
  Option.bind (K_yarn_Weigh p0 p1) fun r4 =>
  if r4.2 != 0 then
    some (0, r4.2)
  else
    Option.bind (α := Bool) (
      if decide (p2 < 1) then
        some true
      else
        some (decide (1000000000 < p2))) fun o13 =>
    if o13 then
      some (0, 2)
    else
      Option.bind (K_yarn_floor (w64 (0 - r4.1.Num)) (w64 (r4.1.Den * p2))) fun r20 =>
      some (w64 (0 - r20), 0)
def K_cost_Price (p0 : api_Bill) (p1 : api_Count) (p2 : Int) (p3 : Int) : Option (Int × Int × Int) :=
  Option.bind (α := Bool) (
    if decide (p0.Length < 0) then
      some true
    else
      some (decide (p0.Time < 0))) fun o5 =>
  if o5 then
    some (0, 0, 2)
  else
    Option.bind (K_yarn_Skeins p1 p0.Length p2) fun r12 =>
    if r12.2 != 0 then
      some (0, 0, r12.2)
    else
      Option.bind (α := Bool) (
        if decide (p3 < 0) then
          some true
        else
          some (decide (1000000 < p3))) fun o19 =>
      if o19 then
        some (0, 0, 2)
      else
        some (r12.1, w64 (r12.1 * p3), 0)
theorem m_raddleref25_Cut_l1 (p0 : ByteArray) (p1 : Int) : ∀ s, Le (K_raddleref25_Cut_l1 p0 p1 s) (raddleref25_Cut_l1 p0 p1 s) := by
  unfold K_raddleref25_Cut_l1 raddleref25_Cut_l1
  with_reducible repeat' (first | exact Le.rfl _ | refine Le.loop _ ?_ | refine Le.bind ?_ ?_ | refine Le.ite ?_ ?_ | refine Le.sum ?_ ?_ | refine Le.prod ?_ | intro _ | exact Empty.elim (by assumption) | dsimp only)
theorem m_F_raddleref25_Cut (p0 : ByteArray) (p1 : Int) : Le (K_raddleref25_Cut p0 p1) (F_raddleref25_Cut p0 p1) := by
  unfold K_raddleref25_Cut F_raddleref25_Cut
  with_reducible repeat' (first | exact m_raddleref25_Cut_l1 _ _ | exact Le.rfl _ | refine Le.loop _ ?_ | refine Le.bind ?_ ?_ | refine Le.ite ?_ ?_ | refine Le.sum ?_ ?_ | refine Le.prod ?_ | intro _ | exact Empty.elim (by assumption) | dsimp only)
theorem m_raddleref25_Number_l1 (p0 : ByteArray) : ∀ s, Le (K_raddleref25_Number_l1 p0 s) (raddleref25_Number_l1 p0 s) := by
  unfold K_raddleref25_Number_l1 raddleref25_Number_l1
  with_reducible repeat' (first | exact Le.rfl _ | refine Le.loop _ ?_ | refine Le.bind ?_ ?_ | refine Le.ite ?_ ?_ | refine Le.sum ?_ ?_ | refine Le.prod ?_ | intro _ | exact Empty.elim (by assumption) | dsimp only)
theorem m_F_raddleref25_Number (p0 : ByteArray) : Le (K_raddleref25_Number p0) (F_raddleref25_Number p0) := by
  unfold K_raddleref25_Number F_raddleref25_Number
  with_reducible repeat' (first | exact m_raddleref25_Number_l1 _ | exact Le.rfl _ | refine Le.loop _ ?_ | refine Le.bind ?_ ?_ | refine Le.ite ?_ ?_ | refine Le.sum ?_ ?_ | refine Le.prod ?_ | intro _ | exact Empty.elim (by assumption) | dsimp only)
theorem m_raddleref26_Parse_l1 (r8 : (List ByteArray)) (s54 : Int) : ∀ s, Le (K_raddleref26_Parse_l1 r8 s54 s) (raddleref26_Parse_l1 r8 s54 s) := by
  unfold K_raddleref26_Parse_l1 raddleref26_Parse_l1
  with_reducible repeat' (first | exact Le.rfl _ | refine Le.loop _ ?_ | refine Le.bind ?_ ?_ | refine Le.ite ?_ ?_ | refine Le.sum ?_ ?_ | refine Le.prod ?_ | intro _ | exact Empty.elim (by assumption) | dsimp only)
theorem m_raddleref25_word_l1 (r49 : (Int × Bool)) (x35 : Int) : ∀ s, Le (K_raddleref25_word_l1 r49 x35 s) (raddleref25_word_l1 r49 x35 s) := by
  unfold K_raddleref25_word_l1 raddleref25_word_l1
  with_reducible repeat' (first | exact Le.rfl _ | refine Le.loop _ ?_ | refine Le.bind ?_ ?_ | refine Le.ite ?_ ?_ | refine Le.sum ?_ ?_ | refine Le.prod ?_ | intro _ | exact Empty.elim (by assumption) | dsimp only)
theorem m_raddleref25_kind_l1 (p0 : Int) : ∀ s, Le (K_raddleref25_kind_l1 p0 s) (raddleref25_kind_l1 p0 s) := by
  unfold K_raddleref25_kind_l1 raddleref25_kind_l1
  with_reducible repeat' (first | exact Le.rfl _ | refine Le.loop _ ?_ | refine Le.bind ?_ ?_ | refine Le.ite ?_ ?_ | refine Le.sum ?_ ?_ | refine Le.prod ?_ | intro _ | exact Empty.elim (by assumption) | dsimp only)
theorem m_F_raddleref25_kind (p0 : Int) : Le (K_raddleref25_kind p0) (F_raddleref25_kind p0) := by
  unfold K_raddleref25_kind F_raddleref25_kind
  with_reducible repeat' (first | exact m_raddleref25_kind_l1 _ | exact Le.rfl _ | refine Le.loop _ ?_ | refine Le.bind ?_ ?_ | refine Le.ite ?_ ?_ | refine Le.sum ?_ ?_ | refine Le.prod ?_ | intro _ | exact Empty.elim (by assumption) | dsimp only)
theorem m_F_raddleref25_word (p0 : ByteArray) : Le (K_raddleref25_word p0) (F_raddleref25_word p0) := by
  unfold K_raddleref25_word F_raddleref25_word
  with_reducible repeat' (first | exact m_F_raddleref25_Number _ | exact m_raddleref25_word_l1 _ _ | exact m_F_raddleref25_kind _ | exact m_F_raddleref25_Cut _ _ | exact Le.rfl _ | refine Le.loop _ ?_ | refine Le.bind ?_ ?_ | refine Le.ite ?_ ?_ | refine Le.sum ?_ ?_ | refine Le.prod ?_ | intro _ | exact Empty.elim (by assumption) | dsimp only)
theorem m_raddleref25_Parse_l1 (r11 : (List ByteArray)) : ∀ s, Le (K_raddleref25_Parse_l1 r11 s) (raddleref25_Parse_l1 r11 s) := by
  unfold K_raddleref25_Parse_l1 raddleref25_Parse_l1
  with_reducible repeat' (first | exact m_F_raddleref25_word _ | exact Le.rfl _ | refine Le.loop _ ?_ | refine Le.bind ?_ ?_ | refine Le.ite ?_ ?_ | refine Le.sum ?_ ?_ | refine Le.prod ?_ | intro _ | exact Empty.elim (by assumption) | dsimp only)
theorem m_F_raddleref25_Check (p0 : api_Stitch) : Le (K_raddleref25_Check p0) (F_raddleref25_Check p0) := by
  unfold K_raddleref25_Check F_raddleref25_Check
  with_reducible repeat' (first | exact Le.rfl _ | refine Le.loop _ ?_ | refine Le.bind ?_ ?_ | refine Le.ite ?_ ?_ | refine Le.sum ?_ ?_ | refine Le.prod ?_ | intro _ | exact Empty.elim (by assumption) | dsimp only)
theorem m_raddleref25_All_l1 (p0 : (List api_Stitch)) : ∀ s, Le (K_raddleref25_All_l1 p0 s) (raddleref25_All_l1 p0 s) := by
  unfold K_raddleref25_All_l1 raddleref25_All_l1
  with_reducible repeat' (first | exact m_F_raddleref25_Check _ | exact Le.rfl _ | refine Le.loop _ ?_ | refine Le.bind ?_ ?_ | refine Le.ite ?_ ?_ | refine Le.sum ?_ ?_ | refine Le.prod ?_ | intro _ | exact Empty.elim (by assumption) | dsimp only)
theorem m_F_raddleref25_Used (p0 : api_Stitch) : Le (K_raddleref25_Used p0) (F_raddleref25_Used p0) := by
  unfold K_raddleref25_Used F_raddleref25_Used
  with_reducible repeat' (first | exact Le.rfl _ | refine Le.loop _ ?_ | refine Le.bind ?_ ?_ | refine Le.ite ?_ ?_ | refine Le.sum ?_ ?_ | refine Le.prod ?_ | intro _ | exact Empty.elim (by assumption) | dsimp only)
theorem m_F_raddleref25_Gives (p0 : api_Stitch) : Le (K_raddleref25_Gives p0) (F_raddleref25_Gives p0) := by
  unfold K_raddleref25_Gives F_raddleref25_Gives
  with_reducible repeat' (first | exact Le.rfl _ | refine Le.loop _ ?_ | refine Le.bind ?_ ?_ | refine Le.ite ?_ ?_ | refine Le.sum ?_ ?_ | refine Le.prod ?_ | intro _ | exact Empty.elim (by assumption) | dsimp only)
theorem m_raddleref25_sums_l1 (p0 : (List api_Stitch)) : ∀ s, Le (K_raddleref25_sums_l1 p0 s) (raddleref25_sums_l1 p0 s) := by
  unfold K_raddleref25_sums_l1 raddleref25_sums_l1
  with_reducible repeat' (first | exact m_F_raddleref25_Used _ | exact m_F_raddleref25_Gives _ | exact Le.rfl _ | refine Le.loop _ ?_ | refine Le.bind ?_ ?_ | refine Le.ite ?_ ?_ | refine Le.sum ?_ ?_ | refine Le.prod ?_ | intro _ | exact Empty.elim (by assumption) | dsimp only)
theorem m_F_raddleref25_sums (p0 : (List api_Stitch)) : Le (K_raddleref25_sums p0) (F_raddleref25_sums p0) := by
  unfold K_raddleref25_sums F_raddleref25_sums
  with_reducible repeat' (first | exact m_raddleref25_sums_l1 _ | exact Le.rfl _ | refine Le.loop _ ?_ | refine Le.bind ?_ ?_ | refine Le.ite ?_ ?_ | refine Le.sum ?_ ?_ | refine Le.prod ?_ | intro _ | exact Empty.elim (by assumption) | dsimp only)
theorem m_F_raddleref25_All (p0 : (List api_Stitch)) : Le (K_raddleref25_All p0) (F_raddleref25_All p0) := by
  unfold K_raddleref25_All F_raddleref25_All
  with_reducible repeat' (first | exact m_raddleref25_All_l1 _ | exact m_F_raddleref25_sums _ | exact Le.rfl _ | refine Le.loop _ ?_ | refine Le.bind ?_ ?_ | refine Le.ite ?_ ?_ | refine Le.sum ?_ ?_ | refine Le.prod ?_ | intro _ | exact Empty.elim (by assumption) | dsimp only)
theorem m_raddleref25_Decimal_l1  : ∀ s, Le (K_raddleref25_Decimal_l1 s) (raddleref25_Decimal_l1 s) := by
  unfold K_raddleref25_Decimal_l1 raddleref25_Decimal_l1
  with_reducible repeat' (first | exact Le.rfl _ | refine Le.loop _ ?_ | refine Le.bind ?_ ?_ | refine Le.ite ?_ ?_ | refine Le.sum ?_ ?_ | refine Le.prod ?_ | intro _ | exact Empty.elim (by assumption) | dsimp only)
theorem m_F_raddleref25_Decimal (p0 : Int) : Le (K_raddleref25_Decimal p0) (F_raddleref25_Decimal p0) := by
  unfold K_raddleref25_Decimal F_raddleref25_Decimal
  with_reducible repeat' (first | exact m_raddleref25_Decimal_l1 | exact Le.rfl _ | refine Le.loop _ ?_ | refine Le.bind ?_ ?_ | refine Le.ite ?_ ?_ | refine Le.sum ?_ ?_ | refine Le.prod ?_ | intro _ | exact Empty.elim (by assumption) | dsimp only)
theorem m_F_raddleref25_one (p0 : api_Stitch) : Le (K_raddleref25_one p0) (F_raddleref25_one p0) := by
  unfold K_raddleref25_one F_raddleref25_one
  with_reducible repeat' (first | exact m_F_raddleref25_Decimal _ | exact Le.rfl _ | refine Le.loop _ ?_ | refine Le.bind ?_ ?_ | refine Le.ite ?_ ?_ | refine Le.sum ?_ ?_ | refine Le.prod ?_ | intro _ | exact Empty.elim (by assumption) | dsimp only)
theorem m_raddleref25_Written_l1 (p0 : (List api_Stitch)) : ∀ s, Le (K_raddleref25_Written_l1 p0 s) (raddleref25_Written_l1 p0 s) := by
  unfold K_raddleref25_Written_l1 raddleref25_Written_l1
  with_reducible repeat' (first | exact Le.rfl _ | refine Le.loop _ ?_ | refine Le.bind ?_ ?_ | refine Le.ite ?_ ?_ | refine Le.sum ?_ ?_ | refine Le.prod ?_ | intro _ | exact Empty.elim (by assumption) | dsimp only)
theorem m_raddleref25_Written_l2 (p0 : (List api_Stitch)) : ∀ s, Le (K_raddleref25_Written_l2 p0 s) (raddleref25_Written_l2 p0 s) := by
  unfold K_raddleref25_Written_l2 raddleref25_Written_l2
  with_reducible repeat' (first | exact m_F_raddleref25_one _ | exact m_raddleref25_Written_l1 _ | exact m_F_raddleref25_Decimal _ | exact Le.rfl _ | refine Le.loop _ ?_ | refine Le.bind ?_ ?_ | refine Le.ite ?_ ?_ | refine Le.sum ?_ ?_ | refine Le.prod ?_ | intro _ | exact Empty.elim (by assumption) | dsimp only)
theorem m_F_raddleref25_Written (p0 : (List api_Stitch)) : Le (K_raddleref25_Written p0) (F_raddleref25_Written p0) := by
  unfold K_raddleref25_Written F_raddleref25_Written
  with_reducible repeat' (first | exact m_raddleref25_Written_l2 _ | exact Le.rfl _ | refine Le.loop _ ?_ | refine Le.bind ?_ ?_ | refine Le.ite ?_ ?_ | refine Le.sum ?_ ?_ | refine Le.prod ?_ | intro _ | exact Empty.elim (by assumption) | dsimp only)
theorem m_F_raddleref25_Parse (p0 : ByteArray) : Le (K_raddleref25_Parse p0) (F_raddleref25_Parse p0) := by
  unfold K_raddleref25_Parse F_raddleref25_Parse
  with_reducible repeat' (first | exact m_F_raddleref25_Cut _ _ | exact m_raddleref25_Parse_l1 _ | exact m_F_raddleref25_All _ | exact m_F_raddleref25_Written _ | exact Le.rfl _ | refine Le.loop _ ?_ | refine Le.bind ?_ ?_ | refine Le.ite ?_ ?_ | refine Le.sum ?_ ?_ | refine Le.prod ?_ | intro _ | exact Empty.elim (by assumption) | dsimp only)
theorem m_raddleref26_Parse_l2 (r8 : (List ByteArray)) : ∀ s, Le (K_raddleref26_Parse_l2 r8 s) (raddleref26_Parse_l2 r8 s) := by
  unfold K_raddleref26_Parse_l2 raddleref26_Parse_l2
  with_reducible repeat' (first | exact m_raddleref26_Parse_l1 _ _ | exact m_F_raddleref25_Parse _ | exact Le.rfl _ | refine Le.loop _ ?_ | refine Le.bind ?_ ?_ | refine Le.ite ?_ ?_ | refine Le.sum ?_ ?_ | refine Le.prod ?_ | intro _ | exact Empty.elim (by assumption) | dsimp only)
theorem m_F_raddleref25_Uses (p0 : (List api_Stitch)) : Le (K_raddleref25_Uses p0) (F_raddleref25_Uses p0) := by
  unfold K_raddleref25_Uses F_raddleref25_Uses
  with_reducible repeat' (first | exact m_F_raddleref25_All _ | exact m_F_raddleref25_sums _ | exact Le.rfl _ | refine Le.loop _ ?_ | refine Le.bind ?_ ?_ | refine Le.ite ?_ ?_ | refine Le.sum ?_ ?_ | refine Le.prod ?_ | intro _ | exact Empty.elim (by assumption) | dsimp only)
theorem m_F_raddleref25_Makes (p0 : (List api_Stitch)) : Le (K_raddleref25_Makes p0) (F_raddleref25_Makes p0) := by
  unfold K_raddleref25_Makes F_raddleref25_Makes
  with_reducible repeat' (first | exact m_F_raddleref25_All _ | exact m_F_raddleref25_sums _ | exact Le.rfl _ | refine Le.loop _ ?_ | refine Le.bind ?_ ?_ | refine Le.ite ?_ ?_ | refine Le.sum ?_ ?_ | refine Le.prod ?_ | intro _ | exact Empty.elim (by assumption) | dsimp only)
theorem m_raddleref26_Check_l1 (p0 : api_Chart) : ∀ s, Le (K_raddleref26_Check_l1 p0 s) (raddleref26_Check_l1 p0 s) := by
  unfold K_raddleref26_Check_l1 raddleref26_Check_l1
  with_reducible repeat' (first | exact m_F_raddleref25_Uses _ | exact m_F_raddleref25_Makes _ | exact Le.rfl _ | refine Le.loop _ ?_ | refine Le.bind ?_ ?_ | refine Le.ite ?_ ?_ | refine Le.sum ?_ ?_ | refine Le.prod ?_ | intro _ | exact Empty.elim (by assumption) | dsimp only)
theorem m_F_raddleref26_Check (p0 : api_Chart) : Le (K_raddleref26_Check p0) (F_raddleref26_Check p0) := by
  unfold K_raddleref26_Check F_raddleref26_Check
  with_reducible repeat' (first | exact m_raddleref26_Check_l1 _ | exact Le.rfl _ | refine Le.loop _ ?_ | refine Le.bind ?_ ?_ | refine Le.ite ?_ ?_ | refine Le.sum ?_ ?_ | refine Le.prod ?_ | intro _ | exact Empty.elim (by assumption) | dsimp only)
theorem m_F_raddleref26_side (p0 : Bool) : Le (K_raddleref26_side p0) (F_raddleref26_side p0) := by
  unfold K_raddleref26_side F_raddleref26_side
  with_reducible repeat' (first | exact Le.rfl _ | refine Le.loop _ ?_ | refine Le.bind ?_ ?_ | refine Le.ite ?_ ?_ | refine Le.sum ?_ ?_ | refine Le.prod ?_ | intro _ | exact Empty.elim (by assumption) | dsimp only)
theorem m_raddleref26_Written_l1 (p0 : api_Chart) : ∀ s, Le (K_raddleref26_Written_l1 p0 s) (raddleref26_Written_l1 p0 s) := by
  unfold K_raddleref26_Written_l1 raddleref26_Written_l1
  with_reducible repeat' (first | exact m_F_raddleref25_Written _ | exact m_F_raddleref26_side _ | exact Le.rfl _ | refine Le.loop _ ?_ | refine Le.bind ?_ ?_ | refine Le.ite ?_ ?_ | refine Le.sum ?_ ?_ | refine Le.prod ?_ | intro _ | exact Empty.elim (by assumption) | dsimp only)
theorem m_F_raddleref26_Written (p0 : api_Chart) : Le (K_raddleref26_Written p0) (F_raddleref26_Written p0) := by
  unfold K_raddleref26_Written F_raddleref26_Written
  with_reducible repeat' (first | exact m_F_raddleref25_Decimal _ | exact m_raddleref26_Written_l1 _ | exact Le.rfl _ | refine Le.loop _ ?_ | refine Le.bind ?_ ?_ | refine Le.ite ?_ ?_ | refine Le.sum ?_ ?_ | refine Le.prod ?_ | intro _ | exact Empty.elim (by assumption) | dsimp only)
theorem m_F_raddleref26_Parse (p0 : ByteArray) : Le (K_raddleref26_Parse p0) (F_raddleref26_Parse p0) := by
  unfold K_raddleref26_Parse F_raddleref26_Parse
  with_reducible repeat' (first | exact m_F_raddleref25_Cut _ _ | exact m_F_raddleref25_Number _ | exact m_raddleref26_Parse_l2 _ | exact m_F_raddleref26_Check _ | exact m_F_raddleref26_Written _ | exact Le.rfl _ | refine Le.loop _ ?_ | refine Le.bind ?_ ?_ | refine Le.ite ?_ ?_ | refine Le.sum ?_ ?_ | refine Le.prod ?_ | intro _ | exact Empty.elim (by assumption) | dsimp only)
theorem m_F_raddlelaw45_given  : Le (K_raddlelaw45_given) (F_raddlelaw45_given) := by
  unfold K_raddlelaw45_given F_raddlelaw45_given
  with_reducible repeat' (first | exact m_F_raddleref26_Parse _ | exact Le.rfl _ | refine Le.loop _ ?_ | refine Le.bind ?_ ?_ | refine Le.ite ?_ ?_ | refine Le.sum ?_ ?_ | refine Le.prod ?_ | intro _ | exact Empty.elim (by assumption) | dsimp only)
theorem m_F_chart_counted (p0 : api_Chart) : Le (K_chart_counted p0) (F_chart_counted p0) := by
  unfold K_chart_counted F_chart_counted
  with_reducible repeat' (first | exact Le.rfl _ | refine Le.loop _ ?_ | refine Le.bind ?_ ?_ | refine Le.ite ?_ ?_ | refine Le.sum ?_ ?_ | refine Le.prod ?_ | intro _ | exact Empty.elim (by assumption) | dsimp only)
theorem m_F_stitch_forms (p0 : Int) : Le (K_stitch_forms p0) (F_stitch_forms p0) := by
  unfold K_stitch_forms F_stitch_forms
  with_reducible repeat' (first | exact Le.rfl _ | refine Le.loop _ ?_ | refine Le.bind ?_ ?_ | refine Le.ite ?_ ?_ | refine Le.sum ?_ ?_ | refine Le.prod ?_ | intro _ | exact Empty.elim (by assumption) | dsimp only)
theorem m_F_stitch_within (p0 : Int) (p1 : (Int × Int)) : Le (K_stitch_within p0 p1) (F_stitch_within p0 p1) := by
  unfold K_stitch_within F_stitch_within
  with_reducible repeat' (first | exact Le.rfl _ | refine Le.loop _ ?_ | refine Le.bind ?_ ?_ | refine Le.ite ?_ ?_ | refine Le.sum ?_ ?_ | refine Le.prod ?_ | intro _ | exact Empty.elim (by assumption) | dsimp only)
theorem m_F_stitch_Check (p0 : api_Stitch) : Le (K_stitch_Check p0) (F_stitch_Check p0) := by
  unfold K_stitch_Check F_stitch_Check
  with_reducible repeat' (first | exact m_F_stitch_forms _ | exact m_F_stitch_within _ _ | exact Le.rfl _ | refine Le.loop _ ?_ | refine Le.bind ?_ ?_ | refine Le.ite ?_ ?_ | refine Le.sum ?_ ?_ | refine Le.prod ?_ | intro _ | exact Empty.elim (by assumption) | dsimp only)
theorem m_F_stitch_All_1 (p0 : api_Stitch) : Le (K_stitch_All_1 p0) (F_stitch_All_1 p0) := by
  unfold K_stitch_All_1 F_stitch_All_1
  with_reducible repeat' (first | exact m_F_stitch_Check _ | exact Le.rfl _ | refine Le.loop _ ?_ | refine Le.bind ?_ ?_ | refine Le.ite ?_ ?_ | refine Le.sum ?_ ?_ | refine Le.prod ?_ | intro _ | exact Empty.elim (by assumption) | dsimp only)
theorem m_slices_IndexFunc___api_Stitch_api_Stitch__s0_l1 (p0 : (List api_Stitch)) : ∀ s, Le (K_slices_IndexFunc___api_Stitch_api_Stitch__s0_l1 p0 s) (slices_IndexFunc___api_Stitch_api_Stitch__s0_l1 p0 s) := by
  unfold K_slices_IndexFunc___api_Stitch_api_Stitch__s0_l1 slices_IndexFunc___api_Stitch_api_Stitch__s0_l1
  with_reducible repeat' (first | exact m_F_stitch_All_1 _ | exact Le.rfl _ | refine Le.loop _ ?_ | refine Le.bind ?_ ?_ | refine Le.ite ?_ ?_ | refine Le.sum ?_ ?_ | refine Le.prod ?_ | intro _ | exact Empty.elim (by assumption) | dsimp only)
theorem m_F_slices_IndexFunc___api_Stitch_api_Stitch__s0 (p0 : (List api_Stitch)) : Le (K_slices_IndexFunc___api_Stitch_api_Stitch__s0 p0) (F_slices_IndexFunc___api_Stitch_api_Stitch__s0 p0) := by
  unfold K_slices_IndexFunc___api_Stitch_api_Stitch__s0 F_slices_IndexFunc___api_Stitch_api_Stitch__s0
  with_reducible repeat' (first | exact m_slices_IndexFunc___api_Stitch_api_Stitch__s0_l1 _ | exact Le.rfl _ | refine Le.loop _ ?_ | refine Le.bind ?_ ?_ | refine Le.ite ?_ ?_ | refine Le.sum ?_ ?_ | refine Le.prod ?_ | intro _ | exact Empty.elim (by assumption) | dsimp only)
theorem m_F_slices_ContainsFunc___api_Stitch_api_Stitch__s0 (p0 : (List api_Stitch)) : Le (K_slices_ContainsFunc___api_Stitch_api_Stitch__s0 p0) (F_slices_ContainsFunc___api_Stitch_api_Stitch__s0 p0) := by
  unfold K_slices_ContainsFunc___api_Stitch_api_Stitch__s0 F_slices_ContainsFunc___api_Stitch_api_Stitch__s0
  with_reducible repeat' (first | exact m_F_slices_IndexFunc___api_Stitch_api_Stitch__s0 _ | exact Le.rfl _ | refine Le.loop _ ?_ | refine Le.bind ?_ ?_ | refine Le.ite ?_ ?_ | refine Le.sum ?_ ?_ | refine Le.prod ?_ | intro _ | exact Empty.elim (by assumption) | dsimp only)
theorem m_F_stitch_loops (p0 : api_Stitch) (p1 : Int) : Le (K_stitch_loops p0 p1) (F_stitch_loops p0 p1) := by
  unfold K_stitch_loops F_stitch_loops
  with_reducible repeat' (first | exact Le.rfl _ | refine Le.loop _ ?_ | refine Le.bind ?_ ?_ | refine Le.ite ?_ ?_ | refine Le.sum ?_ ?_ | refine Le.prod ?_ | intro _ | exact Empty.elim (by assumption) | dsimp only)
theorem m_stitch_sum_l1 (p0 : (List api_Stitch)) : ∀ s, Le (K_stitch_sum_l1 p0 s) (stitch_sum_l1 p0 s) := by
  unfold K_stitch_sum_l1 stitch_sum_l1
  with_reducible repeat' (first | exact m_F_stitch_forms _ | exact m_F_stitch_loops _ _ | exact Le.rfl _ | refine Le.loop _ ?_ | refine Le.bind ?_ ?_ | refine Le.ite ?_ ?_ | refine Le.sum ?_ ?_ | refine Le.prod ?_ | intro _ | exact Empty.elim (by assumption) | dsimp only)
theorem m_F_stitch_sum (p0 : (List api_Stitch)) : Le (K_stitch_sum p0) (F_stitch_sum p0) := by
  unfold K_stitch_sum F_stitch_sum
  with_reducible repeat' (first | exact m_stitch_sum_l1 _ | exact Le.rfl _ | refine Le.loop _ ?_ | refine Le.bind ?_ ?_ | refine Le.ite ?_ ?_ | refine Le.sum ?_ ?_ | refine Le.prod ?_ | intro _ | exact Empty.elim (by assumption) | dsimp only)
theorem m_F_stitch_All (p0 : (List api_Stitch)) : Le (K_stitch_All p0) (F_stitch_All p0) := by
  unfold K_stitch_All F_stitch_All
  with_reducible repeat' (first | exact m_F_slices_ContainsFunc___api_Stitch_api_Stitch__s0 _ | exact m_F_stitch_sum _ | exact Le.rfl _ | refine Le.loop _ ?_ | refine Le.bind ?_ ?_ | refine Le.ite ?_ ?_ | refine Le.sum ?_ ?_ | refine Le.prod ?_ | intro _ | exact Empty.elim (by assumption) | dsimp only)
theorem m_F_stitch_Uses (p0 : (List api_Stitch)) : Le (K_stitch_Uses p0) (F_stitch_Uses p0) := by
  unfold K_stitch_Uses F_stitch_Uses
  with_reducible repeat' (first | exact m_F_stitch_All _ | exact m_F_stitch_sum _ | exact Le.rfl _ | refine Le.loop _ ?_ | refine Le.bind ?_ ?_ | refine Le.ite ?_ ?_ | refine Le.sum ?_ ?_ | refine Le.prod ?_ | intro _ | exact Empty.elim (by assumption) | dsimp only)
theorem m_F_stitch_Makes (p0 : (List api_Stitch)) : Le (K_stitch_Makes p0) (F_stitch_Makes p0) := by
  unfold K_stitch_Makes F_stitch_Makes
  with_reducible repeat' (first | exact m_F_stitch_All _ | exact m_F_stitch_sum _ | exact Le.rfl _ | refine Le.loop _ ?_ | refine Le.bind ?_ ?_ | refine Le.ite ?_ ?_ | refine Le.sum ?_ ?_ | refine Le.prod ?_ | intro _ | exact Empty.elim (by assumption) | dsimp only)
theorem m_chart_counted_1_l1 {σ τ : Type} (p0 : api_Chart) (B B' : σ → (Int × chart_count) → Option (σ ⊕ τ)) (hB : ∀ s x, Le (B s x) (B' s x)) : ∀ s, Le (K_chart_counted_1_l1 p0 B s) (chart_counted_1_l1 p0 B' s) := by
  unfold K_chart_counted_1_l1 chart_counted_1_l1
  with_reducible repeat' (first | exact hB _ _ | exact m_F_stitch_Uses _ | exact m_F_stitch_Makes _ | exact Le.rfl _ | refine Le.loop _ ?_ | refine Le.bind ?_ ?_ | refine Le.ite ?_ ?_ | refine Le.sum ?_ ?_ | refine Le.prod ?_ | intro _ | exact Empty.elim (by assumption) | dsimp only)
theorem m_I_chart_counted_1 (p0 : api_Chart) (σ τ : Type) (B B' : σ → (Int × chart_count) → Option (σ ⊕ τ)) (hB : ∀ s x, Le (B s x) (B' s x)) (gz0 : σ) : Le (K_I_chart_counted_1 p0 σ τ B gz0) (I_chart_counted_1 p0 σ τ B' gz0) := by
  unfold K_I_chart_counted_1 I_chart_counted_1
  with_reducible repeat' (first | exact hB _ _ | exact m_chart_counted_1_l1 _ _ _ hB | exact Le.rfl _ | refine Le.loop _ ?_ | refine Le.bind ?_ ?_ | refine Le.ite ?_ ?_ | refine Le.sum ?_ ?_ | refine Le.prod ?_ | intro _ | exact Empty.elim (by assumption) | dsimp only)
theorem m_chart_Check_l2  : ∀ s x, Le (K_chart_Check_l2 s x) (chart_Check_l2 s x) := by
  unfold K_chart_Check_l2 chart_Check_l2
  with_reducible repeat' (first | exact Le.rfl _ | refine Le.loop _ ?_ | refine Le.bind ?_ ?_ | refine Le.ite ?_ ?_ | refine Le.sum ?_ ?_ | refine Le.prod ?_ | intro _ | exact Empty.elim (by assumption) | dsimp only)
theorem m_F_chart_Check (p0 : api_Chart) : Le (K_chart_Check p0) (F_chart_Check p0) := by
  unfold K_chart_Check F_chart_Check
  with_reducible repeat' (first | exact m_F_chart_counted _ | refine m_I_chart_counted_1 _ _ _ _ _ ?_ _ | exact m_chart_Check_l2 | exact Le.rfl _ | refine Le.loop _ ?_ | refine Le.bind ?_ ?_ | refine Le.ite ?_ ?_ | refine Le.sum ?_ ?_ | refine Le.prod ?_ | intro _ | exact Empty.elim (by assumption) | dsimp only)
theorem m_cost_Count_l1 (x74 : api_Row) : ∀ s, Le (K_cost_Count_l1 x74 s) (cost_Count_l1 x74 s) := by
  unfold K_cost_Count_l1 cost_Count_l1
  with_reducible repeat' (first | exact Le.rfl _ | refine Le.loop _ ?_ | refine Le.bind ?_ ?_ | refine Le.ite ?_ ?_ | refine Le.sum ?_ ?_ | refine Le.prod ?_ | intro _ | exact Empty.elim (by assumption) | dsimp only)
theorem m_cost_Count_l2 (p0 : api_Chart) : ∀ s, Le (K_cost_Count_l2 p0 s) (cost_Count_l2 p0 s) := by
  unfold K_cost_Count_l2 cost_Count_l2
  with_reducible repeat' (first | exact m_cost_Count_l1 _ | exact Le.rfl _ | refine Le.loop _ ?_ | refine Le.bind ?_ ?_ | refine Le.ite ?_ ?_ | refine Le.sum ?_ ?_ | refine Le.prod ?_ | intro _ | exact Empty.elim (by assumption) | dsimp only)
theorem m_F_cost_Count (p0 : api_Chart) : Le (K_cost_Count p0) (F_cost_Count p0) := by
  unfold K_cost_Count F_cost_Count
  with_reducible repeat' (first | exact m_F_chart_Check _ | exact m_cost_Count_l2 _ | exact Le.rfl _ | refine Le.loop _ ?_ | refine Le.bind ?_ ?_ | refine Le.ite ?_ ?_ | refine Le.sum ?_ ?_ | refine Le.prod ?_ | intro _ | exact Empty.elim (by assumption) | dsimp only)
theorem m_F_raddlelaw45_rates  : Le (K_raddlelaw45_rates) (F_raddlelaw45_rates) := by
  unfold K_raddlelaw45_rates F_raddlelaw45_rates
  with_reducible repeat' (first | exact Le.rfl _ | refine Le.loop _ ?_ | refine Le.bind ?_ ?_ | refine Le.ite ?_ ?_ | refine Le.sum ?_ ?_ | refine Le.prod ?_ | intro _ | exact Empty.elim (by assumption) | dsimp only)
theorem m_F_cost_rate (p0 : Int) : Le (K_cost_rate p0) (F_cost_rate p0) := by
  unfold K_cost_rate F_cost_rate
  with_reducible repeat' (first | exact Le.rfl _ | refine Le.loop _ ?_ | refine Le.bind ?_ ?_ | refine Le.ite ?_ ?_ | refine Le.sum ?_ ?_ | refine Le.prod ?_ | intro _ | exact Empty.elim (by assumption) | dsimp only)
theorem m_cost_Check_l1 (p0 : api_Rates) : ∀ s, Le (K_cost_Check_l1 p0 s) (cost_Check_l1 p0 s) := by
  unfold K_cost_Check_l1 cost_Check_l1
  with_reducible repeat' (first | exact m_F_cost_rate _ | exact Le.rfl _ | refine Le.loop _ ?_ | refine Le.bind ?_ ?_ | refine Le.ite ?_ ?_ | refine Le.sum ?_ ?_ | refine Le.prod ?_ | intro _ | exact Empty.elim (by assumption) | dsimp only)
theorem m_F_cost_Check (p0 : api_Rates) : Le (K_cost_Check p0) (F_cost_Check p0) := by
  unfold K_cost_Check F_cost_Check
  with_reducible repeat' (first | exact m_cost_Check_l1 _ | exact m_F_cost_rate _ | exact Le.rfl _ | refine Le.loop _ ?_ | refine Le.bind ?_ ?_ | refine Le.ite ?_ ?_ | refine Le.sum ?_ ?_ | refine Le.prod ?_ | intro _ | exact Empty.elim (by assumption) | dsimp only)
theorem m_cost_Need_l1 (r10 : ((Int × Int × Int × Int × Int × Int × Int × Int × Int × Int × Int) × Int)) (p1 : api_Rates) : ∀ s, Le (K_cost_Need_l1 r10 p1 s) (cost_Need_l1 r10 p1 s) := by
  unfold K_cost_Need_l1 cost_Need_l1
  with_reducible repeat' (first | exact Le.rfl _ | refine Le.loop _ ?_ | refine Le.bind ?_ ?_ | refine Le.ite ?_ ?_ | refine Le.sum ?_ ?_ | refine Le.prod ?_ | intro _ | exact Empty.elim (by assumption) | dsimp only)
theorem m_cost_Need_l2 (x63 : api_Row) (p1 : api_Rates) : ∀ s, Le (K_cost_Need_l2 x63 p1 s) (cost_Need_l2 x63 p1 s) := by
  unfold K_cost_Need_l2 cost_Need_l2
  with_reducible repeat' (first | exact m_F_stitch_Makes _ | exact Le.rfl _ | refine Le.loop _ ?_ | refine Le.bind ?_ ?_ | refine Le.ite ?_ ?_ | refine Le.sum ?_ ?_ | refine Le.prod ?_ | intro _ | exact Empty.elim (by assumption) | dsimp only)
theorem m_cost_Need_l3 (p0 : api_Chart) (p1 : api_Rates) : ∀ s, Le (K_cost_Need_l3 p0 p1 s) (cost_Need_l3 p0 p1 s) := by
  unfold K_cost_Need_l3 cost_Need_l3
  with_reducible repeat' (first | exact m_cost_Need_l2 _ _ | exact Le.rfl _ | refine Le.loop _ ?_ | refine Le.bind ?_ ?_ | refine Le.ite ?_ ?_ | refine Le.sum ?_ ?_ | refine Le.prod ?_ | intro _ | exact Empty.elim (by assumption) | dsimp only)
theorem m_F_cost_Need (p0 : api_Chart) (p1 : api_Rates) : Le (K_cost_Need p0 p1) (F_cost_Need p0 p1) := by
  unfold K_cost_Need F_cost_Need
  with_reducible repeat' (first | exact m_F_cost_Count _ | exact m_F_cost_Check _ | exact m_cost_Need_l1 _ _ | exact m_cost_Need_l3 _ _ | exact Le.rfl _ | refine Le.loop _ ?_ | refine Le.bind ?_ ?_ | refine Le.ite ?_ ?_ | refine Le.sum ?_ ?_ | refine Le.prod ?_ | intro _ | exact Empty.elim (by assumption) | dsimp only)
theorem m_F_raddlelaw45_tex (p0 : Int) : Le (K_raddlelaw45_tex p0) (F_raddlelaw45_tex p0) := by
  unfold K_raddlelaw45_tex F_raddlelaw45_tex
  with_reducible repeat' (first | exact Le.rfl _ | refine Le.loop _ ?_ | refine Le.bind ?_ ?_ | refine Le.ite ?_ ?_ | refine Le.sum ?_ ?_ | refine Le.prod ?_ | intro _ | exact Empty.elim (by assumption) | dsimp only)
theorem m_F_yarn_factors (p0 : Int) : Le (K_yarn_factors p0) (F_yarn_factors p0) := by
  unfold K_yarn_factors F_yarn_factors
  with_reducible repeat' (first | exact Le.rfl _ | refine Le.loop _ ?_ | refine Le.bind ?_ ?_ | refine Le.ite ?_ ?_ | refine Le.sum ?_ ?_ | refine Le.prod ?_ | intro _ | exact Empty.elim (by assumption) | dsimp only)
theorem m_F_yarn_size (p0 : Int) : Le (K_yarn_size p0) (F_yarn_size p0) := by
  unfold K_yarn_size F_yarn_size
  with_reducible repeat' (first | exact Le.rfl _ | refine Le.loop _ ?_ | refine Le.bind ?_ ?_ | refine Le.ite ?_ ?_ | refine Le.sum ?_ ?_ | refine Le.prod ?_ | intro _ | exact Empty.elim (by assumption) | dsimp only)
theorem m_yarn_gcd_l1  : ∀ s, Le (K_yarn_gcd_l1 s) (yarn_gcd_l1 s) := by
  unfold K_yarn_gcd_l1 yarn_gcd_l1
  with_reducible repeat' (first | exact Le.rfl _ | refine Le.loop _ ?_ | refine Le.bind ?_ ?_ | refine Le.ite ?_ ?_ | refine Le.sum ?_ ?_ | refine Le.prod ?_ | intro _ | exact Empty.elim (by assumption) | dsimp only)
theorem m_F_yarn_gcd (p0 : Int) (p1 : Int) : Le (K_yarn_gcd p0 p1) (F_yarn_gcd p0 p1) := by
  unfold K_yarn_gcd F_yarn_gcd
  with_reducible repeat' (first | exact m_yarn_gcd_l1 | exact Le.rfl _ | refine Le.loop _ ?_ | refine Le.bind ?_ ?_ | refine Le.ite ?_ ?_ | refine Le.sum ?_ ?_ | refine Le.prod ?_ | intro _ | exact Empty.elim (by assumption) | dsimp only)
theorem m_F_yarn_Check (p0 : api_Ratio) : Le (K_yarn_Check p0) (F_yarn_Check p0) := by
  unfold K_yarn_Check F_yarn_Check
  with_reducible repeat' (first | exact m_F_yarn_size _ | exact m_F_yarn_gcd _ _ | exact Le.rfl _ | refine Le.loop _ ?_ | refine Le.bind ?_ ?_ | refine Le.ite ?_ ?_ | refine Le.sum ?_ ?_ | refine Le.prod ?_ | intro _ | exact Empty.elim (by assumption) | dsimp only)
theorem m_F_yarn_counted (p0 : api_Count) : Le (K_yarn_counted p0) (F_yarn_counted p0) := by
  unfold K_yarn_counted F_yarn_counted
  with_reducible repeat' (first | exact m_F_yarn_factors _ | exact m_F_yarn_Check _ | exact Le.rfl _ | refine Le.loop _ ?_ | refine Le.bind ?_ ?_ | refine Le.ite ?_ ?_ | refine Le.sum ?_ ?_ | refine Le.prod ?_ | intro _ | exact Empty.elim (by assumption) | dsimp only)
theorem m_F_yarn_Make (p0 : Int) (p1 : Int) : Le (K_yarn_Make p0 p1) (F_yarn_Make p0 p1) := by
  unfold K_yarn_Make F_yarn_Make
  with_reducible repeat' (first | exact m_F_yarn_size _ | exact m_F_yarn_gcd _ _ | exact Le.rfl _ | refine Le.loop _ ?_ | refine Le.bind ?_ ?_ | refine Le.ite ?_ ?_ | refine Le.sum ?_ ?_ | refine Le.prod ?_ | intro _ | exact Empty.elim (by assumption) | dsimp only)
theorem m_F_yarn_Convert (p0 : api_Count) (p1 : Int) : Le (K_yarn_Convert p0 p1) (F_yarn_Convert p0 p1) := by
  unfold K_yarn_Convert F_yarn_Convert
  with_reducible repeat' (first | exact m_F_yarn_counted _ | exact m_F_yarn_factors _ | exact m_F_yarn_gcd _ _ | exact m_F_yarn_Make _ _ | exact Le.rfl _ | refine Le.loop _ ?_ | refine Le.bind ?_ ?_ | refine Le.ite ?_ ?_ | refine Le.sum ?_ ?_ | refine Le.prod ?_ | intro _ | exact Empty.elim (by assumption) | dsimp only)
theorem m_F_yarn_Weigh (p0 : api_Count) (p1 : Int) : Le (K_yarn_Weigh p0 p1) (F_yarn_Weigh p0 p1) := by
  unfold K_yarn_Weigh F_yarn_Weigh
  with_reducible repeat' (first | exact m_F_yarn_counted _ | exact m_F_yarn_Convert _ _ | exact m_F_yarn_Make _ _ | exact Le.rfl _ | refine Le.loop _ ?_ | refine Le.bind ?_ ?_ | refine Le.ite ?_ ?_ | refine Le.sum ?_ ?_ | refine Le.prod ?_ | intro _ | exact Empty.elim (by assumption) | dsimp only)
theorem m_F_cost_Weight (p0 : api_Bill) (p1 : api_Count) : Le (K_cost_Weight p0 p1) (F_cost_Weight p0 p1) := by
  unfold K_cost_Weight F_cost_Weight
  with_reducible repeat' (first | exact m_F_yarn_Weigh _ _ | exact Le.rfl _ | refine Le.loop _ ?_ | refine Le.bind ?_ ?_ | refine Le.ite ?_ ?_ | refine Le.sum ?_ ?_ | refine Le.prod ?_ | intro _ | exact Empty.elim (by assumption) | dsimp only)
theorem m_F_yarn_floor (p0 : Int) (p1 : Int) : Le (K_yarn_floor p0 p1) (F_yarn_floor p0 p1) := by
  unfold K_yarn_floor F_yarn_floor
  with_reducible repeat' (first | exact Le.rfl _ | refine Le.loop _ ?_ | refine Le.bind ?_ ?_ | refine Le.ite ?_ ?_ | refine Le.sum ?_ ?_ | refine Le.prod ?_ | intro _ | exact Empty.elim (by assumption) | dsimp only)
theorem m_F_yarn_Skeins (p0 : api_Count) (p1 : Int) (p2 : Int) : Le (K_yarn_Skeins p0 p1 p2) (F_yarn_Skeins p0 p1 p2) := by
  unfold K_yarn_Skeins F_yarn_Skeins
  with_reducible repeat' (first | exact m_F_yarn_Weigh _ _ | exact m_F_yarn_floor _ _ | exact Le.rfl _ | refine Le.loop _ ?_ | refine Le.bind ?_ ?_ | refine Le.ite ?_ ?_ | refine Le.sum ?_ ?_ | refine Le.prod ?_ | intro _ | exact Empty.elim (by assumption) | dsimp only)
theorem m_F_cost_Price (p0 : api_Bill) (p1 : api_Count) (p2 : Int) (p3 : Int) : Le (K_cost_Price p0 p1 p2 p3) (F_cost_Price p0 p1 p2 p3) := by
  unfold K_cost_Price F_cost_Price
  with_reducible repeat' (first | exact m_F_yarn_Skeins _ _ _ | exact Le.rfl _ | refine Le.loop _ ?_ | refine Le.bind ?_ ?_ | refine Le.ite ?_ ?_ | refine Le.sum ?_ ?_ | refine Le.prod ?_ | intro _ | exact Empty.elim (by assumption) | dsimp only)
set_option maxRecDepth 1000000 in
theorem kc_raddlelaw45_alive_0 : F_raddlelaw45_given = some (api_Chart.mk 3 [(api_Row.mk false [(api_Stitch.mk 1 false 0 0), (api_Stitch.mk 2 false 0 0), (api_Stitch.mk 4 false 2 0)]), (api_Row.mk true [(api_Stitch.mk 1 true 0 0), (api_Stitch.mk 1 true 0 0), (api_Stitch.mk 1 true 0 0)])]) := m_F_raddlelaw45_given _ (by kernel_rfl)
set_option maxRecDepth 1000000 in
theorem kc_raddlelaw45_alive_1 : F_cost_Count ((api_Chart.mk 3 [(api_Row.mk false [(api_Stitch.mk 1 false 0 0), (api_Stitch.mk 2 false 0 0), (api_Stitch.mk 4 false 2 0)]), (api_Row.mk true [(api_Stitch.mk 1 true 0 0), (api_Stitch.mk 1 true 0 0), (api_Stitch.mk 1 true 0 0)])])) = some ((0, (4, (1, (0, (1, (0, (0, (0, (0, (0, 0)))))))))), 0) := m_F_cost_Count _ _ (by kernel_rfl)
set_option maxRecDepth 1000000 in
theorem kc_raddlelaw45_alive_2 : F_raddlelaw45_rates = some (api_Rates.mk (0, (100, (150, (0, (90, (0, (0, (0, (0, (0, 0)))))))))) (0, (1000, (500, (0, (1500, (0, (0, (0, (0, (0, 0)))))))))) 2000) := m_F_raddlelaw45_rates _ (by kernel_rfl)
set_option maxRecDepth 1000000 in
theorem kc_raddlelaw45_alive_3 : F_cost_Need ((api_Chart.mk 3 [(api_Row.mk false [(api_Stitch.mk 1 false 0 0), (api_Stitch.mk 2 false 0 0), (api_Stitch.mk 4 false 2 0)]), (api_Row.mk true [(api_Stitch.mk 1 true 0 0), (api_Stitch.mk 1 true 0 0), (api_Stitch.mk 1 true 0 0)])])) ((api_Rates.mk (0, (100, (150, (0, (90, (0, (0, (0, (0, (0, 0)))))))))) (0, (1000, (500, (0, (1500, (0, (0, (0, (0, (0, 0)))))))))) 2000)) = some ((api_Bill.mk 640 10000), 0) := m_F_cost_Need _ _ _ (by kernel_rfl)
set_option maxRecDepth 1000000 in
theorem kc_raddlelaw45_alive_4 : F_raddlelaw45_tex 50 = some (api_Count.mk 1 (api_Ratio.mk 50 1)) := m_F_raddlelaw45_tex _ _ (by kernel_rfl)
set_option maxRecDepth 1000000 in
theorem kc_raddlelaw45_alive_5 : F_cost_Weight (api_Bill.mk 1000000 0) ((api_Count.mk 1 (api_Ratio.mk 50 1))) = some ((api_Ratio.mk 5000 1), 0) := m_F_cost_Weight _ _ _ (by kernel_rfl)
set_option maxRecDepth 1000000 in
theorem kc_raddlelaw45_alive_6 : F_cost_Price (api_Bill.mk 1000000 0) ((api_Count.mk 1 (api_Ratio.mk 50 1))) 2000 350 = some (3, (1050, 0)) := m_F_cost_Price _ _ _ _ _ (by kernel_rfl)
end Go.Proofs.Ytdbgkakmhlmpbaa
namespace Go.Proofs.Ytdbgkakmhlmpbaa
open Go.RowKit
set_option linter.unusedVariables false

noncomputable def F_raddlelaw45_alive  : Option Bool :=
  Option.bind (F_raddlelaw45_given) fun r3 =>
  Option.bind (F_cost_Count r3) fun r10 =>
  Option.bind (F_raddlelaw45_rates) fun r20 =>
  Option.bind (F_cost_Need r3 r20) fun r23 =>
  Option.bind (F_raddlelaw45_tex 50) fun r28 =>
  Option.bind (F_cost_Weight (api_Bill.mk 1000000 0) r28) fun r31 =>
  Option.bind (F_cost_Price (api_Bill.mk 1000000 0) r28 2000 350) fun r37 =>
  if r10.2 == 0 then
    if ((r10.1.1 == 0) && ((r10.1.2.1 == 4) && ((r10.1.2.2.1 == 1) && ((r10.1.2.2.2.1 == 0) && ((r10.1.2.2.2.2.1 == 1) && ((r10.1.2.2.2.2.2.1 == 0) && ((r10.1.2.2.2.2.2.2.1 == 0) && ((r10.1.2.2.2.2.2.2.2.1 == 0) && ((r10.1.2.2.2.2.2.2.2.2.1 == 0) && ((r10.1.2.2.2.2.2.2.2.2.2.1 == 0) && ((r10.1.2.2.2.2.2.2.2.2.2.2 == 0) && true))))))))))) then
      if r23.2 == 0 then
        if ((r23.1.Length == 640) && ((r23.1.Time == 10000) && true)) then
          if r31.2 == 0 then
            if ((r31.1.Num == 5000) && ((r31.1.Den == 1) && true)) then
              if r37.2.2 == 0 then
                if r37.1 == 3 then
                  some (r37.2.1 == 1050)
                else
                  none
              else
                none
            else
              none
          else
            none
        else
          none
      else
        none
    else
      none
  else
    none
set_option maxHeartbeats 4000000 in
set_option maxRecDepth 100000 in
theorem c_raddlelaw45_alive (E : Nat → Prop) (w0 : World)  (r : Bool) (h : F_raddlelaw45_alive  = some r) (S : St0 E [] w0 w0 [] []) :
    Calls Try.prog 24 #[] w0 (Ret (X := Unit) E [] w0 (fun _ => .bool r) (fun _ => []) (fun _ => [])) := by
  unfold F_raddlelaw45_alive at h
  refine sEnter (args := []) 73 Try.func24 rfl rfl (by simp) S (fun a S => ?_)
  refine sSeq (fun K1 hK1 => ?_)
  refine sRegion ?_
  refine sMove (.bool false) S (wN rfl) (.inr rfl) rfl rfl (lb rfl) fun a S => ?_
  refine leafL (leafT (hK1 _ _ ?_))
  refine sSeq (fun K2 hK2 => ?_)
  refine sRegion ?_
  obtain ⟨r3, hx4, h⟩ := bindSome h
  have hv_r3 : r3 = (api_Chart.mk 3 [(api_Row.mk false [(api_Stitch.mk 1 false 0 0), (api_Stitch.mk 2 false 0 0), (api_Stitch.mk 4 false 2 0)]), (api_Row.mk true [(api_Stitch.mk 1 true 0 0), (api_Stitch.mk 1 true 0 0), (api_Stitch.mk 1 true 0 0)])]) := Option.some.inj (hx4.symm.trans (by exact kc_raddlelaw45_alive_0))
  refine sCall (X := Value) (f := 44) (vs := []) (val := c_raddlelaw45_given_val r3) (B' := fun _ => []) (D' := c_raddlelaw45_given_D r3) [] [] [] [] [] S (wN rfl) rfl callee44 rfl (by decide) rfl rfl (fun E1 w1 S1 => c_raddlelaw45_given E1 w1  r3 hx4 S1) rfl (lb rfl) fun u5 a w S => ?_
  obtain ⟨u6, rfl, hu7⟩ := S.mem.know (i := 0) (e := fRep r_api_Chart (u5) r3) rfl
  have S := S.learn (fRep (rL r_api_Row) u6 r3.Rows) hu7
  obtain ⟨ad8, cp9, _, rfl, _⟩ := hu7
  obtain ⟨r10, hx11, h⟩ := bindSome h
  have hv_r10 : r10 = ((0, (4, (1, (0, (1, (0, (0, (0, (0, (0, 0)))))))))), 0) := Option.some.inj (hx11.symm.trans (by rw [hv_r3]; exact kc_raddlelaw45_alive_1))
  refine sCall (X := Value) (f := 16) (vs := [.agg #[iv r3.Start, .slice ad8 r3.Rows.length cp9]]) (val := c_cost_Count_val r10) (B' := fun _ => []) (D' := c_cost_Count_D r10) [] [] [fRep r_api_Chart (.agg #[iv r3.Start, .slice ad8 r3.Rows.length cp9]) r3] [] [1] S (wN rfl) rfl callee16 rfl (by decide) rfl rfl (fun E1 w1 S1 => c_cost_Count E1 w1 r3 (.agg #[iv r3.Start, .slice ad8 r3.Rows.length cp9]) r10 hx11 S1) rfl (lb rfl) fun u12 a w S => ?_
  obtain rfl : u12 = gv_A11_Int r10.1 := S.mem.know (i := 0) (e := fRep r_A11_Int (u12) r10.1) rfl
  refine sMove (.tuple #[gv_A11_Int r10.1, iv r10.2]) S (wN rfl) (.inl rfl) rfl rfl (lb rfl) fun a S => ?_
  refine sExtract (vs := [gv_A11_Int r10.1, iv r10.2]) (gv_A11_Int r10.1) S (wN rfl) rfl rfl rfl rfl (lb rfl) fun a S => ?_
  refine sExtract (vs := [gv_A11_Int r10.1, iv r10.2]) (iv r10.2) S (wN rfl) rfl rfl rfl rfl (lb rfl) fun a S => ?_
  refine sAlloc (gv_A11_Int (0, 0, 0, 0, 0, 0, 0, 0, 0, 0, 0)) S (wN rfl) rfl rfl (gl_A11_Int (0, 0, 0, 0, 0, 0, 0, 0, 0, 0, 0)) rfl rfl (lb rfl) fun a b13 w S => ?_
  refine sStore (p := b13) (off := 0) (T := 42) (vs := [iv 0, iv 0, iv 0, iv 0, iv 0, iv 0, iv 0, iv 0, iv 0, iv 0, iv 0]) (v := gv_A11_Int r10.1) 0 [iv r10.1.1, iv r10.1.2.1, iv r10.1.2.2.1, iv r10.1.2.2.2.1, iv r10.1.2.2.2.2.1, iv r10.1.2.2.2.2.2.1, iv r10.1.2.2.2.2.2.2.1, iv r10.1.2.2.2.2.2.2.2.1, iv r10.1.2.2.2.2.2.2.2.2.1, iv r10.1.2.2.2.2.2.2.2.2.2.1, iv r10.1.2.2.2.2.2.2.2.2.2.2] S (wN rfl) rfl rfl rfl rfl rfl rfl rfl (by simp) rfl fun a w S => ?_
  refine sMove (iv r10.2) S (wN rfl) (.inr rfl) rfl rfl (lb rfl) fun a S => ?_
  refine leafL (leafT (hK2 _ _ ?_))
  refine sSeq (fun K14 hK14 => ?_)
  refine sRegion ?_
  refine sCall (X := Value) (f := 44) (vs := []) (val := c_raddlelaw45_given_val r3) (B' := fun _ => []) (D' := c_raddlelaw45_given_D r3) [] [eBox b13 42 (gl_A11_Int r10.1)] [] [0] [] S (wN rfl) rfl callee44 rfl (by decide) rfl rfl (fun E1 w1 S1 => c_raddlelaw45_given E1 w1  r3 hx4 S1) rfl (lb rfl) fun u15 a w S => ?_
  obtain ⟨u16, rfl, hu17⟩ := S.mem.know (i := 0) (e := fRep r_api_Chart (u15) r3) rfl
  have S := S.learn (fRep (rL r_api_Row) u16 r3.Rows) hu17
  obtain ⟨ad18, cp19, _, rfl, _⟩ := hu17
  obtain ⟨r20, hx21, h⟩ := bindSome h
  have hv_r20 : r20 = (api_Rates.mk (0, (100, (150, (0, (90, (0, (0, (0, (0, (0, 0)))))))))) (0, (1000, (500, (0, (1500, (0, (0, (0, (0, (0, 0)))))))))) 2000) := Option.some.inj (hx21.symm.trans (by exact kc_raddlelaw45_alive_2))
  refine sCall (X := Value) (f := 28) (vs := []) (val := c_raddlelaw45_rates_val r20) (B' := fun _ => []) (D' := c_raddlelaw45_rates_D r20) [] [eBox b13 42 (gl_A11_Int r10.1)] [] [0] [] S (wN rfl) rfl callee28 rfl (by decide) rfl rfl (fun E1 w1 S1 => c_raddlelaw45_rates E1 w1  r20 hx21 S1) rfl (lb rfl) fun u22 a w S => ?_
  obtain rfl : u22 = gv_api_Rates r20 := S.mem.know (i := 0) (e := fRep r_api_Rates (u22) r20) rfl
  obtain ⟨r23, hx24, h⟩ := bindSome h
  have hv_r23 : r23 = ((api_Bill.mk 640 10000), 0) := Option.some.inj (hx24.symm.trans (by rw [hv_r3, hv_r20]; exact kc_raddlelaw45_alive_3))
  refine sCall (X := Value) (f := 18) (vs := [.agg #[iv r3.Start, .slice ad18 r3.Rows.length cp19], gv_api_Rates r20]) (val := c_cost_Need_val r23) (B' := fun _ => []) (D' := c_cost_Need_D r23) [] [eBox b13 42 (gl_A11_Int r10.1)] [fRep r_api_Chart (.agg #[iv r3.Start, .slice ad18 r3.Rows.length cp19]) r3, fRep r_api_Rates (gv_api_Rates r20) r20] [0] [2, 0] S (wN rfl) rfl callee18 rfl (by decide) rfl rfl (fun E1 w1 S1 => c_cost_Need E1 w1 r3 (.agg #[iv r3.Start, .slice ad18 r3.Rows.length cp19]) r20 (gv_api_Rates r20) r23 hx24 S1) rfl (lb rfl) fun u25 a w S => ?_
  obtain rfl : u25 = .agg #[iv r23.1.Length, iv r23.1.Time] := S.mem.know (i := 0) (e := fRep r_api_Bill (u25) r23.1) rfl
  refine sMove (.tuple #[.agg #[iv r23.1.Length, iv r23.1.Time], iv r23.2]) S (wN rfl) (.inl rfl) rfl rfl (lb rfl) fun a S => ?_
  refine sExtract (vs := [.agg #[iv r23.1.Length, iv r23.1.Time], iv r23.2]) (.agg #[iv r23.1.Length, iv r23.1.Time]) S (wN rfl) rfl rfl rfl rfl (lb rfl) fun a S => ?_
  refine sExtract (vs := [.agg #[iv r23.1.Length, iv r23.1.Time], iv r23.2]) (iv r23.2) S (wN rfl) rfl rfl rfl rfl (lb rfl) fun a S => ?_
  refine sAlloc (.agg #[iv 0, iv 0]) S (wN rfl) rfl rfl [iv 0, iv 0] rfl rfl (lb rfl) fun a b26 w S => ?_
  refine sStore (p := b26) (off := 0) (T := 23) (vs := [iv 0, iv 0]) (v := .agg #[iv r23.1.Length, iv r23.1.Time]) 0 [iv r23.1.Length, iv r23.1.Time] S (wN rfl) rfl rfl rfl rfl rfl rfl rfl (by simp) rfl fun a w S => ?_
  refine sMove (iv r23.2) S (wN rfl) (.inr rfl) rfl rfl (lb rfl) fun a S => ?_
  refine leafL (leafT (hK14 _ _ ?_))
  refine sSeq (fun K27 hK27 => ?_)
  refine sRegion ?_
  refine sBuild [(0, iv 1000000)] [iv 1000000, iv 0] S (wN rfl) rfl rfl rfl rfl (lb rfl) fun a S => ?_
  obtain ⟨r28, hx29, h⟩ := bindSome h
  have hv_r28 : r28 = (api_Count.mk 1 (api_Ratio.mk 50 1)) := Option.some.inj (hx29.symm.trans (by exact kc_raddlelaw45_alive_4))
  refine sCall (X := Value) (f := 29) (vs := [iv 50]) (val := c_raddlelaw45_tex_val r28) (B' := fun _ => []) (D' := c_raddlelaw45_tex_D r28) [] [eBox b26 23 [iv r23.1.Length, iv r23.1.Time], eBox b13 42 (gl_A11_Int r10.1)] [] [0, 1] [] S (wN rfl) rfl callee29 rfl (by decide) rfl rfl (fun E1 w1 S1 => c_raddlelaw45_tex E1 w1 50 r28 hx29 S1) rfl (lb rfl) fun u30 a w S => ?_
  obtain rfl : u30 = .agg #[.int .u8 r28.System, iv r28.N.Num, iv r28.N.Den] := S.mem.know (i := 0) (e := fRep r_api_Count (u30) r28) rfl
  obtain ⟨r31, hx32, h⟩ := bindSome h
  have hv_r31 : r31 = ((api_Ratio.mk 5000 1), 0) := Option.some.inj (hx32.symm.trans (by rw [hv_r28]; exact kc_raddlelaw45_alive_5))
  have S := S.learn (fRep r_api_Bill (.agg #[iv 1000000, iv 0]) (api_Bill.mk 1000000 0)) rfl
  refine sCall (X := Value) (f := 10) (vs := [.agg #[iv 1000000, iv 0], .agg #[.int .u8 r28.System, iv r28.N.Num, iv r28.N.Den]]) (val := c_cost_Weight_val r31) (B' := fun _ => []) (D' := c_cost_Weight_D r31) [] [eBox b26 23 [iv r23.1.Length, iv r23.1.Time], eBox b13 42 (gl_A11_Int r10.1)] [fRep r_api_Bill (.agg #[iv 1000000, iv 0]) (api_Bill.mk 1000000 0), fRep r_api_Count (.agg #[.int .u8 r28.System, iv r28.N.Num, iv r28.N.Den]) r28] [0, 1] [0, 1] S (wN rfl) rfl callee10 rfl (by decide) rfl rfl (fun E1 w1 S1 => c_cost_Weight E1 w1 (api_Bill.mk 1000000 0) (.agg #[iv 1000000, iv 0]) r28 (.agg #[.int .u8 r28.System, iv r28.N.Num, iv r28.N.Den]) r31 hx32 S1) rfl (lb rfl) fun u33 a w S => ?_
  obtain rfl : u33 = .agg #[iv r31.1.Num, iv r31.1.Den] := S.mem.know (i := 0) (e := fRep r_api_Ratio (u33) r31.1) rfl
  refine sMove (.tuple #[.agg #[iv r31.1.Num, iv r31.1.Den], iv r31.2]) S (wN rfl) (.inl rfl) rfl rfl (lb rfl) fun a S => ?_
  refine sExtract (vs := [.agg #[iv r31.1.Num, iv r31.1.Den], iv r31.2]) (.agg #[iv r31.1.Num, iv r31.1.Den]) S (wN rfl) rfl rfl rfl rfl (lb rfl) fun a S => ?_
  refine sExtract (vs := [.agg #[iv r31.1.Num, iv r31.1.Den], iv r31.2]) (iv r31.2) S (wN rfl) rfl rfl rfl rfl (lb rfl) fun a S => ?_
  refine sAlloc (.agg #[iv 0, iv 0]) S (wN rfl) rfl rfl [iv 0, iv 0] rfl rfl (lb rfl) fun a b34 w S => ?_
  refine sStore (p := b34) (off := 0) (T := 25) (vs := [iv 0, iv 0]) (v := .agg #[iv r31.1.Num, iv r31.1.Den]) 0 [iv r31.1.Num, iv r31.1.Den] S (wN rfl) rfl rfl rfl rfl rfl rfl rfl (by simp) rfl fun a w S => ?_
  refine sMove (iv r31.2) S (wN rfl) (.inr rfl) rfl rfl (lb rfl) fun a S => ?_
  refine leafL (leafT (hK27 _ _ ?_))
  refine sSeq (fun K35 hK35 => ?_)
  refine sRegion ?_
  refine sBuild [(0, iv 1000000)] [iv 1000000, iv 0] S (wN rfl) rfl rfl rfl rfl (lb rfl) fun a S => ?_
  refine sCall (X := Value) (f := 29) (vs := [iv 50]) (val := c_raddlelaw45_tex_val r28) (B' := fun _ => []) (D' := c_raddlelaw45_tex_D r28) [] [eBox b34 25 [iv r31.1.Num, iv r31.1.Den], eBox b26 23 [iv r23.1.Length, iv r23.1.Time], eBox b13 42 (gl_A11_Int r10.1)] [] [0, 1, 2] [] S (wN rfl) rfl callee29 rfl (by decide) rfl rfl (fun E1 w1 S1 => c_raddlelaw45_tex E1 w1 50 r28 hx29 S1) rfl (lb rfl) fun u36 a w S => ?_
  obtain rfl : u36 = .agg #[.int .u8 r28.System, iv r28.N.Num, iv r28.N.Den] := S.mem.know (i := 0) (e := fRep r_api_Count (u36) r28) rfl
  obtain ⟨r37, hx38, h⟩ := bindSome h
  have hv_r37 : r37 = (3, (1050, 0)) := Option.some.inj (hx38.symm.trans (by rw [hv_r28]; exact kc_raddlelaw45_alive_6))
  have S1 := S.mem
  refine sCallQ (X := Unit) (f := 12) (vs := [.agg #[iv 1000000, iv 0], .agg #[.int .u8 r28.System, iv r28.N.Num, iv r28.N.Den], iv 2000, iv 350]) (val := fun _ => .tuple #[iv r37.1, iv r37.2.1, iv r37.2.2]) S (wN rfl) rfl callee12 rfl (S1.quiet [2, 0] rfl) (fun E1 w1 S1 => c_cost_Price E1 w1 (api_Bill.mk 1000000 0) (.agg #[iv 1000000, iv 0]) r28 (.agg #[.int .u8 r28.System, iv r28.N.Num, iv r28.N.Den]) 2000 350 r37 hx38 S1) rfl (lb rfl) fun _ a w S => ?_
  refine sMove (.tuple #[iv r37.1, iv r37.2.1, iv r37.2.2]) S (wN rfl) (.inl rfl) rfl rfl (lb rfl) fun a S => ?_
  refine sExtract (vs := [iv r37.1, iv r37.2.1, iv r37.2.2]) (iv r37.1) S (wN rfl) rfl rfl rfl rfl (lb rfl) fun a S => ?_
  refine sExtract (vs := [iv r37.1, iv r37.2.1, iv r37.2.2]) (iv r37.2.1) S (wN rfl) rfl rfl rfl rfl (lb rfl) fun a S => ?_
  refine sExtract (vs := [iv r37.1, iv r37.2.1, iv r37.2.2]) (iv r37.2.2) S (wN rfl) rfl rfl rfl rfl (lb rfl) fun a S => ?_
  refine sMove (iv r37.1) S (wN rfl) (.inr rfl) rfl rfl (lb rfl) fun a S => ?_
  refine sMove (iv r37.2.1) S (wN rfl) (.inr rfl) rfl rfl (lb rfl) fun a S => ?_
  refine sMove (iv r37.2.2) S (wN rfl) (.inr rfl) rfl rfl (lb rfl) fun a S => ?_
  refine leafL (leafT (hK35 _ _ ?_))
  refine sSeq (fun K39 hK39 => ?_)
  refine sRegion ?_
  refine sBuild [(1, iv 4), (2, iv 1), (4, iv 1)] (gl_A11_Int (0, 4, 1, 0, 1, 0, 0, 0, 0, 0, 0)) S (wN rfl) rfl rfl rfl rfl (lb rfl) fun a S => ?_
  refine sAlloc (gv_A11_Int (0, 0, 0, 0, 0, 0, 0, 0, 0, 0, 0)) S (wN rfl) rfl rfl (gl_A11_Int (0, 0, 0, 0, 0, 0, 0, 0, 0, 0, 0)) rfl rfl (lb rfl) fun a b40 w S => ?_
  refine sStore (p := b40) (off := 0) (T := 42) (vs := [iv 0, iv 0, iv 0, iv 0, iv 0, iv 0, iv 0, iv 0, iv 0, iv 0, iv 0]) (v := gv_A11_Int (0, 4, 1, 0, 1, 0, 0, 0, 0, 0, 0)) 0 [iv 0, iv 4, iv 1, iv 0, iv 1, iv 0, iv 0, iv 0, iv 0, iv 0, iv 0] S (wN rfl) rfl rfl rfl rfl rfl rfl rfl (by simp) rfl fun a w S => ?_
  refine leafL (leafT (hK39 _ _ ?_))
  refine sSeq (fun K41 hK41 => ?_)
  refine sRegion ?_
  refine sMove (iv r10.2) S (wN rfl) (.inl rfl) rfl rfl (lb rfl) fun a S => ?_
  refine sBin (.bool (r10.2 == 0)) S (wN rfl) rfl rfl rfl (bEq _ _ _ _ .i64 r10.2 0) rfl (lb rfl) fun a S => ?_
  refine sMove (.bool (r10.2 == 0)) S (wN rfl) (.inl rfl) rfl rfl (lb rfl) fun a S => ?_
  rcases iteSome h with ⟨hc42, h⟩ | ⟨hc42, h⟩
  rotate_left
  · exact absurd hc42 (by rw [hv_r10]; decide)
  refine sLoadN (p := b13) (off := 0) (T := 42) (vs := (gl_A11_Int r10.1)) 3 (gl_A11_Int r10.1) S (wG 2 true 38 rfl rfl rfl hc42) rfl rfl rfl rfl rfl rfl rfl (lb rfl) fun a S => ?_
  refine sLoadN (p := b40) (off := 0) (T := 42) (vs := (gl_A11_Int (0, 4, 1, 0, 1, 0, 0, 0, 0, 0, 0))) 0 (gl_A11_Int (0, 4, 1, 0, 1, 0, 0, 0, 0, 0, 0)) S (wG 2 true 38 rfl rfl rfl hc42) rfl rfl rfl rfl rfl rfl rfl (lb rfl) fun a S => ?_
  refine sBin (.bool ((r10.1.1 == 0) && ((r10.1.2.1 == 4) && ((r10.1.2.2.1 == 1) && ((r10.1.2.2.2.1 == 0) && ((r10.1.2.2.2.2.1 == 1) && ((r10.1.2.2.2.2.2.1 == 0) && ((r10.1.2.2.2.2.2.2.1 == 0) && ((r10.1.2.2.2.2.2.2.2.1 == 0) && ((r10.1.2.2.2.2.2.2.2.2.1 == 0) && ((r10.1.2.2.2.2.2.2.2.2.2.1 == 0) && ((r10.1.2.2.2.2.2.2.2.2.2.2 == 0) && true)))))))))))) S (wG 2 true 38 rfl rfl rfl hc42) rfl rfl rfl (bEqV _ _ _ _ #[iv r10.1.1, iv r10.1.2.1, iv r10.1.2.2.1, iv r10.1.2.2.2.1, iv r10.1.2.2.2.2.1, iv r10.1.2.2.2.2.2.1, iv r10.1.2.2.2.2.2.2.1, iv r10.1.2.2.2.2.2.2.2.1, iv r10.1.2.2.2.2.2.2.2.2.1, iv r10.1.2.2.2.2.2.2.2.2.2.1, iv r10.1.2.2.2.2.2.2.2.2.2.2] #[iv 0, iv 4, iv 1, iv 0, iv 1, iv 0, iv 0, iv 0, iv 0, iv 0, iv 0] ((r10.1.1 == 0) && ((r10.1.2.1 == 4) && ((r10.1.2.2.1 == 1) && ((r10.1.2.2.2.1 == 0) && ((r10.1.2.2.2.2.1 == 1) && ((r10.1.2.2.2.2.2.1 == 0) && ((r10.1.2.2.2.2.2.2.1 == 0) && ((r10.1.2.2.2.2.2.2.2.1 == 0) && ((r10.1.2.2.2.2.2.2.2.2.1 == 0) && ((r10.1.2.2.2.2.2.2.2.2.2.1 == 0) && ((r10.1.2.2.2.2.2.2.2.2.2.2 == 0) && true))))))))))) (by kernel_rfl) (eqlV_of (by kernel_rfl))) rfl (lb rfl) fun a S => ?_
  refine sPickT (.bool ((r10.1.1 == 0) && ((r10.1.2.1 == 4) && ((r10.1.2.2.1 == 1) && ((r10.1.2.2.2.1 == 0) && ((r10.1.2.2.2.2.1 == 1) && ((r10.1.2.2.2.2.2.1 == 0) && ((r10.1.2.2.2.2.2.2.1 == 0) && ((r10.1.2.2.2.2.2.2.2.1 == 0) && ((r10.1.2.2.2.2.2.2.2.2.1 == 0) && ((r10.1.2.2.2.2.2.2.2.2.2.1 == 0) && ((r10.1.2.2.2.2.2.2.2.2.2.2 == 0) && true)))))))))))) S (wN rfl) rfl rfl hc42 rfl rfl (lb rfl) fun a S => ?_
  refine sMove (.bool ((r10.1.1 == 0) && ((r10.1.2.1 == 4) && ((r10.1.2.2.1 == 1) && ((r10.1.2.2.2.1 == 0) && ((r10.1.2.2.2.2.1 == 1) && ((r10.1.2.2.2.2.2.1 == 0) && ((r10.1.2.2.2.2.2.2.1 == 0) && ((r10.1.2.2.2.2.2.2.2.1 == 0) && ((r10.1.2.2.2.2.2.2.2.2.1 == 0) && ((r10.1.2.2.2.2.2.2.2.2.2.1 == 0) && ((r10.1.2.2.2.2.2.2.2.2.2.2 == 0) && true)))))))))))) S (wN rfl) (.inl rfl) rfl rfl (lb rfl) fun a S => ?_
  rcases iteSome h with ⟨hc43, h⟩ | ⟨hc43, h⟩
  rotate_left
  · exact absurd hc43 (by rw [hv_r10]; decide)
  refine sMove (iv r23.2) S (wG 7 true 43 rfl rfl rfl hc43) (.inl rfl) rfl rfl (lb rfl) fun a S => ?_
  refine sBin (.bool (r23.2 == 0)) S (wG 7 true 43 rfl rfl rfl hc43) rfl rfl rfl (bEq _ _ _ _ .i64 r23.2 0) rfl (lb rfl) fun a S => ?_
  refine sPickT (.bool (r23.2 == 0)) S (wN rfl) rfl rfl hc43 rfl rfl (lb rfl) fun a S => ?_
  refine sMove (.bool (r23.2 == 0)) S (wN rfl) (.inl rfl) rfl rfl (lb rfl) fun a S => ?_
  rcases iteSome h with ⟨hc44, h⟩ | ⟨hc44, h⟩
  rotate_left
  · exact absurd hc44 (by rw [hv_r23]; decide)
  refine sLoadN (p := b26) (off := 0) (T := 23) (vs := [iv r23.1.Length, iv r23.1.Time]) 2 [iv r23.1.Length, iv r23.1.Time] S (wG 11 true 47 rfl rfl rfl hc44) rfl rfl rfl rfl rfl rfl rfl (lb rfl) fun a S => ?_
  refine sBuild [(0, iv 640), (1, iv 10000)] [iv 640, iv 10000] S (wG 11 true 47 rfl rfl rfl hc44) rfl rfl rfl rfl (lb rfl) fun a S => ?_
  refine sBin (.bool ((r23.1.Length == 640) && ((r23.1.Time == 10000) && true))) S (wG 11 true 47 rfl rfl rfl hc44) rfl rfl rfl (bEqV _ _ _ _ #[iv r23.1.Length, iv r23.1.Time] #[iv 640, iv 10000] ((r23.1.Length == 640) && ((r23.1.Time == 10000) && true)) (by kernel_rfl) (eqlV_of (by kernel_rfl))) rfl (lb rfl) fun a S => ?_
  refine sPickT (.bool ((r23.1.Length == 640) && ((r23.1.Time == 10000) && true))) S (wN rfl) rfl rfl hc44 rfl rfl (lb rfl) fun a S => ?_
  refine sMove (.bool ((r23.1.Length == 640) && ((r23.1.Time == 10000) && true))) S (wN rfl) (.inl rfl) rfl rfl (lb rfl) fun a S => ?_
  rcases iteSome h with ⟨hc45, h⟩ | ⟨hc45, h⟩
  rotate_left
  · exact absurd hc45 (by rw [hv_r23]; decide)
  refine sMove (iv r31.2) S (wG 16 true 52 rfl rfl rfl hc45) (.inl rfl) rfl rfl (lb rfl) fun a S => ?_
  refine sBin (.bool (r31.2 == 0)) S (wG 16 true 52 rfl rfl rfl hc45) rfl rfl rfl (bEq _ _ _ _ .i64 r31.2 0) rfl (lb rfl) fun a S => ?_
  refine sPickT (.bool (r31.2 == 0)) S (wN rfl) rfl rfl hc45 rfl rfl (lb rfl) fun a S => ?_
  refine sMove (.bool (r31.2 == 0)) S (wN rfl) (.inl rfl) rfl rfl (lb rfl) fun a S => ?_
  rcases iteSome h with ⟨hc46, h⟩ | ⟨hc46, h⟩
  rotate_left
  · exact absurd hc46 (by rw [hv_r31]; decide)
  refine sLoadN (p := b34) (off := 0) (T := 25) (vs := [iv r31.1.Num, iv r31.1.Den]) 1 [iv r31.1.Num, iv r31.1.Den] S (wG 20 true 56 rfl rfl rfl hc46) rfl rfl rfl rfl rfl rfl rfl (lb rfl) fun a S => ?_
  refine sBuild [(0, iv 5000), (1, iv 1)] [iv 5000, iv 1] S (wG 20 true 56 rfl rfl rfl hc46) rfl rfl rfl rfl (lb rfl) fun a S => ?_
  refine sBin (.bool ((r31.1.Num == 5000) && ((r31.1.Den == 1) && true))) S (wG 20 true 56 rfl rfl rfl hc46) rfl rfl rfl (bEqV _ _ _ _ #[iv r31.1.Num, iv r31.1.Den] #[iv 5000, iv 1] ((r31.1.Num == 5000) && ((r31.1.Den == 1) && true)) (by kernel_rfl) (eqlV_of (by kernel_rfl))) rfl (lb rfl) fun a S => ?_
  refine sPickT (.bool ((r31.1.Num == 5000) && ((r31.1.Den == 1) && true))) S (wN rfl) rfl rfl hc46 rfl rfl (lb rfl) fun a S => ?_
  refine sMove (.bool ((r31.1.Num == 5000) && ((r31.1.Den == 1) && true))) S (wN rfl) (.inl rfl) rfl rfl (lb rfl) fun a S => ?_
  rcases iteSome h with ⟨hc47, h⟩ | ⟨hc47, h⟩
  rotate_left
  · exact absurd hc47 (by rw [hv_r31]; decide)
  refine sMove (iv r37.2.2) S (wG 25 true 61 rfl rfl rfl hc47) (.inl rfl) rfl rfl (lb rfl) fun a S => ?_
  refine sBin (.bool (r37.2.2 == 0)) S (wG 25 true 61 rfl rfl rfl hc47) rfl rfl rfl (bEq _ _ _ _ .i64 r37.2.2 0) rfl (lb rfl) fun a S => ?_
  refine sPickT (.bool (r37.2.2 == 0)) S (wN rfl) rfl rfl hc47 rfl rfl (lb rfl) fun a S => ?_
  refine sMove (.bool (r37.2.2 == 0)) S (wN rfl) (.inl rfl) rfl rfl (lb rfl) fun a S => ?_
  rcases iteSome h with ⟨hc48, h⟩ | ⟨hc48, h⟩
  rotate_left
  · exact absurd hc48 (by rw [hv_r37]; decide)
  refine sMove (iv r37.1) S (wG 29 true 65 rfl rfl rfl hc48) (.inl rfl) rfl rfl (lb rfl) fun a S => ?_
  refine sBin (.bool (r37.1 == 3)) S (wG 29 true 65 rfl rfl rfl hc48) rfl rfl rfl (bEq _ _ _ _ .i64 r37.1 3) rfl (lb rfl) fun a S => ?_
  refine sPickT (.bool (r37.1 == 3)) S (wN rfl) rfl rfl hc48 rfl rfl (lb rfl) fun a S => ?_
  refine sMove (.bool (r37.1 == 3)) S (wN rfl) (.inl rfl) rfl rfl (lb rfl) fun a S => ?_
  rcases iteSome h with ⟨hc49, h⟩ | ⟨hc49, h⟩
  rotate_left
  · exact absurd hc49 (by rw [hv_r37]; decide)
  refine sMove (iv r37.2.1) S (wG 33 true 69 rfl rfl rfl hc49) (.inl rfl) rfl rfl (lb rfl) fun a S => ?_
  refine sBin (.bool (r37.2.1 == 1050)) S (wG 33 true 69 rfl rfl rfl hc49) rfl rfl rfl (bEq _ _ _ _ .i64 r37.2.1 1050) rfl (lb rfl) fun a S => ?_
  refine sPickT (.bool (r37.2.1 == 1050)) S (wN rfl) rfl rfl hc49 rfl rfl (lb rfl) fun a S => ?_
  refine sMove (.bool (r37.2.1 == 1050)) S (wN rfl) (.inr rfl) rfl rfl (lb rfl) fun a S => ?_
  refine leafL (leafT (hK41 _ _ ?_))
  obtain rfl := Option.some.inj h
  exact wp_ret (sRet (.bool (r37.2.1 == 1050)) S (rsl1 rfl (rvT (t := 0) (v := .bool (r37.2.1 == 1050)) S rfl)) ⟨(), rfl, S.mem.sel [] [] (by decide) rfl rfl⟩)

end Go.Proofs.Ytdbgkakmhlmpbaa
namespace Go.Proofs.Ytdbgkakmhlmpbaa
open Go.RowKit
set_option linter.unusedVariables false

def K_raddlelaw45_alive  : Option Bool :=
  Option.bind (K_raddlelaw45_given) fun r3 =>
  Option.bind (K_cost_Count r3) fun r10 =>
  Option.bind (K_raddlelaw45_rates) fun r20 =>
  Option.bind (K_cost_Need r3 r20) fun r23 =>
  Option.bind (K_raddlelaw45_tex 50) fun r28 =>
  Option.bind (K_cost_Weight (api_Bill.mk 1000000 0) r28) fun r31 =>
  Option.bind (K_cost_Price (api_Bill.mk 1000000 0) r28 2000 350) fun r37 =>
  if r10.2 == 0 then
    if ((r10.1.1 == 0) && ((r10.1.2.1 == 4) && ((r10.1.2.2.1 == 1) && ((r10.1.2.2.2.1 == 0) && ((r10.1.2.2.2.2.1 == 1) && ((r10.1.2.2.2.2.2.1 == 0) && ((r10.1.2.2.2.2.2.2.1 == 0) && ((r10.1.2.2.2.2.2.2.2.1 == 0) && ((r10.1.2.2.2.2.2.2.2.2.1 == 0) && ((r10.1.2.2.2.2.2.2.2.2.2.1 == 0) && ((r10.1.2.2.2.2.2.2.2.2.2.2 == 0) && true))))))))))) then
      if r23.2 == 0 then
        if ((r23.1.Length == 640) && ((r23.1.Time == 10000) && true)) then
          if r31.2 == 0 then
            if ((r31.1.Num == 5000) && ((r31.1.Den == 1) && true)) then
              if r37.2.2 == 0 then
                if r37.1 == 3 then
                  some (r37.2.1 == 1050)
                else
                  none
              else
                none
            else
              none
          else
            none
        else
          none
      else
        none
    else
      none
  else
    none
theorem m_F_raddlelaw45_alive  : Le (K_raddlelaw45_alive) (F_raddlelaw45_alive) := by
  unfold K_raddlelaw45_alive F_raddlelaw45_alive
  with_reducible repeat' (first | exact m_F_raddlelaw45_given | exact m_F_cost_Count _ | exact m_F_raddlelaw45_rates | exact m_F_cost_Need _ _ | exact m_F_raddlelaw45_tex _ | exact m_F_cost_Weight _ _ | exact m_F_cost_Price _ _ _ _ | exact Le.rfl _ | refine Le.loop _ ?_ | refine Le.bind ?_ ?_ | refine Le.ite ?_ ?_ | refine Le.sum ?_ ?_ | refine Le.prod ?_ | intro _ | exact Empty.elim (by assumption) | dsimp only)
set_option maxRecDepth 1000000 in
theorem k_raddlelaw45_alive : F_raddlelaw45_alive = some true := m_F_raddlelaw45_alive _ (by kernel_rfl)
end Go.Proofs.Ytdbgkakmhlmpbaa
namespace Go.Proofs.Ytdbgkakmhlmpbaa
open Go.RowKit
set_option linter.unusedVariables false

theorem w64_of {x : Int} (h0 : -9223372036854775808 ≤ x) (h1 : x ≤ 9223372036854775807) : w64 x = x := w64_id ⟨h0, h1⟩
theorem w64_succ {k : Nat} (h : k < 9223372036854775807) : w64 ((k : Int) + 1) = ((k + 1 : Nat) : Int) := by
  rw [w64_of (by omega) (by omega)]; omega
theorem idxO_nat {α : Type} {xs : List α} {k : Nat} (h : k < xs.length) : idxO xs (k : Int) = some xs[k] := by
  simp [idxO, h]
theorem idxO_of {α : Type} {xs : List α} {i : Int} {k : Nat} (hi : i = (k : Int)) (h : k < xs.length) : idxO xs i = some xs[k] := by subst hi; exact idxO_nat h
theorem setO_nat {α : Type} {xs : List α} {k : Nat} {y : α} (h : k < xs.length) : setO xs (k : Int) y = some (xs.set k y) := by
  simp [setO, h]
theorem appO_of {α : Type} {xs ys : List α} (h : xs.length + ys.length ≤ 68719476736) : appO xs ys = some (xs ++ ys) := by
  simp [appO, lim, h]
theorem capO_of {n : Int} {k : Nat} (h : n = (k : Int)) (hk : k ≤ 68719476736) : capO n = some () := by
  subst h; simp [capO, lim, hk]
theorem makeO_of {α : Type} {n : Int} {z : α} {k : Nat} (h : n = (k : Int)) (hk : k ≤ 68719476736) : makeO n z = some (List.replicate k z) := by
  subst h; simp [makeO, lim, hk]
theorem sliceO_of {α : Type} {xs : List α} {lo hi : Int} {l k : Nat} (h1 : lo = l) (h2 : hi = k) (h3 : l ≤ k) (h4 : k ≤ xs.length) : sliceO xs lo hi = some ((xs.take k).drop l) := by
  subst h1 h2; simp [sliceO, h3, h4]
/-- a loop over an index, with a state beside it -/
theorem loop_st {σ τ : Type} {B : σ × Int → Option ((σ × Int) ⊕ τ)} (n : Nat) (I : Nat → σ → Prop) (Pt : τ → Prop) {s0 : σ} (h0 : I 0 s0)
    (step : ∀ k s, k < n → I k s → (∃ s', B (s, (k : Int)) = some (.inl (s', ((k + 1 : Nat) : Int))) ∧ I (k + 1) s') ∨ (∃ t, B (s, (k : Int)) = some (.inr t) ∧ Pt t))
    (last : ∀ s, I n s → ∃ t, B (s, (n : Int)) = some (.inr t) ∧ Pt t) : ∃ t, whileO B (s0, 0) = some t ∧ Pt t := by
  refine whileO_inv (fun s => ∃ k : Nat, k ≤ n ∧ s.2 = (k : Int) ∧ I k s.1) (fun s => ((n : Int) - s.2).toNat) Pt ⟨0, Nat.zero_le _, rfl, h0⟩ ?_
  rintro ⟨s, i⟩ ⟨k, hk, rfl, hI⟩
  by_cases hlt : k < n
  · rcases step k s hlt hI with ⟨s', h1, h2⟩ | h
    · exact .inl ⟨_, h1, ⟨k + 1, hlt, rfl, h2⟩, by simp; omega⟩
    · exact .inr h
  · obtain rfl : k = n := by omega
    exact .inr (last s hI)
/-- a loop over an index alone -/
theorem loop_ix {τ : Type} {B : Int → Option (Int ⊕ τ)} (n : Nat) (I : Nat → Prop) (Pt : τ → Prop) (h0 : I 0)
    (step : ∀ k, k < n → I k → (B (k : Int) = some (.inl ((k + 1 : Nat) : Int)) ∧ I (k + 1)) ∨ (∃ t, B (k : Int) = some (.inr t) ∧ Pt t))
    (last : I n → ∃ t, B (n : Int) = some (.inr t) ∧ Pt t) : ∃ t, whileO B 0 = some t ∧ Pt t := by
  refine whileO_inv (fun s => ∃ k : Nat, k ≤ n ∧ s = (k : Int) ∧ I k) (fun s => ((n : Int) - s).toNat) Pt ⟨0, Nat.zero_le _, rfl, h0⟩ ?_
  rintro i ⟨k, hk, rfl, hI⟩
  by_cases hlt : k < n
  · rcases step k hlt hI with ⟨h1, h2⟩ | h
    · exact .inl ⟨_, h1, ⟨k + 1, hlt, rfl, h2⟩, by simp; omega⟩
    · exact .inr h
  · obtain rfl : k = n := by omega
    exact .inr (last hI)

end Go.Proofs.Ytdbgkakmhlmpbaa
namespace Go.Proofs.Ytdbgkakmhlmpbaa
open Go.RowKit
set_option linter.unusedVariables false

theorem loop_fr {σ τ : Type} {B : σ × Int → Option ((σ × Int) ⊕ τ)} (a n : Nat) (ha : a ≤ n) (I : Nat → σ → Prop) (Pt : τ → Prop) {s0 : σ} (h0 : I a s0)
    (step : ∀ k s, a ≤ k → k < n → I k s → (∃ s', B (s, (k : Int)) = some (.inl (s', ((k + 1 : Nat) : Int))) ∧ I (k + 1) s') ∨ (∃ t, B (s, (k : Int)) = some (.inr t) ∧ Pt t))
    (last : ∀ s, I n s → ∃ t, B (s, (n : Int)) = some (.inr t) ∧ Pt t) : ∃ t, whileO B (s0, (a : Int)) = some t ∧ Pt t := by
  refine whileO_inv (fun s => ∃ k : Nat, a ≤ k ∧ k ≤ n ∧ s.2 = (k : Int) ∧ I k s.1) (fun s => ((n : Int) - s.2).toNat) Pt ⟨a, Nat.le_refl _, ha, rfl, h0⟩ ?_
  rintro ⟨s, i⟩ ⟨k, hak, hk, rfl, hI⟩
  by_cases hlt : k < n
  · rcases step k s hak hlt hI with ⟨s', h1, h2⟩ | h
    · exact .inl ⟨_, h1, ⟨k + 1, by omega, hlt, rfl, h2⟩, by simp; omega⟩
    · exact .inr h
  · obtain rfl : k = n := by omega
    exact .inr (last s hI)
/-- a loop that leaves at the first index where f answers -/
theorem loop_find {τ : Type} {B : Int → Option (Int ⊕ τ)} (n : Nat) (f : Nat → Option τ) (good : τ)
    (h : ∀ k, k < n → B (k : Int) = some (match f k with | none => .inl ((k + 1 : Nat) : Int) | some t => .inr t)) (hn : B (n : Int) = some (.inr good)) :
    whileO B 0 = some (((List.range n).findSome? f).getD good) := by
  have key : ∃ t, whileO B 0 = some t ∧ t = ((List.range n).findSome? f).getD good := by
    refine loop_ix n (fun k => (List.range k).findSome? f = none) _ rfl ?_ ?_
    · intro k hk hI
      cases hf : f k with
      | none =>
        refine .inl ⟨by rw [h k hk, hf], ?_⟩
        rw [List.range_succ, List.findSome?_append, hI]
        simp [hf]
      | some t =>
        refine .inr ⟨t, by rw [h k hk, hf], ?_⟩
        have e : List.range n = List.range (k + 1) ++ (List.range (n - (k + 1))).map (k + 1 + ·) := by
          rw [← List.range_add]; congr 1; omega
        rw [e, List.findSome?_append, List.range_succ, List.findSome?_append, hI]
        simp [hf]
    · intro hI
      exact ⟨good, hn, by rw [hI]; rfl⟩
  obtain ⟨t, h1, rfl⟩ := key
  exact h1
/-- a loop that tests all, and says bad at the first that fails -/
theorem loop_all {τ : Type} {B : Int → Option (Int ⊕ τ)} (n : Nat) (p : Nat → Bool) (good bad : τ)
    (h : ∀ k, k < n → B (k : Int) = some (if p k = true then .inl ((k + 1 : Nat) : Int) else .inr bad)) (hn : B (n : Int) = some (.inr good)) :
    whileO B 0 = some (if (List.range n).all p = true then good else bad) := by
  have key : ∃ t, whileO B 0 = some t ∧ t = if (List.range n).all p = true then good else bad := by
    refine loop_ix n (fun k => ∀ j, j < k → p j = true) _ (fun j h => absurd h (Nat.not_lt_zero j)) ?_ ?_
    · intro k hk hI
      cases hf : p k with
      | true =>
        refine .inl ⟨by rw [h k hk, if_pos hf], fun j hj => ?_⟩
        by_cases e : j = k
        · rw [e]; exact hf
        · exact hI j (by omega)
      | false =>
        refine .inr ⟨bad, by rw [h k hk, hf]; simp, ?_⟩
        rw [if_neg]
        intro hc
        rw [List.all_eq_true] at hc
        have := hc k (List.mem_range.2 hk)
        rw [hf] at this; cases this
    · intro hI
      refine ⟨good, hn, ?_⟩
      rw [if_pos]
      rw [List.all_eq_true]
      exact fun j hj => hI j (List.mem_range.1 hj)
  obtain ⟨t, h1, rfl⟩ := key
  exact h1
/-- a loop that folds -/
theorem loop_fold {σ τ : Type} {B : σ × Int → Option ((σ × Int) ⊕ τ)} (n : Nat) (f : σ → Nat → σ) (s0 : σ) {t : τ}
    (h : ∀ k s, k < n → s = (List.range k).foldl f s0 → B (s, (k : Int)) = some (.inl (f s k, ((k + 1 : Nat) : Int))))
    (hn : B ((List.range n).foldl f s0, (n : Int)) = some (.inr t)) : whileO B (s0, 0) = some t := by
  have key : ∃ u, whileO B (s0, 0) = some u ∧ u = t := by
    refine loop_st n (fun k s => s = (List.range k).foldl f s0) _ rfl ?_ ?_
    · rintro k s hk hI
      refine .inl ⟨_, h k s hk hI, ?_⟩
      rw [List.range_succ, List.foldl_append, ← hI]; rfl
    · rintro s rfl
      exact ⟨t, hn, rfl⟩
  obtain ⟨u, h1, rfl⟩ := key
  exact h1
/-- a loop that gathers -/
theorem loop_map {α τ : Type} {B : List α × Int → Option ((List α × Int) ⊕ τ)} (n : Nat) (f : Nat → α) {t : τ}
    (h : ∀ k s, k < n → s = (List.range k).map f → B (s, (k : Int)) = some (.inl (s ++ [f k], ((k + 1 : Nat) : Int))))
    (hn : B ((List.range n).map f, (n : Int)) = some (.inr t)) : whileO B ([], 0) = some t := by
  have key : ∃ u, whileO B ([], 0) = some u ∧ u = t := by
    refine loop_st n (fun k s => s = (List.range k).map f) _ rfl ?_ ?_
    · rintro k s hk hI
      refine .inl ⟨_, h k s hk hI, ?_⟩
      rw [List.range_succ, List.map_append, ← hI]; rfl
    · rintro s rfl
      exact ⟨t, hn, rfl⟩
  obtain ⟨u, h1, rfl⟩ := key
  exact h1
theorem all_cong {n : Nat} {p q : Nat → Bool} (h : ∀ k, k < n → p k = q k) : (List.range n).all p = (List.range n).all q := by
  have : ∀ m, m ≤ n → (List.range m).all p = (List.range m).all q := by
    intro m
    induction m with
    | zero => intro _; rfl
    | succ m ih => intro hm; rw [List.range_succ, List.all_append, List.all_append, ih (by omega)]; simp [h m (by omega)]
  exact this n (Nat.le_refl _)
theorem map_cong {α : Type} {n : Nat} {f g : Nat → α} (h : ∀ k, k < n → f k = g k) : (List.range n).map f = (List.range n).map g :=
  List.map_congr_left fun k hk => h k (List.mem_range.1 hk)
/-- an element, wherever the index lies -/
theorem idxO_get {α : Type} {xs : List α} {i : Int} (h0 : 0 ≤ i) (h1 : i < (xs.length : Int)) : idxO xs i = some (xs[i.toNat]'(by omega)) := by
  have : i.toNat < xs.length := by omega
  simp [idxO, h0, this]
theorem dT {p : Prop} [Decidable p] (h : p) : decide p = true := decide_eq_true h
theorem dF {p : Prop} [Decidable p] (h : ¬ p) : decide p = false := decide_eq_false h
theorem bT {a b : Int} (h : a = b) : (a == b) = true := by simp [h]
theorem bF {a b : Int} (h : ¬ a = b) : (a == b) = false := by simp [h]
theorem nT {a b : Int} (h : ¬ a = b) : (a != b) = true := by simp [h]
theorem nF {a b : Int} (h : a = b) : (a != b) = false := by simp [h]
/-- a loop whose index comes first in its state -/
theorem loop_ts {σ τ : Type} {B : Int × σ → Option ((Int × σ) ⊕ τ)} (n : Nat) (I : Nat → σ → Prop) (Pt : τ → Prop) {s0 : σ} (h0 : I 0 s0)
    (step : ∀ k s, k < n → I k s → (∃ s', B ((k : Int), s) = some (.inl (((k + 1 : Nat) : Int), s')) ∧ I (k + 1) s') ∨ (∃ t, B ((k : Int), s) = some (.inr t) ∧ Pt t))
    (last : ∀ s, I n s → ∃ t, B ((n : Int), s) = some (.inr t) ∧ Pt t) : ∃ t, whileO B (0, s0) = some t ∧ Pt t := by
  refine whileO_inv (fun s => ∃ k : Nat, k ≤ n ∧ s.1 = (k : Int) ∧ I k s.2) (fun s => ((n : Int) - s.1).toNat) Pt ⟨0, Nat.zero_le _, rfl, h0⟩ ?_
  rintro ⟨i, s⟩ ⟨k, hk, rfl, hI⟩
  by_cases hlt : k < n
  · rcases step k s hlt hI with ⟨s', h1, h2⟩ | h
    · exact .inl ⟨_, h1, ⟨k + 1, hlt, rfl, h2⟩, by simp; omega⟩
    · exact .inr h
  · obtain rfl : k = n := by omega
    exact .inr (last s hI)
/-- a row filled from its start on -/
def Fill {α : Type} (n : Nat) (f : Nat → α) (k : Nat) (s : List α) : Prop := s.length = n ∧ ∀ j, j < k → s[j]? = some (f j)
theorem Fill.zero {α : Type} (n : Nat) (f : Nat → α) (z : α) : Fill n f 0 (List.replicate n z) := ⟨by simp, fun j hj => absurd hj (Nat.not_lt_zero j)⟩
theorem Fill.set {α : Type} {n : Nat} {f : Nat → α} {k : Nat} {s : List α} (h : Fill n f k s) (hk : k < n) : Fill n f (k + 1) (s.set k (f k)) := by
  refine ⟨by simp [h.1], fun j hj => ?_⟩
  by_cases e : j = k
  · subst e; simp [h.1, hk]
  · rw [List.getElem?_set_ne (fun h => e h.symm)]; exact h.2 j (by omega)
theorem Fill.all {α : Type} {n : Nat} {f : Nat → α} {s : List α} (h : Fill n f n s) : s = (List.range n).map f := by
  apply List.ext_getElem?
  intro j
  by_cases hj : j < n
  · rw [h.2 j hj]; simp [hj]
  · rw [List.getElem?_eq_none (by rw [h.1]; omega), List.getElem?_eq_none (by simp; omega)]
theorem loop_set {α τ : Type} {B : List α × Int → Option ((List α × Int) ⊕ τ)} (n : Nat) (f : Nat → α) (z : α) {t : τ}
    (h : ∀ k s, k < n → s.length = n → B (s, (k : Int)) = some (.inl (s.set k (f k), ((k + 1 : Nat) : Int))))
    (hn : B ((List.range n).map f, (n : Int)) = some (.inr t)) : whileO B (List.replicate n z, 0) = some t := by
  have key : ∃ u, whileO B (List.replicate n z, 0) = some u ∧ u = t := by
    refine loop_st n (fun k s => Fill n f k s) _ (Fill.zero n f z) ?_ ?_
    · intro k s hk hI
      exact .inl ⟨_, h k s hk hI.1, hI.set hk⟩
    · intro s hs
      rw [hs.all]
      exact ⟨t, hn, rfl⟩
  obtain ⟨u, h1, rfl⟩ := key
  exact h1
theorem idxO_D {α : Type} {xs : List α} {k : Nat} (d : α) (h : k < xs.length) : idxO xs (k : Int) = some (xs.getD k d) := by
  rw [idxO_nat h]; simp [h]
theorem mul_bd {u v a b : Int} (u0 : 0 ≤ u) (u1 : u ≤ a) (v0 : 0 ≤ v) (v1 : v ≤ b) : 0 ≤ u * v ∧ u * v ≤ a * b :=
  ⟨Int.mul_nonneg u0 v0, Int.mul_le_mul u1 v1 v0 (by omega)⟩
theorem sliceO_all {α : Type} {xs : List α} {k : Nat} (h : k ≤ xs.length) : sliceO xs (k : Int) (xs.length : Int) = some (xs.drop k) := by
  rw [sliceO_of (l := k) (k := xs.length) rfl rfl h (Nat.le_refl _), List.take_length]
theorem getD_drop {α : Type} (xs : List α) (n k : Nat) (d : α) : (xs.drop n).getD k d = xs.getD (k + n) d := by
  simp [List.getD_eq_getElem?_getD, List.getElem?_drop, Nat.add_comm]

end Go.Proofs.Ytdbgkakmhlmpbaa
namespace Go.Proofs.Ytdbgkakmhlmpbaa
open Go.RowKit
set_option linter.unusedVariables false

noncomputable def raddleref23_common_l1  : (Int × Int) → Option ((Int × Int) ⊕ Int) := fun s0 => match s0 with
  | (s5, s6) =>
    if s6 != 0 then
      Option.bind (remI s5 s6) fun z14 =>
      some (.inl (s6, z14))
    else
      some (.inr s5)
noncomputable def F_raddleref23_common (p0 : Int) (p1 : Int) : Option Int :=
  Option.bind (α := Int) (
    Option.bind (whileO (raddleref23_common_l1) (p0, p1)) fun e10 =>
      some e10) fun o2 =>
  if decide (o2 < 0) then
    some (w64 (0 - o2))
  else
    some o2
set_option maxHeartbeats 4000000 in
set_option maxRecDepth 100000 in
theorem c_raddleref23_common (E : Nat → Prop) (w0 : World) (p0 : Int) (p1 : Int) (r : Int) (h : F_raddleref23_common p0 p1 = some r) (S : St0 E [] w0 w0 [] []) :
    Calls Try.prog 45 #[iv p0, iv p1] w0 (Ret (X := Unit) E [] w0 (fun _ => .int .i64 r) (fun _ => []) (fun _ => [])) := by
  unfold F_raddleref23_common at h
  refine sEnter (args := [iv p0, iv p1]) 16 Try.func45 rfl rfl (by simp) S (fun a S => ?_)
  refine sSeq (fun K1 hK1 => ?_)
  refine sRegion ?_
  refine sMove (iv 0) S (wN rfl) (.inr rfl) rfl rfl (lb rfl) fun a S => ?_
  refine leafL (leafT (hK1 _ _ ?_))
  obtain ⟨t3, h, g4⟩ := bindSome h
  refine sCut (fun a w => ∃ o2, o2 = t3 ∧ St [] E [] w0 16 a w [(0, iv o2)] [] []) ?_ (fun a w hI => ?_)
  rotate_left
  · obtain ⟨o2, rfl, S⟩ := hI
    have h := g4
    clear g4
    try dsimp only at h
    refine sSeq (fun K16 hK16 => ?_)
    refine sSeq (fun K17 hK17 => ?_)
    refine sRegion ?_
    refine sMove (iv o2) S (wN rfl) (.inl rfl) rfl rfl (lb rfl) fun a S => ?_
    refine sBin (.bool (decide (o2 < 0))) S (wN rfl) rfl rfl rfl (bLt _ _ _ _ .i64 o2 0) rfl (lb rfl) fun a S => ?_
    refine leafL (leafT (hK17 _ _ ?_))
    rcases iteSome h with ⟨hc18, h⟩ | ⟨hc18, h⟩
    rotate_left
    · refine sCondF S rfl hc18 ?_
      refine wp_skip (leafT (hK16 _ _ ?_))
      refine sSeq (fun K20 hK20 => ?_)
      refine sRegion ?_
      refine sMove (iv o2) S (wN rfl) (.inl rfl) rfl rfl (lb rfl) fun a S => ?_
      refine sMove (iv o2) S (wN rfl) (.inr rfl) rfl rfl (lb rfl) fun a S => ?_
      refine leafL (leafT (hK20 _ _ ?_))
      obtain rfl := Option.some.inj h
      exact wp_ret (sRet (iv o2) S (rsl1 rfl (rvT (t := 4) (v := iv o2) S rfl)) ⟨(), rfl, S.mem.sel [] [] (by decide) rfl rfl⟩)
    refine sCondT S rfl hc18 ?_
    refine sSeq (fun K19 hK19 => ?_)
    refine sRegion ?_
    refine sMove (iv o2) S (wN rfl) (.inl rfl) rfl rfl (lb rfl) fun a S => ?_
    refine sNeg (b := o2) S (wN rfl) rfl rfl rfl (lb rfl) fun a S => ?_
    refine sMove (iv (w64 (0 - o2))) S (wN rfl) (.inr rfl) rfl rfl (lb rfl) fun a S => ?_
    refine leafL (leafT (hK19 _ _ ?_))
    obtain rfl := Option.some.inj h
    exact wp_ret (rThen (sRet (iv (w64 (0 - o2))) S (rsl1 rfl (rvT (t := 4) (v := iv (w64 (0 - o2))) S rfl)) ⟨(), rfl, S.mem.sel [] [] (by decide) rfl rfl⟩))
  refine wp_block ?_
  obtain ⟨t9, hl, g8⟩ := bindSome h
  refine sLoop hl (fun s0 a w => match s0 with | (s5, s6) => St [] E [] w0 16 a w [(0, iv s5), (1, iv s6)] [] []) (S.fix [] [] (by decide) rfl rfl rfl) ?_
  clear hl h
  intro s0 a w c0 hI h hu7
  obtain ⟨s5, s6⟩ := s0
  unfold raddleref23_common_l1 at h
  dsimp only at h hI
  have S := hI
  refine sSeq (fun K11 hK11 => ?_)
  refine sSeq (fun K12 hK12 => ?_)
  refine sRegion ?_
  refine sMove (iv s6) S (wN rfl) (.inl rfl) rfl rfl (lb rfl) fun a S => ?_
  refine sBin (.bool (s6 != 0)) S (wN rfl) rfl rfl rfl (bNe _ _ _ _ .i64 s6 0) rfl (lb rfl) fun a S => ?_
  refine leafL (leafT (hK12 _ _ ?_))
  rcases iteSome h with ⟨hc13, h⟩ | ⟨hc13, h⟩
  rotate_left
  · refine sCondF S rfl hc13 ?_
    obtain rfl := Option.some.inj h
    obtain rfl := hu7 _ rfl
    have h := g8
    clear g8
    try dsimp only at h
    exact wp_exit (xThen (xThen (xHit (leafT (⟨s5, Option.some.inj h, S.fix [] [] (by decide) rfl rfl rfl⟩)))))
  refine sCondT S rfl hc13 ?_
  refine wp_skip (leafT (hK11 _ _ ?_))
  refine wp_block ?_
  obtain ⟨z14, hx15, h⟩ := bindSome h
  refine sDraw (nf := []) (W := [(0, 7, iv s6), (1, 8, iv s5), (2, 9, iv s6), (3, 10, iv z14), (4, 0, iv s6), (5, 1, iv z14)]) rfl S ?_
  refine node_by (A := [[], [], [], [1, 2], [0, 1], [0, 1, 2, 3, 4]]) (nf := []) (Y := []) (W := [(0, 7, iv s6), (1, 8, iv s5), (2, 9, iv s6), (3, 10, iv z14), (4, 0, iv s6), (5, 1, iv z14)]) 6 (by kernel_rfl) (by kernel_rfl) (by kernel_rfl) (by kernel_rfl) (by kernel_rfl) [0, 1, 2, 3, 4, 5] (by kernel_rfl) (by decide) (by decide) (aF 0 5 (by decide) ?_ (aF 1 4 (by decide) ?_ (aF 2 3 (by decide) ?_ (aF 3 2 (by decide) ?_ (aF 4 1 (by decide) ?_ (aF 5 0 (by decide) ?_ (trivial))))))) [(0, iv s6), (1, iv z14)] (fin_of [some 4, some 5] rfl (by kernel_rfl) (by kernel_rfl)) (fun _ a w S => ?_)
  · refine fI 7 (iv s6) [(1, iv s6)] 0 [none] rfl rfl rfl rfl rfl rfl fun G a w S => ?_
    refine sMove (iv s6) S (wN rfl) (.inl rfl) rfl rfl (lb rfl) fun a S => ?_
    exact leafL ⟨rfl, S⟩
  · refine fI 8 (iv s5) [(0, iv s5)] 1 [none] rfl rfl rfl rfl rfl rfl fun G a w S => ?_
    refine sMove (iv s5) S (wN rfl) (.inl rfl) rfl rfl (lb rfl) fun a S => ?_
    exact leafL ⟨rfl, S⟩
  · refine fI 9 (iv s6) [(1, iv s6)] 2 [none] rfl rfl rfl rfl rfl rfl fun G a w S => ?_
    refine sMove (iv s6) S (wN rfl) (.inl rfl) rfl rfl (lb rfl) fun a S => ?_
    exact leafL ⟨rfl, S⟩
  · refine fI 10 (iv z14) [(8, iv s5), (9, iv s6)] 3 [some 1, some 2] rfl rfl rfl rfl rfl rfl fun G a w S => ?_
    refine sBin (iv z14) S (wN rfl) rfl rfl rfl (bRem _ _ _ _ (x := s5) (y := s6) hx15) rfl (lb rfl) fun a S => ?_
    exact leafL ⟨rfl, S⟩
  · refine fI 0 (iv s6) [(7, iv s6)] 4 [some 0] rfl rfl rfl rfl rfl rfl fun G a w S => ?_
    refine sMove (iv s6) S (wN rfl) (.inr rfl) rfl rfl (lb rfl) fun a S => ?_
    exact leafL ⟨rfl, S⟩
  · refine fI 1 (iv z14) [(10, iv z14)] 5 [some 3] rfl rfl rfl rfl rfl rfl fun G a w S => ?_
    refine sMove (iv z14) S (wN rfl) (.inr rfl) rfl rfl (lb rfl) fun a S => ?_
    exact leafL ⟨rfl, S⟩
  exact leafB (leafT (⟨(s6, z14), (Option.some.inj h).symm, (S.fix [] [] (by decide) rfl rfl rfl)⟩))

end Go.Proofs.Ytdbgkakmhlmpbaa
namespace Go.Proofs.Ytdbgkakmhlmpbaa
open Go.RowKit
set_option linter.unusedVariables false

noncomputable def F_raddleref23_Check (p0 : api_Ratio) : Option Int :=
  Option.bind (α := Bool) (
    if decide (p0.Den < 1) then
      some true
    else
      if decide (1000000000 < p0.Den) then
        some true
      else
        if decide (p0.Num < (-1000000000)) then
          some true
        else
          if decide (1000000000 < p0.Num) then
            some true
          else
            Option.bind (F_raddleref23_common p0.Num p0.Den) fun r11 =>
            some (r11 != 1)) fun o4 =>
  if o4 then
    some 8
  else
    some 0
set_option maxHeartbeats 4000000 in
set_option maxRecDepth 100000 in
theorem c_raddleref23_Check (E : Nat → Prop) (w0 : World) (p0 : api_Ratio) (v0 : Value) (r : Int) (h : F_raddleref23_Check p0 = some r) (S : St0 E [] w0 w0 [] [fRep r_api_Ratio (v0) p0]) :
    Calls Try.prog 25 #[v0] w0 (Ret (X := Unit) E [] w0 (fun _ => .int .i64 r) (fun _ => []) (fun _ => [])) := by
  unfold F_raddleref23_Check at h
  obtain rfl : v0 = .agg #[iv p0.Num, iv p0.Den] := S.know (i := 0) (e := fRep r_api_Ratio (v0) p0) rfl
  refine sEnter (args := [.agg #[iv p0.Num, iv p0.Den]]) 29 Try.func25 rfl rfl (by simp) S (fun a S => ?_)
  refine sSeq (fun K1 hK1 => ?_)
  refine sRegion ?_
  refine sBox (v := .agg #[iv p0.Num, iv p0.Den]) S (wN rfl) rfl rfl [iv p0.Num, iv p0.Den] rfl rfl (lb rfl) fun a b2 w S => ?_
  refine sMove (iv 0) S (wN rfl) (.inr rfl) rfl rfl (lb rfl) fun a S => ?_
  refine leafL (leafT (hK1 _ _ ?_))
  refine sSeq (fun K3 hK3 => ?_)
  obtain ⟨t5, h, g6⟩ := bindSome h
  refine sCut (fun a w => ∃ o4, o4 = t5 ∧ St [] E [] w0 29 a w [(28, .bool o4)] [] []) ?_ (fun a w hI => ?_)
  rotate_left
  · obtain ⟨o4, rfl, S⟩ := hI
    have h := g6
    clear g6
    try dsimp only at h
    rcases iteSome h with ⟨hc13, h⟩ | ⟨hc13, h⟩
    · refine sCondT S rfl hc13 ?_
      refine sSeq (fun K14 hK14 => ?_)
      refine sRegion ?_
      refine sMove (iv 8) S (wN rfl) (.inr rfl) rfl rfl (lb rfl) fun a S => ?_
      refine leafL (leafT (hK14 _ _ ?_))
      obtain rfl := Option.some.inj h
      exact wp_ret (rThen (sRet (iv 8) S (rsl1 rfl (rvT (t := 2) (v := iv 8) S rfl)) ⟨(), rfl, S.mem.sel [] [] (by decide) rfl rfl⟩))
    refine sCondF S rfl hc13 ?_
    refine wp_skip (leafT (hK3 _ _ ?_))
    refine sSeq (fun K15 hK15 => ?_)
    refine sRegion ?_
    refine sMove (iv 0) S (wN rfl) (.inr rfl) rfl rfl (lb rfl) fun a S => ?_
    refine leafL (leafT (hK15 _ _ ?_))
    obtain rfl := Option.some.inj h
    exact wp_ret (sRet (iv 0) S (rsl1 rfl (rvT (t := 2) (v := iv 0) S rfl)) ⟨(), rfl, S.mem.sel [] [] (by decide) rfl rfl⟩)
  refine sRegion ?_
  refine sField (b := b2) (off := 0) 1 1 S (wN rfl) rfl rfl rfl rfl rfl (lb rfl) fun a S => ?_
  refine sLoad1 (p := b2) (off := 1) (T := 25) (vs := [iv p0.Num, iv p0.Den]) 0 (iv p0.Den) S (wN rfl) rfl rfl rfl rfl rfl rfl (lb rfl) fun a S => ?_
  refine sBin (.bool (decide (p0.Den < 1))) S (wN rfl) rfl rfl rfl (bLt _ _ _ _ .i64 p0.Den 1) rfl (lb rfl) fun a S => ?_
  refine sMove (.bool (decide (p0.Den < 1))) S (wN rfl) (.inl rfl) rfl rfl (lb rfl) fun a S => ?_
  rcases iteSome h with ⟨hc7, h⟩ | ⟨hc7, h⟩
  · refine sSkip 3 false 6 7 S rfl rfl rfl hc7 rfl (lb rfl) fun a S => ?_
    refine sSkip 3 false 6 8 S rfl rfl rfl hc7 rfl (lb rfl) fun a S => ?_
    refine sSkip 3 false 6 9 S rfl rfl rfl hc7 rfl (lb rfl) fun a S => ?_
    refine sPickT (.bool true) S (wN rfl) rfl rfl hc7 rfl rfl (lb rfl) fun a S => ?_
    refine sMove (.bool true) S (wN rfl) (.inl rfl) rfl rfl (lb rfl) fun a S => ?_
    refine sSkip 8 false 11 12 S rfl rfl rfl rfl rfl (lb rfl) fun a S => ?_
    refine sSkip 8 false 11 13 S rfl rfl rfl rfl rfl (lb rfl) fun a S => ?_
    refine sSkip 8 false 11 14 S rfl rfl rfl rfl rfl (lb rfl) fun a S => ?_
    refine sPickT (.bool true) S (wN rfl) rfl rfl rfl rfl rfl (lb rfl) fun a S => ?_
    refine sMove (.bool true) S (wN rfl) (.inl rfl) rfl rfl (lb rfl) fun a S => ?_
    refine sSkip 13 false 16 17 S rfl rfl rfl rfl rfl (lb rfl) fun a S => ?_
    refine sSkip 13 false 16 18 S rfl rfl rfl rfl rfl (lb rfl) fun a S => ?_
    refine sSkip 13 false 16 19 S rfl rfl rfl rfl rfl (lb rfl) fun a S => ?_
    refine sPickT (.bool true) S (wN rfl) rfl rfl rfl rfl rfl (lb rfl) fun a S => ?_
    refine sMove (.bool true) S (wN rfl) (.inl rfl) rfl rfl (lb rfl) fun a S => ?_
    refine sSkip 18 false 21 22 S rfl rfl rfl rfl rfl (lb rfl) fun a S => ?_
    refine sSkip 18 false 21 23 S rfl rfl rfl rfl rfl (lb rfl) fun a S => ?_
    refine sSkip 18 false 21 24 S rfl rfl rfl rfl rfl (lb rfl) fun a S => ?_
    refine sSkip 18 false 21 25 S rfl rfl rfl rfl rfl (lb rfl) fun a S => ?_
    refine sSkip 18 false 21 26 S rfl rfl rfl rfl rfl (lb rfl) fun a S => ?_
    refine sSkip 18 false 21 27 S rfl rfl rfl rfl rfl (lb rfl) fun a S => ?_
    refine sPickT (.bool true) S (wN rfl) rfl rfl rfl rfl rfl (lb rfl) fun a S => ?_
    exact leafL (leafT (⟨true, Option.some.inj h, S.fix [] [] (by decide) rfl rfl rfl⟩))
  refine sField (b := b2) (off := 0) 1 1 S (wG 3 false 6 rfl rfl rfl hc7) rfl rfl rfl rfl rfl (lb rfl) fun a S => ?_
  refine sLoad1 (p := b2) (off := 1) (T := 25) (vs := [iv p0.Num, iv p0.Den]) 0 (iv p0.Den) S (wG 3 false 6 rfl rfl rfl hc7) rfl rfl rfl rfl rfl rfl (lb rfl) fun a S => ?_
  refine sBin (.bool (decide (1000000000 < p0.Den))) S (wG 3 false 6 rfl rfl rfl hc7) rfl rfl rfl (bGt _ _ _ _ .i64 p0.Den 1000000000) rfl (lb rfl) fun a S => ?_
  refine sPickF (.bool (decide (1000000000 < p0.Den))) S (wN rfl) rfl rfl hc7 rfl rfl (lb rfl) fun a S => ?_
  refine sMove (.bool (decide (1000000000 < p0.Den))) S (wN rfl) (.inl rfl) rfl rfl (lb rfl) fun a S => ?_
  rcases iteSome h with ⟨hc8, h⟩ | ⟨hc8, h⟩
  · refine sSkip 8 false 11 12 S rfl rfl rfl hc8 rfl (lb rfl) fun a S => ?_
    refine sSkip 8 false 11 13 S rfl rfl rfl hc8 rfl (lb rfl) fun a S => ?_
    refine sSkip 8 false 11 14 S rfl rfl rfl hc8 rfl (lb rfl) fun a S => ?_
    refine sPickT (.bool true) S (wN rfl) rfl rfl hc8 rfl rfl (lb rfl) fun a S => ?_
    refine sMove (.bool true) S (wN rfl) (.inl rfl) rfl rfl (lb rfl) fun a S => ?_
    refine sSkip 13 false 16 17 S rfl rfl rfl rfl rfl (lb rfl) fun a S => ?_
    refine sSkip 13 false 16 18 S rfl rfl rfl rfl rfl (lb rfl) fun a S => ?_
    refine sSkip 13 false 16 19 S rfl rfl rfl rfl rfl (lb rfl) fun a S => ?_
    refine sPickT (.bool true) S (wN rfl) rfl rfl rfl rfl rfl (lb rfl) fun a S => ?_
    refine sMove (.bool true) S (wN rfl) (.inl rfl) rfl rfl (lb rfl) fun a S => ?_
    refine sSkip 18 false 21 22 S rfl rfl rfl rfl rfl (lb rfl) fun a S => ?_
    refine sSkip 18 false 21 23 S rfl rfl rfl rfl rfl (lb rfl) fun a S => ?_
    refine sSkip 18 false 21 24 S rfl rfl rfl rfl rfl (lb rfl) fun a S => ?_
    refine sSkip 18 false 21 25 S rfl rfl rfl rfl rfl (lb rfl) fun a S => ?_
    refine sSkip 18 false 21 26 S rfl rfl rfl rfl rfl (lb rfl) fun a S => ?_
    refine sSkip 18 false 21 27 S rfl rfl rfl rfl rfl (lb rfl) fun a S => ?_
    refine sPickT (.bool true) S (wN rfl) rfl rfl rfl rfl rfl (lb rfl) fun a S => ?_
    exact leafL (leafT (⟨true, Option.some.inj h, S.fix [] [] (by decide) rfl rfl rfl⟩))
  refine sField (b := b2) (off := 0) 0 0 S (wG 8 false 11 rfl rfl rfl hc8) rfl rfl rfl rfl rfl (lb rfl) fun a S => ?_
  refine sLoad1 (p := b2) (off := 0) (T := 25) (vs := [iv p0.Num, iv p0.Den]) 0 (iv p0.Num) S (wG 8 false 11 rfl rfl rfl hc8) rfl rfl rfl rfl rfl rfl (lb rfl) fun a S => ?_
  refine sBin (.bool (decide (p0.Num < (-1000000000)))) S (wG 8 false 11 rfl rfl rfl hc8) rfl rfl rfl (bLt _ _ _ _ .i64 p0.Num (-1000000000)) rfl (lb rfl) fun a S => ?_
  refine sPickF (.bool (decide (p0.Num < (-1000000000)))) S (wN rfl) rfl rfl hc8 rfl rfl (lb rfl) fun a S => ?_
  refine sMove (.bool (decide (p0.Num < (-1000000000)))) S (wN rfl) (.inl rfl) rfl rfl (lb rfl) fun a S => ?_
  rcases iteSome h with ⟨hc9, h⟩ | ⟨hc9, h⟩
  · refine sSkip 13 false 16 17 S rfl rfl rfl hc9 rfl (lb rfl) fun a S => ?_
    refine sSkip 13 false 16 18 S rfl rfl rfl hc9 rfl (lb rfl) fun a S => ?_
    refine sSkip 13 false 16 19 S rfl rfl rfl hc9 rfl (lb rfl) fun a S => ?_
    refine sPickT (.bool true) S (wN rfl) rfl rfl hc9 rfl rfl (lb rfl) fun a S => ?_
    refine sMove (.bool true) S (wN rfl) (.inl rfl) rfl rfl (lb rfl) fun a S => ?_
    refine sSkip 18 false 21 22 S rfl rfl rfl rfl rfl (lb rfl) fun a S => ?_
    refine sSkip 18 false 21 23 S rfl rfl rfl rfl rfl (lb rfl) fun a S => ?_
    refine sSkip 18 false 21 24 S rfl rfl rfl rfl rfl (lb rfl) fun a S => ?_
    refine sSkip 18 false 21 25 S rfl rfl rfl rfl rfl (lb rfl) fun a S => ?_
    refine sSkip 18 false 21 26 S rfl rfl rfl rfl rfl (lb rfl) fun a S => ?_
    refine sSkip 18 false 21 27 S rfl rfl rfl rfl rfl (lb rfl) fun a S => ?_
    refine sPickT (.bool true) S (wN rfl) rfl rfl rfl rfl rfl (lb rfl) fun a S => ?_
    exact leafL (leafT (⟨true, Option.some.inj h, S.fix [] [] (by decide) rfl rfl rfl⟩))
  refine sField (b := b2) (off := 0) 0 0 S (wG 13 false 16 rfl rfl rfl hc9) rfl rfl rfl rfl rfl (lb rfl) fun a S => ?_
  refine sLoad1 (p := b2) (off := 0) (T := 25) (vs := [iv p0.Num, iv p0.Den]) 0 (iv p0.Num) S (wG 13 false 16 rfl rfl rfl hc9) rfl rfl rfl rfl rfl rfl (lb rfl) fun a S => ?_
  refine sBin (.bool (decide (1000000000 < p0.Num))) S (wG 13 false 16 rfl rfl rfl hc9) rfl rfl rfl (bGt _ _ _ _ .i64 p0.Num 1000000000) rfl (lb rfl) fun a S => ?_
  refine sPickF (.bool (decide (1000000000 < p0.Num))) S (wN rfl) rfl rfl hc9 rfl rfl (lb rfl) fun a S => ?_
  refine sMove (.bool (decide (1000000000 < p0.Num))) S (wN rfl) (.inl rfl) rfl rfl (lb rfl) fun a S => ?_
  rcases iteSome h with ⟨hc10, h⟩ | ⟨hc10, h⟩
  · refine sSkip 18 false 21 22 S rfl rfl rfl hc10 rfl (lb rfl) fun a S => ?_
    refine sSkip 18 false 21 23 S rfl rfl rfl hc10 rfl (lb rfl) fun a S => ?_
    refine sSkip 18 false 21 24 S rfl rfl rfl hc10 rfl (lb rfl) fun a S => ?_
    refine sSkip 18 false 21 25 S rfl rfl rfl hc10 rfl (lb rfl) fun a S => ?_
    refine sSkip 18 false 21 26 S rfl rfl rfl hc10 rfl (lb rfl) fun a S => ?_
    refine sSkip 18 false 21 27 S rfl rfl rfl hc10 rfl (lb rfl) fun a S => ?_
    refine sPickT (.bool true) S (wN rfl) rfl rfl hc10 rfl rfl (lb rfl) fun a S => ?_
    exact leafL (leafT (⟨true, Option.some.inj h, S.fix [] [] (by decide) rfl rfl rfl⟩))
  refine sField (b := b2) (off := 0) 0 0 S (wG 18 false 21 rfl rfl rfl hc10) rfl rfl rfl rfl rfl (lb rfl) fun a S => ?_
  refine sLoad1 (p := b2) (off := 0) (T := 25) (vs := [iv p0.Num, iv p0.Den]) 0 (iv p0.Num) S (wG 18 false 21 rfl rfl rfl hc10) rfl rfl rfl rfl rfl rfl (lb rfl) fun a S => ?_
  refine sField (b := b2) (off := 0) 1 1 S (wG 18 false 21 rfl rfl rfl hc10) rfl rfl rfl rfl rfl (lb rfl) fun a S => ?_
  refine sLoad1 (p := b2) (off := 1) (T := 25) (vs := [iv p0.Num, iv p0.Den]) 0 (iv p0.Den) S (wG 18 false 21 rfl rfl rfl hc10) rfl rfl rfl rfl rfl rfl (lb rfl) fun a S => ?_
  obtain ⟨r11, hx12, h⟩ := bindSome h
  have S1 := S.mem
  refine sCallQ (X := Unit) (f := 45) (vs := [iv p0.Num, iv p0.Den]) (val := fun _ => iv r11) S (wG 18 false 21 rfl rfl rfl hc10) rfl callee45 rfl (S1.quiet [] rfl) (fun E1 w1 S1 => c_raddleref23_common E1 w1 p0.Num p0.Den r11 hx12 S1) rfl (lb rfl) fun _ a w S => ?_
  refine sBin (.bool (r11 != 1)) S (wG 18 false 21 rfl rfl rfl hc10) rfl rfl rfl (bNe _ _ _ _ .i64 r11 1) rfl (lb rfl) fun a S => ?_
  refine sPickF (.bool (r11 != 1)) S (wN rfl) rfl rfl hc10 rfl rfl (lb rfl) fun a S => ?_
  exact leafL (leafT (⟨r11 != 1, Option.some.inj h, S.fix [] [] (by decide) rfl rfl rfl⟩))

end Go.Proofs.Ytdbgkakmhlmpbaa
namespace Go.Proofs.Ytdbgkakmhlmpbaa
open Go.RowKit
set_option linter.unusedVariables false

theorem gcd_loop {B : Int × Int → Option ((Int × Int) ⊕ Int)} (hB : ∀ a b : Int, B (a, b) = if (b != 0) = true then Option.bind (remI a b) fun z => some (.inl (b, z)) else some (.inr a)) (a b : Nat) : whileO B ((a : Int), (b : Int)) = some ((Nat.gcd a b : Nat) : Int) := by
  have key : ∃ t, whileO B ((a : Int), (b : Int)) = some t ∧ t = ((Nat.gcd a b : Nat) : Int) := by
    refine whileO_inv (fun s => ∃ x y : Nat, s = ((x : Int), (y : Int)) ∧ Nat.gcd x y = Nat.gcd a b) (fun s => s.2.toNat) _ ⟨a, b, rfl, rfl⟩ ?_
    rintro s ⟨x, y, rfl, hg⟩
    rw [hB]
    by_cases hy : y = 0
    · subst hy
      refine .inr ⟨(x : Int), by simp, ?_⟩
      rw [← hg, Nat.gcd_zero_right]
    · have h1 : ((y : Int) != 0) = true := nT (by omega)
      have h2 : remI (x : Int) (y : Int) = some ((x % y : Nat) : Int) := by
        unfold remI
        rw [if_neg (by omega)]
        rfl
      refine .inl ⟨((y : Int), ((x % y : Nat) : Int)), by rw [if_pos h1, h2]; rfl, ⟨y, x % y, rfl, ?_⟩, ?_⟩
      · rw [← hg, Nat.gcd_comm x y, Nat.gcd_rec y x, Nat.gcd_comm]
      · have := Nat.mod_lt x (Nat.pos_of_ne_zero hy)
        show ((x % y : Nat) : Int).toNat < ((y : Nat) : Int).toNat
        omega
  obtain ⟨t, h1, rfl⟩ := key
  exact h1
theorem ygcd_eq (a b : Nat) : F_yarn_gcd (a : Int) (b : Int) = some ((Nat.gcd a b : Nat) : Int) := by
  unfold F_yarn_gcd
  rw [gcd_loop (fun a b => rfl)]
  rfl
theorem common_eq (a b : Nat) : F_raddleref23_common (a : Int) (b : Int) = some ((Nat.gcd a b : Nat) : Int) := by
  unfold F_raddleref23_common
  rw [gcd_loop (fun a b => rfl)]
  simp only [Option.bind_some]
  have : decide (((Nat.gcd a b : Nat) : Int) < 0) = false := dF (by omega)
  simp only [this, Bool.false_eq_true, if_false]
theorem u64_of {x : Int} (h0 : 0 ≤ x) (h1 : x ≤ 18446744073709551615) : IntKind.u64.wrap x = x := by
  unfold IntKind.wrap
  simp [IntKind.bits, IntKind.signed]
  omega
theorem i64_of {x : Int} (h0 : -9223372036854775808 ≤ x) (h1 : x ≤ 9223372036854775807) : IntKind.i64.wrap x = x := w64_of h0 h1
theorem size_eq (a : Nat) (h : a ≤ 9223372036854775807) : F_yarn_size (a : Int) = some (a : Int) := by
  unfold F_yarn_size
  have : decide ((a : Int) < 0) = false := dF (by omega)
  simp only [this, Bool.false_eq_true, if_false, u64_of (show (0 : Int) ≤ a by omega) (by omega)]
/-- the ratio of two numbers that are not negative -/
def mk (a b : Nat) : api_Ratio × Int := if a / Nat.gcd a b ≤ 1000000000 ∧ b / Nat.gcd a b ≤ 1000000000 then (⟨((a / Nat.gcd a b : Nat) : Int), ((b / Nat.gcd a b : Nat) : Int)⟩, 0) else (⟨0, 0⟩, 16)
theorem quo_nat {a g : Nat} (hg : 0 < g) (ha : a ≤ 9223372036854775807) : quoI (a : Int) (g : Int) = some ((a / g : Nat) : Int) := by
  unfold quoI
  rw [if_neg (by omega)]
  have h1 : a / g ≤ a := Nat.div_le_self _ _
  have : ((a : Int).tdiv (g : Int)) = ((a / g : Nat) : Int) := rfl
  have hq : w64 ((a / g : Nat) : Int) = ((a / g : Nat) : Int) := by
    generalize a / g = q at *
    exact w64_of (by omega) (by omega)
  rw [this, hq]
theorem quoK_nat {a g : Nat} (hg : 0 < g) (ha : a ≤ 9223372036854775807) : quoK .u64 (a : Int) (g : Int) = some ((a / g : Nat) : Int) := by
  unfold quoK
  rw [if_neg (by omega)]
  have h1 : a / g ≤ a := Nat.div_le_self _ _
  have : ((a : Int).tdiv (g : Int)) = ((a / g : Nat) : Int) := rfl
  have hq : IntKind.u64.wrap ((a / g : Nat) : Int) = ((a / g : Nat) : Int) := by
    generalize a / g = q at *
    exact u64_of (by omega) (by omega)
  rw [this, hq]
theorem ymake_eq (a b : Nat) (ha : a ≤ 9223372036854775807) (hb : b ≤ 9223372036854775807) (hb0 : 0 < b) : F_yarn_Make (a : Int) (b : Int) = some (mk a b) := by
  have hg : 0 < Nat.gcd a b := Nat.gcd_pos_of_pos_right a hb0
  unfold F_yarn_Make mk
  simp only [bF (show ¬ (b : Int) = 0 by omega), Bool.false_eq_true, if_false, size_eq a ha, size_eq b hb, ygcd_eq, Option.bind_some, quoK_nat hg ha, quoK_nat hg hb, dF (show ¬ (a : Int) < 0 by omega), dF (show ¬ (b : Int) < 0 by omega), bne_self_eq_false]
  have h1 : a / Nat.gcd a b ≤ a := Nat.div_le_self _ _
  have h2 : b / Nat.gcd a b ≤ b := Nat.div_le_self _ _
  generalize a / Nat.gcd a b = x at *
  generalize b / Nat.gcd a b = y at *
  by_cases e1 : x ≤ 1000000000
  · by_cases e2 : y ≤ 1000000000
    · simp only [dF (show ¬ (1000000000 : Int) < x by omega), dF (show ¬ (1000000000 : Int) < y by omega), Bool.false_eq_true, if_false, Option.bind_some, i64_of (show (-9223372036854775808 : Int) ≤ x by omega) (by omega), i64_of (show (-9223372036854775808 : Int) ≤ y by omega) (by omega), e1, e2, and_self, if_true]
    · simp only [dF (show ¬ (1000000000 : Int) < x by omega), dT (show (1000000000 : Int) < y by omega), Bool.false_eq_true, if_false, if_true, Option.bind_some, e1, e2, and_false]
  · simp only [dT (show (1000000000 : Int) < x by omega), if_true, Option.bind_some, e1, false_and, if_false]
theorem rcheck_eq (x y : Nat) : F_raddleref23_Check ⟨(x : Int), (y : Int)⟩ = some (if 1 ≤ y ∧ y ≤ 1000000000 ∧ x ≤ 1000000000 ∧ Nat.gcd x y = 1 then 0 else 8) := by
  unfold F_raddleref23_Check
  simp only [common_eq, Option.bind_some]
  by_cases e1 : 1 ≤ y
  case neg => simp only [dT (show (y : Int) < 1 by omega), if_true, Option.bind_some, e1, false_and, if_false]
  by_cases e2 : y ≤ 1000000000
  case neg => simp only [dF (show ¬ (y : Int) < 1 by omega), dT (show (1000000000 : Int) < y by omega), Bool.false_eq_true, if_true, if_false, Option.bind_some, e2, false_and, and_false]
  by_cases e3 : x ≤ 1000000000
  case neg => simp only [dF (show ¬ (y : Int) < 1 by omega), dF (show ¬ (1000000000 : Int) < y by omega), dF (show ¬ (x : Int) < -1000000000 by omega), dT (show (1000000000 : Int) < x by omega), Bool.false_eq_true, if_true, if_false, Option.bind_some, e3, false_and, and_false]
  by_cases e4 : Nat.gcd x y = 1
  · simp only [dF (show ¬ (y : Int) < 1 by omega), dF (show ¬ (1000000000 : Int) < y by omega), dF (show ¬ (x : Int) < -1000000000 by omega), dF (show ¬ (1000000000 : Int) < x by omega), e4, show (((1 : Nat) : Int) != 1) = false from rfl, Bool.false_eq_true, if_true, if_false, Option.bind_some, e1, e2, e3, and_self]
  · simp only [dF (show ¬ (y : Int) < 1 by omega), dF (show ¬ (1000000000 : Int) < y by omega), dF (show ¬ (x : Int) < -1000000000 by omega), dF (show ¬ (1000000000 : Int) < x by omega), nT (show ¬ ((Nat.gcd x y : Nat) : Int) = 1 by omega), Bool.false_eq_true, if_true, if_false, Option.bind_some, e4, and_false]

end Go.Proofs.Ytdbgkakmhlmpbaa
namespace Go.Proofs.Ytdbgkakmhlmpbaa
open Go.RowKit
set_option linter.unusedVariables false

theorem gcd_any {B : Int × Int → Option ((Int × Int) ⊕ Int)} (hB : ∀ a b : Int, B (a, b) = if (b != 0) = true then Option.bind (remI a b) fun z => some (.inl (b, z)) else some (.inr a)) (a b : Int) : ∃ t, whileO B (a, b) = some t ∧ t.natAbs = Nat.gcd a.natAbs b.natAbs := by
  refine whileO_inv (fun s => Nat.gcd s.1.natAbs s.2.natAbs = Nat.gcd a.natAbs b.natAbs) (fun s => s.2.natAbs) _ rfl ?_
  rintro ⟨x, y⟩ hg
  dsimp only at hg
  rw [hB]
  by_cases hy : y = 0
  · subst hy
    refine .inr ⟨x, by simp, ?_⟩
    rw [← hg]; simp
  · have h1 : (y != 0) = true := nT hy
    have h2 : remI x y = some (x.tmod y) := by unfold remI; rw [if_neg hy]
    have h3 : (x.tmod y).natAbs = x.natAbs % y.natAbs := Int.natAbs_tmod x y
    refine .inl ⟨(y, x.tmod y), by rw [if_pos h1, h2]; rfl, ?_, ?_⟩
    · show Nat.gcd y.natAbs (x.tmod y).natAbs = _
      rw [← hg, h3, Nat.gcd_comm x.natAbs, Nat.gcd_rec y.natAbs x.natAbs, Nat.gcd_comm]
    · show (x.tmod y).natAbs < y.natAbs
      rw [h3]
      exact Nat.mod_lt _ (by omega)
theorem common_some (a b : Int) : ∃ t, F_raddleref23_common a b = some t := by
  obtain ⟨t, t1, _⟩ := gcd_any (B := raddleref23_common_l1) (fun a b => rfl) a b
  unfold F_raddleref23_common
  rw [t1]
  simp only [Option.bind_some]
  split
  · exact ⟨_, rfl⟩
  · exact ⟨_, rfl⟩
theorem rcheck_some (r : api_Ratio) : ∃ e, F_raddleref23_Check r = some e := by
  obtain ⟨t, ht⟩ := common_some r.Num r.Den
  unfold F_raddleref23_Check
  rw [ht]
  by_cases e1 : r.Den < 1
  · exact ⟨8, by simp [e1]⟩
  by_cases e2 : 1000000000 < r.Den
  · exact ⟨8, by simp [e1, e2]⟩
  by_cases e3 : r.Num < -1000000000
  · exact ⟨8, by simp [e1, e2, e3]⟩
  by_cases e4 : 1000000000 < r.Num
  · exact ⟨8, by simp [e1, e2, e3, e4]⟩
  by_cases e5 : t = 1
  · exact ⟨0, by simp [e1, e2, e3, e4, e5]⟩
  · exact ⟨8, by simp [e1, e2, e3, e4, e5]⟩
theorem ygcd_some (a b : Int) : ∃ t, F_yarn_gcd a b = some t := by
  obtain ⟨t, t1, _⟩ := gcd_any (B := yarn_gcd_l1) (fun a b => rfl) a b
  unfold F_yarn_gcd
  rw [t1]
  exact ⟨_, rfl⟩
theorem ycheck_some (r : api_Ratio) : ∃ e, F_yarn_Check r = some e := by
  have h1 : ∃ n, F_yarn_size r.Num = some n := by
    unfold F_yarn_size
    split
    · exact ⟨_, rfl⟩
    · exact ⟨_, rfl⟩
  obtain ⟨n, hn⟩ := h1
  obtain ⟨t, ht⟩ := ygcd_some n (IntKind.u64.wrap r.Den)
  unfold F_yarn_Check
  rw [hn]
  by_cases e1 : r.Den < 1
  · exact ⟨8, by simp [e1]⟩
  by_cases e2 : 1000000000 < r.Den
  · exact ⟨8, by simp [e1, e2]⟩
  by_cases e3 : 1000000000 < n
  · exact ⟨8, by simp [e1, e2, e3]⟩
  by_cases e5 : t = 1
  · exact ⟨0, by simp [e1, e2, e3, ht, e5]⟩
  · exact ⟨8, by simp [e1, e2, e3, ht, e5]⟩
theorem ycheck_pos (x y : Nat) (hx : x ≤ 9223372036854775807) (hy : y ≤ 9223372036854775807) : F_yarn_Check ⟨(x : Int), (y : Int)⟩ = some (if 1 ≤ y ∧ y ≤ 1000000000 ∧ x ≤ 1000000000 ∧ Nat.gcd x y = 1 then 0 else 8) := by
  unfold F_yarn_Check
  simp only [size_eq x hx, u64_of (show (0 : Int) ≤ y by omega) (by omega), ygcd_eq, Option.bind_some]
  by_cases e1 : 1 ≤ y
  case neg => simp only [dT (show (y : Int) < 1 by omega), if_true, Option.bind_some, e1, false_and, if_false]
  by_cases e2 : y ≤ 1000000000
  case neg => simp only [dF (show ¬ (y : Int) < 1 by omega), dT (show (1000000000 : Int) < y by omega), Bool.false_eq_true, if_true, if_false, Option.bind_some, e2, false_and, and_false]
  by_cases e3 : x ≤ 1000000000
  case neg => simp only [dF (show ¬ (y : Int) < 1 by omega), dF (show ¬ (1000000000 : Int) < y by omega), dT (show (1000000000 : Int) < x by omega), Bool.false_eq_true, if_true, if_false, Option.bind_some, e3, false_and, and_false]
  by_cases e4 : Nat.gcd x y = 1
  · simp only [dF (show ¬ (y : Int) < 1 by omega), dF (show ¬ (1000000000 : Int) < y by omega), dF (show ¬ (1000000000 : Int) < x by omega), e4, show (((1 : Nat) : Int) != 1) = false from rfl, Bool.false_eq_true, if_true, if_false, Option.bind_some, e1, e2, e3, and_self]
  · simp only [dF (show ¬ (y : Int) < 1 by omega), dF (show ¬ (1000000000 : Int) < y by omega), dF (show ¬ (1000000000 : Int) < x by omega), nT (show ¬ ((Nat.gcd x y : Nat) : Int) = 1 by omega), Bool.false_eq_true, if_true, if_false, Option.bind_some, e4, and_false]
/-- what Make answers: a ratio in lowest terms, or the error of its size -/
theorem mk_cases (X Y : Nat) (hY : 0 < Y) : (∃ a b q : Nat, mk X Y = (⟨(a : Int), (b : Int)⟩, 0) ∧ a * q = X ∧ b * q = Y ∧ 0 < q ∧ 0 < b ∧ a ≤ 1000000000 ∧ b ≤ 1000000000 ∧ Nat.gcd a b = 1) ∨ mk X Y = (⟨0, 0⟩, 16) := by
  unfold mk
  by_cases h : X / Nat.gcd X Y ≤ 1000000000 ∧ Y / Nat.gcd X Y ≤ 1000000000
  · rw [if_pos h]
    have hg : 0 < Nat.gcd X Y := Nat.gcd_pos_of_pos_right X hY
    exact .inl ⟨_, _, Nat.gcd X Y, rfl, Nat.div_mul_cancel (Nat.gcd_dvd_left X Y), Nat.div_mul_cancel (Nat.gcd_dvd_right X Y), hg, (Nat.le_div_iff_mul_le hg).2 (by rw [Nat.one_mul]; exact Nat.gcd_le_right X hY), h.1, h.2, Nat.gcd_div_gcd_div_gcd_of_pos_right hY⟩
  · rw [if_neg h]
    exact .inr rfl
theorem mk_low {x y : Nat} (hx : x ≤ 1000000000) (hy : y ≤ 1000000000) (hg : Nat.gcd x y = 1) : mk x y = (⟨(x : Int), (y : Int)⟩, 0) := by
  unfold mk
  rw [hg, Nat.div_one, Nat.div_one, if_pos ⟨hx, hy⟩]
/-- ratios of whatever sign -/
def okr (r : api_Ratio) : Prop := 1 ≤ r.Den ∧ r.Den ≤ 1000000000 ∧ r.Num.natAbs ≤ 1000000000 ∧ Nat.gcd r.Num.natAbs r.Den.natAbs = 1
instance (r : api_Ratio) : Decidable (okr r) := by unfold okr; exact inferInstance
theorem common_any (a b : Int) (ha : a.natAbs ≤ 9223372036854775807) (hb : b.natAbs ≤ 9223372036854775807) : F_raddleref23_common a b = some ((Nat.gcd a.natAbs b.natAbs : Nat) : Int) := by
  obtain ⟨t, t1, t2⟩ := gcd_any (B := raddleref23_common_l1) (fun a b => rfl) a b
  have hg : Nat.gcd a.natAbs b.natAbs ≤ 9223372036854775807 := by
    by_cases h : b.natAbs = 0
    · rw [h, Nat.gcd_zero_right]; exact ha
    · exact Nat.le_trans (Nat.gcd_le_right _ (Nat.pos_of_ne_zero h)) hb
  unfold F_raddleref23_common
  rw [t1]
  simp only [Option.bind_some]
  rw [← t2] at hg ⊢
  by_cases h : t < 0
  · simp only [dT h, if_true]
    rw [w64_of (by omega) (by omega)]
    congr 1
    omega
  · simp only [dF h, Bool.false_eq_true, if_false]
    congr 1
    omega
theorem size_any (x : Int) (h0 : -9223372036854775808 ≤ x) (h1 : x ≤ 9223372036854775807) : F_yarn_size x = some ((x.natAbs : Nat) : Int) := by
  unfold F_yarn_size
  by_cases h : x < 0
  · simp only [dT h, if_true]
    have : IntKind.u64.wrap (0 - IntKind.u64.wrap x) = ((x.natAbs : Nat) : Int) := by
      have e1 : IntKind.u64.wrap x = x + 18446744073709551616 := by
        unfold IntKind.wrap
        simp [IntKind.bits, IntKind.signed]
        omega
      rw [e1]
      unfold IntKind.wrap
      simp [IntKind.bits, IntKind.signed]
      omega
    rw [this]
  · simp only [dF h, Bool.false_eq_true, if_false]
    rw [u64_of (by omega) (by omega)]
    congr 1
    omega
theorem rcheck_any (r : api_Ratio) (h0 : -9223372036854775808 ≤ r.Num) (h1 : r.Num ≤ 9223372036854775807) (h2 : r.Den ≤ 9223372036854775807) : F_raddleref23_Check r = some (if okr r then 0 else 8) := by
  unfold F_raddleref23_Check
  by_cases e1 : r.Den < 1
  · rw [if_neg (fun h : okr r => by have a1 := h.1; have a2 := h.2.1; have a3 := h.2.2.1; omega)]; simp only [dT e1, if_true, Option.bind_some]
  by_cases e2 : 1000000000 < r.Den
  · rw [if_neg (fun h : okr r => by have a1 := h.1; have a2 := h.2.1; have a3 := h.2.2.1; omega)]; simp only [dF e1, dT e2, Bool.false_eq_true, if_true, if_false, Option.bind_some]
  by_cases e3 : r.Num < -1000000000
  · rw [if_neg (fun h : okr r => by have a1 := h.1; have a2 := h.2.1; have a3 := h.2.2.1; omega)]; simp only [dF e1, dF e2, dT e3, Bool.false_eq_true, if_true, if_false, Option.bind_some]
  by_cases e4 : 1000000000 < r.Num
  · rw [if_neg (fun h : okr r => by have a1 := h.1; have a2 := h.2.1; have a3 := h.2.2.1; omega)]; simp only [dF e1, dF e2, dF e3, dT e4, Bool.false_eq_true, if_true, if_false, Option.bind_some]
  simp only [dF e1, dF e2, dF e3, dF e4, Bool.false_eq_true, if_false, common_any r.Num r.Den (by omega) (by omega), Option.bind_some]
  by_cases e5 : Nat.gcd r.Num.natAbs r.Den.natAbs = 1
  · rw [if_pos (show okr r from ⟨by omega, by omega, by omega, e5⟩), e5]; rfl
  · rw [if_neg (fun h : okr r => e5 h.2.2.2)]
    simp only [nT (show ¬ ((Nat.gcd r.Num.natAbs r.Den.natAbs : Nat) : Int) = 1 by omega), if_true]
theorem ycheck_any (r : api_Ratio) (h0 : -9223372036854775808 ≤ r.Num) (h1 : r.Num ≤ 9223372036854775807) (h2 : r.Den ≤ 9223372036854775807) : F_yarn_Check r = some (if okr r then 0 else 8) := by
  unfold F_yarn_Check
  by_cases e1 : r.Den < 1
  · rw [if_neg (fun h : okr r => by have a1 := h.1; have a2 := h.2.1; have a3 := h.2.2.1; omega)]; simp only [dT e1, if_true, Option.bind_some]
  by_cases e2 : 1000000000 < r.Den
  · rw [if_neg (fun h : okr r => by have a1 := h.1; have a2 := h.2.1; have a3 := h.2.2.1; omega)]; simp only [dF e1, dT e2, Bool.false_eq_true, if_true, if_false, Option.bind_some]
  simp only [dF e1, dF e2, Bool.false_eq_true, if_false, size_any r.Num h0 h1, Option.bind_some]
  by_cases e3 : 1000000000 < ((r.Num.natAbs : Nat) : Int)
  · rw [if_neg (fun h : okr r => by have a1 := h.1; have a2 := h.2.1; have a3 := h.2.2.1; omega)]; simp only [dT e3, if_true, Option.bind_some]
  have e6 : IntKind.u64.wrap r.Den = ((r.Den.natAbs : Nat) : Int) := by rw [u64_of (by omega) (by omega)]; omega
  simp only [dF e3, Bool.false_eq_true, if_false, e6, ygcd_eq, Option.bind_some]
  by_cases e5 : Nat.gcd r.Num.natAbs r.Den.natAbs = 1
  · rw [if_pos (show okr r from ⟨by omega, by omega, by omega, e5⟩), e5]; rfl
  · rw [if_neg (fun h : okr r => e5 h.2.2.2)]
    simp only [nT (show ¬ ((Nat.gcd r.Num.natAbs r.Den.natAbs : Nat) : Int) = 1 by omega), if_true]
/-- Make, whatever the signs -/
def smk (x y : Int) : api_Ratio × Int := if y = 0 then (⟨0, 0⟩, 18) else if (mk x.natAbs y.natAbs).2 = 0 then (⟨if (decide (x < 0) != decide (y < 0)) = true then -(mk x.natAbs y.natAbs).1.Num else (mk x.natAbs y.natAbs).1.Num, (mk x.natAbs y.natAbs).1.Den⟩, 0) else (⟨0, 0⟩, 16)
theorem ymake_any (x y : Int) (hx : x.natAbs ≤ 9223372036854775807) (hy : y.natAbs ≤ 9223372036854775807) : F_yarn_Make x y = some (smk x y) := by
  unfold F_yarn_Make smk
  by_cases h0 : y = 0
  · rw [if_pos h0]; simp only [bT h0, if_true]
  rw [if_neg h0]
  have hb0 : 0 < y.natAbs := by omega
  have hg : 0 < Nat.gcd x.natAbs y.natAbs := Nat.gcd_pos_of_pos_right _ hb0
  simp only [bF h0, Bool.false_eq_true, if_false, size_any x (by omega) (by omega), size_any y (by omega) (by omega), ygcd_eq, Option.bind_some, quoK_nat hg hx, quoK_nat hg hy]
  unfold mk
  have h1 : x.natAbs / Nat.gcd x.natAbs y.natAbs ≤ x.natAbs := Nat.div_le_self _ _
  have h2 : y.natAbs / Nat.gcd x.natAbs y.natAbs ≤ y.natAbs := Nat.div_le_self _ _
  generalize x.natAbs / Nat.gcd x.natAbs y.natAbs = u at *
  generalize y.natAbs / Nat.gcd x.natAbs y.natAbs = v at *
  by_cases e1 : u ≤ 1000000000
  · by_cases e2 : v ≤ 1000000000
    · have hm : (if u ≤ 1000000000 ∧ v ≤ 1000000000 then ((⟨(u : Int), (v : Int)⟩ : api_Ratio), (0 : Int)) else (⟨0, 0⟩, 16)) = (⟨(u : Int), (v : Int)⟩, 0) := if_pos ⟨e1, e2⟩
      rw [hm]
      have k1 : IntKind.i64.wrap (u : Int) = u := i64_of (by omega) (by omega)
      have k2 : IntKind.i64.wrap (v : Int) = v := i64_of (by omega) (by omega)
      have k3 : w64 (0 - (u : Int)) = -(u : Int) := by rw [w64_of (by omega) (by omega)]; omega
      simp only [dF (show ¬ (1000000000 : Int) < u by omega), dF (show ¬ (1000000000 : Int) < v by omega), Bool.false_eq_true, if_false, Option.bind_some, k1, k2, k3, if_true]
      cases (decide (x < 0) != decide (y < 0)) <;> rfl
    · have hm : (if u ≤ 1000000000 ∧ v ≤ 1000000000 then ((⟨(u : Int), (v : Int)⟩ : api_Ratio), (0 : Int)) else (⟨0, 0⟩, 16)) = (⟨0, 0⟩, 16) := if_neg (by omega)
      rw [hm]
      simp only [dF (show ¬ (1000000000 : Int) < u by omega), dT (show (1000000000 : Int) < v by omega), Bool.false_eq_true, if_false, if_true, Option.bind_some, show ¬ (16 : Int) = 0 by omega]
  · have hm : (if u ≤ 1000000000 ∧ v ≤ 1000000000 then ((⟨(u : Int), (v : Int)⟩ : api_Ratio), (0 : Int)) else (⟨0, 0⟩, 16)) = (⟨0, 0⟩, 16) := if_neg (by omega)
    rw [hm]
    simp only [dT (show (1000000000 : Int) < u by omega), if_true, Option.bind_some, show ¬ (16 : Int) = 0 by omega, if_false]
theorem quo_any {x : Int} {g : Nat} (hg : 0 < g) (hx : x.natAbs ≤ 9223372036854775807) : quoI x (g : Int) = some (if x < 0 then -((x.natAbs / g : Nat) : Int) else ((x.natAbs / g : Nat) : Int)) := by
  have h1 : x.natAbs / g ≤ x.natAbs := Nat.div_le_self _ _
  unfold quoI
  rw [if_neg (by omega)]
  have ht : x.tdiv (g : Int) = if x < 0 then -((x.natAbs / g : Nat) : Int) else ((x.natAbs / g : Nat) : Int) := by
    by_cases h : x < 0
    · rw [if_pos h]
      have e : x = -((x.natAbs : Nat) : Int) := by omega
      rw [e, Int.neg_tdiv, Int.natAbs_neg, Int.natAbs_natCast]; rfl
    · rw [if_neg h]
      have e : x = ((x.natAbs : Nat) : Int) := by omega
      rw [e, Int.natAbs_natCast]; rfl
  rw [ht]
  generalize x.natAbs / g = q at *
  congr 1
  by_cases h : x < 0
  · rw [if_pos h]; exact w64_of (by omega) (by omega)
  · rw [if_neg h]; exact w64_of (by omega) (by omega)
theorem rmake_pos (x : Int) (b : Nat) (hx : x.natAbs ≤ 9223372036854775807) (hb : b ≤ 9223372036854775807) (hb0 : 0 < b) :
    (Option.bind (F_raddleref23_common x (b : Int)) fun r => Option.bind (quoI x r) fun z46 => Option.bind (quoI (b : Int) r) fun z48 => Option.bind (F_raddleref23_Check (api_Ratio.mk z46 z48)) fun r54 => if (r54 != 0) = true then some ((api_Ratio.mk 0 0), 16) else some ((api_Ratio.mk z46 z48), 0)) =
      some (if (mk x.natAbs b).2 = 0 then (⟨if x < 0 then -(mk x.natAbs b).1.Num else (mk x.natAbs b).1.Num, (mk x.natAbs b).1.Den⟩, 0) else (⟨0, 0⟩, (16 : Int))) := by
  have hg : 0 < Nat.gcd x.natAbs b := Nat.gcd_pos_of_pos_right _ hb0
  have h3 : Nat.gcd (x.natAbs / Nat.gcd x.natAbs b) (b / Nat.gcd x.natAbs b) = 1 := Nat.gcd_div_gcd_div_gcd_of_pos_right hb0
  have h4 : 1 ≤ b / Nat.gcd x.natAbs b := (Nat.le_div_iff_mul_le hg).2 (by rw [Nat.one_mul]; exact Nat.gcd_le_right _ hb0)
  rw [common_any x (b : Int) hx (by omega), Int.natAbs_natCast, Option.bind_some, quo_any hg hx, quo_nat hg hb]
  simp only [Option.bind_some]
  unfold mk
  have h1 : x.natAbs / Nat.gcd x.natAbs b ≤ x.natAbs := Nat.div_le_self _ _
  have h2 : b / Nat.gcd x.natAbs b ≤ b := Nat.div_le_self _ _
  generalize x.natAbs / Nat.gcd x.natAbs b = u at *
  generalize b / Nat.gcd x.natAbs b = v at *
  have hz : ∃ z : Int, (if x < 0 then -(u : Int) else (u : Int)) = z ∧ z.natAbs = u := by
    by_cases h : x < 0
    · exact ⟨-(u : Int), by rw [if_pos h], by omega⟩
    · exact ⟨(u : Int), by rw [if_neg h], by omega⟩
  obtain ⟨z, z1, z2⟩ := hz
  rw [z1, rcheck_any _ (by show -9223372036854775808 ≤ z; omega) (by show z ≤ _; omega) (by show (v : Int) ≤ _; omega)]
  simp only [Option.bind_some]
  by_cases e : u ≤ 1000000000 ∧ v ≤ 1000000000
  · have ho : okr (api_Ratio.mk z (v : Int)) := ⟨by show (1 : Int) ≤ v; omega, by show (v : Int) ≤ _; omega, by show z.natAbs ≤ _; omega, by show Nat.gcd z.natAbs (v : Int).natAbs = 1; rw [z2, Int.natAbs_natCast]; exact h3⟩
    rw [if_pos ho, if_pos e]
    simp only [bne_self_eq_false, Bool.false_eq_true, if_false, if_true]
    rw [z1]
  · have ho : ¬ okr (api_Ratio.mk z (v : Int)) := fun h => by
      have a1 : (v : Int) ≤ 1000000000 := h.2.1
      have a2 : z.natAbs ≤ 1000000000 := h.2.2.1
      exact e ⟨by omega, by omega⟩
    rw [if_neg ho, if_neg e]
    simp only [nT (show ¬ (8 : Int) = 0 by omega), if_true, show ¬ (16 : Int) = 0 by omega, if_false]

end Go.Proofs.Ytdbgkakmhlmpbaa
namespace Go.Proofs.Ytdbgkakmhlmpbaa
open Go.RowKit
set_option linter.unusedVariables false

noncomputable def F_raddleref23_Counted (p0 : api_Count) : Option Int :=
  Option.bind (α := Bool) (
    if decide (p0.System < 1) then
      some true
    else
      if decide (4 < p0.System) then
        some true
      else
        Option.bind (F_raddleref23_Check p0.N) fun r9 =>
        if r9 != 0 then
          some true
        else
          some (decide (p0.N.Num < 1))) fun o4 =>
  if o4 then
    some 8
  else
    some 0
set_option maxHeartbeats 4000000 in
set_option maxRecDepth 100000 in
theorem c_raddleref23_Counted (E : Nat → Prop) (w0 : World) (p0 : api_Count) (v0 : Value) (r : Int) (h : F_raddleref23_Counted p0 = some r) (S : St0 E [] w0 w0 [] [fRep r_api_Count (v0) p0]) :
    Calls Try.prog 83 #[v0] w0 (Ret (X := Unit) E [] w0 (fun _ => .int .i64 r) (fun _ => []) (fun _ => [])) := by
  unfold F_raddleref23_Counted at h
  obtain rfl : v0 = .agg #[.int .u8 p0.System, iv p0.N.Num, iv p0.N.Den] := S.know (i := 0) (e := fRep r_api_Count (v0) p0) rfl
  refine sEnter (args := [.agg #[.int .u8 p0.System, iv p0.N.Num, iv p0.N.Den]]) 23 Try.func83 rfl rfl (by simp) S (fun a S => ?_)
  refine sSeq (fun K1 hK1 => ?_)
  refine sRegion ?_
  refine sBox (v := .agg #[.int .u8 p0.System, iv p0.N.Num, iv p0.N.Den]) S (wN rfl) rfl rfl [.int .u8 p0.System, iv p0.N.Num, iv p0.N.Den] rfl rfl (lb rfl) fun a b2 w S => ?_
  refine sMove (iv 0) S (wN rfl) (.inr rfl) rfl rfl (lb rfl) fun a S => ?_
  refine leafL (leafT (hK1 _ _ ?_))
  refine sSeq (fun K3 hK3 => ?_)
  obtain ⟨t5, h, g6⟩ := bindSome h
  refine sCut (fun a w => ∃ o4, o4 = t5 ∧ St [] E [] w0 23 a w [(22, .bool o4)] [] []) ?_ (fun a w hI => ?_)
  rotate_left
  · obtain ⟨o4, rfl, S⟩ := hI
    have h := g6
    clear g6
    try dsimp only at h
    rcases iteSome h with ⟨hc12, h⟩ | ⟨hc12, h⟩
    · refine sCondT S rfl hc12 ?_
      refine sSeq (fun K13 hK13 => ?_)
      refine sRegion ?_
      refine sMove (iv 8) S (wN rfl) (.inr rfl) rfl rfl (lb rfl) fun a S => ?_
      refine leafL (leafT (hK13 _ _ ?_))
      obtain rfl := Option.some.inj h
      exact wp_ret (rThen (sRet (iv 8) S (rsl1 rfl (rvT (t := 2) (v := iv 8) S rfl)) ⟨(), rfl, S.mem.sel [] [] (by decide) rfl rfl⟩))
    refine sCondF S rfl hc12 ?_
    refine wp_skip (leafT (hK3 _ _ ?_))
    refine sSeq (fun K14 hK14 => ?_)
    refine sRegion ?_
    refine sMove (iv 0) S (wN rfl) (.inr rfl) rfl rfl (lb rfl) fun a S => ?_
    refine leafL (leafT (hK14 _ _ ?_))
    obtain rfl := Option.some.inj h
    exact wp_ret (sRet (iv 0) S (rsl1 rfl (rvT (t := 2) (v := iv 0) S rfl)) ⟨(), rfl, S.mem.sel [] [] (by decide) rfl rfl⟩)
  refine sRegion ?_
  refine sField (b := b2) (off := 0) 0 0 S (wN rfl) rfl rfl rfl rfl rfl (lb rfl) fun a S => ?_
  refine sLoad1 (p := b2) (off := 0) (T := 27) (vs := [.int .u8 p0.System, iv p0.N.Num, iv p0.N.Den]) 0 (.int .u8 p0.System) S (wN rfl) rfl rfl rfl rfl rfl rfl (lb rfl) fun a S => ?_
  refine sBin (.bool (decide (p0.System < 1))) S (wN rfl) rfl rfl rfl (bLt _ _ _ _ .u8 p0.System 1) rfl (lb rfl) fun a S => ?_
  refine sMove (.bool (decide (p0.System < 1))) S (wN rfl) (.inl rfl) rfl rfl (lb rfl) fun a S => ?_
  rcases iteSome h with ⟨hc7, h⟩ | ⟨hc7, h⟩
  · refine sSkip 3 false 6 7 S rfl rfl rfl hc7 rfl (lb rfl) fun a S => ?_
    refine sSkip 3 false 6 8 S rfl rfl rfl hc7 rfl (lb rfl) fun a S => ?_
    refine sSkip 3 false 6 9 S rfl rfl rfl hc7 rfl (lb rfl) fun a S => ?_
    refine sPickT (.bool true) S (wN rfl) rfl rfl hc7 rfl rfl (lb rfl) fun a S => ?_
    refine sMove (.bool true) S (wN rfl) (.inl rfl) rfl rfl (lb rfl) fun a S => ?_
    refine sSkip 8 false 11 12 S rfl rfl rfl rfl rfl (lb rfl) fun a S => ?_
    refine sSkip 8 false 11 13 S rfl rfl rfl rfl rfl (lb rfl) fun a S => ?_
    refine sSkip 8 false 11 14 S rfl rfl rfl rfl rfl (lb rfl) fun a S => ?_
    refine sSkip 8 false 11 15 S rfl rfl rfl rfl rfl (lb rfl) fun a S => ?_
    refine sPickT (.bool true) S (wN rfl) rfl rfl rfl rfl rfl (lb rfl) fun a S => ?_
    refine sMove (.bool true) S (wN rfl) (.inl rfl) rfl rfl (lb rfl) fun a S => ?_
    refine sSkip 14 false 17 18 S rfl rfl rfl rfl rfl (lb rfl) fun a S => ?_
    refine sSkip 14 false 17 19 S rfl rfl rfl rfl rfl (lb rfl) fun a S => ?_
    refine sSkip 14 false 17 20 S rfl rfl rfl rfl rfl (lb rfl) fun a S => ?_
    refine sSkip 14 false 17 21 S rfl rfl rfl rfl rfl (lb rfl) fun a S => ?_
    refine sPickT (.bool true) S (wN rfl) rfl rfl rfl rfl rfl (lb rfl) fun a S => ?_
    exact leafL (leafT (⟨true, Option.some.inj h, S.fix [] [] (by decide) rfl rfl rfl⟩))
  refine sField (b := b2) (off := 0) 0 0 S (wG 3 false 6 rfl rfl rfl hc7) rfl rfl rfl rfl rfl (lb rfl) fun a S => ?_
  refine sLoad1 (p := b2) (off := 0) (T := 27) (vs := [.int .u8 p0.System, iv p0.N.Num, iv p0.N.Den]) 0 (.int .u8 p0.System) S (wG 3 false 6 rfl rfl rfl hc7) rfl rfl rfl rfl rfl rfl (lb rfl) fun a S => ?_
  refine sBin (.bool (decide (4 < p0.System))) S (wG 3 false 6 rfl rfl rfl hc7) rfl rfl rfl (bGt _ _ _ _ .u8 p0.System 4) rfl (lb rfl) fun a S => ?_
  refine sPickF (.bool (decide (4 < p0.System))) S (wN rfl) rfl rfl hc7 rfl rfl (lb rfl) fun a S => ?_
  refine sMove (.bool (decide (4 < p0.System))) S (wN rfl) (.inl rfl) rfl rfl (lb rfl) fun a S => ?_
  rcases iteSome h with ⟨hc8, h⟩ | ⟨hc8, h⟩
  · refine sSkip 8 false 11 12 S rfl rfl rfl hc8 rfl (lb rfl) fun a S => ?_
    refine sSkip 8 false 11 13 S rfl rfl rfl hc8 rfl (lb rfl) fun a S => ?_
    refine sSkip 8 false 11 14 S rfl rfl rfl hc8 rfl (lb rfl) fun a S => ?_
    refine sSkip 8 false 11 15 S rfl rfl rfl hc8 rfl (lb rfl) fun a S => ?_
    refine sPickT (.bool true) S (wN rfl) rfl rfl hc8 rfl rfl (lb rfl) fun a S => ?_
    refine sMove (.bool true) S (wN rfl) (.inl rfl) rfl rfl (lb rfl) fun a S => ?_
    refine sSkip 14 false 17 18 S rfl rfl rfl rfl rfl (lb rfl) fun a S => ?_
    refine sSkip 14 false 17 19 S rfl rfl rfl rfl rfl (lb rfl) fun a S => ?_
    refine sSkip 14 false 17 20 S rfl rfl rfl rfl rfl (lb rfl) fun a S => ?_
    refine sSkip 14 false 17 21 S rfl rfl rfl rfl rfl (lb rfl) fun a S => ?_
    refine sPickT (.bool true) S (wN rfl) rfl rfl rfl rfl rfl (lb rfl) fun a S => ?_
    exact leafL (leafT (⟨true, Option.some.inj h, S.fix [] [] (by decide) rfl rfl rfl⟩))
  refine sField (b := b2) (off := 0) 1 1 S (wG 8 false 11 rfl rfl rfl hc8) rfl rfl rfl rfl rfl (lb rfl) fun a S => ?_
  refine sLoadN (p := b2) (off := 1) (T := 27) (vs := [.int .u8 p0.System, iv p0.N.Num, iv p0.N.Den]) 0 [iv p0.N.Num, iv p0.N.Den] S (wG 8 false 11 rfl rfl rfl hc8) rfl rfl rfl rfl rfl rfl rfl (lb rfl) fun a S => ?_
  obtain ⟨r9, hx10, h⟩ := bindSome h
  have S1 := S.mem
  have S1 := S1.learn (fRep r_api_Ratio (.agg #[iv p0.N.Num, iv p0.N.Den]) p0.N) rfl
  refine sCallQ (X := Unit) (f := 25) (vs := [.agg #[iv p0.N.Num, iv p0.N.Den]]) (val := fun _ => iv r9) S (wG 8 false 11 rfl rfl rfl hc8) rfl callee25 rfl (S1.quiet [0] rfl) (fun E1 w1 S1 => c_raddleref23_Check E1 w1 p0.N (.agg #[iv p0.N.Num, iv p0.N.Den]) r9 hx10 S1) rfl (lb rfl) fun _ a w S => ?_
  refine sBin (.bool (r9 != 0)) S (wG 8 false 11 rfl rfl rfl hc8) rfl rfl rfl (bNe _ _ _ _ .i64 r9 0) rfl (lb rfl) fun a S => ?_
  refine sPickF (.bool (r9 != 0)) S (wN rfl) rfl rfl hc8 rfl rfl (lb rfl) fun a S => ?_
  refine sMove (.bool (r9 != 0)) S (wN rfl) (.inl rfl) rfl rfl (lb rfl) fun a S => ?_
  rcases iteSome h with ⟨hc11, h⟩ | ⟨hc11, h⟩
  · refine sSkip 14 false 17 18 S rfl rfl rfl hc11 rfl (lb rfl) fun a S => ?_
    refine sSkip 14 false 17 19 S rfl rfl rfl hc11 rfl (lb rfl) fun a S => ?_
    refine sSkip 14 false 17 20 S rfl rfl rfl hc11 rfl (lb rfl) fun a S => ?_
    refine sSkip 14 false 17 21 S rfl rfl rfl hc11 rfl (lb rfl) fun a S => ?_
    refine sPickT (.bool true) S (wN rfl) rfl rfl hc11 rfl rfl (lb rfl) fun a S => ?_
    exact leafL (leafT (⟨true, Option.some.inj h, S.fix [] [] (by decide) rfl rfl rfl⟩))
  refine sField (b := b2) (off := 0) 1 1 S (wG 14 false 17 rfl rfl rfl hc11) rfl rfl rfl rfl rfl (lb rfl) fun a S => ?_
  refine sField (b := b2) (off := 1) 0 1 S (wG 14 false 17 rfl rfl rfl hc11) rfl rfl rfl rfl rfl (lb rfl) fun a S => ?_
  refine sLoad1 (p := b2) (off := 1) (T := 27) (vs := [.int .u8 p0.System, iv p0.N.Num, iv p0.N.Den]) 0 (iv p0.N.Num) S (wG 14 false 17 rfl rfl rfl hc11) rfl rfl rfl rfl rfl rfl (lb rfl) fun a S => ?_
  refine sBin (.bool (decide (p0.N.Num < 1))) S (wG 14 false 17 rfl rfl rfl hc11) rfl rfl rfl (bLt _ _ _ _ .i64 p0.N.Num 1) rfl (lb rfl) fun a S => ?_
  refine sPickF (.bool (decide (p0.N.Num < 1))) S (wN rfl) rfl rfl hc11 rfl rfl (lb rfl) fun a S => ?_
  exact leafL (leafT (⟨decide (p0.N.Num < 1), Option.some.inj h, S.fix [] [] (by decide) rfl rfl rfl⟩))

end Go.Proofs.Ytdbgkakmhlmpbaa
namespace Go.Proofs.Ytdbgkakmhlmpbaa
open Go.RowKit
set_option linter.unusedVariables false

/-- what a valid count is -/
structure Cn (c : api_Count) (x y : Nat) : Prop where
  s0 : 1 ≤ c.System
  s1 : c.System ≤ 4
  n : c.N = ⟨(x : Int), (y : Int)⟩
  x0 : 1 ≤ x
  x1 : x ≤ 1000000000
  y0 : 1 ≤ y
  y1 : y ≤ 1000000000
  g : Nat.gcd x y = 1
theorem sys_cases {s : Int} (h0 : 1 ≤ s) (h1 : s ≤ 4) : s = 1 ∨ s = 2 ∨ s = 3 ∨ s = 4 := by omega
theorem counted_eq (c : api_Count) (wc : wf_api_Count c) : ∃ e, F_yarn_counted c = some e ∧ F_raddleref23_Counted c = some e ∧ (e = 0 ∨ e = 8) ∧ (e = 0 → ∃ x y, Cn c x y) := by
  have wn := inK_64 wc.2.1
  have wd := inK_64 wc.2.2
  obtain ⟨e1, h1⟩ := ycheck_some c.N
  obtain ⟨e2, h2⟩ := rcheck_some c.N
  by_cases hs : 1 ≤ c.System ∧ c.System ≤ 4
  case neg =>
    refine ⟨8, ?_, ?_, .inr rfl, fun h => by cases h⟩
    · unfold F_yarn_counted F_yarn_factors
      simp only [bF (show ¬ c.System = 1 by omega), bF (show ¬ c.System = 2 by omega), bF (show ¬ c.System = 3 by omega), bF (show ¬ c.System = 4 by omega), Bool.false_eq_true, if_false, Option.bind_some, Bool.not_false, if_true]
    · unfold F_raddleref23_Counted
      by_cases h : c.System < 1
      · simp only [dT h, if_true, Option.bind_some]
      · simp only [dF h, dT (show 4 < c.System by omega), Bool.false_eq_true, if_false, if_true, Option.bind_some]
  have hf : ∃ p q g, F_yarn_factors c.System = some (p, q, g, true) := by
    unfold F_yarn_factors
    rcases sys_cases hs.1 hs.2 with h | h | h | h <;> rw [h]
    · exact ⟨_, _, _, rfl⟩
    · exact ⟨_, _, _, rfl⟩
    · exact ⟨_, _, _, rfl⟩
    · exact ⟨_, _, _, rfl⟩
  obtain ⟨p, q, gr, hf⟩ := hf
  by_cases hn : 1 ≤ c.N.Num
  case neg =>
    refine ⟨8, ?_, ?_, .inr rfl, fun h => by cases h⟩
    · unfold F_yarn_counted
      simp only [hf, h1, Option.bind_some, Bool.not_true, Bool.false_eq_true, if_false, dT (show c.N.Num ≤ 0 by omega)]
      cases (e1 != 0) <;> rfl
    · unfold F_raddleref23_Counted
      simp only [h2, dF (show ¬ c.System < 1 by omega), dF (show ¬ 4 < c.System by omega), Option.bind_some, Bool.false_eq_true, if_false, dT (show c.N.Num < 1 by omega)]
      cases (e2 != 0) <;> rfl
  by_cases hd : 1 ≤ c.N.Den
  case neg =>
    have k1 : F_yarn_Check c.N = some 8 := by unfold F_yarn_Check; simp [show c.N.Den < 1 by omega]
    have k2 : F_raddleref23_Check c.N = some 8 := by unfold F_raddleref23_Check; simp [show c.N.Den < 1 by omega]
    refine ⟨8, ?_, ?_, .inr rfl, fun h => by cases h⟩
    · unfold F_yarn_counted
      simp only [hf, k1, Option.bind_some, Bool.not_true, Bool.false_eq_true, if_false, nT (show ¬ (8 : Int) = 0 by omega), if_true]
    · unfold F_raddleref23_Counted
      simp only [k2, dF (show ¬ c.System < 1 by omega), dF (show ¬ 4 < c.System by omega), Option.bind_some, Bool.false_eq_true, if_false, nT (show ¬ (8 : Int) = 0 by omega), if_true]
  obtain ⟨x, hx⟩ : ∃ x : Nat, c.N.Num = x := ⟨c.N.Num.toNat, by omega⟩
  obtain ⟨y, hy⟩ : ∃ y : Nat, c.N.Den = y := ⟨c.N.Den.toNat, by omega⟩
  have hN : c.N = ⟨(x : Int), (y : Int)⟩ := by rw [← hx, ← hy]
  have k1 := ycheck_pos x y (by omega) (by omega)
  have k2 := rcheck_eq x y
  unfold F_yarn_counted F_raddleref23_Counted
  simp only [hf, dF (show ¬ c.System < 1 by omega), dF (show ¬ 4 < c.System by omega), hN, k1, k2, Option.bind_some, Bool.not_true, Bool.false_eq_true, if_false, dF (show ¬ (x : Int) ≤ 0 by omega), dF (show ¬ (x : Int) < 1 by omega)]
  by_cases hv : 1 ≤ y ∧ y ≤ 1000000000 ∧ x ≤ 1000000000 ∧ Nat.gcd x y = 1
  · rw [if_pos hv]
    exact ⟨0, rfl, rfl, .inl rfl, fun _ => ⟨x, y, hs.1, hs.2, hN, by omega, hv.2.2.1, hv.1, hv.2.1, hv.2.2.2⟩⟩
  · rw [if_neg hv]
    exact ⟨8, rfl, rfl, .inr rfl, fun h => by cases h⟩
theorem wmul {a b : Nat} (h : a * b ≤ 9223372036854775807) : w64 ((a : Int) * (b : Int)) = ((a * b : Nat) : Int) := by
  rw [← Int.natCast_mul, w64_of (by omega) (by omega)]
/-- the numbers that Convert makes a count of tex of -/
def tN (s : Int) (x y : Nat) : Nat := if s = 1 then x else if s = 2 then x else if s = 3 then 1000 * y else 32399455 * y
def tD (s : Int) (x y : Nat) : Nat := if s = 1 then y else if s = 2 then 9 * y else if s = 3 then x else 54864 * x
theorem tb (s : Int) {x y : Nat} (x0 : 1 ≤ x) (x1 : x ≤ 1000000000) (y0 : 1 ≤ y) (y1 : y ≤ 1000000000) : 0 < tN s x y ∧ tN s x y ≤ 9000000000000000000 ∧ 0 < tD s x y ∧ tD s x y ≤ 9000000000000000000 := by
  unfold tN tD
  split
  · omega
  · split
    · omega
    · split <;> omega
/-- a count of tex: the answer of both -/
def tx (s : Int) (x y : Nat) : api_Count × Int := if (mk (tN s x y) (tD s x y)).2 = 0 then (⟨1, (mk (tN s x y) (tD s x y)).1⟩, 0) else (⟨0, ⟨0, 0⟩⟩, 16)
theorem conv_tail (X Y : Nat) (hX0 : 0 < X) (hY0 : 0 < Y) (hX : X ≤ 9000000000000000000) (hY : Y ≤ 9000000000000000000) :
    (Option.bind (F_yarn_Make (X : Int) (Y : Int)) fun r57 => if (r57.2 != 0) = true then some ((api_Count.mk 0 (api_Ratio.mk 0 0)), r57.2) else if (r57.1.Num == 0) = true then some ((api_Count.mk 0 (api_Ratio.mk 0 0)), 16) else some ((api_Count.mk 1 r57.1), 0)) =
      some (if (mk X Y).2 = 0 then ((⟨1, (mk X Y).1⟩ : api_Count), 0) else (⟨0, ⟨0, 0⟩⟩, 16)) := by
  rw [ymake_eq X Y (by omega) (by omega) hY0, Option.bind_some]
  rcases mk_cases X Y hY0 with ⟨a, b, q, e, h1, h2, h3, h4, h5, h6, h7⟩ | e
  · have ha : a ≠ 0 := by rintro rfl; rw [Nat.zero_mul] at h1; omega
    rw [e]
    simp only [bne_self_eq_false, bF (show ¬ (a : Int) = 0 by omega), Bool.false_eq_true, if_false, if_true]
  · rw [e]
    simp only [nT (show ¬ (16 : Int) = 0 by omega), if_true, show ¬ (16 : Int) = 0 by omega, if_false]
theorem yconv_eq {c : api_Count} {x y : Nat} (C : Cn c x y) (hc : F_yarn_counted c = some 0) : F_yarn_Convert c 1 = some (tx c.System x y) := by
  have x1 := C.x1
  have y1 := C.y1
  have x0 := C.x0
  have y0 := C.y0
  have hb := tb c.System x0 x1 y0 y1
  have ht := conv_tail (tN c.System x y) (tD c.System x y) hb.1 hb.2.2.1 hb.2.1 hb.2.2.2
  unfold F_yarn_Convert tx
  rw [hc, ← ht]
  have hN : c.N.Num = (x : Int) := by rw [C.n]
  have hD : c.N.Den = (y : Int) := by rw [C.n]
  have f1 : F_yarn_factors 1 = some (1, 1, true, true) := rfl
  simp only [Option.bind_some, bne_self_eq_false, Bool.false_eq_true, if_false, f1, Bool.not_true, hN, hD]
  rcases sys_cases C.s0 C.s1 with h | h | h | h <;> rw [h]
  · have f2 : F_yarn_factors 1 = some (1, 1, true, true) := rfl
    have k1 : F_yarn_gcd (IntKind.u64.wrap (w64 (1 * 1))) (IntKind.u64.wrap (w64 (1 * 1))) = some 1 := ygcd_eq 1 1
    have k2 : quoI (w64 (1 * 1)) (IntKind.i64.wrap 1) = some 1 := rfl
    have k3 : w64 (1 * (x : Int)) = ((tN 1 x y : Nat) : Int) := wmul (a := 1) (b := x) (by omega) |>.trans (by simp [tN])
    have k4 : w64 (1 * (y : Int)) = ((tD 1 x y : Nat) : Int) := wmul (a := 1) (b := y) (by omega) |>.trans (by simp [tD])
    simp only [f2, Option.bind_some, Bool.not_true, Bool.false_eq_true, if_false, if_true, k1, k2, bne_self_eq_false, k3, k4]
  · have f2 : F_yarn_factors 2 = some (1, 9, true, true) := rfl
    have k1 : F_yarn_gcd (IntKind.u64.wrap (w64 (1 * 1))) (IntKind.u64.wrap (w64 (9 * 1))) = some 1 := ygcd_eq 1 9
    have k2 : quoI (w64 (1 * 1)) (IntKind.i64.wrap 1) = some 1 := rfl
    have k2' : quoI (w64 (9 * 1)) (IntKind.i64.wrap 1) = some 9 := rfl
    have k3 : w64 (1 * (x : Int)) = ((tN 2 x y : Nat) : Int) := wmul (a := 1) (b := x) (by omega) |>.trans (by simp [tN])
    have k4 : w64 (9 * (y : Int)) = ((tD 2 x y : Nat) : Int) := wmul (a := 9) (b := y) (by omega) |>.trans (by simp [tD])
    simp only [f2, Option.bind_some, Bool.not_true, Bool.false_eq_true, if_false, if_true, k1, k2, k2', bne_self_eq_false, k3, k4]
  · have f2 : F_yarn_factors 3 = some (1000, 1, false, true) := rfl
    have k1 : F_yarn_gcd (IntKind.u64.wrap (w64 (1000 * 1))) (IntKind.u64.wrap (w64 (1 * 1))) = some 1 := ygcd_eq 1000 1
    have k2 : quoI (w64 (1000 * 1)) (IntKind.i64.wrap 1) = some 1000 := rfl
    have k2' : quoI (w64 (1 * 1)) (IntKind.i64.wrap 1) = some 1 := rfl
    have k3 : w64 (1000 * (y : Int)) = ((tN 3 x y : Nat) : Int) := wmul (a := 1000) (b := y) (by omega) |>.trans (by simp [tN])
    have k4 : w64 (1 * (x : Int)) = ((tD 3 x y : Nat) : Int) := wmul (a := 1) (b := x) (by omega) |>.trans (by simp [tD])
    simp only [f2, Option.bind_some, Bool.not_true, Bool.not_false, Bool.false_eq_true, if_false, if_true, k1, k2, k2', show (false != true) = true from rfl, k3, k4]
  · have f2 : F_yarn_factors 4 = some (226796185, 384048, false, true) := rfl
    have k1 : F_yarn_gcd (IntKind.u64.wrap (w64 (226796185 * 1))) (IntKind.u64.wrap (w64 (384048 * 1))) = some 7 := (ygcd_eq 226796185 384048).trans (by rw [show Nat.gcd 226796185 384048 = 7 by decide]; rfl)
    have k2 : quoI (w64 (226796185 * 1)) (IntKind.i64.wrap 7) = some 32399455 := rfl
    have k2' : quoI (w64 (384048 * 1)) (IntKind.i64.wrap 7) = some 54864 := rfl
    have k3 : w64 (32399455 * (y : Int)) = ((tN 4 x y : Nat) : Int) := wmul (a := 32399455) (b := y) (by omega) |>.trans (by simp [tN])
    have k4 : w64 (54864 * (x : Int)) = ((tD 4 x y : Nat) : Int) := wmul (a := 54864) (b := x) (by omega) |>.trans (by simp [tD])
    simp only [f2, Option.bind_some, Bool.not_true, Bool.not_false, Bool.false_eq_true, if_false, if_true, k1, k2, k2', show (false != true) = true from rfl, k3, k4]
/-- what is known of a count of tex -/
theorem tx_cases {s : Int} {x y : Nat} (x0 : 1 ≤ x) (x1 : x ≤ 1000000000) (y0 : 1 ≤ y) (y1 : y ≤ 1000000000) :
    (∃ a b : Nat, tx s x y = (⟨1, ⟨(a : Int), (b : Int)⟩⟩, 0) ∧ 0 < a ∧ a ≤ 1000000000 ∧ 0 < b ∧ b ≤ 1000000000 ∧ Nat.gcd a b = 1) ∨ tx s x y = (⟨0, ⟨0, 0⟩⟩, 16) := by
  have hb := tb s x0 x1 y0 y1
  unfold tx
  rcases mk_cases (tN s x y) (tD s x y) hb.2.2.1 with ⟨a, b, q, e, h1, h2, h3, h4, h5, h6, h7⟩ | e
  · have ha : 0 < a := by
      rcases Nat.eq_zero_or_pos a with rfl | h
      · rw [Nat.zero_mul] at h1; omega
      · exact h
    exact .inl ⟨a, b, by rw [e]; rfl, ha, h5, h4, h6, h7⟩
  · exact .inr (by rw [e]; rfl)

end Go.Proofs.Ytdbgkakmhlmpbaa
namespace Go.Proofs.Ytdbgkakmhlmpbaa
open Go.RowKit
set_option linter.unusedVariables false

theorem weigh_val (c : api_Count) (wc : wf_api_Count c) : (∀ len, ∃ r, F_yarn_Weigh c len = some r ∧ r.2 ≠ 0) ∨
    (∃ a b : Nat, 0 < a ∧ a ≤ 1000000000 ∧ 0 < b ∧ b ≤ 1000000000 ∧ (∀ len : Int, (len < 0 ∨ 1000000000 < len) → ∃ r, F_yarn_Weigh c len = some r ∧ r.2 ≠ 0) ∧ ∀ L : Nat, L ≤ 1000000000 → F_yarn_Weigh c (L : Int) = some (mk (L * a) (10000 * b))) := by
  obtain ⟨e, c1, c2, c3, c4⟩ := counted_eq c wc
  rcases c3 with rfl | rfl
  case inr =>
    refine .inl fun len => ?_
    unfold F_yarn_Weigh
    simp only [c1, Option.bind_some, nT (show ¬ (8 : Int) = 0 by omega), if_true]
    exact ⟨_, rfl, by simp⟩
  obtain ⟨x, y, C⟩ := c4 rfl
  have out : ∀ len : Int, (len < 0 ∨ 1000000000 < len) → ∃ r, F_yarn_Weigh c len = some r ∧ r.2 ≠ 0 := by
    intro len h
    unfold F_yarn_Weigh
    simp only [c1, Option.bind_some, bne_self_eq_false, Bool.false_eq_true, if_false]
    by_cases l0 : len < 0
    · simp only [dT l0, if_true, Option.bind_some]
      exact ⟨_, rfl, by simp⟩
    · simp only [dF l0, dT (show (1000000000 : Int) < len by omega), Bool.false_eq_true, if_false, if_true, Option.bind_some]
      exact ⟨_, rfl, by simp⟩
  rcases tx_cases (s := c.System) C.x0 C.x1 C.y0 C.y1 with ⟨a, b, e, a0, a1, b0, b1, _⟩ | e
  case inr =>
    refine .inl fun len => ?_
    by_cases h : len < 0 ∨ 1000000000 < len
    · exact out len h
    · unfold F_yarn_Weigh
      simp only [c1, Option.bind_some, bne_self_eq_false, Bool.false_eq_true, if_false, yconv_eq C c1, dF (show ¬ len < 0 by omega), dF (show ¬ (1000000000 : Int) < len by omega), e, nT (show ¬ (16 : Int) = 0 by omega), if_true]
      exact ⟨_, rfl, by simp⟩
  refine .inr ⟨a, b, a0, a1, b0, b1, out, fun L hL => ?_⟩
  have hL2 : L * a ≤ 1000000000 * 1000000000 := Nat.mul_le_mul hL a1
  have k1 : w64 ((L : Int) * (a : Int)) = ((L * a : Nat) : Int) := wmul (by omega)
  have k2 : w64 (10000 * (b : Int)) = ((10000 * b : Nat) : Int) := wmul (a := 10000) (by omega)
  unfold F_yarn_Weigh
  simp only [c1, Option.bind_some, bne_self_eq_false, Bool.false_eq_true, if_false, yconv_eq C c1, dF (show ¬ (L : Int) < 0 by omega), dF (show ¬ (1000000000 : Int) < (L : Int) by omega), e, k1, k2, ymake_eq (L * a) (10000 * b) (by omega) (by omega) (by omega)]
/-- the least whole number of parts b that is at least a -/
def ceilN (a b : Nat) : Nat := if a % b ≠ 0 then a / b + 1 else a / b
theorem ceil_le {a b k : Nat} (hb : 0 < b) : ceilN a b ≤ k ↔ a ≤ k * b := by
  have h1 := Nat.div_add_mod a b
  have h2 := Nat.mod_lt a hb
  have hc : b * (a / b) = a / b * b := Nat.mul_comm _ _
  unfold ceilN
  by_cases hm : a % b ≠ 0
  · rw [if_pos hm]
    constructor
    · intro h
      have := Nat.mul_le_mul_right b h
      rw [Nat.add_mul, Nat.one_mul] at this
      omega
    · intro h
      by_cases hk : a / b + 1 ≤ k
      · exact hk
      · have := Nat.mul_le_mul_right b (show k ≤ a / b by omega)
        omega
  · rw [if_neg hm]
    constructor
    · intro h
      have := Nat.mul_le_mul_right b h
      omega
    · intro h
      by_cases hk : a / b ≤ k
      · exact hk
      · have := Nat.mul_le_mul_right b (show k + 1 ≤ a / b by omega)
        rw [Nat.add_mul, Nat.one_mul] at this
        omega
theorem ceil_bd {a b : Nat} (hb : 0 < b) : ceilN a b ≤ a := (ceil_le hb).2 (by have := Nat.mul_le_mul_left a hb; omega)
theorem skeins_val {c : api_Count} {len wt : Int} {r : api_Ratio × Int} (h : F_yarn_Weigh c len = some r) (hr : r.2 = 0) {a b : Nat} (he : r.1 = ⟨(a : Int), (b : Int)⟩) (b0 : 0 < b) (a1 : a ≤ 1000000000) (b1 : b ≤ 1000000000) :
    (∃ t, F_yarn_Skeins c len wt = some t ∧ t.2 ≠ 0) ∨ (∃ W : Nat, wt = W ∧ 1 ≤ W ∧ W ≤ 1000000000 ∧ F_yarn_Skeins c len wt = some (((ceilN a (b * W) : Nat) : Int), 0)) := by
  unfold F_yarn_Skeins
  simp only [h, Option.bind_some, nF hr, Bool.false_eq_true, if_false, he]
  by_cases l0 : wt < 1
  · left
    simp only [dT l0, if_true, Option.bind_some]; exact ⟨_, rfl, by simp⟩
  by_cases l1 : 1000000000 < wt
  · left
    simp only [dF l0, dT l1, Bool.false_eq_true, if_true, if_false, Option.bind_some]; exact ⟨_, rfl, by simp⟩
  right
  obtain ⟨W, rfl⟩ : ∃ W : Nat, wt = W := ⟨wt.toNat, by omega⟩
  refine ⟨W, rfl, by omega, by omega, ?_⟩
  simp only [dF l0, dF l1, Bool.false_eq_true, if_false, Option.bind_some]
  have hD : b * W ≤ 1000000000 * 1000000000 := Nat.mul_le_mul b1 (by omega)
  have hD0 : 0 < b * W := Nat.mul_pos b0 (by omega)
  have k1 : w64 ((b : Int) * (W : Int)) = ((b * W : Nat) : Int) := wmul (by omega)
  have k2 : w64 (0 - (a : Int)) = -(a : Int) := by rw [w64_of (by omega) (by omega)]; omega
  have hq : a / (b * W) ≤ a := Nat.div_le_self _ _
  have hml := Nat.mod_lt a hD0
  have k4 : quoI (-(a : Int)) ((b * W : Nat) : Int) = some (-((a / (b * W) : Nat) : Int)) := by
    unfold quoI
    rw [if_neg (by omega)]
    have : (-(a : Int)).tdiv ((b * W : Nat) : Int) = -((a / (b * W) : Nat) : Int) := by rw [Int.neg_tdiv]; rfl
    have hz : w64 (-((a / (b * W) : Nat) : Int)) = -((a / (b * W) : Nat) : Int) := by
      generalize a / (b * W) = q at *
      exact w64_of (by omega) (by omega)
    rw [this, hz]
  have k5 : remI (-(a : Int)) ((b * W : Nat) : Int) = some (-((a % (b * W) : Nat) : Int)) := by
    unfold remI
    rw [if_neg (by omega)]
    have : (-(a : Int)).tmod ((b * W : Nat) : Int) = -((a % (b * W) : Nat) : Int) := by rw [Int.neg_tmod]; rfl
    rw [this]
  unfold F_yarn_floor
  simp only [k1, k2, k4, k5, Option.bind_some]
  unfold ceilN
  generalize a / (b * W) = q at *
  generalize a % (b * W) = m at *
  by_cases hm : m = 0
  · subst hm
    simp only [dF (show ¬ -((0 : Nat) : Int) < 0 by omega), Bool.false_eq_true, if_false, Option.bind_some, ne_eq, not_true_eq_false]
    rw [w64_of (by omega) (by omega)]
    congr 2
    omega
  · simp only [dT (show -(m : Int) < 0 by omega), if_true, Option.bind_some, ne_eq, hm, not_false_eq_true]
    have k8 : w64 (-(q : Int) - 1) = -(q : Int) - 1 := w64_of (by omega) (by omega)
    rw [k8, w64_of (by omega) (by omega)]
    congr 2
    omega
/-- a ratio in lowest terms depends on its value alone -/
theorem low_eq {x y g x' y' g' X Y X' Y' : Nat} (h1 : x * g = X) (h2 : y * g = Y) (h3 : x' * g' = X') (h4 : y' * g' = Y') (h0 : 0 < g) (h0' : 0 < g') (k : Nat.gcd x y = 1) (k' : Nat.gcd x' y' = 1) (h : X * Y' = X' * Y) : x = x' ∧ y = y' := by
  subst h1 h2 h3 h4
  have h5 : x * y' = x' * y := by
    have e1 : x * y' * (g * g') = x * g * (y' * g') := by ac_rfl
    have e2 : x' * y * (g * g') = x' * g' * (y * g) := by ac_rfl
    exact Nat.eq_of_mul_eq_mul_right (Nat.mul_pos h0 h0') (by rw [e1, e2, h])
  have c1 : Nat.Coprime x y := k
  have c2 : Nat.Coprime x' y' := k'
  have a1 : x ∣ x' := c1.dvd_of_dvd_mul_right ⟨y', h5.symm⟩
  have a2 : x' ∣ x := c2.dvd_of_dvd_mul_right ⟨y, h5⟩
  have a3 : y ∣ y' := c1.symm.dvd_of_dvd_mul_left ⟨x', by rw [h5, Nat.mul_comm]⟩
  have a4 : y' ∣ y := c2.symm.dvd_of_dvd_mul_left ⟨x, by rw [← h5, Nat.mul_comm]⟩
  exact ⟨Nat.dvd_antisymm a1 a2, Nat.dvd_antisymm a3 a4⟩
theorem mk_ratio {X Y X' Y' : Nat} (hY : 0 < Y) (hY' : 0 < Y') (h : X * Y' = X' * Y) : mk X Y = mk X' Y' := by
  have key := low_eq (Nat.div_mul_cancel (Nat.gcd_dvd_left X Y)) (Nat.div_mul_cancel (Nat.gcd_dvd_right X Y)) (Nat.div_mul_cancel (Nat.gcd_dvd_left X' Y')) (Nat.div_mul_cancel (Nat.gcd_dvd_right X' Y')) (Nat.gcd_pos_of_pos_right X hY) (Nat.gcd_pos_of_pos_right X' hY') (Nat.gcd_div_gcd_div_gcd_of_pos_right hY) (Nat.gcd_div_gcd_div_gcd_of_pos_right hY') h
  unfold mk
  rw [key.1, key.2]

end Go.Proofs.Ytdbgkakmhlmpbaa
namespace Go.Proofs.Ytdbgkakmhlmpbaa
open Go.RowKit
set_option linter.unusedVariables false

noncomputable def F_raddlelaw45_over (p0 : api_Ratio) (p1 : Int) (p2 : Int) : Option Bool :=
  Option.bind (quoI p0.Num p0.Den) fun z4 =>
  Option.bind (α := Int) (
    Option.bind (remI p0.Num p0.Den) fun z10 =>
    if z10 != 0 then
      some (w64 (z4 + 1))
    else
      some z4) fun o6 =>
  some (decide (o6 ≤ (w64 (p1 * p2))))
set_option maxHeartbeats 4000000 in
set_option maxRecDepth 100000 in
theorem c_raddlelaw45_over (E : Nat → Prop) (w0 : World) (p0 : api_Ratio) (v0 : Value) (p1 : Int) (p2 : Int) (r : Bool) (h : F_raddlelaw45_over p0 p1 p2 = some r) (S : St0 E [] w0 w0 [] [fRep r_api_Ratio (v0) p0]) :
    Calls Try.prog 26 #[v0, iv p1, iv p2] w0 (Ret (X := Unit) E [] w0 (fun _ => .bool r) (fun _ => []) (fun _ => [])) := by
  unfold F_raddlelaw45_over at h
  obtain rfl : v0 = .agg #[iv p0.Num, iv p0.Den] := S.know (i := 0) (e := fRep r_api_Ratio (v0) p0) rfl
  refine sEnter (args := [.agg #[iv p0.Num, iv p0.Den], iv p1, iv p2]) 26 Try.func26 rfl rfl (by simp) S (fun a S => ?_)
  refine sSeq (fun K1 hK1 => ?_)
  refine sRegion ?_
  refine sBox (v := .agg #[iv p0.Num, iv p0.Den]) S (wN rfl) rfl rfl [iv p0.Num, iv p0.Den] rfl rfl (lb rfl) fun a b2 w S => ?_
  refine sMove (.bool false) S (wN rfl) (.inr rfl) rfl rfl (lb rfl) fun a S => ?_
  refine leafL (leafT (hK1 _ _ ?_))
  refine sSeq (fun K3 hK3 => ?_)
  refine sRegion ?_
  refine sField (b := b2) (off := 0) 0 0 S (wN rfl) rfl rfl rfl rfl rfl (lb rfl) fun a S => ?_
  refine sLoad1 (p := b2) (off := 0) (T := 25) (vs := [iv p0.Num, iv p0.Den]) 0 (iv p0.Num) S (wN rfl) rfl rfl rfl rfl rfl rfl (lb rfl) fun a S => ?_
  refine sField (b := b2) (off := 0) 1 1 S (wN rfl) rfl rfl rfl rfl rfl (lb rfl) fun a S => ?_
  refine sLoad1 (p := b2) (off := 1) (T := 25) (vs := [iv p0.Num, iv p0.Den]) 0 (iv p0.Den) S (wN rfl) rfl rfl rfl rfl rfl rfl (lb rfl) fun a S => ?_
  obtain ⟨z4, hx5, h⟩ := bindSome h
  refine sBin (iv z4) S (wN rfl) rfl rfl rfl (bQuo _ _ _ _ (x := p0.Num) (y := p0.Den) hx5) rfl (lb rfl) fun a S => ?_
  refine sMove (iv z4) S (wN rfl) (.inr rfl) rfl rfl (lb rfl) fun a S => ?_
  refine leafL (leafT (hK3 _ _ ?_))
  obtain ⟨t7, h, g8⟩ := bindSome h
  refine sCut (fun a w => ∃ o6, o6 = t7 ∧ St [] E [] w0 26 a w [(1, iv p1), (2, iv p2), (7, iv o6)] [] []) ?_ (fun a w hI => ?_)
  rotate_left
  · obtain ⟨o6, rfl, S⟩ := hI
    have h := g8
    clear g8
    try dsimp only at h
    refine sSeq (fun K13 hK13 => ?_)
    refine sRegion ?_
    refine sMove (iv p1) S (wN rfl) (.inl rfl) rfl rfl (lb rfl) fun a S => ?_
    refine sMove (iv p2) S (wN rfl) (.inl rfl) rfl rfl (lb rfl) fun a S => ?_
    refine sBin (iv (w64 (p1 * p2))) S (wN rfl) rfl rfl rfl (bMul _ _ _ _ p1 p2) rfl (lb rfl) fun a S => ?_
    refine sMove (iv o6) S (wN rfl) (.inl rfl) rfl rfl (lb rfl) fun a S => ?_
    refine sBin (.bool (decide (o6 ≤ (w64 (p1 * p2))))) S (wN rfl) rfl rfl rfl (bGe _ _ _ _ .i64 (w64 (p1 * p2)) o6) rfl (lb rfl) fun a S => ?_
    refine sMove (.bool (decide (o6 ≤ (w64 (p1 * p2))))) S (wN rfl) (.inr rfl) rfl rfl (lb rfl) fun a S => ?_
    refine leafL (leafT (hK13 _ _ ?_))
    obtain rfl := Option.some.inj h
    exact wp_ret (sRet (.bool (decide (o6 ≤ (w64 (p1 * p2))))) S (rsl1 rfl (rvT (t := 6) (v := .bool (decide (o6 ≤ (w64 (p1 * p2))))) S rfl)) ⟨(), rfl, S.mem.sel [] [] (by decide) rfl rfl⟩)
  refine sSeq (fun K9 hK9 => ?_)
  refine sRegion ?_
  refine sField (b := b2) (off := 0) 0 0 S (wN rfl) rfl rfl rfl rfl rfl (lb rfl) fun a S => ?_
  refine sLoad1 (p := b2) (off := 0) (T := 25) (vs := [iv p0.Num, iv p0.Den]) 0 (iv p0.Num) S (wN rfl) rfl rfl rfl rfl rfl rfl (lb rfl) fun a S => ?_
  refine sField (b := b2) (off := 0) 1 1 S (wN rfl) rfl rfl rfl rfl rfl (lb rfl) fun a S => ?_
  refine sLoad1 (p := b2) (off := 1) (T := 25) (vs := [iv p0.Num, iv p0.Den]) 0 (iv p0.Den) S (wN rfl) rfl rfl rfl rfl rfl rfl (lb rfl) fun a S => ?_
  obtain ⟨z10, hx11, h⟩ := bindSome h
  refine sBin (iv z10) S (wN rfl) rfl rfl rfl (bRem _ _ _ _ (x := p0.Num) (y := p0.Den) hx11) rfl (lb rfl) fun a S => ?_
  refine sBin (.bool (z10 != 0)) S (wN rfl) rfl rfl rfl (bNe _ _ _ _ .i64 z10 0) rfl (lb rfl) fun a S => ?_
  refine leafL (leafT (hK9 _ _ ?_))
  rcases iteSome h with ⟨hc12, h⟩ | ⟨hc12, h⟩
  rotate_left
  · refine sCondF S rfl hc12 ?_
    exact wp_skip (leafT (⟨z4, Option.some.inj h, S.fix [] [] (by decide) rfl rfl rfl⟩))
  refine sCondT S rfl hc12 ?_
  refine sRegion ?_
  refine sMove (iv z4) S (wN rfl) (.inl rfl) rfl rfl (lb rfl) fun a S => ?_
  refine sBin (iv (w64 (z4 + 1))) S (wN rfl) rfl rfl rfl (bAdd _ _ _ _ z4 1) rfl (lb rfl) fun a S => ?_
  refine sMove (iv (w64 (z4 + 1))) S (wN rfl) (.inr rfl) rfl rfl (lb rfl) fun a S => ?_
  exact leafL (leafT (⟨w64 (z4 + 1), Option.some.inj h, S.fix [] [] (by decide) rfl rfl rfl⟩))

end Go.Proofs.Ytdbgkakmhlmpbaa
